import PyProof.Rows.All
import Wide.All
import OpenK.AllK
import Wide.FinOn
import HandS.ForMost
import HandS.Conv
import HandS.More
import HandS.TupSets
import HandS.DictComp
import HandS.SortInts
import HandS.IsInst
import HandS.Defaults
import HandS.Star
import KE.KSortedM
import HandS.Strs
import KE.KDictDisplayH
import KE.GoesMore
import KE.KMinKey
import HandS.Lambda
import HandS.ClsMeth
import KE.KStateDown
import Lean
import HandS.Exc
import HandS.Ends
import HandS.Head0
import HandS.Head1
import HandS.Head2
import HandS.HeadEnd
import HandS.HeadHook1
import HandS.HeadHook2
import HandS.HeadHook4
import HandS.EndTab
import HandS.HeadWalk
import PySem.Challenge.RW_chosenmoves_k16_whole_series_of_built_gr
set_option Elab.async false
set_option linter.all false
set_option maxRecDepth 100000
set_option maxHeartbeats 1000000
/-! The data layer: what a program of pure functions over nested data does, said without the heap. A value stands for a tree of data; a frame's slots hold trees; lists and dicts that a def changes in place are its own. -/
namespace CM
open PySem PySem.Spec PyProof.Rows L2
/-! ### trees -/
inductive Dt where
  | non | bl (b : Bool) | int (i : Int) | str (x : Str)
  | lst (ts : List Dt) | tup (ts : List Dt) | xtp (ts : List Dt) | grp (r s i : Dt) | scr (ns : List Int)
def Ex (H H' : Hp) : Prop := ∀ a o, H a = some o → H' a = some o
theorem Ex.refl (H : Hp) : Ex H H := fun _ _ h => h
theorem Ex.trans {H H1 H2 : Hp} (a : Ex H H1) (b : Ex H1 H2) : Ex H H2 := fun x o h => b x o (a x o h)
theorem Ex.new {H : Hp} {p : Addr} {o : HO} (h : H p = none) : Ex H (upd H p o) := fun a u e => by
  rw [upd_ne (ne_of_none e h)]
  exact e
theorem Ex.mut {H H' : Hp} {p : Addr} {o : HO} (e : Ex H H') (h : H p = none) : Ex H (upd H' p o) := fun a u ha => by
  rw [upd_ne (ne_of_none ha h)]
  exact e a u ha
theorem Ex.back {H H' : Hp} {p : Addr} (e : Ex H H') (h : H' p = none) : H p = none := by
  cases h1 : H p with
  | none => rfl
  | some o =>
    rw [e p o h1] at h
    cases h
theorem Ex.frz {H H' : Hp} (e : Ex H H') {K : PySem.W.Frag} {a : Addr} {xs : List V} (h : SqL K H a xs) : SqL K H' a xs := by
  rcases h with (h | ⟨o, h⟩) | h
  · exact .inl (.inl (e _ _ h))
  · exact .inl (.inr ⟨o, e _ _ h⟩)
  · exact .inr h
/-- a tuple stands at a; made so that its own object is known, or not -/
inductive TupAt (H : Hp) (a : Addr) (xs : List V) : Prop
  | t : H a = some (.tup xs) → TupAt H a xs
  | x {o : Obj} : o.dict = none → H a = some (.frz o (.tup xs)) → TupAt H a xs
theorem TupAt.mono {H H' : Hp} {a : Addr} {xs : List V} (h : TupAt H a xs) (e : ∀ o, H a = some o → H' a = some o) : TupAt H' a xs := by
  cases h with
  | t h => exact .t (e _ h)
  | x d h => exact .x d (e _ h)
theorem TupAt.sq {K : PySem.W.Frag} {H : Hp} {a : Addr} {xs : List V} (h : TupAt H a xs) : SqT K H a xs := by
  cases h with
  | t h => exact .of h
  | x d h => exact .inl (.inr ⟨_, h⟩)
mutual
/-- the value v stands for the tree d; every object of it lies where P allows -/
inductive Rs (K : PySem.W.Frag) (C : Addr) (H : Hp) (P : Addr → Prop) : V → Dt → Prop
  | non : Rs K C H P .non .non
  | bl (b : Bool) : Rs K C H P (.bl b) (.bl b)
  | int (i : Int) : Rs K C H P (.int i) (.int i)
  | str (x : Str) : Rs K C H P (.str x) (.str x)
  | lst {a : Addr} {xs : List V} {ts : List Dt} : P a → H a = some (.lst xs) → RsL K C H P xs ts → Rs K C H P (.ref a) (.lst ts)
  | tup {a : Addr} {xs : List V} {ts : List Dt} : P a → H a = some (.tup xs) → RsL K C H P xs ts → Rs K C H P (.ref a) (.tup ts)
  | xtp {a : Addr} {xs : List V} {ts : List Dt} {o : Obj} : P a → o.dict = none → H a = some (.frz o (.tup xs)) → RsL K C H P xs ts → Rs K C H P (.ref a) (.xtp ts)
  | grp {a dx : Addr} {v1 v2 v3 : V} {r s i : Dt} : P a → H a = some (.ins C dx [("rows", v1), ("size", v2), ("inverses", v3)]) → Rs K C H P v1 r → Rs K C H P v2 s → Rs K C H P v3 i → Rs K C H P (.ref a) (.grp r s i)
  | scr {a : Addr} {ns : List Int} {u : Obj} : P a → H a = some (.frz u (.lst (ns.map V.int))) → Rs K C H P (.ref a) (.scr ns)
  | scrL {a : Addr} {ns : List Int} : P a → H a = some (.lst (ns.map V.int)) → Rs K C H P (.ref a) (.scr ns)
  | scrK {a : Addr} {ns : List Int} : (∀ H', SqL K H' a (ns.map V.int)) → Rs K C H P (.ref a) (.scr ns)
inductive RsL (K : PySem.W.Frag) (C : Addr) (H : Hp) (P : Addr → Prop) : List V → List Dt → Prop
  | nil : RsL K C H P [] []
  | cons {v : V} {vs : List V} {d : Dt} {ds : List Dt} : Rs K C H P v d → RsL K C H P vs ds → RsL K C H P (v :: vs) (d :: ds)
end
section
variable {K : PySem.W.Frag} {C : Addr} {H H' : Hp} {P P' : Addr → Prop}
mutual
theorem Rs.mono (h : ∀ a o, P a → H a = some o → P' a ∧ H' a = some o) : ∀ {v : V} {d : Dt}, Rs K C H P v d → Rs K C H' P' v d
  | _, _, .non => .non
  | _, _, .bl b => .bl b
  | _, _, .int i => .int i
  | _, _, .str x => .str x
  | _, _, .lst p e r => .lst (h _ _ p e).1 (h _ _ p e).2 (RsL.mono h r)
  | _, _, .tup p e r => .tup (h _ _ p e).1 (h _ _ p e).2 (RsL.mono h r)
  | _, _, .xtp p d e r => .xtp (h _ _ p e).1 d (h _ _ p e).2 (RsL.mono h r)
  | _, _, .grp p e r1 r2 r3 => .grp (h _ _ p e).1 (h _ _ p e).2 (Rs.mono h r1) (Rs.mono h r2) (Rs.mono h r3)
  | _, _, .scr p e => .scr (h _ _ p e).1 (h _ _ p e).2
  | _, _, .scrL p e => .scrL (h _ _ p e).1 (h _ _ p e).2
  | _, _, .scrK e => .scrK e
theorem RsL.mono (h : ∀ a o, P a → H a = some o → P' a ∧ H' a = some o) : ∀ {vs : List V} {ds : List Dt}, RsL K C H P vs ds → RsL K C H' P' vs ds
  | _, _, .nil => .nil
  | _, _, .cons r t => .cons (Rs.mono h r) (RsL.mono h t)
end
theorem Rs.ex (e : Ex H H') {v : V} {d : Dt} (h : Rs K C H P v d) : Rs K C H' P v d := h.mono fun a o p q => ⟨p, e a o q⟩
theorem RsL.ex (e : Ex H H') {v : List V} {d : List Dt} (h : RsL K C H P v d) : RsL K C H' P v d := h.mono fun a o p q => ⟨p, e a o q⟩
theorem Rs.wid (e : ∀ a, P a → P' a) {v : V} {d : Dt} (h : Rs K C H P v d) : Rs K C H P' v d := h.mono fun a o p q => ⟨e a p, q⟩
theorem RsL.wid (e : ∀ a, P a → P' a) {v : List V} {d : List Dt} (h : RsL K C H P v d) : RsL K C H P' v d := h.mono fun a o p q => ⟨e a p, q⟩
theorem RsL.length : ∀ {vs : List V} {ds : List Dt}, RsL K C H P vs ds → vs.length = ds.length
  | _, _, .nil => rfl
  | _, _, .cons _ t => congrArg Nat.succ (RsL.length t)
theorem RsL.get : ∀ {vs : List V} {ds : List Dt} {i : Nat} {d : Dt}, RsL K C H P vs ds → ds[i]? = some d → ∃ v, vs[i]? = some v ∧ Rs K C H P v d
  | _, _, _, _, .nil, e => by simp at e
  | _, _, 0, _, .cons r _, e => by
    have e' := Option.some.inj e
    subst e'
    exact ⟨_, rfl, r⟩
  | _, _, i + 1, _, .cons _ t, e => by
    obtain ⟨v, h1, h2⟩ := RsL.get (i := i) t (by simpa using e)
    exact ⟨v, by simpa using h1, h2⟩
theorem RsL.getV : ∀ {vs : List V} {ds : List Dt} {i : Nat} {v : V}, RsL K C H P vs ds → vs[i]? = some v → ∃ d, ds[i]? = some d ∧ Rs K C H P v d
  | _, _, _, _, .nil, e => by simp at e
  | _, _, 0, _, .cons r _, e => by
    have e' := Option.some.inj e
    subst e'
    exact ⟨_, rfl, r⟩
  | _, _, i + 1, _, .cons _ t, e => by
    obtain ⟨v, h1, h2⟩ := RsL.getV (i := i) t (by simpa using e)
    exact ⟨v, by simpa using h1, h2⟩
theorem RsL.append : ∀ {vs ws : List V} {ds es : List Dt}, RsL K C H P vs ds → RsL K C H P ws es → RsL K C H P (vs ++ ws) (ds ++ es)
  | _, _, _, _, .nil, s => s
  | _, _, _, _, .cons r t, s => .cons r (RsL.append t s)
theorem RsL.set {v : V} {d : Dt} (r : Rs K C H P v d) : ∀ {vs : List V} {ds : List Dt} (i : Nat), RsL K C H P vs ds → RsL K C H P (vs.set i v) (ds.set i d)
  | _, _, _, .nil => .nil
  | _, _, 0, .cons _ t => .cons r t
  | _, _, i + 1, .cons q t => .cons q (RsL.set r i t)
theorem RsL.take : ∀ {vs : List V} {ds : List Dt} (n : Nat), RsL K C H P vs ds → RsL K C H P (vs.take n) (ds.take n)
  | _, _, 0, _ => .nil
  | _, _, _ + 1, .nil => .nil
  | _, _, n + 1, .cons r t => .cons r (RsL.take n t)
theorem RsL.drop : ∀ {vs : List V} {ds : List Dt} (n : Nat), RsL K C H P vs ds → RsL K C H P (vs.drop n) (ds.drop n)
  | _, _, 0, r => r
  | _, _, _ + 1, .nil => .nil
  | _, _, n + 1, .cons _ t => RsL.drop n t
theorem RsL.ints : ∀ (ns : List Int), RsL K C H P (ns.map V.int) (ns.map Dt.int)
  | [] => .nil
  | n :: r => .cons (.int n) (RsL.ints r)
theorem RsL.bls : ∀ (ns : List Bool), RsL K C H P (ns.map V.bl) (ns.map Dt.bl)
  | [] => .nil
  | n :: r => .cons (.bl n) (RsL.bls r)
theorem RsL.of_ints : ∀ {ns : List Int} {vs : List V}, RsL K C H P vs (ns.map Dt.int) → vs = ns.map V.int
  | [], _, .nil => rfl
  | n :: r, _, .cons (.int _) t => by rw [RsL.of_ints (ns := r) t] <;> rfl
theorem RsL.of_bls : ∀ {ns : List Bool} {vs : List V}, RsL K C H P vs (ns.map Dt.bl) → vs = ns.map V.bl
  | [], _, .nil => rfl
  | n :: r, _, .cons (.bl _) t => by rw [RsL.of_bls (ns := r) t] <;> rfl
theorem RsL.rep {v : V} {d : Dt} (r : Rs K C H P v d) : ∀ n : Nat, RsL K C H P (List.replicate n v) (List.replicate n d)
  | 0 => .nil
  | n + 1 => .cons r (RsL.rep r n)
/-- as Rs, but the top object may lie anywhere (a list of the frame's own) -/
inductive Rt (K : PySem.W.Frag) (C : Addr) (H : Hp) (P : Addr → Prop) : V → Dt → Prop
  | of {v : V} {d : Dt} : Rs K C H P v d → Rt K C H P v d
  | lst {a : Addr} {xs : List V} {ts : List Dt} : H a = some (.lst xs) → RsL K C H P xs ts → Rt K C H P (.ref a) (.lst ts)
  | tup {a : Addr} {xs : List V} {ts : List Dt} : H a = some (.tup xs) → RsL K C H P xs ts → Rt K C H P (.ref a) (.tup ts)
theorem Rt.ex (e : Ex H H') {v : V} {d : Dt} (h : Rt K C H P v d) : Rt K C H' P v d := by
  cases h with
  | of h => exact .of (h.ex e)
  | lst a b => exact .lst (e _ _ a) (b.ex e)
  | tup a b => exact .tup (e _ _ a) (b.ex e)
theorem Rt.wid (e : ∀ a, P a → P' a) {v : V} {d : Dt} (h : Rt K C H P v d) : Rt K C H P' v d := by
  cases h with
  | of h => exact .of (h.wid e)
  | lst a b => exact .lst a (b.wid e)
  | tup a b => exact .tup a (b.wid e)
theorem Rt.listOf {v : V} {ts : List Dt} (h : Rt K C H P v (.lst ts)) : ∃ a xs, v = .ref a ∧ H a = some (.lst xs) ∧ RsL K C H P xs ts := by
  cases h with
  | of h =>
    cases h with
    | lst p e r => exact ⟨_, _, rfl, e, r⟩
  | lst e r => exact ⟨_, _, rfl, e, r⟩
theorem Rt.tupOf {v : V} {ts : List Dt} (h : Rt K C H P v (.tup ts)) : ∃ a xs, v = .ref a ∧ H a = some (.tup xs) ∧ RsL K C H P xs ts := by
  cases h with
  | of h =>
    cases h with
    | tup p e r => exact ⟨_, _, rfl, e, r⟩
  | tup e r => exact ⟨_, _, rfl, e, r⟩
theorem Rt.intOf {v : V} {i : Int} (h : Rt K C H P v (.int i)) : v = .int i := by
  cases h with
  | of h =>
    cases h
    rfl
theorem Rt.blOf {v : V} {i : Bool} (h : Rt K C H P v (.bl i)) : v = .bl i := by
  cases h with
  | of h =>
    cases h
    rfl
end
/-! ### a sequence: a list or a tuple of such items -/
def Dt.sq : Dt → Option (List Dt)
  | .lst ts => some ts
  | .tup ts => some ts
  | .xtp ts => some ts
  | _ => none
theorem Rt.seq {K : PySem.W.Frag} {C : Addr} {H : Hp} {P : Addr → Prop} {v : V} {d : Dt} {ts : List Dt} (h : Rt K C H P v d) (e : d.sq = some ts) : ∃ a xs, v = .ref a ∧ (H a = some (.lst xs) ∨ TupAt H a xs) ∧ RsL K C H P xs ts := by
  cases d with
  | lst us =>
    cases e
    obtain ⟨a, xs, h1, h2, h3⟩ := h.listOf
    exact ⟨a, xs, h1, .inl h2, h3⟩
  | tup us =>
    cases e
    obtain ⟨a, xs, h1, h2, h3⟩ := h.tupOf
    exact ⟨a, xs, h1, .inr (.t h2), h3⟩
  | xtp us =>
    cases e
    cases h with
    | of h =>
      cases h with
      | xtp p d q r => exact ⟨_, _, rfl, .inr (.x d q), r⟩
  | _ => cases e
theorem Rs.seq {K : PySem.W.Frag} {C : Addr} {H : Hp} {P : Addr → Prop} {v : V} {d : Dt} {ts : List Dt} (h : Rs K C H P v d) (e : d.sq = some ts) : ∃ a xs, v = .ref a ∧ P a ∧ (H a = some (.lst xs) ∨ TupAt H a xs) ∧ RsL K C H P xs ts := by
  cases h with
  | lst p q r =>
    cases e
    exact ⟨_, _, rfl, p, .inl q, r⟩
  | tup p q r =>
    cases e
    exact ⟨_, _, rfl, p, .inr (.t q), r⟩
  | xtp p d q r =>
    cases e
    exact ⟨_, _, rfl, p, .inr (.x d q), r⟩
  | _ => cases e
/-! ### the frame -/
inductive Sl where
  | un
  | sh (d : Dt)
  | raw (d : Dt)
  | own (ts : List Dt)
  | oI (kvs : List (Int × Dt))
  | oT (kvs : List (List Int × Dt))
  | oG (a : Addr) (fs : List (Str × Dt))
abbrev En := List Sl
def Sl.isOwn : Sl → Bool
  | .own _ => true
  | .oI _ => true
  | .oT _ => true
  | .oG _ _ => true
  | _ => false
/-- a scalar's value -/
def vOf : Dt → V
  | .bl b => .bl b
  | .int i => .int i
  | _ => .non
def scalT : Dt → Bool
  | .bl _ => true
  | .int _ => true
  | .non => true
  | _ => false
theorem rs_vOf {K : PySem.W.Frag} {C : Addr} {H : Hp} {P : Addr → Prop} {d : Dt} (h : scalT d = true) : Rs K C H P (vOf d) d := by
  cases d with
  | non => exact .non
  | bl b => exact .bl b
  | int i => exact .int i
  | _ => cases h
theorem vOf_rs {K : PySem.W.Frag} {C : Addr} {H : Hp} {P : Addr → Prop} {d : Dt} {v : V} (h : scalT d = true) (r : Rs K C H P v d) : v = vOf d := by
  cases r with
  | non => rfl
  | bl b => rfl
  | int i => rfl
  | _ => cases h
def kI (kvs : List (Int × Dt)) : List (Key × V) := kvs.map fun p => (Sum.inl p.1, vOf p.2)
def kT (kvs : List (List Int × Dt)) : List (List Key × V) := kvs.map fun p => (p.1.map Sum.inl, vOf p.2)
structure Fra where
  HE : Hp
  H0 : Hp
  P0 : Addr → Prop
  P : Addr → Prop
  ow : Nat → Addr
/-- an object of the frame's own -/
def OwnAt (φ : Fra) (i : Nat) (o : Option (Option V)) : Prop := o = some (some (.ref (φ.ow i))) ∧ ¬ φ.P (φ.ow i) ∧ φ.P0 (φ.ow i) ∧ φ.H0 (φ.ow i) = none
def SlOk (K : PySem.W.Frag) (C : Addr) (φ : Fra) (H : Hp) (i : Nat) (o : Option (Option V)) : Sl → Prop
  | .un => True
  | .sh d => ∃ v, o = some (some v) ∧ Rs K C H φ.P v d
  | .raw d => ∃ v a xs ts, o = some (some v) ∧ v = .ref a ∧ d.sq = some ts ∧ (H a = some (.lst xs) ∨ TupAt H a xs) ∧ (∃ ns : List Int, ts = ns.map Dt.int ∧ xs = ns.map V.int) ∧ Rt K C H φ.P v d ∧ φ.HE a ≠ none
  | .own ts => OwnAt φ i o ∧ ∃ xs, H (φ.ow i) = some (.lst xs) ∧ RsL K C H φ.P xs ts
  | .oI kvs => OwnAt φ i o ∧ H (φ.ow i) = some (.dK (kI kvs)) ∧ ∀ p ∈ kvs, scalT p.2 = true
  | .oT kvs => OwnAt φ i o ∧ H (φ.ow i) = some (.dT (kT kvs)) ∧ ∀ p ∈ kvs, scalT p.2 = true
  | .oG a fs => OwnAt φ i o ∧ ∃ dx fvs, φ.ow i = a ∧ H (φ.ow i) = some (.ins C dx fvs) ∧ fvs.map (·.1) = fs.map (·.1) ∧ RsL K C H φ.P (fvs.map (·.2)) (fs.map (·.2))
structure Fok (K : PySem.W.Frag) (C : Addr) (φ : Fra) (σ : L2.St) (H : Hp) (env : En) : Prop where
  len : σ.length = env.length
  slot : ∀ i s, env[i]? = some s → SlOk K C φ H i σ[i]? s
  inj : ∀ i j s t, env[i]? = some s → env[j]? = some t → s.isOwn = true → t.isOwn = true → φ.ow i = φ.ow j → i = j
  fresh : ∀ b, H b = none → φ.P b
  he : Ex φ.HE φ.H0
  heH : Ex φ.HE H
section
variable {K : PySem.W.Frag} {C : Addr} {φ : Fra} {σ : L2.St} {H H' : Hp} {env : En}
theorem SlOk.ex {i : Nat} {o : Option (Option V)} {s : Sl} (e : Ex H H') (h : SlOk K C φ H i o s) : SlOk K C φ H' i o s := by
  cases s with
  | un => trivial
  | sh d =>
    obtain ⟨v, h1, h2⟩ := h
    exact ⟨v, h1, h2.ex e⟩
  | raw d =>
    obtain ⟨v, a, xs, ts, h1, h2, h3, h4, h5, h6, h7⟩ := h
    exact ⟨v, a, xs, ts, h1, h2, h3, h4.imp (e _ _) (fun k => k.mono (e _)), h5, h6.ex e, h7⟩
  | own ts =>
    obtain ⟨h1, xs, h2, h3⟩ := h
    exact ⟨h1, xs, e _ _ h2, h3.ex e⟩
  | oI kvs =>
    obtain ⟨h1, h2, h3⟩ := h
    exact ⟨h1, e _ _ h2, h3⟩
  | oT kvs =>
    obtain ⟨h1, h2, h3⟩ := h
    exact ⟨h1, e _ _ h2, h3⟩
  | oG a fs =>
    obtain ⟨h1, dx, fvs, h2, h3, h4, h5⟩ := h
    exact ⟨h1, dx, fvs, h2, e _ _ h3, h4, h5.ex e⟩
theorem Fok.ex (F : Fok K C φ σ H env) (e : Ex H H') : Fok K C φ σ H' env := ⟨F.len, fun i s h => (F.slot i s h).ex e, F.inj, fun b h => F.fresh b (e.back h), F.he, F.heH.trans e⟩
theorem Fok.sh (F : Fok K C φ σ H env) {i : Nat} {d : Dt} (h : env[i]? = some (.sh d)) : ∃ v, σ[i]? = some (some v) ∧ Rs K C H φ.P v d := F.slot i _ h
/-- a slot takes a tree, or nothing -/
theorem Fok.put (F : Fok K C φ σ H env) {i : Nat} {o : Option V} {s : Sl} (hs : s.isOwn = false) (h : i < env.length → SlOk K C φ H i (some o) s) : Fok K C φ (σ.set i o) H (env.set i s) := by
  have he : ∀ (j : Nat) (t : Sl), (env.set i s)[j]? = some t → t.isOwn = true → ∃ t' : Sl, env[j]? = some t' ∧ t'.isOwn = true := fun j t e q => by
    by_cases hj : i = j
    · subst hj
      by_cases hi : i < env.length
      · rw [List.getElem?_set_self hi] at e
        cases e
        rw [hs] at q
        cases q
      · rw [List.getElem?_eq_none (by simpa using hi)] at e
        cases e
    · rw [List.getElem?_set_ne hj] at e
      exact ⟨t, e, q⟩
  refine ⟨by rw [List.length_set, List.length_set]; exact F.len, fun j t e => ?_, fun j k s1 t1 e1 e2 q1 q2 q => ?_, F.fresh, F.he, F.heH⟩
  · by_cases hj : i = j
    · subst hj
      by_cases hi : i < env.length
      · rw [List.getElem?_set_self hi] at e
        cases e
        rw [List.getElem?_set_self (by rw [F.len]; exact hi)]
        exact h hi
      · rw [List.getElem?_eq_none (by simpa using hi)] at e
        cases e
    · rw [List.getElem?_set_ne hj] at e
      rw [List.getElem?_set_ne hj]
      exact F.slot j t e
  · obtain ⟨s', e1', q1'⟩ := he j s1 e1 q1
    obtain ⟨t', e2', q2'⟩ := he k t1 e2 q2
    exact F.inj j k s' t' e1' e2' q1' q2' q
theorem Fok.putSh (F : Fok K C φ σ H env) (i : Nat) {v : V} {d : Dt} (h : Rs K C H φ.P v d) : Fok K C φ (σ.set i (some v)) H (env.set i (.sh d)) := F.put rfl fun _ => ⟨v, rfl, h⟩
def wipeE (env : En) : List Nat → En
  | [] => env
  | v :: vs => (wipeE env vs).set v .un
theorem Fok.wipe (F : Fok K C φ σ H env) : ∀ vs : List Nat, Fok K C φ (wipe σ vs) H (wipeE env vs)
  | [] => F
  | v :: vs => (Fok.wipe F vs).put (s := .un) rfl fun _ => trivial
theorem wipe_get {σ : L2.St} : ∀ {vs : List Nat} {i : Nat}, i < σ.length → i ∈ vs → (wipe σ vs)[i]? = some none
  | [], i, _, h => by cases h
  | v :: vs, i, hl, h => by
    unfold wipe
    by_cases e : v = i
    · subst e
      rw [List.getElem?_set_self (by rw [wipe_length]; exact hl)]
    · rw [List.getElem?_set_ne e]
      rcases List.mem_cons.mp h with z | z
      · exact absurd z.symm e
      · exact wipe_get hl z
theorem wipe_get2 {σ : L2.St} : ∀ {vs : List Nat} {i : Nat}, i ∉ vs → (wipe σ vs)[i]? = σ[i]?
  | [], i, h => rfl
  | v :: vs, i, h => by
    unfold wipe
    have e : v ≠ i := fun z => h (by rw [z]; exact List.mem_cons_self)
    rw [List.getElem?_set_ne e]
    exact wipe_get2 fun z => h (List.mem_cons_of_mem _ z)
theorem wipe_set {σ : L2.St} {vs : List Nat} {j : Nat} (hj : j ∈ vs) (o : Option V) : wipe ((wipe σ vs).set j o) vs = wipe σ vs := by
  apply List.ext_getElem?
  intro i
  by_cases hi : i ∈ vs
  · by_cases hl : i < σ.length
    · rw [wipe_get (by rw [List.length_set, wipe_length]; exact hl) hi, wipe_get hl hi]
    · rw [List.getElem?_eq_none (by rw [wipe_length, List.length_set, wipe_length]; omega), List.getElem?_eq_none (by rw [wipe_length]; omega)]
  · rw [wipe_get2 hi, List.getElem?_set_ne (fun e => hi (by rw [← e]; exact hj))]
theorem wipe_set2 {σ : L2.St} {vs : List Nat} {j k : Nat} (hj : j ∈ vs) (hk : k ∈ vs) (o u : Option V) : wipe (((wipe σ vs).set j o).set k u) vs = wipe σ vs := by
  apply List.ext_getElem?
  intro i
  by_cases hi : i ∈ vs
  · by_cases hl : i < σ.length
    · rw [wipe_get (by rw [List.length_set, List.length_set, wipe_length]; exact hl) hi, wipe_get hl hi]
    · rw [List.getElem?_eq_none (by rw [wipe_length, List.length_set, List.length_set, wipe_length]; omega), List.getElem?_eq_none (by rw [wipe_length]; omega)]
  · rw [wipe_get2 hi, List.getElem?_set_ne (fun e => hi (by rw [← e]; exact hk)), List.getElem?_set_ne (fun e => hi (by rw [← e]; exact hj))]
/-- beside a new object that is not allowed -/
def Fra.but (φ : Fra) (D : Addr) : Fra := { φ with P := fun b => φ.P b ∧ b ≠ D }
theorem Rs.but {P : Addr → Prop} {D : Addr} (hD : H D = none) {v : V} {d : Dt} (h : Rs K C H P v d) : Rs K C H (fun b => P b ∧ b ≠ D) v d := h.mono fun a o p q => ⟨⟨p, ne_of_none q hD⟩, q⟩
theorem RsL.but {P : Addr → Prop} {D : Addr} (hD : H D = none) {v : List V} {d : List Dt} (h : RsL K C H P v d) : RsL K C H (fun b => P b ∧ b ≠ D) v d := h.mono fun a o p q => ⟨⟨p, ne_of_none q hD⟩, q⟩
theorem ne_none_some {b D : Addr} {o : HO} (hb : H b = none) (hD : H D = some o) : b ≠ D := fun z => by
  rw [z, hD] at hb
  cases hb
theorem Fok.but (F : Fok K C φ σ H env) {D : Addr} {o : HO} (hD : H D = none) (e : Ex H H') (hD' : H' D = some o) : Fok K C (φ.but D) σ H' env := by
  refine ⟨F.len, fun i s h => ?_, F.inj, fun b hb => ⟨F.fresh b (e.back hb), ne_none_some hb hD'⟩, F.he, F.heH.trans e⟩
  have z := F.slot i s h
  cases s with
  | un => trivial
  | sh d =>
    obtain ⟨v, h1, h2⟩ := z
    exact ⟨v, h1, (h2.but hD).ex e⟩
  | raw d =>
    obtain ⟨v, a, xs, ts, h1, h2, h3, h4, ⟨ns, h5, h5'⟩, h6, h7⟩ := z
    refine ⟨v, a, xs, ts, h1, h2, h3, h4.imp (e _ _) (fun k => k.mono (e _)), ⟨ns, h5, h5'⟩, ?_, h7⟩
    subst h2
    cases d with
    | lst us =>
      cases h3
      obtain ⟨a', xs', e1, e2, e3⟩ := h6.listOf
      exact .lst (by cases e1; exact e _ _ e2) ((e3.but hD).ex e)
    | tup us =>
      cases h3
      obtain ⟨a', xs', e1, e2, e3⟩ := h6.tupOf
      exact .tup (by cases e1; exact e _ _ e2) ((e3.but hD).ex e)
    | xtp us =>
      cases h6 with
      | of h6 => exact .of ((h6.but hD).ex e)
    | _ => cases h3
  | own ts =>
    obtain ⟨⟨h1, h2, h3, h4⟩, xs, h5, h6⟩ := z
    exact ⟨⟨h1, fun q => h2 q.1, h3, h4⟩, xs, e _ _ h5, (h6.but hD).ex e⟩
  | oI kvs =>
    obtain ⟨⟨h1, h2, h3, h4⟩, h5, h6⟩ := z
    exact ⟨⟨h1, fun q => h2 q.1, h3, h4⟩, e _ _ h5, h6⟩
  | oT kvs =>
    obtain ⟨⟨h1, h2, h3, h4⟩, h5, h6⟩ := z
    exact ⟨⟨h1, fun q => h2 q.1, h3, h4⟩, e _ _ h5, h6⟩
  | oG a fs =>
    obtain ⟨⟨h1, h2, h3, h4⟩, dx, fvs, h5, h6, h7, h8⟩ := z
    exact ⟨⟨h1, fun q => h2 q.1, h3, h4⟩, dx, fvs, h5, e _ _ h6, h7, (h8.but hD).ex e⟩
end
end CM
set_option Elab.async false
set_option linter.all false
set_option maxRecDepth 100000
set_option maxHeartbeats 1000000
/-! The data layer: expressions. -/
namespace CM
open PySem PySem.Spec PyProof.Rows L2
/-! ### what a reading evaluates to -/
def EvS (K : PySem.W.Frag) (C : Addr) (t : TE) (env : En) (d : Dt) : Prop := ∀ (φ : Fra) (σ : L2.St) (H : Hp) (Q : VK), Fok K C φ σ H env → (∀ v H', Ex H H' → Rs K C H' φ.P v d → Q v H') → t σ H Q
def EvR (K : PySem.W.Frag) (C : Addr) (t : TE) (env : En) (d : Dt) : Prop := ∀ (φ : Fra) (σ : L2.St) (H : Hp) (Q : VK), Fok K C φ σ H env → (∀ v H', Ex H H' → Rt K C H' φ.P v d → Q v H') → t σ H Q
/-- a new list -/
def EvF (K : PySem.W.Frag) (C : Addr) (t : TE) (env : En) (ts : List Dt) : Prop := ∀ (φ : Fra) (σ : L2.St) (H : Hp) (Q : VK), Fok K C φ σ H env → (∀ a xs H', Ex H H' → H a = none → H' a = some (.lst xs) → RsL K C H' (fun b => φ.P b ∧ b ≠ a) xs ts → Q (.ref a) H') → t σ H Q
/-- a new object of the kind o -/
def EvO (K : PySem.W.Frag) (C : Addr) (t : TE) (env : En) (o : HO) : Prop := ∀ (φ : Fra) (σ : L2.St) (H : Hp) (Q : VK), Fok K C φ σ H env → (∀ a H', Ex H H' → H a = none → H' a = some o → Q (.ref a) H') → t σ H Q
def EvB (K : PySem.W.Frag) (C : Addr) (t : TT) (env : En) (b : Bool) : Prop := ∀ (φ : Fra) (σ : L2.St) (H : Hp) (Q : Bool → Hp → Prop), Fok K C φ σ H env → (∀ H', Ex H H' → Q b H') → t σ H Q
structure DE (X : Cx) (C : Addr) (e : Expr) (f : En → Dt → Prop) : Prop where
  ex : ∃ t, PE X e t ∧ ∀ env d, f env d → EvS X.K C t env d
structure DR (X : Cx) (C : Addr) (e : Expr) (f : En → Dt → Prop) : Prop where
  ex : ∃ t, PE X e t ∧ ∀ env d, f env d → EvR X.K C t env d
structure DF (X : Cx) (C : Addr) (e : Expr) (f : En → List Dt → Prop) : Prop where
  ex : ∃ t, PE X e t ∧ ∀ env d, f env d → EvF X.K C t env d
structure DB (X : Cx) (C : Addr) (e : Expr) (f : En → Bool → Prop) : Prop where
  ex : ∃ t, PT X e t ∧ ∀ env d, f env d → EvB X.K C t env d
inductive ArgsOk (K : PySem.W.Frag) (C : Addr) (H : Hp) (P : Addr → Prop) : List Bool → List V → List Dt → Prop
  | nil : ArgsOk K C H P [] [] []
  | sh {v : V} {d : Dt} {fl : List Bool} {vs : List V} {ds : List Dt} : Rs K C H P v d → ArgsOk K C H P fl vs ds → ArgsOk K C H P (false :: fl) (v :: vs) (d :: ds)
  | raw {v : V} {d : Dt} {fl : List Bool} {vs : List V} {ds : List Dt} : Rt K C H P v d → ArgsOk K C H P fl vs ds → ArgsOk K C H P (true :: fl) (v :: vs) (d :: ds)
theorem ArgsOk.ex {K : PySem.W.Frag} {C : Addr} {H H' : Hp} {P : Addr → Prop} (e : Ex H H') : ∀ {fl : List Bool} {vs : List V} {ds : List Dt}, ArgsOk K C H P fl vs ds → ArgsOk K C H' P fl vs ds
  | _, _, _, .nil => .nil
  | _, _, _, .sh r t => .sh (r.ex e) (ArgsOk.ex e t)
  | _, _, _, .raw r t => .raw (r.ex e) (ArgsOk.ex e t)
def EvA (K : PySem.W.Frag) (C : Addr) (t : TA) (env : En) (fl : List Bool) (ds : List Dt) : Prop := ∀ (φ : Fra) (σ : L2.St) (H : Hp) (Q : List V → Hp → Prop), Fok K C φ σ H env → (∀ vs H', Ex H H' → ArgsOk K C H' φ.P fl vs ds → Q vs H') → t σ H Q
structure DA (X : Cx) (C : Addr) (es : List Expr) (fl : List Bool) (f : En → List Dt → Prop) : Prop where
  ex : ∃ t, PA X es t ∧ ∀ env d, f env d → EvA X.K C t env fl d
section
variable {X : Cx} {C : Addr} {a b e : Expr} {es : List Expr} {pos : Pos} {f g : En → Dt → Prop}
theorem DE.imp (h : DE X C e f) (i : ∀ env d, g env d → f env d) : DE X C e g := by
  obtain ⟨t, p, k⟩ := h
  exact ⟨t, p, fun env d q => k env d (i env d q)⟩
theorem DE.r (h : DE X C e f) : DR X C e f := by
  obtain ⟨t, p, k⟩ := h
  exact ⟨t, p, fun env d q φ σ H Q F z => k env d q φ σ H Q F fun v H' e r => z v H' e (.of r)⟩
/-- a new list is a tree -/
abbrev fLst (f : En → List Dt → Prop) : En → Dt → Prop := fun env d => ∃ ts, f env ts ∧ d = .lst ts
theorem DF.tree {f : En → List Dt → Prop} (h : DF X C e f) : DE X C e (fLst f) := by
  obtain ⟨t, p, k⟩ := h
  refine ⟨t, p, fun env d q φ σ H Q F z => ?_⟩
  obtain ⟨ts, q, rfl⟩ := q
  exact k env ts q φ σ H Q F fun v xs H' e hv hx r => z (.ref v) H' e (.lst (F.fresh v hv) hx (r.wid fun _ h => h.1))
/-! ### names, constants -/
abbrev fVar (i : Nat) : En → Dt → Prop := fun env d => env[i]? = some (.sh d)
theorem dv (i : Nat) {x : Str} (hN : X.N[i]? = some x := by rfl) (hv : Vis X.env.scope x := by first | exact Or.inl rfl | exact Or.inr (Or.inl rfl) | exact Or.inr (Or.inr rfl)) (hd : (x == ("__debug__" : Str)) = false := by decide)
    (hcd : (x == ("__classdict__" : Str)) = false := by decide) : DE X C (.Name x pos) (fVar i) := by
  refine ⟨_, pe_var hN hv hd hcd, fun env d q φ σ H Q F z => ?_⟩
  obtain ⟨v, h1, h2⟩ := F.sh q
  exact ⟨v, h1, z v H (Ex.refl H) h2⟩
/-- a name whose list is the frame's own, or was lent -/
abbrev fOwn (i : Nat) : En → Dt → Prop := fun env d => (∃ ts, env[i]? = some (.own ts) ∧ d = .lst ts) ∨ env[i]? = some (.raw d)
theorem dvo (i : Nat) {x : Str} (hN : X.N[i]? = some x := by rfl) (hv : Vis X.env.scope x := by first | exact Or.inl rfl | exact Or.inr (Or.inl rfl) | exact Or.inr (Or.inr rfl)) (hd : (x == ("__debug__" : Str)) = false := by decide)
    (hcd : (x == ("__classdict__" : Str)) = false := by decide) : DR X C (.Name x pos) (fOwn i) := by
  refine ⟨_, pe_var hN hv hd hcd, fun env d q φ σ H Q F z => ?_⟩
  rcases q with ⟨ts, q, rfl⟩ | q
  · obtain ⟨⟨h1, _⟩, xs, h2, h3⟩ := F.slot i _ q
    exact ⟨_, h1, z _ H (Ex.refl H) (.lst h2 h3)⟩
  · obtain ⟨v, p, xs, ts, h1, h2, h3, h4, h5, h6, h7⟩ := F.slot i _ q
    exact ⟨_, h1, z _ H (Ex.refl H) h6⟩
abbrev fC (c : Dt) : En → Dt → Prop := fun _ d => d = c
theorem de_int {i j} : DE X C (.Constant (.int i) j pos) (fC (.int i)) := ⟨_, pe_int, fun env d q φ σ H Q F z => by cases q; exact z _ H (Ex.refl H) (.int i)⟩
theorem de_bl {b j} : DE X C (.Constant (.bool b) j pos) (fC (.bl b)) := ⟨_, pe_bl, fun env d q φ σ H Q F z => by cases q; exact z _ H (Ex.refl H) (.bl b)⟩
theorem de_non {j} : DE X C (.Constant .none j pos) (fC .non) := ⟨_, pe_non, fun env d q φ σ H Q F z => by cases q; exact z _ H (Ex.refl H) .non⟩
theorem de_str {x j} : DE X C (.Constant (.str x) j pos) (fC (.str x)) := ⟨_, pe_str, fun env d q φ σ H Q F z => by cases q; exact z _ H (Ex.refl H) (.str x)⟩
theorem de_glob {x : Str} {i : Int} {u : Tok} (hg : Gl X x) (hm : X.mg x = some (.int i u)) (hd : (x == ("__debug__" : Str)) = false := by decide) : DE X C (.Name x pos) (fC (.int i)) := ⟨_, pe_glob hg hm (v := .int i) ⟨u, rfl⟩ hd, fun env d q φ σ H Q F z => by cases q; exact z _ H (Ex.refl H) (.int i)⟩
/-! ### arithmetic -/
/-- two ints -/
abbrev f2I (f g : En → Dt → Prop) (k : Int → Int → Dt → Prop) : En → Dt → Prop := fun env d => ∃ i j, f env (.int i) ∧ g env (.int j) ∧ k i j d
theorem de_rI {op : Operator} {c : Int → Int → Prop} {h : Int → Int → Int} (ho : OpR X (binaryOp op) (rI c fun i j => .int (h i j))) (ha : DE X C a f) (hb : DE X C b g) : DE X C (.BinOp a op b pos) (f2I f g fun i j d => c i j ∧ d = .int (h i j)) := by
  obtain ⟨ta, pa, ka⟩ := ha
  obtain ⟨tb, pb, kb⟩ := hb
  refine ⟨_, pe_op ho pa pb, fun env d q φ σ H Q F z => ?_⟩
  obtain ⟨i, j, q1, q2, q3, rfl⟩ := q
  refine ka env _ q1 φ σ H _ F fun v H1 e1 r1 => kb env _ q2 φ σ H1 _ (F.ex e1) fun u H2 e2 r2 => ?_
  cases r1
  cases r2
  exact ⟨i, j, rfl, rfl, q3, z _ H2 (e1.trans e2) (.int _)⟩
theorem de_rI0 {op : Operator} {h : Int → Int → Int} (ho : OpR X (binaryOp op) (rI0 fun i j => .int (h i j))) (ha : DE X C a f) (hb : DE X C b g) : DE X C (.BinOp a op b pos) (f2I f g fun i j d => d = .int (h i j)) := by
  obtain ⟨ta, pa, ka⟩ := ha
  obtain ⟨tb, pb, kb⟩ := hb
  refine ⟨_, pe_op ho pa pb, fun env d q φ σ H Q F z => ?_⟩
  obtain ⟨i, j, q1, q2, rfl⟩ := q
  refine ka env _ q1 φ σ H _ F fun v H1 e1 r1 => kb env _ q2 φ σ H1 _ (F.ex e1) fun u H2 e2 r2 => ?_
  cases r1
  cases r2
  exact ⟨i, j, rfl, rfl, z _ H2 (e1.trans e2) (.int _)⟩
theorem de_add (ha : DE X C a f) (hb : DE X C b g) : DE X C (.BinOp a .Add b pos) (f2I f g fun i j d => d = .int (i + j)) := de_rI0 op_add ha hb
theorem de_sub (ha : DE X C a f) (hb : DE X C b g) : DE X C (.BinOp a .Sub b pos) (f2I f g fun i j d => d = .int (i - j)) := de_rI0 op_sub ha hb
theorem de_mul (ha : DE X C a f) (hb : DE X C b g) : DE X C (.BinOp a .Mult b pos) (f2I f g fun i j d => CMul i j ∧ d = .int (i * j)) := de_rI op_mul ha hb
theorem de_mod (ha : DE X C a f) (hb : DE X C b g) : DE X C (.BinOp a .Mod b pos) (f2I f g fun i j d => 0 < j ∧ d = .int (i % j)) := de_rI op_mod ha hb
theorem de_fdiv (ha : DE X C a f) (hb : DE X C b g) : DE X C (.BinOp a .FloorDiv b pos) (f2I f g fun i j d => CDiv i j ∧ d = .int (i / j)) := de_rI op_fdiv ha hb
theorem de_pow (ha : DE X C a f) (hb : DE X C b g) : DE X C (.BinOp a .Pow b pos) (f2I f g fun i j d => CPow i j ∧ d = .int (i ^ j.toNat)) := de_rI op_pow ha hb
abbrev f1I (f : En → Dt → Prop) (k : Int → Dt → Prop) : En → Dt → Prop := fun env d => ∃ i, f env (.int i) ∧ k i d
theorem de_neg (ha : DE X C a f) : DE X C (.UnaryOp .USub a pos) (f1I f fun i d => d = .int (-i)) := by
  obtain ⟨ta, pa, ka⟩ := ha
  refine ⟨_, pe_un un_neg pa, fun env d q φ σ H Q F z => ?_⟩
  obtain ⟨i, q1, rfl⟩ := q
  refine ka env _ q1 φ σ H _ F fun v H1 e1 r1 => ?_
  cases r1
  exact ⟨i, rfl, z _ H1 e1 (.int _)⟩
/-! ### comparisons -/
theorem de_cmpI {op : CmpOp} {h : Int → Int → Bool} (ho : OpR X (compareOp op) (rI0 fun i j => .bl (h i j))) (hm : behindInMarks op b = false) (ha : DE X C a f) (hb : DE X C b g) : DE X C (.Compare a [op] [b] pos) (f2I f g fun i j d => d = .bl (h i j)) := by
  obtain ⟨ta, pa, ka⟩ := ha
  obtain ⟨tb, pb, kb⟩ := hb
  refine ⟨_, pe_cmpR ho pa pb hm, fun env d q φ σ H Q F z => ?_⟩
  obtain ⟨i, j, q1, q2, rfl⟩ := q
  refine ka env _ q1 φ σ H _ F fun v H1 e1 r1 => kb env _ q2 φ σ H1 _ (F.ex e1) fun u H2 e2 r2 => ?_
  cases r1
  cases r2
  exact ⟨i, j, rfl, rfl, z _ H2 (e1.trans e2) (.bl _)⟩
theorem db_cmpI {op : CmpOp} {h : Int → Int → Bool} (ho : OpR X (compareOp op) (rI0 fun i j => .bl (h i j))) (hm : behindInMarks op b = false) (ha : DE X C a f) (hb : DE X C b g) : DB X C (.Compare a [op] [b] pos) (fun env r => ∃ i j, f env (.int i) ∧ g env (.int j) ∧ r = h i j) := by
  obtain ⟨ta, pa, ka⟩ := ha
  obtain ⟨tb, pb, kb⟩ := hb
  refine ⟨_, pt_cmpR ho pa pb hm, fun env d q φ σ H Q F z => ?_⟩
  obtain ⟨i, j, q1, q2, rfl⟩ := q
  refine ka env _ q1 φ σ H _ F fun v H1 e1 r1 => kb env _ q2 φ σ H1 _ (F.ex e1) fun u H2 e2 r2 => ?_
  cases r1
  cases r2
  exact ⟨i, j, rfl, rfl, _, rfl, z H2 (e1.trans e2)⟩
abbrev f2B (f g : En → Dt → Prop) (h : Int → Int → Bool) : En → Bool → Prop := fun env r => ∃ i j, f env (.int i) ∧ g env (.int j) ∧ r = h i j
theorem db_lt (ha : DE X C a f) (hb : DE X C b g) : DB X C (.Compare a [.Lt] [b] pos) (f2B f g fun i j => decide (i < j)) := db_cmpI op_lt (nomark _) ha hb
theorem db_le (ha : DE X C a f) (hb : DE X C b g) : DB X C (.Compare a [.LtE] [b] pos) (f2B f g fun i j => decide (i ≤ j)) := db_cmpI op_le (nomark _) ha hb
theorem db_gt (ha : DE X C a f) (hb : DE X C b g) : DB X C (.Compare a [.Gt] [b] pos) (f2B f g fun i j => decide (j < i)) := db_cmpI op_gt (nomark _) ha hb
theorem db_ge (ha : DE X C a f) (hb : DE X C b g) : DB X C (.Compare a [.GtE] [b] pos) (f2B f g fun i j => decide (j ≤ i)) := db_cmpI op_ge (nomark _) ha hb
/-- scalars, as the == of the machine takes them -/
inductive Scal2 : Dt → Dt → Bool → Prop
  | int (i j : Int) : Scal2 (.int i) (.int j) (decide (i = j))
  | bl (i j : Bool) : Scal2 (.bl i) (.bl j) (decide (i = j))
  | str (i j : Str) : Scal2 (.str i) (.str j) (decide (i = j))
theorem Scal2.ok {K : PySem.W.Frag} {H H' : Hp} {P : Addr → Prop} {x y : V} {d d' : Dt} {r : Bool} (s : Scal2 d d' r) (h : Rs K C H P x d) (h' : Rs K C H' P y d') : scal x y = true ∧ decide (x = y) = r := by
  cases s with
  | int i j =>
    cases h
    cases h'
    exact ⟨rfl, by simp⟩
  | bl i j =>
    cases h
    cases h'
    exact ⟨rfl, by simp⟩
  | str i j =>
    cases h
    cases h'
    exact ⟨rfl, by simp⟩
abbrev f2S (f g : En → Dt → Prop) : En → Bool → Prop := fun env r => ∃ x y, f env x ∧ g env y ∧ Scal2 x y r
theorem db_eqS (ha : DE X C a f) (hb : DE X C b g) : DB X C (.Compare a [.Eq] [b] pos) (f2S f g) := by
  obtain ⟨ta, pa, ka⟩ := ha
  obtain ⟨tb, pb, kb⟩ := hb
  refine ⟨_, pt_cmpR op_eq pa pb (nomark _), fun env d q φ σ H Q F z => ?_⟩
  obtain ⟨x, y, q1, q2, q3⟩ := q
  refine ka env _ q1 φ σ H _ F fun v H1 e1 r1 => kb env _ q2 φ σ H1 _ (F.ex e1) fun u H2 e2 r2 => ?_
  obtain ⟨s1, s2⟩ := q3.ok r1 r2
  exact ⟨s1, _, rfl, by rw [s2]; exact z H2 (e1.trans e2)⟩
abbrev f2N (f g : En → Dt → Prop) : En → Bool → Prop := fun env r => ∃ x y r', f env x ∧ g env y ∧ Scal2 x y r' ∧ r = !r'
theorem db_neS (ha : DE X C a f) (hb : DE X C b g) : DB X C (.Compare a [.NotEq] [b] pos) (f2N f g) := by
  obtain ⟨ta, pa, ka⟩ := ha
  obtain ⟨tb, pb, kb⟩ := hb
  refine ⟨_, pt_cmpR op_ne pa pb (nomark _), fun env d q φ σ H Q F z => ?_⟩
  obtain ⟨x, y, r', q1, q2, q3, rfl⟩ := q
  refine ka env _ q1 φ σ H _ F fun v H1 e1 r1 => kb env _ q2 φ σ H1 _ (F.ex e1) fun u H2 e2 r2 => ?_
  obtain ⟨s1, s2⟩ := q3.ok r1 r2
  exact ⟨s1, _, rfl, by rw [s2]; exact z H2 (e1.trans e2)⟩
/-- the value of a test -/
theorem de_eqS (ha : DE X C a f) (hb : DE X C b g) : DE X C (.Compare a [.Eq] [b] pos) (fun env d => ∃ r, f2S f g env r ∧ d = .bl r) := by
  obtain ⟨ta, pa, ka⟩ := ha
  obtain ⟨tb, pb, kb⟩ := hb
  refine ⟨_, pe_cmpR op_eq pa pb (nomark _), fun env d q φ σ H Q F z => ?_⟩
  obtain ⟨r, ⟨x, y, q1, q2, q3⟩, rfl⟩ := q
  refine ka env _ q1 φ σ H _ F fun v H1 e1 r1 => kb env _ q2 φ σ H1 _ (F.ex e1) fun u H2 e2 r2 => ?_
  obtain ⟨s1, s2⟩ := q3.ok r1 r2
  exact ⟨s1, by rw [s2]; exact z _ H2 (e1.trans e2) (.bl _)⟩
/-! ### deep == -/
mutual
def Dt.py : Dt → Option PyData
  | .non => some .none
  | .bl b => some (.bool b)
  | .int i => some (.int i)
  | .str x => some (.str x)
  | .lst ts => (Dt.pyL ts).map .list
  | .tup ts => (Dt.pyL ts).map .tuple
  | .xtp ts => (Dt.pyL ts).map .tuple
  | .grp _ _ _ => none
  | .scr _ => none
def Dt.pyL : List Dt → Option (List PyData)
  | [] => some []
  | t :: ts => match Dt.py t, Dt.pyL ts with
    | some d, some ds => some (d :: ds)
    | _, _ => none
end
mutual
theorem rs_dp {K : PySem.W.Frag} {H : Hp} {P : Addr → Prop} : ∀ {v : V} {t : Dt} {d : PyData}, Rs K C H P v t → t.py = some d → Dp K H v d
  | _, _, _, .non, e => by
    simp only [Dt.py, Option.some.injEq] at e
    subst e
    exact .non
  | _, _, _, .bl b, e => by
    simp only [Dt.py, Option.some.injEq] at e
    subst e
    exact .bl b
  | _, _, _, .int i, e => by
    simp only [Dt.py, Option.some.injEq] at e
    subst e
    exact .int i
  | _, _, _, .str x, e => by
    simp only [Dt.py, Option.some.injEq] at e
    subst e
    exact .str x
  | _, _, _, .lst p q r, e => by
    simp only [Dt.py, Option.map_eq_some_iff] at e
    obtain ⟨ds, e1, rfl⟩ := e
    exact .lst (.of q) (rs_dpL r e1)
  | _, _, _, .tup p q r, e => by
    simp only [Dt.py, Option.map_eq_some_iff] at e
    obtain ⟨ds, e1, rfl⟩ := e
    exact .tup (.of q) (rs_dpL r e1)
  | _, _, _, .xtp p d q r, e => by
    simp only [Dt.py, Option.map_eq_some_iff] at e
    obtain ⟨ds, e1, rfl⟩ := e
    exact .tup (.inl (.inr ⟨_, q⟩)) (rs_dpL r e1)
  | _, _, _, .grp _ _ _ _ _, e => by
    simp only [Dt.py] at e
    cases e
  | _, _, _, .scr _ _, e => by
    simp only [Dt.py] at e
    cases e
  | _, _, _, .scrL _ _, e => by
    simp only [Dt.py] at e
    cases e
  | _, _, _, .scrK _, e => by
    simp only [Dt.py] at e
    cases e
theorem rs_dpL {K : PySem.W.Frag} {H : Hp} {P : Addr → Prop} : ∀ {v : List V} {t : List Dt} {d : List PyData}, RsL K C H P v t → Dt.pyL t = some d → DpAll K H v d
  | _, _, _, .nil, e => by
    simp only [Dt.pyL, Option.some.injEq] at e
    subst e
    exact .nil
  | _, _, _, .cons r t, e => by
    simp only [Dt.pyL] at e
    split at e
    · rename_i d ds e1 e2
      cases e
      exact .cons (rs_dp r e1) (rs_dpL t e2)
    · cases e
end
theorem rt_dp {K : PySem.W.Frag} {H : Hp} {P : Addr → Prop} {v : V} {t : Dt} {d : PyData} (h : Rt K C H P v t) (e : t.py = some d) : Dp K H v d := by
  cases h with
  | of h => exact rs_dp h e
  | lst q r =>
    simp only [Dt.py, Option.map_eq_some_iff] at e
    obtain ⟨ds, e1, rfl⟩ := e
    exact .lst (.of q) (rs_dpL r e1)
  | tup q r =>
    simp only [Dt.py, Option.map_eq_some_iff] at e
    obtain ⟨ds, e1, rfl⟩ := e
    exact .tup (.of q) (rs_dpL r e1)
/-- x == y of data, to be told by r -/
def EqD (x y : Dt) (r : Bool) : Prop := ∃ d e, x.py = some d ∧ y.py = some e ∧ SeqAt.shaped d = true ∧ SeqAt.shaped e = true ∧ PyData.eqv d e = r
abbrev f2D (f g : En → Dt → Prop) : En → Bool → Prop := fun env r => ∃ x y, f env x ∧ g env y ∧ EqD x y r
theorem db_eqD (hu : X.A.units + 64 < cLine) (ha : DR X C a f) (hb : DR X C b g) : DB X C (.Compare a [.Eq] [b] pos) (f2D f g) := by
  obtain ⟨ta, pa, ka⟩ := ha
  obtain ⟨tb, pb, kb⟩ := hb
  refine ⟨_, pt_cmpR (op_eqD hu) pa pb (nomark _), fun env d q φ σ H Q F z => ?_⟩
  obtain ⟨x, y, q1, q2, d1, d2, h1, h2, h3, h4, h5⟩ := q
  refine ka env _ q1 φ σ H _ F fun v H1 e1 r1 => kb env _ q2 φ σ H1 _ (F.ex e1) fun u H2 e2 r2 => ?_
  exact ⟨d1, d2, rt_dp (r1.ex e2) h1, rt_dp r2 h2, h3, h4, _, rfl, by rw [h5]; exact z H2 (e1.trans e2)⟩
theorem db_neD (hu : X.A.units + 64 < cLine) (ha : DR X C a f) (hb : DR X C b g) : DB X C (.Compare a [.NotEq] [b] pos) (fun env r => ∃ r', f2D f g env r' ∧ r = !r') := by
  obtain ⟨ta, pa, ka⟩ := ha
  obtain ⟨tb, pb, kb⟩ := hb
  refine ⟨_, pt_cmpR (op_neD hu) pa pb (nomark _), fun env d q φ σ H Q F z => ?_⟩
  obtain ⟨r', ⟨x, y, q1, q2, d1, d2, h1, h2, h3, h4, h5⟩, rfl⟩ := q
  refine ka env _ q1 φ σ H _ F fun v H1 e1 r1 => kb env _ q2 φ σ H1 _ (F.ex e1) fun u H2 e2 r2 => ?_
  exact ⟨d1, d2, rt_dp (r1.ex e2) h1, rt_dp r2 h2, h3, h4, _, rfl, by rw [h5]; exact z H2 (e1.trans e2)⟩
/-! ### tests -/
theorem db_val {f : En → Dt → Prop} (h : DE X C e f) (he : ∀ whole, isTrue e X.env whole = (do let v ← whole; standAt e.pos; holding [v] (truthy v)) := by intro _; rfl) : DB X C e (fun env r => f env (.bl r)) := by
  obtain ⟨t, p, k⟩ := h
  refine ⟨_, pt_val p he, fun env d q φ σ H Q F z => k env _ q φ σ H _ F fun v H1 e1 r1 => ?_⟩
  cases r1
  exact ⟨d, rfl, z H1 e1⟩
theorem db_imp {f g : En → Bool → Prop} (h : DB X C e f) (i : ∀ env d, g env d → f env d) : DB X C e g := by
  obtain ⟨t, p, k⟩ := h
  exact ⟨t, p, fun env d q => k env d (i env d q)⟩
theorem db_not {f : En → Bool → Prop} (h : DB X C a f) : DB X C (.UnaryOp .Not a pos) (fun env r => ∃ r', f env r' ∧ r = !r') := by
  obtain ⟨t, p, k⟩ := h
  refine ⟨_, pt_not p, fun env d q φ σ H Q F z => ?_⟩
  obtain ⟨r', q, rfl⟩ := q
  exact k env _ q φ σ H _ F fun H1 e1 => z H1 e1
/-- chains of and, or -/
structure DW (X : Cx) (C : Addr) (e : Expr) (f : En → Bool → Prop) : Prop where
  ex : ∃ t, PW X e t ∧ ∀ env d, f env d → EvB X.K C t env d
theorem DW.test {f : En → Bool → Prop} (h : DW X C e f) : DB X C e f := by
  obtain ⟨t, p, k⟩ := h
  exact ⟨t, p.pt, k⟩
theorem dw_and1 {f : En → Bool → Prop} (h : DB X C a f) : DW X C (.BoolOp .And [a] pos) f := by
  obtain ⟨t, p, k⟩ := h
  exact ⟨t, pw_and1 p, k⟩
theorem dw_or1 {f : En → Bool → Prop} (h : DB X C a f) : DW X C (.BoolOp .Or [a] pos) f := by
  obtain ⟨t, p, k⟩ := h
  exact ⟨t, pw_or1 p, k⟩
abbrev fAnd (f g : En → Bool → Prop) : En → Bool → Prop := fun env r => ∃ c, f env c ∧ (c = true → g env r) ∧ (c = false → r = false)
abbrev fOr (f g : En → Bool → Prop) : En → Bool → Prop := fun env r => ∃ c, f env c ∧ (c = false → g env r) ∧ (c = true → r = true)
theorem dw_and {rest : List Expr} {f g : En → Bool → Prop} (ha : DB X C a f) (hb : DW X C (.BoolOp .And (b :: rest) pos) g) : DW X C (.BoolOp .And (a :: b :: rest) pos) (fAnd f g) := by
  obtain ⟨ta, pa, ka⟩ := ha
  obtain ⟨tb, pb, kb⟩ := hb
  refine ⟨_, pw_and pa pb, fun env d q φ σ H Q F z => ?_⟩
  obtain ⟨c, q1, q2, q3⟩ := q
  refine ka env _ q1 φ σ H _ F fun H1 e1 => ?_
  cases c with
  | true => exact iteT (kb env _ (q2 rfl) φ σ H1 _ (F.ex e1) fun H2 e2 => z H2 (e1.trans e2))
  | false =>
    cases q3 rfl
    exact iteF (z H1 e1)
theorem dw_or {rest : List Expr} {f g : En → Bool → Prop} (ha : DB X C a f) (hb : DW X C (.BoolOp .Or (b :: rest) pos) g) : DW X C (.BoolOp .Or (a :: b :: rest) pos) (fOr f g) := by
  obtain ⟨ta, pa, ka⟩ := ha
  obtain ⟨tb, pb, kb⟩ := hb
  refine ⟨_, pw_or pa pb, fun env d q φ σ H Q F z => ?_⟩
  obtain ⟨c, q1, q2, q3⟩ := q
  refine ka env _ q1 φ σ H _ F fun H1 e1 => ?_
  cases c with
  | false => exact iteF (kb env _ (q2 rfl) φ σ H1 _ (F.ex e1) fun H2 e2 => z H2 (e1.trans e2))
  | true =>
    cases q3 rfl
    exact iteT (z H1 e1)
/-! and, or, not as values -/
abbrev fAndV (f g : En → Dt → Prop) : En → Dt → Prop := fun env d => ∃ c, f env (.bl c) ∧ (c = true → g env d) ∧ (c = false → d = .bl false)
theorem de_and {rest : List Expr} (ha : DE X C a f) (hb : DE X C (.BoolOp .And (b :: rest) pos) g) : DE X C (.BoolOp .And (a :: b :: rest) pos) (fAndV f g) := by
  obtain ⟨ta, pa, ka⟩ := ha
  obtain ⟨tb, pb, kb⟩ := hb
  refine ⟨_, pe_and pa pb, fun env d q φ σ H Q F z => ?_⟩
  obtain ⟨c, q1, q2, q3⟩ := q
  refine ka env _ q1 φ σ H _ F fun v H1 e1 r1 => ?_
  cases r1
  refine ⟨c, rfl, ?_⟩
  cases c with
  | true => exact iteT (kb env _ (q2 rfl) φ σ H1 _ (F.ex e1) fun v H2 e2 r2 => z v H2 (e1.trans e2) r2)
  | false =>
    cases q3 rfl
    exact iteF (z _ H1 e1 (.bl false))
theorem de_one {op} (h : DE X C a f) : DE X C (.BoolOp op [a] pos) f := by
  obtain ⟨t, p, k⟩ := h
  exact ⟨t, pe_one p, k⟩
theorem de_not (h : DE X C a f) : DE X C (.UnaryOp .Not a pos) (fun env d => ∃ r, f env (.bl r) ∧ d = .bl (!r)) := by
  obtain ⟨t, p, k⟩ := h
  refine ⟨_, pe_not p, fun env d q φ σ H Q F z => ?_⟩
  obtain ⟨r', q, rfl⟩ := q
  refine k env _ q φ σ H _ F fun v H1 e1 r1 => ?_
  cases r1
  exact ⟨r', rfl, z _ H1 e1 (.bl _)⟩
/-- x is None -/
theorem db_isN {j pos'} (ha : DE X C a f) : DB X C (.Compare a [.Is] [.Constant .none j pos'] pos) (fun env r => ∃ d, f env d ∧ ((d = .non ∧ r = true) ∨ ((∀ z, d ≠ z → True) ∧ d ≠ .non ∧ r = false))) := by
  obtain ⟨ta, pa, ka⟩ := ha
  refine ⟨_, pt_cmpR op_isN pa pe_non (nomark _), fun env d q φ σ H Q F z => ?_⟩
  obtain ⟨x, q1, q2⟩ := q
  refine ka env _ q1 φ σ H _ F fun v H1 e1 r1 => ⟨rfl, _, rfl, ?_⟩
  have e : decide (v = V.non) = d := by
    rcases q2 with ⟨rfl, rfl⟩ | ⟨_, q2, rfl⟩
    · cases r1
      rfl
    · cases r1 <;> first | exact absurd rfl q2 | rfl
  rw [e]
  exact z H1 e1
theorem de_isN {j pos'} (ha : DE X C a f) : DE X C (.Compare a [.Is] [.Constant .none j pos'] pos) (fun env r => ∃ d b, f env d ∧ ((d = .non ∧ b = true) ∨ (d ≠ .non ∧ b = false)) ∧ r = .bl b) := by
  obtain ⟨ta, pa, ka⟩ := ha
  refine ⟨_, pe_cmpR op_isN pa pe_non (nomark _), fun env d q φ σ H Q F z => ?_⟩
  obtain ⟨x, b, q1, q2, rfl⟩ := q
  refine ka env _ q1 φ σ H _ F fun v H1 e1 r1 => ⟨rfl, ?_⟩
  have e : decide (v = V.non) = b := by
    rcases q2 with ⟨rfl, rfl⟩ | ⟨q2, rfl⟩
    · cases r1
      rfl
    · cases r1 <;> first | exact absurd rfl q2 | rfl
  rw [e]
  exact z _ H1 e1 (.bl _)
end
end CM
set_option Elab.async false
set_option linter.all false
set_option maxRecDepth 100000
set_option maxHeartbeats 1000000
/-! The data layer: sequences, calls of built-ins, displays. -/
namespace CM
open PySem PySem.Spec PyProof.Rows L2
theorem RsL.at {K : PySem.W.Frag} {C : Addr} {H : Hp} {P : Addr → Prop} {vs : List V} {ds : List Dt} {i : Int} {d : Dt} (h : RsL K C H P vs ds) (e : atI ds i = some d) : ∃ v, atI vs i = some v ∧ Rs K C H P v d := by
  unfold atI at e ⊢
  rw [← h.length] at e
  cases q : ixN vs.length i with
  | none =>
    rw [q] at e
    cases e
  | some j =>
    rw [q] at e
    exact h.get e
section
variable {X : Cx} {C : Addr} {a b e : Expr} {es : List Expr} {pos p p2 : Pos} {f g : En → Dt → Prop}
/-! ### subscripts -/
abbrev fIx (f g : En → Dt → Prop) : En → Dt → Prop := fun env d => ∃ s ts i, f env s ∧ s.sq = some ts ∧ g env (.int i) ∧ atI ts i = some d
theorem de_ix (ha : DR X C a f) (hb : DE X C b g) (hs : PlainIx b := by exact fun _ _ => rfl) : DE X C (.Subscript a b pos) (fIx f g) := by
  obtain ⟨ta, pa, ka⟩ := ha
  obtain ⟨tb, pb, kb⟩ := hb
  refine ⟨_, pe_ix ix_seq pa pb hs, fun env d q φ σ H Q F z => ?_⟩
  obtain ⟨s, ts, i, q1, q2, q3, q4⟩ := q
  refine ka env _ q1 φ σ H _ F fun v H1 e1 r1 => kb env _ q3 φ σ H1 _ (F.ex e1) fun u H2 e2 r2 => ?_
  cases r2
  obtain ⟨p, xs, rfl, h1, h2⟩ := r1.seq q2
  obtain ⟨w, h3, h4⟩ := h2.at q4
  have k := z w H2 (e1.trans e2) (h4.ex e2)
  rcases h1 with h1 | h1
  · exact .inl ⟨p, xs, i, w, rfl, rfl, .of (e2 _ _ h1), h3, k⟩
  · exact .inr (.inl ⟨p, xs, i, w, rfl, rfl, (h1.mono (e2 _)).sq, h3, k⟩)
theorem Rs.scrOf {K : PySem.W.Frag} {H : Hp} {P : Addr → Prop} {v : V} {ns : List Int} (h : Rs K C H P v (.scr ns)) : ∃ a, v = .ref a ∧ SqL K H a (ns.map V.int) := by
  cases h with
  | scr p e => exact ⟨_, rfl, .inl (.inr ⟨_, e⟩)⟩
  | scrL p e => exact ⟨_, rfl, .inl (.inl e)⟩
  | scrK e => exact ⟨_, rfl, e _⟩
abbrev fIxScr (f g : En → Dt → Prop) : En → Dt → Prop := fun env d => ∃ ns i n, f env (.scr ns) ∧ g env (.int i) ∧ atI ns i = some n ∧ d = .int n
theorem atI_map {α β : Type} (h : α → β) {xs : List α} {i : Int} {x : α} (e : atI xs i = some x) : atI (xs.map h) i = some (h x) := by
  unfold atI at e ⊢
  rw [List.length_map]
  cases q : ixN xs.length i with
  | none =>
    rw [q] at e
    cases e
  | some j =>
    rw [q] at e
    have e' : xs[j]? = some x := e
    show (xs.map h)[j]? = some (h x)
    rw [List.getElem?_map, e'] <;> rfl
theorem de_ixScr (ha : DE X C a f) (hb : DE X C b g) (hs : PlainIx b := by exact fun _ _ => rfl) : DE X C (.Subscript a b pos) (fIxScr f g) := by
  obtain ⟨ta, pa, ka⟩ := ha
  obtain ⟨tb, pb, kb⟩ := hb
  refine ⟨_, pe_ix ix_list pa pb hs, fun env d q φ σ H Q F z => ?_⟩
  obtain ⟨ns, i, n, q1, q3, q4, rfl⟩ := q
  refine ka env _ q1 φ σ H _ F fun v H1 e1 r1 => kb env _ q3 φ σ H1 _ (F.ex e1) fun u H2 e2 r2 => ?_
  cases r2
  obtain ⟨p, rfl, h1⟩ := (r1.ex e2).scrOf
  exact ⟨p, _, i, _, rfl, rfl, h1, atI_map V.int q4, z _ H2 (e1.trans e2) (.int n)⟩
/-! ### slices -/
def cutT {α : Type} (xs : List α) (lo hi : Option Int) : List α := (xs.drop (HT.sIx xs.length 0 lo)).take (HT.sIx xs.length xs.length hi - HT.sIx xs.length 0 lo)
structure DO (X : Cx) (C : Addr) (e : Option Expr) (f : En → Option Int → Prop) : Prop where
  ex : ∃ t, PO X e t ∧ ∀ env d, f env d → ∀ (φ : Fra) (σ : L2.St) (H : Hp) (Q : Option Int → Hp → Prop), Fok X.K C φ σ H env → (∀ H', Ex H H' → Q d H') → t σ H Q
theorem do_none : DO X C none (fun _ o => o = none) := ⟨_, po_none, fun env d q φ σ H Q F z => by cases q; exact z H (Ex.refl H)⟩
theorem do_some (h : DE X C e f) : DO X C (some e) (fun env o => ∃ i, f env (.int i) ∧ o = some i) := by
  obtain ⟨t, p, k⟩ := h
  refine ⟨_, po_some p, fun env d q φ σ H Q F z => ?_⟩
  obtain ⟨i, q, rfl⟩ := q
  refine k env _ q φ σ H _ F fun v H1 e1 r1 => ?_
  cases r1
  exact ⟨i, rfl, z H1 e1⟩
theorem RsL.cut {K : PySem.W.Frag} {H : Hp} {P : Addr → Prop} {vs : List V} {ds : List Dt} (h : RsL K C H P vs ds) (lo hi : Option Int) : RsL K C H P (cutV vs lo hi) (cutT ds lo hi) := by
  unfold cutV cutT
  rw [h.length]
  exact (h.drop _).take _
theorem df_slice {lo hi : Option Expr} {l h : En → Option Int → Prop} (ha : DR X C a f) (hl : DO X C lo l) (hh : DO X C hi h) : DF X C (.Subscript a (.Slice lo hi none p2) pos) (fun env r => ∃ ts o u, f env (.lst ts) ∧ l env o ∧ h env u ∧ r = cutT ts o u) := by
  obtain ⟨ta, pa, ka⟩ := ha
  obtain ⟨tl, pl, kl⟩ := hl
  obtain ⟨th, ph, kh⟩ := hh
  refine ⟨_, pe_slice sl_list pa pl ph, fun env d q φ σ H Q F z => ?_⟩
  obtain ⟨ts, o, u, q1, q2, q3, rfl⟩ := q
  refine ka env _ q1 φ σ H _ F fun v H1 e1 r1 => kl env _ q2 φ σ H1 _ (F.ex e1) fun H2 e2 => kh env _ q3 φ σ H2 _ (F.ex (e1.trans e2)) fun H3 e3 => ?_
  obtain ⟨p, xs, rfl, h1, h2⟩ := r1.listOf
  have e4 := e2.trans e3
  refine ⟨p, xs, rfl, .of (e4 _ _ h1), fun q hq => z q _ _ ((e1.trans e4).trans (Ex.new hq)) ((e1.trans e4).back hq) upd_same ?_⟩
  exact (((h2.ex e4).cut o u).but hq).ex (Ex.new hq)
/-! ### arguments -/
theorem da_nil : DA X C [] [] (fun _ ds => ds = []) := ⟨_, pa_nil, fun env d q φ σ H Q F z => by cases q; exact z _ H (Ex.refl H) .nil⟩
abbrev fCons (f : En → Dt → Prop) (g : En → List Dt → Prop) : En → List Dt → Prop := fun env ds => ∃ x r, f env x ∧ g env r ∧ ds = x :: r
theorem da_sh {fl : List Bool} {g : En → List Dt → Prop} (ha : DE X C e f) (hr : DA X C es fl g) (hs : starEach (e :: es) X.env = (false, eval e X.env) :: starEach es X.env := by rfl) : DA X C (e :: es) (false :: fl) (fCons f g) := by
  obtain ⟨ta, pa, ka⟩ := ha
  obtain ⟨tb, pb, kb⟩ := hr
  refine ⟨_, pa_cons pa pb hs, fun env d q φ σ H Q F z => ?_⟩
  obtain ⟨x, r, q1, q2, rfl⟩ := q
  exact ka env _ q1 φ σ H _ F fun v H1 e1 r1 => kb env _ q2 φ σ H1 _ (F.ex e1) fun vs H2 e2 r2 => z _ H2 (e1.trans e2) (.sh (r1.ex e2) r2)
theorem da_raw {fl : List Bool} {g : En → List Dt → Prop} (ha : DR X C e f) (hr : DA X C es fl g) (hs : starEach (e :: es) X.env = (false, eval e X.env) :: starEach es X.env := by rfl) : DA X C (e :: es) (true :: fl) (fCons f g) := by
  obtain ⟨ta, pa, ka⟩ := ha
  obtain ⟨tb, pb, kb⟩ := hr
  refine ⟨_, pa_cons pa pb hs, fun env d q φ σ H Q F z => ?_⟩
  obtain ⟨x, r, q1, q2, rfl⟩ := q
  exact ka env _ q1 φ σ H _ F fun v H1 e1 r1 => kb env _ q2 φ σ H1 _ (F.ex e1) fun vs H2 e2 r2 => z _ H2 (e1.trans e2) (.raw (r1.ex e2) r2)
def allSh (fl : List Bool) : Bool := fl.all fun x => !x
theorem ArgsOk.sh_ {K : PySem.W.Frag} {H : Hp} {P : Addr → Prop} : ∀ {fl : List Bool} {vs : List V} {ds : List Dt}, ArgsOk K C H P fl vs ds → allSh fl = true → RsL K C H P vs ds
  | _, _, _, .nil, _ => .nil
  | _, _, _, .sh r t, h => .cons r (ArgsOk.sh_ t (by simpa [allSh] using h))
  | _, _, _, .raw r t, h => by simp [allSh] at h
/-! ### displays -/
theorem de_tup {fl : List Bool} {h : En → List Dt → Prop} {x1} (ha : DA X C es fl h) (hf : allSh fl = true := by rfl) : DE X C (.Tuple es x1 pos) (fun env d => ∃ ts, h env ts ∧ ts.length ≤ 1000 ∧ d = .tup ts) := by
  obtain ⟨ta, pa, ka⟩ := ha
  refine ⟨_, pe_tup pa, fun env d q φ σ H Q F z => ?_⟩
  obtain ⟨ts, q1, q2, rfl⟩ := q
  refine ka env _ q1 φ σ H _ F fun vs H1 e1 r1 => ?_
  have r2 := r1.sh_ hf
  refine ⟨Nat.le_of_lt (small1000 (by rw [r2.length]; exact q2)), fun p hp => z _ _ (e1.trans (Ex.new hp)) (.tup (F.fresh p (e1.back hp)) upd_same (r2.ex (Ex.new hp)))⟩
theorem df_lst {fl : List Bool} {h : En → List Dt → Prop} (ha : DA X C es fl h) (hf : allSh fl = true := by rfl) : DF X C (.List es pos) (fun env ts => h env ts ∧ ts.length ≤ 1000) := by
  obtain ⟨ta, pa, ka⟩ := ha
  refine ⟨_, pe_lst pa, fun env ts q φ σ H Q F z => ?_⟩
  obtain ⟨q1, q2⟩ := q
  refine ka env _ q1 φ σ H _ F fun vs H1 e1 r1 => ?_
  have r2 := r1.sh_ hf
  exact ⟨Nat.le_of_lt (small1000 (by rw [r2.length]; exact q2)), fun p hp => z p vs _ (e1.trans (Ex.new hp)) (e1.back hp) upd_same ((r2.but hp).ex (Ex.new hp))⟩
/-! ### + and * of lists -/
theorem df_cat (ha : DR X C a f) (hb : DR X C b g) : DF X C (.BinOp a .Add b pos) (fun env r => ∃ ts us, f env (.lst ts) ∧ g env (.lst us) ∧ ts.length + us.length ≤ 100000 ∧ r = ts ++ us) := by
  obtain ⟨ta, pa, ka⟩ := ha
  obtain ⟨tb, pb, kb⟩ := hb
  refine ⟨_, pe_op op_cat pa pb, fun env d q φ σ H Q F z => ?_⟩
  obtain ⟨ts, us, q1, q2, q3, rfl⟩ := q
  refine ka env _ q1 φ σ H _ F fun v H1 e1 r1 => kb env _ q2 φ σ H1 _ (F.ex e1) fun u H2 e2 r2 => ?_
  obtain ⟨p, xs, rfl, h1, h2⟩ := r1.listOf
  obtain ⟨p', ys, rfl, h3, h4⟩ := r2.listOf
  have h5 := (h2.ex e2).append h4
  exact ⟨p, p', xs, ys, rfl, rfl, e2 _ _ h1, h3, Nat.le_trans (by rw [h2.length, h4.length]; exact q3) (show 100000 ≤ sizeLine by decide), fun q hq => z q _ _ ((e1.trans e2).trans (Ex.new hq)) ((e1.trans e2).back hq) upd_same ((h5.but hq).ex (Ex.new hq))⟩
theorem flat_rep {α : Type} (x : α) : ∀ n : Nat, (List.replicate n [x]).flatten = List.replicate n x
  | 0 => rfl
  | n + 1 => by
    rw [List.replicate_succ, List.flatten_cons, flat_rep x n, List.replicate_succ]
    rfl
theorem df_rep (ha : DR X C a f) (hb : DE X C b g) : DF X C (.BinOp a .Mult b pos) (fun env r => ∃ t n, f env (.lst [t]) ∧ g env (.int n) ∧ 0 ≤ n ∧ n ≤ 100000 ∧ r = List.replicate n.toNat t) := by
  obtain ⟨ta, pa, ka⟩ := ha
  obtain ⟨tb, pb, kb⟩ := hb
  refine ⟨_, pe_op op_rep pa pb, fun env d q φ σ H Q F z => ?_⟩
  obtain ⟨t, n, q1, q2, q3, q4, rfl⟩ := q
  refine ka env _ q1 φ σ H _ F fun v H1 e1 r1 => kb env _ q2 φ σ H1 _ (F.ex e1) fun u H2 e2 r2 => ?_
  obtain ⟨p, xs, rfl, h1, h2⟩ := r1.listOf
  cases r2
  cases h2 with
  | cons r r' =>
    cases r'
    refine ⟨p, n, _, rfl, rfl, e2 _ _ h1, by omega, by omega, Nat.le_trans (show 1 * n.toNat ≤ 100000 by omega) (show 100000 ≤ sizeLine by decide), fun q hq => z q _ _ ((e1.trans e2).trans (Ex.new hq)) ((e1.trans e2).back hq) upd_same ?_⟩
    rw [flat_rep]
    exact (((RsL.rep r n.toNat).ex e2).but hq).ex (Ex.new hq)
/-! ### built-ins -/
theorem ev_a1 {K : PySem.W.Frag} {t : TE} {env : En} {d : Dt} (h : EvR K C t env d) {φ : Fra} {σ : L2.St} {H : Hp} {Q : List V → Hp → Prop} (F : Fok K C φ σ H env) (z : ∀ v H', Ex H H' → Rt K C H' φ.P v d → Q [v] H') : tCons t tNil σ H Q := h φ σ H _ F fun v H1 e1 r1 => z v H1 e1 r1
theorem de_len (hm : X.mg "len" = none) (ha : DR X C a f) (hg : Gl X "len" := by rfl) (hs : starEach [a] X.env = (false, eval a X.env) :: starEach [] X.env := by rfl) (hpl : (backTo pos (starEach [] X.env)).any (·.1) = false := by rfl) :
    DE X C (.Call (.Name "len" p) [a] [] pos) (fun env d => ∃ s ts, f env s ∧ s.sq = some ts ∧ d = .int ts.length) := by
  obtain ⟨ta, pa, ka⟩ := ha
  refine ⟨_, pe_callB call_len_seq hg hm PySem.boot_len (pa_cons pa pa_nil hs) (he := hs), fun env d q φ σ H Q F z => ?_⟩
  obtain ⟨s, ts, q1, q2, rfl⟩ := q
  refine ka env _ q1 φ σ H _ F fun v H1 e1 r1 => ?_
  obtain ⟨p, xs, rfl, h1, h2⟩ := r1.seq q2
  have k := z _ H1 e1 (.int (ts.length : Int))
  rw [← h2.length] at k
  rcases h1 with h1 | h1
  · exact ⟨p, xs, rfl, .inl (.of h1), k⟩
  · exact ⟨p, xs, rfl, .inr h1.sq, k⟩
theorem de_lenScr (hm : X.mg "len" = none) (ha : DE X C a f) (hg : Gl X "len" := by rfl) (hs : starEach [a] X.env = (false, eval a X.env) :: starEach [] X.env := by rfl) (hpl : (backTo pos (starEach [] X.env)).any (·.1) = false := by rfl) :
    DE X C (.Call (.Name "len" p) [a] [] pos) (fun env d => ∃ ns, f env (.scr ns) ∧ d = .int ns.length) := by
  obtain ⟨ta, pa, ka⟩ := ha
  refine ⟨_, pe_callB call_len_seq hg hm PySem.boot_len (pa_cons pa pa_nil hs) (he := hs), fun env d q φ σ H Q F z => ?_⟩
  obtain ⟨ns, q1, rfl⟩ := q
  refine ka env _ q1 φ σ H _ F fun v H1 e1 r1 => ?_
  obtain ⟨p, rfl, h1⟩ := r1.scrOf
  have k := z _ H1 e1 (.int (ns.length : Int))
  exact ⟨p, _, rfl, .inl h1, by rw [List.length_map]; exact k⟩
/-- tuple(list): a new one -/
theorem de_tupL (hm : X.mg "tuple" = none) (ha : DR X C a f) (hg : Gl X "tuple" := by rfl) (hs : starEach [a] X.env = (false, eval a X.env) :: starEach [] X.env := by rfl) :
    DE X C (.Call (.Name "tuple" p) [a] [] pos) (fun env d => ∃ ts, f env (.lst ts) ∧ d = .tup ts) := by
  obtain ⟨ta, pa, ka⟩ := ha
  refine ⟨_, pe_callTy call_tuple_of hg hm PyProof.Rows.boot_tuple (pa_cons pa pa_nil hs) (he := hs), fun env d q φ σ H Q F z => ?_⟩
  obtain ⟨ts, q1, rfl⟩ := q
  refine ka env _ q1 φ σ H _ F fun v H1 e1 r1 => ?_
  obtain ⟨p, xs, rfl, h1, h2⟩ := r1.listOf
  exact ⟨p, xs, rfl, .inl ⟨.of h1, fun q hq => z _ _ (e1.trans (Ex.new hq)) (.tup (F.fresh q (e1.back hq)) upd_same (h2.ex (Ex.new hq)))⟩⟩
/-- tuple(tuple): itself -/
theorem de_tupT (hm : X.mg "tuple" = none) (ha : DE X C a f) (hg : Gl X "tuple" := by rfl) (hs : starEach [a] X.env = (false, eval a X.env) :: starEach [] X.env := by rfl) :
    DE X C (.Call (.Name "tuple" p) [a] [] pos) (fun env d => ∃ ts, f env (.tup ts) ∧ d = .tup ts) := by
  obtain ⟨ta, pa, ka⟩ := ha
  refine ⟨_, pe_callTy call_tuple_of hg hm PyProof.Rows.boot_tuple (pa_cons pa pa_nil hs) (he := hs), fun env d q φ σ H Q F z => ?_⟩
  obtain ⟨ts, q1, rfl⟩ := q
  refine ka env _ q1 φ σ H _ F fun v H1 e1 r1 => ?_
  cases r1 with
  | tup h0 h1 h2 => exact ⟨_, _, rfl, .inr ⟨.of h1, z _ H1 e1 (.tup h0 h1 h2)⟩⟩
/-- tuple(list), whose object is known -/
theorem call_tuple_ofX : CallR X (.type "tuple") (fun xs H Q => ∃ p ys, xs = [.ref p] ∧ SqL X.K H p ys ∧ ∀ l, H l = none → ∀ o : Obj, o.dict = none → Q (.ref l) (upd H l (.frz o (.tup ys)))) := by
  intro pins s σ H xs us Q I r h
  obtain ⟨p, ys, rfl, hq, q⟩ := h
  obtain ⟨u, rfl, rx⟩ := vals1 r
  cases rx
  obtain ⟨its, r', pl, hz⟩ := I.list hq
  have hlen := r'.length
  refine call_tuple_list pl.isList (fun h' kp => ?_) (by simp only [List.size_toArray] <;> omega)
  have I1 : Inv X pins σ H { s with heap := h' } := I.kept (t' := s.toks) kp
  have I2 : Inv X pins σ (upd H h'.objs.size (.frz { cls := .type "tuple", data := .seq its.toArray } (.tup ys))) { s with heap := h'.push { cls := .type "tuple", data := .seq its.toArray } } :=
    I1.laid (t' := s.toks) (fun b o e => Heap.get?_push_of_some _ e) (Nat.le_refl _) (show ObjOk X.prog X.w _ _ _ (.frz _ (.tup ys)) from ⟨Heap.get?_push_size _ rfl, hz, its, r', IsTup.new _ _⟩)
  exact ⟨.ref h'.objs.size, _, I2, rfl, q _ (I1.hok.fresh (Nat.le_refl _)) _ rfl⟩
theorem de_tupX (hm : X.mg "tuple" = none) (ha : DR X C a f) (hg : Gl X "tuple" := by rfl) (hs : starEach [a] X.env = (false, eval a X.env) :: starEach [] X.env := by rfl) :
    DE X C (.Call (.Name "tuple" p) [a] [] pos) (fun env d => ∃ ts, f env (.lst ts) ∧ d = .xtp ts) := by
  obtain ⟨ta, pa, ka⟩ := ha
  refine ⟨_, pe_callTy call_tuple_ofX hg hm PyProof.Rows.boot_tuple (pa_cons pa pa_nil hs) (he := hs), fun env d q φ σ H Q F z => ?_⟩
  obtain ⟨ts, q1, rfl⟩ := q
  refine ka env _ q1 φ σ H _ F fun v H1 e1 r1 => ?_
  obtain ⟨p, xs, rfl, h1, h2⟩ := r1.listOf
  exact ⟨p, xs, rfl, .of h1, fun q hq o ho => z _ _ (e1.trans (Ex.new hq)) (.xtp (F.fresh q (e1.back hq)) ho upd_same (h2.ex (Ex.new hq)))⟩
/-- tuple(such a tuple): itself -/
theorem de_tupXX (hm : X.mg "tuple" = none) (ha : DE X C a f) (hg : Gl X "tuple" := by rfl) (hs : starEach [a] X.env = (false, eval a X.env) :: starEach [] X.env := by rfl) :
    DE X C (.Call (.Name "tuple" p) [a] [] pos) (fun env d => ∃ ts, f env d ∧ (d = .tup ts ∨ d = .xtp ts)) := by
  obtain ⟨ta, pa, ka⟩ := ha
  refine ⟨_, pe_callTy call_tuple_of hg hm PyProof.Rows.boot_tuple (pa_cons pa pa_nil hs) (he := hs), fun env d q φ σ H Q F z => ?_⟩
  obtain ⟨ts, q1, q2⟩ := q
  refine ka env _ q1 φ σ H _ F fun v H1 e1 r1 => ?_
  have r1' := r1
  rcases q2 with rfl | rfl
  · cases r1 with
    | tup h0 h1 h2 => exact ⟨_, _, rfl, .inr ⟨.of h1, z _ H1 e1 r1'⟩⟩
  · cases r1 with
    | xtp h0 hd h1 h2 => exact ⟨_, _, rfl, .inr ⟨.inl (.inr ⟨_, h1⟩), z _ H1 e1 r1'⟩⟩
theorem df_list (hm : X.mg "list" = none) (ha : DR X C a f) (hg : Gl X "list" := by rfl) (hs : starEach [a] X.env = (false, eval a X.env) :: starEach [] X.env := by rfl) :
    DF X C (.Call (.Name "list" p) [a] [] pos) (fun env r => ∃ s, f env s ∧ s.sq = some r) := by
  obtain ⟨ta, pa, ka⟩ := ha
  refine ⟨_, pe_callTy call_list_of hg hm PyProof.Rows.boot_list (pa_cons pa pa_nil hs) (he := hs), fun env d q φ σ H Q F z => ?_⟩
  obtain ⟨s, q1, q2⟩ := q
  refine ka env _ q1 φ σ H _ F fun v H1 e1 r1 => ?_
  obtain ⟨p, xs, rfl, h1, h2⟩ := r1.seq q2
  refine ⟨p, xs, rfl, h1.imp .of TupAt.sq, fun q hq => z q _ _ (e1.trans (Ex.new hq)) (e1.back hq) upd_same ((h2.but hq).ex (Ex.new hq))⟩
/-! ### ranges -/
def rngD (n : Int) : List Dt := (List.range n.toNat).map fun i => Dt.int (i : Nat)
theorem rgV_0 (n : Int) : rgV 0 n = (List.range n.toNat).map fun i => V.int ((i : Nat) : Int) := by
  unfold rgV
  rw [Int.sub_zero]
  exact List.map_congr_left fun i _ => by rw [Int.zero_add]
theorem rs_rng {K : PySem.W.Frag} {H : Hp} {P : Addr → Prop} (n : Int) : RsL K C H P (rgV 0 n) (rngD n) := by
  rw [rgV_0]
  have z := RsL.ints (K := K) (C := C) (H := H) (P := P) ((List.range n.toNat).map fun i => ((i : Nat) : Int))
  rw [List.map_map, List.map_map] at z
  exact z
theorem de_tupRg (hc : X.calm = true) (hm : X.mg "tuple" = none) (hr : X.mg "range" = none) (ha : DE X C a f) {p3 : Pos} (hg : Gl X "tuple" := by rfl) (hg2 : Gl X "range" := by rfl) (hs : starEach [a] X.env = (false, eval a X.env) :: starEach [] X.env := by rfl)
    (na : starEach [Expr.Call (.Name "range" p2) [a] [] p3] X.env = (false, eval (.Call (.Name "range" p2) [a] [] p3) X.env) :: starEach [] X.env := by rfl) :
    DE X C (.Call (.Name "tuple" p) [.Call (.Name "range" p2) [a] [] p3] [] pos) (fun env d => ∃ n, f env (.int n) ∧ 0 ≤ n ∧ n ≤ 100000 ∧ d = .tup (rngD n)) := by
  obtain ⟨ta, pa, ka⟩ := ha
  refine ⟨_, pe_tupRg hc hg hm (prg_1 hg2 hr pa hs) na, fun env d q φ σ H Q F z => ?_⟩
  obtain ⟨n, q1, q2, q3, rfl⟩ := q
  refine ka env _ q1 φ σ H _ F fun v H1 e1 r1 => ?_
  cases r1
  exact ⟨n, rfl, .of_le (by omega) (by omega) (by omega) (by omega), fun q hq => z _ _ (e1.trans (Ex.new hq)) (.tup (F.fresh q (e1.back hq)) upd_same (rs_rng n))⟩
theorem df_listRg (hc : X.calm = true) (hm : X.mg "list" = none) (hr : X.mg "range" = none) (ha : DE X C a f) {p3 : Pos} (hg : Gl X "list" := by rfl) (hg2 : Gl X "range" := by rfl) (hs : starEach [a] X.env = (false, eval a X.env) :: starEach [] X.env := by rfl)
    (na : starEach [Expr.Call (.Name "range" p2) [a] [] p3] X.env = (false, eval (.Call (.Name "range" p2) [a] [] p3) X.env) :: starEach [] X.env := by rfl) :
    DF X C (.Call (.Name "list" p) [.Call (.Name "range" p2) [a] [] p3] [] pos) (fun env r => ∃ n, f env (.int n) ∧ 0 ≤ n ∧ n ≤ 100000 ∧ r = rngD n) := by
  obtain ⟨ta, pa, ka⟩ := ha
  refine ⟨_, pe_listRg hc hg hm (prg_1 hg2 hr pa hs) na, fun env d q φ σ H Q F z => ?_⟩
  obtain ⟨n, q1, q2, q3, rfl⟩ := q
  refine ka env _ q1 φ σ H _ F fun v H1 e1 r1 => ?_
  cases r1
  exact ⟨n, rfl, .of_le (by omega) (by omega) (by omega) (by omega), fun q hq => z q _ _ (e1.trans (Ex.new hq)) (e1.back hq) upd_same (rs_rng n)⟩
/-! ### sorted, all, set -/
theorem df_sorted (hm : X.mg "sorted" = none) (ha : DR X C a f) (hg : Gl X "sorted" := by rfl) (hs : starEach [a] X.env = (false, eval a X.env) :: starEach [] X.env := by rfl) :
    DF X C (.Call (.Name "sorted" p) [a] [] pos) (fun env r => ∃ ns ms : List Int, f env (.lst (ns.map .int)) ∧ ms.Perm ns ∧ ms.Pairwise (· ≤ ·) ∧ r = ms.map .int) := by
  obtain ⟨ta, pa, ka⟩ := ha
  refine ⟨_, pe_callB cr_sortedI hg hm PyProof.Rows.boot_sorted (pa_cons pa pa_nil hs) (he := hs), fun env d q φ σ H Q F z => ?_⟩
  obtain ⟨ns, ms, q1, q2, q3, rfl⟩ := q
  refine ka env _ q1 φ σ H _ F fun v H1 e1 r1 => ?_
  obtain ⟨p, xs, rfl, h1, h2⟩ := r1.listOf
  obtain rfl := h2.of_ints
  refine ⟨p, ns, rfl, .of h1, fun ns' q pm so hq => ?_⟩
  have e : ns' = ms := PySem.W.ksm_same (pm.trans q2.symm) so q3
  subst e
  exact z q _ _ (e1.trans (Ex.new hq)) (e1.back hq) upd_same (.ints ns')
theorem RsL.perm {K : PySem.W.Frag} {H : Hp} {P : Addr → Prop} {ys xs : List V} (p : ys.Perm xs) : ∀ {ts : List Dt}, RsL K C H P xs ts → ∃ us, us.Perm ts ∧ RsL K C H P ys us := by
  induction p with
  | nil => exact fun h => ⟨_, .refl _, h⟩
  | cons x p ih =>
    intro ts h
    cases h with
    | cons r t =>
      obtain ⟨us, h1, h2⟩ := ih t
      exact ⟨_, h1.cons _, .cons r h2⟩
  | swap x y l =>
    intro ts h
    cases h with
    | cons r t =>
      cases t with
      | cons r' t => exact ⟨_, .swap _ _ _, .cons r' (.cons r t)⟩
  | trans p q ih1 ih2 =>
    intro ts h
    obtain ⟨us, h1, h2⟩ := ih2 h
    obtain ⟨ws, h3, h4⟩ := ih1 h2
    exact ⟨ws, h3.trans h1, h4⟩
def tI (ns : List Int) : Dt := .tup (ns.map .int)
def lI (ns : List Int) : Dt := .lst (ns.map .int)
theorem code_bd {B : Int} : ∀ {ns : List Int}, TS.Bd B ns → 0 ≤ TS.code B ns ∧ TS.code B ns < B ^ ns.length
  | [], _ => by
    show (0 : Int) ≤ 0 ∧ (0 : Int) < B ^ 0
    simp
  | d :: r, h => by
    obtain ⟨h1, h2⟩ := code_bd (ns := r) h.tail
    obtain ⟨h3, h4⟩ := h.head
    have z := TS.num1 h1 h2 h3 h4
    show 0 ≤ d * B ^ r.length + TS.code B r ∧ d * B ^ r.length + TS.code B r < B ^ (r.length + 1)
    rw [Int.pow_succ]
    exact z
theorem code_inj {B : Int} : ∀ {ns ms : List Int}, TS.Bd B ns → TS.Bd B ms → ns.length = ms.length → TS.code B ns = TS.code B ms → ns = ms
  | [], [], _, _, _, _ => rfl
  | [], _ :: _, _, _, h, _ => by cases h
  | _ :: _, [], _, _, h, _ => by cases h
  | d :: r, d' :: r', h1, h2, hl, he => by
    have hl' : r.length = r'.length := Nat.succ.inj hl
    obtain ⟨a1, a2⟩ := code_bd h1.tail
    obtain ⟨b1, b2⟩ := code_bd h2.tail
    have he' : d * B ^ r.length + TS.code B r = d' * B ^ r'.length + TS.code B r' := he
    rw [← hl'] at he' b2
    have hp : (0 : Int) < B ^ r.length := by omega
    have hd : d = d' := by
      have e1 : (d * B ^ r.length + TS.code B r) / B ^ r.length = d := by
        rw [Int.add_comm, Int.add_mul_ediv_right _ _ (by omega), Int.ediv_eq_zero_of_lt a1 a2, Int.zero_add]
      have e2 : (d' * B ^ r.length + TS.code B r') / B ^ r.length = d' := by
        rw [Int.add_comm, Int.add_mul_ediv_right _ _ (by omega), Int.ediv_eq_zero_of_lt b1 b2, Int.zero_add]
      rw [← e1, he', e2]
    subst hd
    rw [code_inj h1.tail h2.tail hl' (by omega)]
theorem tI_rs {K : PySem.W.Frag} {H : Hp} {P : Addr → Prop} {v : V} {ns : List Int} (h : Rs K C H P v (tI ns)) : TupI K H v ns := by
  cases h with
  | tup p e r =>
    obtain rfl := r.of_ints
    exact ⟨_, rfl, .of e⟩
/-- sorted(a list of tuples of d ints from 0 below B, fewer than 64 of them) -/
theorem cr_sortTE : CallR X (.builtin "sorted") (fun vs H Q => ∃ (d : Nat) (B : Int), 1 ≤ d ∧ rSortU X.K d B vs H Q) := by
  intro pins s σ H vs us Q I r h
  obtain ⟨d, B, hd, h⟩ := h
  exact cr_sortT (B := B) hd pins s σ H vs us Q I r h
theorem df_sortedT (hm : X.mg "sorted" = none) (ha : DR X C a f) (hg : Gl X "sorted" := by rfl) (hs : starEach [a] X.env = (false, eval a X.env) :: starEach [] X.env := by rfl) :
    DF X C (.Call (.Name "sorted" p) [a] [] pos) (fun env r => ∃ (d : Nat) (B : Int) (ns ms : List (List Int)), 1 ≤ d ∧ f env (.lst (ns.map tI)) ∧ ns.length < 64 ∧ (∀ n ∈ ns, n.length = d ∧ TS.Bd B n) ∧ ms.Perm ns ∧ ms.Pairwise (fun n m => TS.code B n ≤ TS.code B m) ∧ r = ms.map tI) := by
  obtain ⟨ta, pa, ka⟩ := ha
  refine ⟨_, pe_callB cr_sortTE hg hm PyProof.Rows.boot_sorted (pa_cons pa pa_nil hs) (he := hs), fun env d q φ σ H Q F z => ?_⟩
  obtain ⟨d, B, ns, ms, hd, q1, q64, qb, q2, q3, rfl⟩ := q
  refine ka env _ q1 φ σ H _ F fun v H1 e1 r1 => ?_
  obtain ⟨p, xs, rfl, h1, h2⟩ := r1.listOf
  have hin : ∀ x ∈ xs, ∃ n ∈ ns, Rs X.K C H1 φ.P x (tI n) := fun x hx => by
    obtain ⟨i, hi⟩ := List.mem_iff_getElem?.mp hx
    obtain ⟨t, e2, r2⟩ := h2.getV hi
    rw [List.getElem?_map] at e2
    cases q : ns[i]? with
    | none =>
      rw [q] at e2
      cases e2
    | some n =>
      rw [q] at e2
      cases e2
      exact ⟨n, List.mem_of_getElem? q, r2⟩
  refine ⟨d, B, hd, p, xs, rfl, .of h1, by rw [h2.length, List.length_map]; exact q64, fun x hx => ?_, fun ys q pm so hq => ?_⟩
  · obtain ⟨n, hn, r⟩ := hin x hx
    exact ⟨n, tI_rs r, (qb n hn).1, (qb n hn).2⟩
  · obtain ⟨us, u1, u2⟩ := h2.perm pm
    obtain ⟨ms', rfl, pm'⟩ : ∃ ms' : List (List Int), us = ms'.map tI ∧ ms'.Perm ns := by
      have z : ∀ {us ts : List Dt}, us.Perm ts → ∀ ns : List (List Int), ts = ns.map tI → ∃ ms : List (List Int), us = ms.map tI ∧ ms.Perm ns := by
        intro us ts p
        induction p with
        | nil =>
          intro ns e
          have : ns = [] := by
            cases ns with
            | nil => rfl
            | cons _ _ => cases e
          subst this
          exact ⟨[], rfl, .refl _⟩
        | cons x p ih =>
          intro ns e
          cases ns with
          | nil => cases e
          | cons n ns =>
            rw [List.map_cons] at e
            injection e with e1 e2
            obtain ⟨ms, h1, h2⟩ := ih ns e2
            exact ⟨n :: ms, by rw [h1, e1] <;> rfl, h2.cons n⟩
        | swap x y l =>
          intro ns e
          cases ns with
          | nil => cases e
          | cons n ns =>
            cases ns with
            | nil => cases e
            | cons m ns =>
              simp only [List.map_cons, List.cons.injEq] at e
              exact ⟨m :: n :: ns, by simp [e], .swap _ _ _⟩
        | trans p q ih1 ih2 =>
          intro ns e
          obtain ⟨ms, h1, h2⟩ := ih2 ns e
          obtain ⟨ks, h3, h4⟩ := ih1 ms h1
          exact ⟨ks, h3, h4.trans h2⟩
      exact z u1 ns rfl
    have so' : ms'.Pairwise (fun n m => TS.code B n ≤ TS.code B m) := by
      rw [List.pairwise_iff_getElem] at so ⊢
      intro i j hi hj hij
      have l := u2.length
      rw [List.length_map] at l
      have g1 : (ms'.map tI)[i]? = some (tI ms'[i]) := by rw [List.getElem?_map, List.getElem?_eq_getElem hi] <;> rfl
      have g2 : (ms'.map tI)[j]? = some (tI ms'[j]) := by rw [List.getElem?_map, List.getElem?_eq_getElem hj] <;> rfl
      obtain ⟨x, x1, x2⟩ := u2.get g1
      obtain ⟨y, y1, y2⟩ := u2.get g2
      have k := so i j (by omega) (by omega) hij
      have ex : ys[i]'(by omega) = x := (List.getElem?_eq_some_iff.mp x1).2
      have ey : ys[j]'(by omega) = y := (List.getElem?_eq_some_iff.mp y1).2
      rw [ex, ey] at k
      exact k _ _ (tI_rs x2) (tI_rs y2)
    have e : ms' = ms := (pm'.trans q2.symm).eq_of_pairwise (fun x y hx hy h1 h2 => by
      have bx := qb x (pm'.mem_iff.mp hx)
      have by_ := qb y (q2.mem_iff.mp hy)
      exact code_inj bx.2 by_.2 (bx.1.trans by_.1.symm) (Int.le_antisymm h1 h2)) so' q3
    subst e
    exact z q ys _ (e1.trans (Ex.new hq)) (e1.back hq) upd_same ((u2.but hq).ex (Ex.new hq))
theorem de_all (hc : X.calm = true) (hm : X.mg "all" = none) (ha : DR X C a f) (hg : Gl X "all" := by rfl) (hs : starEach [a] X.env = (false, eval a X.env) :: starEach [] X.env := by rfl) :
    DE X C (.Call (.Name "all" p) [a] [] pos) (fun env d => ∃ bs : List Bool, f env (.lst (bs.map .bl)) ∧ d = .bl (bs.all id)) := by
  obtain ⟨ta, pa, ka⟩ := ha
  refine ⟨_, pe_callB (cr_all hc) hg hm PyProof.Rows.boot_all (pa_cons pa pa_nil hs) (he := hs), fun env d q φ σ H Q F z => ?_⟩
  obtain ⟨ns, q1, rfl⟩ := q
  refine ka env _ q1 φ σ H _ F fun v H1 e1 r1 => ?_
  obtain ⟨p, xs, rfl, h1, h2⟩ := r1.listOf
  obtain rfl := h2.of_bls
  exact ⟨p, ns, rfl, .of h1, z _ H1 e1 (.bl _)⟩
/-- len(set(a list of different ints)) -/
theorem de_lenSet {p3 : Pos} (hc : X.calm = true) (hm : X.mg "len" = none) (hm2 : X.mg "set" = none) (ha : DE X C a f) (hg : Gl X "len" := by rfl) (hg2 : Gl X "set" := by rfl)
    (na : starEach [a] X.env = (false, eval a X.env) :: starEach [] X.env := by rfl) :
    DE X C (.Call (.Name "len" p) [.Call (.Name "set" p2) [a] [] p3] [] pos) (fun env d => ∃ ns : List Int, f env (lI ns) ∧ ns.length < 64 ∧ ns.Nodup ∧ d = .int ns.length) := by
  obtain ⟨ta, pa, ka⟩ := ha
  refine ⟨_, pe_lenSetI hc hg hm hg2 hm2 pa na, fun env d q φ σ H Q F z => ?_⟩
  obtain ⟨ns, q1, q2, q3, rfl⟩ := q
  refine ka env _ q1 φ σ H _ F fun v H1 e1 r1 => ?_
  cases r1 with
  | lst h0 h1 h2 =>
    obtain rfl := h2.of_ints
    exact ⟨_, ns, rfl, .of h1, q2, q3, z _ H1 e1 (.int _)⟩
/-! ### abs, int, min, max -/
theorem de_abs (hm : X.mg "abs" = none) (ha : DE X C a f) (hg : Gl X "abs" := by rfl) (hs : starEach [a] X.env = (false, eval a X.env) :: starEach [] X.env := by rfl) :
    DE X C (.Call (.Name "abs" p) [a] [] pos) (f1I f fun i d => d = .int (if i < 0 then -i else i)) := by
  obtain ⟨ta, pa, ka⟩ := ha
  refine ⟨_, pe_callB call_abs hg hm PyProof.Rows.boot_abs (pa_cons pa pa_nil hs) (he := hs), fun env d q φ σ H Q F z => ?_⟩
  obtain ⟨i, q1, rfl⟩ := q
  refine ka env _ q1 φ σ H _ F fun v H1 e1 r1 => ?_
  cases r1
  exact ⟨i, rfl, z _ H1 e1 (.int _)⟩
theorem de_toInt (hm : X.mg "int" = none) (ha : DE X C a f) (hg : Gl X "int" := by rfl) (hs : starEach [a] X.env = (false, eval a X.env) :: starEach [] X.env := by rfl) :
    DE X C (.Call (.Name "int" p) [a] [] pos) (f1I f fun i d => d = .int i) := by
  obtain ⟨ta, pa, ka⟩ := ha
  refine ⟨_, pe_callTy call_int1 hg hm PyProof.Rows.boot_int (pa_cons pa pa_nil hs) (he := hs), fun env d q φ σ H Q F z => ?_⟩
  obtain ⟨i, q1, rfl⟩ := q
  refine ka env _ q1 φ σ H _ F fun v H1 e1 r1 => ?_
  cases r1
  exact .inl ⟨i, rfl, z _ H1 e1 (.int _)⟩
theorem de_max (hc : X.calm = true) (hm : X.mg "max" = none) (ha : DE X C a f) (hb : DE X C b g) (hg : Gl X "max" := by rfl) (hs : starEach [a, b] X.env = (false, eval a X.env) :: starEach [b] X.env := by rfl) (hs2 : starEach [b] X.env = (false, eval b X.env) :: starEach [] X.env := by rfl) :
    DE X C (.Call (.Name "max" p) [a, b] [] pos) (f2I f g fun i j d => d = .int (if j > i then j else i)) := by
  obtain ⟨ta, pa, ka⟩ := ha
  obtain ⟨tb, pb, kb⟩ := hb
  refine ⟨_, pe_callB (call_max2 hc) hg hm PyProof.Rows.boot_max (pa_cons pa (pa_cons pb pa_nil hs2) hs) (he := hs) (hpl := by rw [hs2] <;> rfl), fun env d q φ σ H Q F z => ?_⟩
  obtain ⟨i, j, q1, q2, rfl⟩ := q
  refine ka env _ q1 φ σ H _ F fun v H1 e1 r1 => kb env _ q2 φ σ H1 _ (F.ex e1) fun u H2 e2 r2 => ?_
  cases r1
  cases r2
  exact ⟨i, j, rfl, z _ H2 (e1.trans e2) (.int _)⟩
theorem de_min (hc : X.calm = true) (hm : X.mg "min" = none) (ha : DE X C a f) (hb : DE X C b g) (hg : Gl X "min" := by rfl) (hs : starEach [a, b] X.env = (false, eval a X.env) :: starEach [b] X.env := by rfl) (hs2 : starEach [b] X.env = (false, eval b X.env) :: starEach [] X.env := by rfl) :
    DE X C (.Call (.Name "min" p) [a, b] [] pos) (f2I f g fun i j d => d = .int (if j < i then j else i)) := by
  obtain ⟨ta, pa, ka⟩ := ha
  obtain ⟨tb, pb, kb⟩ := hb
  refine ⟨_, pe_callB (call_min2 hc) hg hm PyProof.Rows.boot_min (pa_cons pa (pa_cons pb pa_nil hs2) hs) (he := hs) (hpl := by rw [hs2] <;> rfl), fun env d q φ σ H Q F z => ?_⟩
  obtain ⟨i, j, q1, q2, rfl⟩ := q
  refine ka env _ q1 φ σ H _ F fun v H1 e1 r1 => kb env _ q2 φ σ H1 _ (F.ex e1) fun u H2 e2 r2 => ?_
  cases r1
  cases r2
  exact ⟨i, j, rfl, z _ H2 (e1.trans e2) (.int _)⟩
/-! ### in -/
theorem inV_ints {i : Int} : ∀ ns : List Int, inV (.int i) (ns.map V.int) = decide (i ∈ ns)
  | [] => rfl
  | n :: r => by
    have ih := inV_ints (i := i) r
    unfold inV at ih ⊢
    rw [List.map_cons, List.any_cons, ih]
    show ((n == i) || decide (i ∈ r)) = decide (i ∈ n :: r)
    by_cases h : n = i
    · subst h
      simp
    · have h' : ¬ i = n := fun q => h q.symm
      simp [h, h']
theorem flat_intsV : ∀ ns : List Int, (ns.map V.int).all flatV = true
  | [] => rfl
  | n :: r => by
    rw [List.map_cons, List.all_cons, flat_intsV r]
    rfl
abbrev fIn (f g : En → Dt → Prop) (k : Bool → Dt) : En → Dt → Prop := fun env d => ∃ (i : Int) (s : Dt) (ns : List Int), f env (.int i) ∧ g env s ∧ s.sq = some (ns.map .int) ∧ d = k (decide (i ∈ ns))
theorem de_in (ha : DE X C a f) (hb : DR X C b g) (hm : behindInMarks .In b = false := by rfl) : DE X C (.Compare a [.In] [b] pos) (fIn f g fun r => .bl r) := by
  obtain ⟨ta, pa, ka⟩ := ha
  obtain ⟨tb, pb, kb⟩ := hb
  refine ⟨_, pe_cmpR op_in_seq pa pb hm, fun env d q φ σ H Q F z => ?_⟩
  obtain ⟨i, s, ns, q1, q2, q3, rfl⟩ := q
  refine ka env _ q1 φ σ H _ F fun v H1 e1 r1 => kb env _ q2 φ σ H1 _ (F.ex e1) fun u H2 e2 r2 => ?_
  cases r1
  obtain ⟨p, xs, rfl, h1, h2⟩ := r2.seq q3
  obtain rfl := h2.of_ints
  have k := z _ H2 (e1.trans e2) (.bl (decide (i ∈ ns)))
  rw [← inV_ints] at k
  exact ⟨p, _, rfl, h1.imp .of TupAt.sq, rfl, flat_intsV ns, k⟩
theorem db_in (ha : DE X C a f) (hb : DR X C b g) (hm : behindInMarks .In b = false := by rfl) : DB X C (.Compare a [.In] [b] pos) (fun env r => ∃ (i : Int) (s : Dt) (ns : List Int), f env (.int i) ∧ g env s ∧ s.sq = some (ns.map .int) ∧ r = decide (i ∈ ns)) := by
  obtain ⟨ta, pa, ka⟩ := ha
  obtain ⟨tb, pb, kb⟩ := hb
  refine ⟨_, pt_cmpR op_in_seq pa pb hm, fun env d q φ σ H Q F z => ?_⟩
  obtain ⟨i, s, ns, q1, q2, q3, rfl⟩ := q
  refine ka env _ q1 φ σ H _ F fun v H1 e1 r1 => kb env _ q2 φ σ H1 _ (F.ex e1) fun u H2 e2 r2 => ?_
  cases r1
  obtain ⟨p, xs, rfl, h1, h2⟩ := r2.seq q3
  obtain rfl := h2.of_ints
  have k := z H2 (e1.trans e2)
  rw [← inV_ints] at k
  exact ⟨p, _, rfl, h1.imp .of TupAt.sq, rfl, flat_intsV ns, _, rfl, k⟩
theorem db_notIn (ha : DE X C a f) (hb : DR X C b g) (hm : behindInMarks .NotIn b = false := by rfl) : DB X C (.Compare a [.NotIn] [b] pos) (fun env r => ∃ (i : Int) (s : Dt) (ns : List Int), f env (.int i) ∧ g env s ∧ s.sq = some (ns.map .int) ∧ r = !decide (i ∈ ns)) := by
  obtain ⟨ta, pa, ka⟩ := ha
  obtain ⟨tb, pb, kb⟩ := hb
  refine ⟨_, pt_cmpR op_notIn_seq pa pb hm, fun env d q φ σ H Q F z => ?_⟩
  obtain ⟨i, s, ns, q1, q2, q3, rfl⟩ := q
  refine ka env _ q1 φ σ H _ F fun v H1 e1 r1 => kb env _ q2 φ σ H1 _ (F.ex e1) fun u H2 e2 r2 => ?_
  cases r1
  obtain ⟨p, xs, rfl, h1, h2⟩ := r2.seq q3
  obtain rfl := h2.of_ints
  have k := z H2 (e1.trans e2)
  rw [← inV_ints] at k
  exact ⟨p, _, rfl, h1.imp .of TupAt.sq, rfl, flat_intsV ns, _, rfl, k⟩
/-! ### 0 <= x < n -/
theorem de_chain {op op' : CmpOp} {h h' : Int → Int → Bool} {c : Expr} {k : En → Dt → Prop} (ho : OpR X (compareOp op) (rI0 fun i j => .bl (h i j))) (ho' : OpR X (compareOp op') (rI0 fun i j => .bl (h' i j)))
    (ha : DE X C a f) (hb : DE X C b g) (hc : DE X C c k) (hm : lastMarks [op, op'] [b, c] = false := by with_unfolding_all rfl) :
    DE X C (.Compare a [op, op'] [b, c] pos) (fun env d => ∃ i j l, f env (.int i) ∧ g env (.int j) ∧ k env (.int l) ∧ d = .bl (h i j && h' j l)) := by
  obtain ⟨ta, pa, ka⟩ := ha
  obtain ⟨tb, pb, kb⟩ := hb
  obtain ⟨tc, pc, kc⟩ := hc
  refine ⟨_, pe_chain ho ho' pa pb pc hm, fun env d q φ σ H Q F z => ?_⟩
  obtain ⟨i, j, l, q1, q2, q3, rfl⟩ := q
  refine ka env _ q1 φ σ H _ F fun v H1 e1 r1 => kb env _ q2 φ σ H1 _ (F.ex e1) fun u H2 e2 r2 => ?_
  cases r1
  cases r2
  refine ⟨i, j, rfl, rfl, _, rfl, ?_⟩
  cases q : h i j with
  | true =>
    refine iteT (kc env _ q3 φ σ H2 _ (F.ex (e1.trans e2)) fun w H3 e3 r3 => ?_)
    cases r3
    refine ⟨j, l, rfl, rfl, ?_⟩
    have k := z _ H3 ((e1.trans e2).trans e3) (.bl (h i j && h' j l))
    rw [q, Bool.true_and] at k
    exact k
  | false =>
    refine iteF ?_
    have k := z _ H2 (e1.trans e2) (.bl (h i j && h' j l))
    rw [q, Bool.false_and] at k
    exact k
theorem db_chain {op op' : CmpOp} {h h' : Int → Int → Bool} {c : Expr} {k : En → Dt → Prop} (ho : OpR X (compareOp op) (rI0 fun i j => .bl (h i j))) (ho' : OpR X (compareOp op') (rI0 fun i j => .bl (h' i j)))
    (ha : DE X C a f) (hb : DE X C b g) (hc : DE X C c k) (hm : lastMarks [op, op'] [b, c] = false := by with_unfolding_all rfl) :
    DB X C (.Compare a [op, op'] [b, c] pos) (fun env r => ∃ i j l, f env (.int i) ∧ g env (.int j) ∧ k env (.int l) ∧ r = (h i j && h' j l)) := by
  obtain ⟨ta, pa, ka⟩ := ha
  obtain ⟨tb, pb, kb⟩ := hb
  obtain ⟨tc, pc, kc⟩ := hc
  refine ⟨_, pt_chain ho ho' pa pb pc hm, fun env d q φ σ H Q F z => ?_⟩
  obtain ⟨i, j, l, q1, q2, q3, rfl⟩ := q
  refine ka env _ q1 φ σ H _ F fun v H1 e1 r1 => kb env _ q2 φ σ H1 _ (F.ex e1) fun u H2 e2 r2 => ?_
  cases r1
  cases r2
  refine ⟨i, j, rfl, rfl, _, rfl, ?_⟩
  cases q : h i j with
  | true =>
    refine iteT (kc env _ q3 φ σ H2 _ (F.ex (e1.trans e2)) fun w H3 e3 r3 => ?_)
    cases r3
    refine ⟨j, l, rfl, rfl, _, rfl, ?_⟩
    have k := z H3 ((e1.trans e2).trans e3)
    rw [q, Bool.true_and] at k
    exact k
  | false =>
    refine iteF ⟨_, rfl, ?_⟩
    have k := z H2 (e1.trans e2)
    rw [q, Bool.false_and] at k
    exact k
end
end CM
set_option Elab.async false
set_option linter.all false
set_option maxRecDepth 100000
set_option maxHeartbeats 1000000
/-! The data layer: calls, attributes, what is walked, comprehensions. -/
namespace CM
open PySem PySem.Spec PyProof.Rows L2
/-! ### promises -/
/-- called with values that stand for the trees ds, it hands back a value that stands for r: R ds r; all that was tracked stands. fl: which arguments may be lists of the caller's own -/
def spD (K : PySem.W.Frag) (C : Addr) (fl : List Bool) (R : List Dt → Dt → Prop) : Sp := fun vs H Q _ => ∃ (P : Addr → Prop) (ds : List Dt) (r : Dt), (∀ b, H b = none → P b) ∧ ArgsOk K C H P fl vs ds ∧ R ds r ∧ ∀ v H', Ex H H' → Rs K C H' P v r → Q v H'
section
variable (P : Program) (w : World) (K : PySem.W.Frag) (mg : Str → Option Value) (base : Heap) (C : Addr)
/-- a def of the module -/
def Fn (x : Str) (k : Nat) (fl : List Bool) (R : List Dt → Dt → Prop) : Prop := ∃ f : Addr, mg x = some (.ref f) ∧ PySem.W.keepIn K (.ref f) = true ∧ FnR P w K mg base CX0 k f (spD K C fl R)
/-- a method of the class at C -/
def Mn (m : Str) (k : Nat) (fl : List Bool) (R : List Dt → Dt → Prop) : Prop := ∃ f : Addr, Meth K C m f ∧ FnR P w K mg base CX0 k f (spD K C fl R)
end
section
variable {X : Cx} {C : Addr} {a b e o : Expr} {es : List Expr} {pos p p2 apos : Pos} {f g : En → Dt → Prop} {k : Nat} {fl : List Bool} {R : List Dt → Dt → Prop} {x m : Str} {sp : Sp} {fa : Addr} {t : TA} {ta : TE}
theorem pe_callF (F : FnR X.prog X.w X.K X.mg X.base CX0 k fa sp) (hr : Room k X.A) (hg : Gl X x) (hm : X.mg x = some (.ref fa)) (hk : PySem.W.keepIn X.K (.ref fa) = true)
    (ha : PA X (e :: es) t) (hdb : (x == ("__debug__" : Str)) = false) (he : starEach (e :: es) X.env = (false, eval e X.env) :: starEach es X.env) (hpl : (backTo pos (starEach es X.env)).any (·.1) = false) :
    PE X (.Call (.Name x p) (e :: es) [] pos) (fun σ H Q => t σ H fun vs H1 => sp vs H1 Q E0) := by
  refine ⟨fun pins s σ H Q I h => ?_⟩
  refine wpAny_Call_Name_kw (ld_glob I hg hm ?_ hdb)
  refine PySem.W.callWith_K (h₀ := X.base) I.ok.mod.kin hk (thn (ha.run pos pins s σ H _ I h) fun us s1 ⟨vs, H1, I1, r, q⟩ => ⟨I1.kIn, ?_⟩) he hpl
  exact wpAny_call (run_fnR F hr pass0 I1 r q)
theorem pe_methF {pl : Sem Bool} (he : PE X o ta) (c : Cls X.K C) (hm : Meth X.K C m fa) (F : FnR X.prog X.w X.K X.mg X.base CX0 k fa sp) (hr : Room k X.A) (ha : PA X (e :: es) t)
    (hst : starEach (e :: es) X.env = (false, eval e X.env) :: starEach es X.env) (hpl : (backTo pos (starEach es X.env)).any (·.1) = false)
    (ht : eval (.Call (.Attribute o m apos) (e :: es) [] pos) X.env = (do
      let ov ← eval o X.env
      standAt apos.atName
      let (f, first) ← holding [ov] (getMethod ov m pl)
      callWith pos f first (backTo pos (starEach (e :: es) X.env)) (backToKw pos (keywordEach [] X.env)))) :
    PE X (.Call (.Attribute o m apos) (e :: es) [] pos) (fun σ H Q => ta σ H fun x H1 => ∃ a dx fs, x = .ref a ∧ H1 a = some (.ins C dx fs) ∧ fs.lookup m = none ∧ t σ H1 fun vs H2 => sp (x :: vs) H2 Q E0) := by
  refine ⟨fun pins s σ H Q I h => ?_⟩
  refine PySem.W.methodCall_KW (pl := pl) (thn (he.run pins s σ H _ I h) fun u s1 ⟨x, H1, I1, rx, a, dx, fs, ex, ea, l, q⟩ => ?_) ht
  subst ex
  obtain rfl : u = Value.ref a := rx
  refine getmeth_ok I1 ea c hm l ?_
  refine PySem.W.callWith_K (first := [.ref a]) (h₀ := X.base) I.ok.mod.kin hm.kp (thn (ha.run pos pins s1 σ H1 _ I1 q) fun us s2 ⟨vs, H2, I2, r, q2⟩ => ⟨I2.kIn, ?_⟩) hst hpl
  exact wpAny_call (run_fnR (us := .ref a :: us) (vs := .ref a :: vs) F hr pass0 I2 (.cons rfl r) q2)
abbrev fCall (R : List Dt → Dt → Prop) (g : En → List Dt → Prop) : En → Dt → Prop := fun env d => ∃ ds, g env ds ∧ R ds d
theorem de_call {g : En → List Dt → Prop} (F : Fn X.prog X.w X.K X.mg X.base C x k fl R) (hr : Room k X.A) (ha : DA X C (e :: es) fl g) (hg : Gl X x := by rfl) (hdb : (x == ("__debug__" : Str)) = false := by decide)
    (he : starEach (e :: es) X.env = (false, eval e X.env) :: starEach es X.env := by rfl) (hpl : (backTo pos (starEach es X.env)).any (·.1) = false := by rfl) : DE X C (.Call (.Name x p) (e :: es) [] pos) (fCall R g) := by
  obtain ⟨fa, h1, h2, h3⟩ := F
  obtain ⟨ta, pa, ka⟩ := ha
  refine ⟨_, pe_callF h3 hr hg h1 h2 pa hdb he hpl, fun env d q φ σ H Q F z => ?_⟩
  obtain ⟨ds, q1, q2⟩ := q
  refine ka env _ q1 φ σ H _ F fun vs H1 e1 r1 => ⟨φ.P, ds, d, fun b hb => F.fresh b (e1.back hb), r1, q2, fun v H' e2 r => z v H' (e1.trans e2) r⟩
theorem de_meth {g : En → List Dt → Prop} {pl : Sem Bool} (c : Cls X.K C) (F : Mn X.prog X.w X.K X.mg X.base C m k (false :: fl) R) (hr : Room k X.A) (ho : DE X C o f) (ha : DA X C (e :: es) fl g) (hm : (m = "rows" ∨ m = "size" ∨ m = "inverses") = False := by simp; decide)
    (hst : starEach (e :: es) X.env = (false, eval e X.env) :: starEach es X.env := by rfl) (hpl : (backTo pos (starEach es X.env)).any (·.1) = false := by rfl)
    (ht : eval (.Call (.Attribute o m apos) (e :: es) [] pos) X.env = (do
      let ov ← eval o X.env
      standAt apos.atName
      let (f, first) ← holding [ov] (getMethod ov m pl)
      callWith pos f first (backTo pos (starEach (e :: es) X.env)) (backToKw pos (keywordEach [] X.env))) := by rfl) :
    DE X C (.Call (.Attribute o m apos) (e :: es) [] pos) (fun env d => ∃ r s i ds, f env (.grp r s i) ∧ g env ds ∧ R (.grp r s i :: ds) d) := by
  obtain ⟨fa, h1, h3⟩ := F
  obtain ⟨to, po, ko⟩ := ho
  obtain ⟨ta, pa, ka⟩ := ha
  refine ⟨_, pe_methF po c h1 h3 hr pa hst hpl ht, fun env d q φ σ H Q F z => ?_⟩
  obtain ⟨r, s, i, ds, q0, q1, q2⟩ := q
  refine ko env _ q0 φ σ H _ F fun v H1 e1 r1 => ?_
  have r1' := r1
  cases r1 with
  | grp p0 p1 p2 p3 p4 =>
    refine ⟨_, _, _, rfl, p1, ?_, ka env _ q1 φ σ H1 _ (F.ex e1) fun vs H2 e2 r2 => ⟨φ.P, _, d, fun b hb => F.fresh b ((e1.trans e2).back hb), .sh (r1'.ex e2) r2, q2, fun v H' e3 r => z v H' ((e1.trans e2).trans e3) r⟩⟩
    simp only [List.lookup]
    have n1 : (m == ("rows" : Str)) = false := beq_eq_false_iff_ne.mpr fun q => by rw [q] at hm; simp at hm
    have n2 : (m == ("size" : Str)) = false := beq_eq_false_iff_ne.mpr fun q => by rw [q] at hm; simp at hm
    have n3 : (m == ("inverses" : Str)) = false := beq_eq_false_iff_ne.mpr fun q => by rw [q] at hm; simp at hm
    rw [n1, n2, n3]
/-! ### attributes of a Group -/
theorem de_rows (c : Cls X.K C) (n : NoAttr X.K C "rows") (ha : DE X C a f) (hb : attributeBase a "rows" X.env (eval a X.env) = eval a X.env := by rfl) : DE X C (.Attribute a "rows" pos) (fun env d => ∃ s i, f env (.grp d s i)) := by
  obtain ⟨ta, pa, ka⟩ := ha
  refine ⟨_, pe_fld pa hb, fun env d q φ σ H Q F z => ?_⟩
  obtain ⟨s, i, q⟩ := q
  refine ka env _ q φ σ H _ F fun v H1 e1 r1 => ?_
  cases r1 with
  | grp p0 p1 p2 p3 p4 => exact ⟨_, C, _, _, _, rfl, p1, c, n, by simp [List.lookup], z _ H1 e1 p2⟩
theorem de_size (c : Cls X.K C) (n : NoAttr X.K C "size") (ha : DE X C a f) (hb : attributeBase a "size" X.env (eval a X.env) = eval a X.env := by rfl) : DE X C (.Attribute a "size" pos) (fun env d => ∃ s i, f env (.grp s d i)) := by
  obtain ⟨ta, pa, ka⟩ := ha
  refine ⟨_, pe_fld pa hb, fun env d q φ σ H Q F z => ?_⟩
  obtain ⟨s, i, q⟩ := q
  refine ka env _ q φ σ H _ F fun v H1 e1 r1 => ?_
  cases r1 with
  | grp p0 p1 p2 p3 p4 =>
    refine ⟨_, C, _, _, _, rfl, p1, c, n, ?_, z _ H1 e1 p3⟩
    have n1 : (("size" : Str) == ("rows" : Str)) = false := by decide
    simp [List.lookup, n1]
theorem de_invs (c : Cls X.K C) (n : NoAttr X.K C "inverses") (ha : DE X C a f) (hb : attributeBase a "inverses" X.env (eval a X.env) = eval a X.env := by rfl) : DE X C (.Attribute a "inverses" pos) (fun env d => ∃ r s, f env (.grp r s d)) := by
  obtain ⟨ta, pa, ka⟩ := ha
  refine ⟨_, pe_fld pa hb, fun env d q φ σ H Q F z => ?_⟩
  obtain ⟨s, i, q⟩ := q
  refine ka env _ q φ σ H _ F fun v H1 e1 r1 => ?_
  cases r1 with
  | grp p0 p1 p2 p3 p4 =>
    refine ⟨_, C, _, _, _, rfl, p1, c, n, ?_, z _ H1 e1 p4⟩
    have n1 : (("inverses" : Str) == ("rows" : Str)) = false := by decide
    have n2 : (("inverses" : Str) == ("size" : Str)) = false := by decide
    simp [List.lookup, n1, n2]
/-! ### isinstance -/
def tyD : Dt → Option String
  | .non => some "NoneType"
  | .bl _ => some "bool"
  | .int _ => some "int"
  | .str _ => some "str"
  | .lst _ => some "list"
  | .tup _ => some "tuple"
  | .xtp _ => some "tuple"
  | _ => none
theorem tyD_ok {K : PySem.W.Frag} {H : Hp} {P : Addr → Prop} {v : V} {d : Dt} {n : String} (r : Rs K C H P v d) (h : tyD d = some n) : TyX K H v (.type n) := by
  cases r with
  | non =>
    cases h
    exact .base .non
  | bl b =>
    cases h
    exact .base (.bl b)
  | int i =>
    cases h
    exact .base (.int i)
  | str s =>
    cases h
    exact .base (.str s)
  | lst p e r =>
    cases h
    exact .base (.lst e)
  | tup p e r =>
    cases h
    exact .base (.tup e)
  | xtp p d e r =>
    cases h
    exact .fTuple e
  | _ => cases h
theorem de_isi {T : String} {nm : Str} (hm : X.mg "isinstance" = none) (hT : X.mg nm = none) (hv : bootBuiltins nm = some (.type T)) (ha : DE X C a f) (hg : Gl X "isinstance" := by rfl) (hg2 : Gl X nm := by rfl)
    (hn : nm ≠ "__name__" := by decide) (hd : (nm == ("__debug__" : Str)) = false := by decide)
    (hs : starEach [a, .Name nm p2] X.env = (false, eval a X.env) :: starEach [.Name nm p2] X.env := by rfl) :
    DE X C (.Call (.Name "isinstance" p) [a, .Name nm p2] [] pos) (fun env d => ∃ s n r, f env s ∧ tyD s = some n ∧ kitB n T = some r ∧ d = .bl r) := by
  obtain ⟨ta, pa, ka⟩ := ha
  refine ⟨_, pe_callB call_isi hg hm PyProof.Rows.boot_isinstance (pa_cons pa (pa_cons (pe_bltn (v := .ty T) hg2 hT hv rfl hn hd) pa_nil) hs) (he := hs), fun env d q φ σ H Q F z => ?_⟩
  obtain ⟨s, n, r, q1, q2, q3, rfl⟩ := q
  refine ka env _ q1 φ σ H _ F fun v H1 e1 r1 => ?_
  exact ⟨v, .ty T, _, _, r, rfl, .ty T, tyD_ok r1 q2, kit_ty q3, z _ H1 e1 (.bl r)⟩
theorem de_isi2 {T U : String} {nm nn : Str} {p3 p4 : Pos} {j} (hm : X.mg "isinstance" = none) (hT : X.mg nm = none) (hU : X.mg nn = none) (hv : bootBuiltins nm = some (.type T)) (hv2 : bootBuiltins nn = some (.type U)) (ha : DE X C a f) (hg : Gl X "isinstance" := by rfl) (hg2 : Gl X nm := by rfl) (hg3 : Gl X nn := by rfl)
    (hn : nm ≠ "__name__" := by decide) (hd : (nm == ("__debug__" : Str)) = false := by decide) (hn2 : nn ≠ "__name__" := by decide) (hd2 : (nn == ("__debug__" : Str)) = false := by decide)
    (hs : starEach [a, .Tuple [.Name nm p2, .Name nn p3] j p4] X.env = (false, eval a X.env) :: starEach [.Tuple [.Name nm p2, .Name nn p3] j p4] X.env := by rfl) :
    DE X C (.Call (.Name "isinstance" p) [a, .Tuple [.Name nm p2, .Name nn p3] j p4] [] pos) (fun env d => ∃ s n r r', f env s ∧ tyD s = some n ∧ kitB n T = some r ∧ kitB n U = some r' ∧ d = .bl (r || r')) := by
  obtain ⟨ta, pa, ka⟩ := ha
  refine ⟨_, pe_callB call_isiT hg hm PyProof.Rows.boot_isinstance (pa_cons pa (pa_cons (pe_tup (pa_cons (pe_bltn (v := .ty T) hg2 hT hv rfl hn hd) (pa_cons (pe_bltn (v := .ty U) hg3 hU hv2 rfl hn2 hd2) pa_nil))) pa_nil) hs) (he := hs), fun env d q φ σ H Q F z => ?_⟩
  obtain ⟨s, n, r, r', q1, q2, q3, q4, rfl⟩ := q
  refine ka env _ q1 φ σ H _ F fun v H1 e1 r1 => ⟨by show 2 ≤ sizeLine; decide, fun t ht => ?_⟩
  have e2 : Ex H1 (upd H1 t (.tup [.ty T, .ty U])) := Ex.new ht
  refine ⟨v, t, _, _, _, (r || r'), rfl, upd_same, .cons (.ty T) (.cons (.ty U) .nil), tyD_ok (r1.ex e2) q2, kitAny_cons (kit_ty q3) (fun hr => ?_) (fun hr => by rw [hr, Bool.true_or]), z _ _ (e1.trans e2) (.bl _)⟩
  refine kitAny_cons (kit_ty q4) (fun hr' => ?_) (fun hr' => by rw [hr', Bool.or_true])
  rw [hr, hr']
  exact kitAny_nil
/-! ### xs.index(y) of ints -/
theorem mt_tup_indexI : MtR X "tuple.index" (fun x xs H Q => ∃ p, ∃ ys : List Int, ∃ z j, x = .ref p ∧ xs = [.int z] ∧ SqT X.K H p (ys.map V.int) ∧ ys[j]? = some z ∧ (∀ m, m < j → ys[m]? ≠ some z) ∧ Q (.int (j : Nat)) H) := by
  intro pins s σ H x xs v us Q I rx rs h
  obtain ⟨p, ys, z, j, rfl, rfl, hq, hy, hno, q⟩ := h
  cases rx
  obtain ⟨u, rfl, t, rfl⟩ := vals1 rs
  obtain ⟨its, r, pl, hz⟩ := I.tuple hq
  obtain ⟨⟨cls, dd, dt, sl⟩, ho, hc, n, hd⟩ := pl
  simp only at hc hd
  subst hc
  subst hd
  have hl : its.toArray.size = ys.length := by rw [List.size_toArray, ← r.length, List.length_map]
  have hj : j < its.toArray.size := by rw [hl]; exact (List.getElem?_eq_some_iff.mp hy).1
  have at' : ∀ (m : Nat) (hm : m < its.toArray.size), ∃ y t', ys[m]? = some y ∧ its.toArray[m] = Value.int y t' := fun m hm => by
    have hm' : m < ys.length := by rw [← hl]; exact hm
    obtain ⟨w, hw, t', hw'⟩ := r.get (i := m) (x := .int ys[m]) (by simp [hm'])
    refine ⟨ys[m], t', List.getElem?_eq_getElem hm', ?_⟩
    have e := (List.getElem?_eq_some_iff.mp hw).2
    rw [← hw', ← e]
    simp
  refine call_meets PySem.F.slot_tuple_index ⟨_, ho, rfl⟩ PySem.F.entry_tuple_index (PySem.F.args_tuple_index_2 _ _) (_root_.TI.tuple_indexAt p its.toArray n dd sl (.int z t) (eqU (.int z)) j hj ?_ ?_)
    ⟨ho, fun w hw => mem_eqAt (x := .int z) ⟨t, rfl⟩ rfl r (flat_intsV ys) w (by simpa using hw), ⟨.int (j : Nat), H, I.tok _, ⟨_, rfl⟩, q⟩⟩
  · obtain ⟨y, t', h1, h2⟩ := at' j hj
    rw [hy] at h1
    cases h1
    rw [h2]
    show (z == z) = true
    exact beq_self_eq_true z
  · intro m hm hmj
    obtain ⟨y, t', h1, h2⟩ := at' m hm
    rw [h2]
    show (y == z) = false
    exact beq_eq_false_iff_ne.mpr fun e => hno m hmj (e ▸ h1)
/-- a method of a tuple whose object is known -/
def tBMX (r : V → List V → Hp → VK → Prop) (to : TE) (t : TA) : TE := fun σ H Q => to σ H fun x H1 => (∃ p o ys, x = .ref p ∧ H1 p = some (.frz o (.tup ys)) ∧ o.dict = none) ∧ t σ H1 fun xs H2 => r x xs H2 Q
theorem pe_bmX {name : Str} {id : String} {r : V → List V → Hp → VK → Prop} {to : TE} {cpos : Pos} (pa : PlainAttrs "tuple") (slot : Slot "tuple" name id) (hty : typeOf (.builtin id) = pure (.type "method_descriptor")) (hm : MtR X id r) (ho : PE X o to) (ha : PA X (e :: es) t)
    (hbase : attributeBase o name X.env (eval o X.env) = eval o X.env)
    (hfew : ((backTo cpos (starEach (e :: es) X.env)).all (fun x => !x.1) && (backToKw cpos (keywordEach [] X.env)).all (fun x => x.1.isSome)
      && decide ((e :: es).length + ([] : List Keyword).length + (if ([] : List Keyword).isEmpty then 0 else 1) < 30)) = true)
    (hline : (apos.endLine == cpos.line) = true) (hs : starEach (e :: es) X.env = (false, eval e X.env) :: starEach es X.env) (hplain : (backTo cpos (starEach es X.env)).any (·.1) = false) :
    PE X (.Call (.Attribute o name apos) (e :: es) [] cpos) (tBMX r to t) := by
  refine ⟨fun pins s σ H Q I h => ?_⟩
  refine wpAny_Call_method_late hbase hfew hline rfl (thn (ho.run pins s σ H _ I h) fun v s1 ⟨x, H1, I1, r1, ⟨p, ob, ys, ex, hp, hd⟩, q1⟩ => ?_)
  subst ex
  obtain rfl : v = Value.ref p := r1
  obtain ⟨g1, _, _, _, hT⟩ := (show ObjOk X.prog X.w H1 s1.heap p (.frz ob (.tup ys)) from I1.hok p _ hp)
  refine ⟨"tuple", id, pa, slot, hty, (let ⟨o', g, c, _⟩ := hT; ⟨o', g, c⟩), fun a ea => ?_, ?_⟩
  · cases ea
    exact ⟨ob, g1, hd⟩
  have hA := ha.run cpos pins s1 σ H1 _ I1 q1
  rw [hs] at hA ⊢
  refine Calls.callWith_builtin (by show (false || (backTo cpos (starEach es X.env)).any (·.1)) = false; rw [hplain] <;> rfl) (Calls.evalArgs_plain ?_)
  exact thn hA fun us s2 ⟨vs, H2, I2, r2, q2⟩ => hm pins s2 σ H2 (.ref p) vs (.ref p) us Q I2 rfl r2 q2
end
end CM
set_option Elab.async false
set_option linter.all false
set_option maxRecDepth 100000
set_option maxHeartbeats 1000000
/-! The data layer: what is walked, comprehensions, dicts. -/
namespace CM
open PySem PySem.Spec PyProof.Rows L2
section
variable {X : Cx} {C : Addr} {a b e o : Expr} {es : List Expr} {pos p p2 apos : Pos} {f g : En → Dt → Prop}
/-! ### xs.index(y) -/
theorem de_tupIndex {cpos : Pos} (ha : DE X C a f) (hb : DE X C b g) (hbase : attributeBase a "index" X.env (eval a X.env) = eval a X.env := by rfl)
    (hfew : ((backTo cpos (starEach [b] X.env)).all (fun x => !x.1) && (backToKw cpos (keywordEach [] X.env)).all (fun x => x.1.isSome)
      && decide ([b].length + ([] : List Keyword).length + (if ([] : List Keyword).isEmpty then 0 else 1) < 30)) = true := by rfl)
    (hline : (apos.endLine == cpos.line) = true := by rfl) (hs : starEach [b] X.env = (false, eval b X.env) :: starEach [] X.env := by rfl) (hplain : (backTo cpos (starEach [] X.env)).any (·.1) = false := by rfl) :
    DE X C (.Call (.Attribute a "index" apos) [b] [] cpos) (fun env d => ∃ (ys : List Int) (z : Int) (j : Nat), f env (.xtp (ys.map .int)) ∧ g env (.int z) ∧ ys[j]? = some z ∧ (∀ m, m < j → ys[m]? ≠ some z) ∧ d = .int j) := by
  obtain ⟨ta, pa, ka⟩ := ha
  obtain ⟨tb, pb, kb⟩ := hb
  refine ⟨_, pe_bmX PySem.F.plainAttrs_tuple PySem.F.slot_tuple_index PySem.F.type_tuple_index mt_tup_indexI pa (pa_cons pb pa_nil hs) hbase hfew hline hs hplain, fun env d q φ σ H Q F z => ?_⟩
  obtain ⟨ys, i, j, q1, q2, q3, q4, rfl⟩ := q
  refine ka env _ q1 φ σ H _ F fun v H1 e1 r1 => ?_
  cases r1 with
  | xtp h0 hd h1 h2 =>
    obtain rfl := h2.of_ints
    refine ⟨⟨_, _, _, rfl, h1, hd⟩, kb env _ q2 φ σ H1 _ (F.ex e1) fun u H2 e2 r2 => ?_⟩
    cases r2
    exact ⟨_, ys, i, j, rfl, rfl, .inl (.inr ⟨_, e2 _ _ h1⟩), q3, q4, z _ H2 (e1.trans e2) (.int _)⟩
theorem de_lstIndex (ha : DR X C a f) (hb : DE X C b g) (h : ∀ {ta tb : TE}, PE X a ta → PE X b tb → PE X e (tBM X.K "list" (rIndex X.K) ta (tCons tb tNil))) :
    DE X C e (fun env d => ∃ (ys : List Int) (z : Int) (j : Nat), f env (lI ys) ∧ g env (.int z) ∧ ys[j]? = some z ∧ (∀ m, m < j → ys[m]? ≠ some z) ∧ d = .int j) := by
  obtain ⟨ta, pa, ka⟩ := ha
  obtain ⟨tb, pb, kb⟩ := hb
  refine ⟨_, h pa pb, fun env d q φ σ H Q F z => ?_⟩
  obtain ⟨ys, i, j, q1, q2, q3, q4, rfl⟩ := q
  refine ka env _ q1 φ σ H _ F fun v H1 e1 r1 => ?_
  obtain ⟨p, xs, rfl, h1, h2⟩ := r1.listOf
  obtain rfl := h2.of_ints
  refine ⟨.inl ⟨rfl, _, .of h1⟩, kb env _ q2 φ σ H1 _ (F.ex e1) fun u H2 e2 r2 => ?_⟩
  cases r2
  refine ⟨p, _, .int i, j, .int i, rfl, rfl, .of (e2 _ _ h1), rfl, flat_intsV ys, by rw [List.getElem?_map, q3] <;> rfl, by show (i == i) = true; simp, fun m z' hm hz' => ?_, z _ H2 (e1.trans e2) (.int _)⟩
  rw [List.getElem?_map] at hz'
  cases q : ys[m]? with
  | none =>
    rw [q] at hz'
    cases hz'
  | some n =>
    rw [q] at hz'
    cases hz'
    show (n == i) = false
    exact beq_eq_false_iff_ne.mpr fun e => q4 m hm (by rw [q, e])
/-! ### what is walked -/
/-- J goes over the trees ts, as long as what S allows of H1 stands -/
def SrcOk (K : PySem.W.Frag) (C : Addr) (P S : Addr → Prop) (J : It) (H1 : Hp) (ts : List Dt) : Prop :=
  ∀ (H' : Hp) (P' : Addr → Prop), (∀ b o, S b → H1 b = some o → H' b = some o) → (∀ b o, P b → H1 b = some o → P' b) → (∀ b, H' b = none → P' b) →
    (∀ (i : Nat) (t : Dt), ts[i]? = some t → J.go i H' ∧ ∀ x H'', J.yld i H' x H'' → Ex H' H'' ∧ Rs K C H'' P' x t) ∧ J.stop ts.length H'
def sOf (st : Bool) (φ : Fra) : Addr → Prop := fun b => st = true → φ.P b ∨ φ.HE b ≠ none
structure DI (X : Cx) (C : Addr) (st : Bool) (tg e : Expr) (f : En → List Dt → Prop) : Prop where
  ex : ∃ wi, PI X tg e wi ∧ ∀ env ts, f env ts → ∀ (φ : Fra) (σ : L2.St) (H : Hp) (R : It → Hp → Prop), Fok X.K C φ σ H env → (∀ J H1, Ex H H1 → SrcOk X.K C φ.P (sOf st φ) J H1 ts → R J H1) → wi σ H R
theorem src_lst {K : PySem.W.Frag} {P S : Addr → Prop} {H1 : Hp} {ad : Addr} {xs : List V} {ts : List Dt} (hS : S ad) (hPS : ∀ b, P b → S b) (h : H1 ad = some (.lst xs)) (r : RsL K C H1 P xs ts) : SrcOk K C P S (Itl K ad) H1 ts := by
  intro H' P' k1 k2 k3
  have hk : H' ad = some (.lst xs) := k1 _ _ hS h
  have hr : RsL K C H' P' xs ts := r.mono fun b o p q => ⟨k2 b o p q, k1 b o (hPS b p) q⟩
  refine ⟨fun i t ht => ?_, xs, .of hk, Nat.le_of_eq r.length⟩
  obtain ⟨v, hv, rv⟩ := hr.get ht
  refine ⟨⟨xs, v, .of hk, hv⟩, fun x H'' y => ?_⟩
  obtain ⟨rfl, y⟩ := y
  have e := y xs (.of hk)
  rw [hv] at e
  cases e
  exact ⟨Ex.refl _, rv⟩
theorem src_tup {K : PySem.W.Frag} {P S : Addr → Prop} {H1 : Hp} {ad : Addr} {xs : List V} {ts : List Dt} (hS : S ad) (hPS : ∀ b, P b → S b) (h : TupAt H1 ad xs) (r : RsL K C H1 P xs ts) : SrcOk K C P S (Itt K ad) H1 ts := by
  intro H' P' k1 k2 k3
  have hk' : TupAt H' ad xs := h.mono fun o q => k1 _ _ hS q
  have hk : SqT K H' ad xs := hk'.sq
  have hr : RsL K C H' P' xs ts := r.mono fun b o p q => ⟨k2 b o p q, k1 b o (hPS b p) q⟩
  refine ⟨fun i t ht => ?_, xs, hk, Nat.le_of_eq r.length⟩
  obtain ⟨v, hv, rv⟩ := hr.get ht
  refine ⟨⟨xs, v, hk, hv⟩, fun x H'' y => ?_⟩
  obtain ⟨rfl, y⟩ := y
  have e := y xs hk
  rw [hv] at e
  cases e
  exact ⟨Ex.refl _, rv⟩
/-- a list or a tuple -/
def iSeq (K : PySem.W.Frag) (tl : TE) : TI := fun σ H R => tl σ H fun x H1 => ∃ a, x = .ref a ∧ (((∃ xs, SqL K H1 a xs) ∧ R (Itl K a) H1) ∨ ((∃ xs, SqT K H1 a xs) ∧ R (Itt K a) H1))
theorem pi_seq {tg l : Expr} {tl : TE} (hl : PE X l tl) : PI X tg l (iSeq X.K tl) := by
  refine ⟨fun pins s σ H R I h => ?_⟩
  refine thn (hl.run pins s σ H _ I h) fun v s1 ⟨x, H1, I1, r1, q1⟩ => ?_
  obtain ⟨a, e, q1⟩ := q1
  subst e
  cases r1
  rcases q1 with ⟨⟨xs, hq⟩, q⟩ | ⟨⟨xs, hq⟩, q⟩
  · obtain ⟨its, rv, p, hz⟩ := I1.list hq
    refine wpAny_pyIter_list p.isList ?_
    refine ⟨s1.heap.objs.size, [s1.heap.objs.size], _, _, H1, rfl, I1.kept (t' := s1.toks) fun b o e => Heap.get?_push_of_some _ e, turn_list a _, ⟨_, Heap.get?_push_size _ rfl, rfl, rfl⟩, fun b hb => ?_, q⟩
    have e : b = s1.heap.objs.size := by simpa using hb
    subst e
    exact I1.fpOk (Nat.le_refl _) (I1.hok.fresh (Nat.le_refl _))
  · obtain ⟨its, rv, p, hz⟩ := I1.tuple hq
    refine wpAny_pyIter_tuple (show s1.heap.IsTuple a its.toArray from p) ?_
    refine ⟨s1.heap.objs.size, [s1.heap.objs.size], _, _, H1, rfl, I1.kept (t' := s1.toks) fun b o e => Heap.get?_push_of_some _ e, turn_tuple a _, ⟨_, Heap.get?_push_size _ rfl, rfl, rfl⟩, fun b hb => ?_, q⟩
    have e : b = s1.heap.objs.size := by simpa using hb
    subst e
    exact I1.fpOk (Nat.le_refl _) (I1.hok.fresh (Nat.le_refl _))
/-- for a statement: the walked thing is a tree -/
theorem di_seq {tg : Expr} (ha : DE X C a f) : DI X C true tg a (fun env ts => ∃ s, f env s ∧ s.sq = some ts) := by
  obtain ⟨ta, pa, ka⟩ := ha
  refine ⟨_, pi_seq pa, fun env ts q φ σ H R F z => ?_⟩
  obtain ⟨s, q1, q2⟩ := q
  refine ka env _ q1 φ σ H _ F fun v H1 e1 r1 => ?_
  obtain ⟨p, xs, rfl, h0, h1, h2⟩ := r1.seq q2
  refine ⟨p, rfl, ?_⟩
  rcases h1 with h1 | h1
  · exact .inl ⟨⟨xs, .of h1⟩, z _ H1 e1 (src_lst (fun _ => .inl h0) (fun b h _ => .inl h) h1 h2)⟩
  · exact .inr ⟨⟨xs, h1.sq⟩, z _ H1 e1 (src_tup (fun _ => .inl h0) (fun b h _ => .inl h) h1 h2)⟩
/-- for a comprehension: the frame's own list too -/
theorem di_seqR {tg : Expr} (ha : DR X C a f) : DI X C false tg a (fun env ts => ∃ s, f env s ∧ s.sq = some ts) := by
  obtain ⟨ta, pa, ka⟩ := ha
  refine ⟨_, pi_seq pa, fun env ts q φ σ H R F z => ?_⟩
  obtain ⟨s, q1, q2⟩ := q
  refine ka env _ q1 φ σ H _ F fun v H1 e1 r1 => ?_
  obtain ⟨p, xs, rfl, h1, h2⟩ := r1.seq q2
  refine ⟨p, rfl, ?_⟩
  rcases h1 with h1 | h1
  · exact .inl ⟨⟨xs, .of h1⟩, z _ H1 e1 (src_lst (fun h => by cases h) (fun b _ h => by cases h) h1 h2)⟩
  · exact .inr ⟨⟨xs, h1.sq⟩, z _ H1 e1 (src_tup (fun h => by cases h) (fun b _ h => by cases h) h1 h2)⟩
/-- a lent list of ints, walked by a statement -/
theorem di_raw (i : Nat) {tg : Expr} {x : Str} (hN : X.N[i]? = some x := by rfl) (hv : Vis X.env.scope x := by first | exact Or.inl rfl | exact Or.inr (Or.inl rfl) | exact Or.inr (Or.inr rfl)) (hd : (x == ("__debug__" : Str)) = false := by decide)
    (hcd : (x == ("__classdict__" : Str)) = false := by decide) : DI X C true tg (.Name x pos) (fun env ts => ∃ s, env[i]? = some (.raw s) ∧ s.sq = some ts) := by
  refine ⟨_, pi_seq (pe_var hN hv hd hcd), fun env ts q φ σ H R F z => ?_⟩
  obtain ⟨s, q, q2⟩ := q
  obtain ⟨v, a, xs, ts', h1, rfl, h3, h4, ⟨ns, rfl, rfl⟩, h6, h7⟩ := F.slot i _ q
  rw [q2] at h3
  cases h3
  refine ⟨_, h1, a, rfl, ?_⟩
  have hr : ∀ {P}, RsL X.K C H P (ns.map V.int) (ns.map Dt.int) := .ints ns
  rcases h4 with h4 | h4
  · exact .inl ⟨⟨_, .of h4⟩, z _ H (Ex.refl H) (src_lst (fun _ => .inr h7) (fun b h _ => .inl h) h4 hr)⟩
  · exact .inr ⟨⟨_, h4.sq⟩, z _ H (Ex.refl H) (src_tup (fun _ => .inr h7) (fun b h _ => .inl h) h4 hr)⟩
def rgD2 (lo hi : Int) : List Dt := (List.range (hi - lo).toNat).map fun i => Dt.int (lo + (i : Nat))
theorem src_rng {K : PySem.W.Frag} {P S : Addr → Prop} {H1 : Hp} (lo : Int) (n : Nat) : SrcOk K C P S (Itr lo n) H1 ((List.range n).map fun i => Dt.int (lo + (i : Nat))) := by
  intro H' P' k1 k2 k3
  refine ⟨fun i t ht => ?_, by show n ≤ _; rw [List.length_map, List.length_range]; exact Nat.le_refl _⟩
  have hi : i < n := by
    have q := (List.getElem?_eq_some_iff.mp ht).1
    rw [List.length_map, List.length_range] at q
    exact q
  rw [List.getElem?_map, List.getElem?_range hi] at ht
  cases ht
  refine ⟨hi, fun x H'' y => ?_⟩
  obtain ⟨rfl, rfl⟩ := y
  exact ⟨Ex.refl _, .int _⟩
theorem di_rng1 {tg : Expr} {st : Bool} (hr : X.mg "range" = none) (ha : DE X C a f) (hg : Gl X "range" := by rfl) (hs : starEach [a] X.env = [(false, eval a X.env)] := by rfl) : DI X C st tg (.Call (.Name "range" p) [a] [] pos) (fun env ts => ∃ n, f env (.int n) ∧ 0 ≤ n ∧ n ≤ 100000 ∧ ts = rngD n) := by
  obtain ⟨ta, pa, ka⟩ := ha
  refine ⟨_, pi_range1 hg hr (pa_cons pa pa_nil hs) hs, fun env ts q φ σ H R F z => ?_⟩
  obtain ⟨n, q1, q2, q3, rfl⟩ := q
  refine ka env _ q1 φ σ H _ F fun v H1 e1 r1 => ?_
  cases r1
  refine ⟨n, rfl, by omega, by omega, z _ H1 e1 ?_⟩
  have k := src_rng (K := X.K) (C := C) (P := φ.P) (S := sOf st φ) (H1 := H1) 0 n.toNat
  have e : ((List.range n.toNat).map fun i => Dt.int (0 + ((i : Nat) : Int))) = rngD n := List.map_congr_left fun i _ => by rw [Int.zero_add]
  rw [e] at k
  exact k
theorem di_rng2 {tg : Expr} {st : Bool} (hr : X.mg "range" = none) (ha : DE X C a f) (hb : DE X C b g) (hg : Gl X "range" := by rfl) (hs : starEach [a, b] X.env = [(false, eval a X.env), (false, eval b X.env)] := by rfl) (hs2 : starEach [b] X.env = [(false, eval b X.env)] := by rfl) :
    DI X C st tg (.Call (.Name "range" p) [a, b] [] pos) (fun env ts => ∃ lo hi, f env (.int lo) ∧ g env (.int hi) ∧ 0 ≤ lo ∧ lo ≤ 100000 ∧ 0 ≤ hi ∧ hi ≤ 100000 ∧ ts = rgD2 lo hi) := by
  obtain ⟨ta, pa, ka⟩ := ha
  obtain ⟨tb, pb, kb⟩ := hb
  refine ⟨_, pi_range2 hg hr (pa_cons pa (pa_cons pb pa_nil hs2) (by rw [hs, hs2])) hs hs2, fun env ts q φ σ H R F z => ?_⟩
  obtain ⟨lo, hi, q1, q2, q3, q4, q5, q6, rfl⟩ := q
  refine ka env _ q1 φ σ H _ F fun v H1 e1 r1 => kb env _ q2 φ σ H1 _ (F.ex e1) fun u H2 e2 r2 => ?_
  cases r1
  cases r2
  exact ⟨lo, hi, rfl, ⟨by omega, by omega, by omega, by omega⟩, z _ H2 (e1.trans e2) (src_rng lo _)⟩
/-- enumerate(a list) -/
def enumD : Nat → List Dt → List Dt
  | _, [] => []
  | n, t :: ts => .tup [.int n, t] :: enumD (n + 1) ts
theorem enumD_get : ∀ (ts : List Dt) (n i : Nat) (t : Dt), (enumD n ts)[i]? = some t → ∃ u, ts[i]? = some u ∧ t = .tup [.int ((n + i : Nat) : Int), u]
  | [], _, i, t, h => by simp [enumD] at h
  | u :: ts, n, 0, t, h => by
    have e := Option.some.inj h
    exact ⟨u, rfl, e.symm⟩
  | u :: ts, n, i + 1, t, h => by
    obtain ⟨w, h1, h2⟩ := enumD_get ts (n + 1) i t (by simpa [enumD] using h)
    refine ⟨w, by simpa using h1, ?_⟩
    rw [h2, show n + 1 + i = n + (i + 1) by omega]
theorem enumD_len : ∀ (ts : List Dt) (n : Nat), (enumD n ts).length = ts.length
  | [], _ => rfl
  | _ :: ts, n => congrArg Nat.succ (enumD_len ts (n + 1))
theorem di_enum {st : Bool} {elts : List Expr} {kk : Nat} {tpos : Pos} (hm : X.mg "enumerate" = none) (ha : DE X C a f) (hg : Gl X "enumerate" := by rfl) (hs : starEach [a] X.env = [(false, eval a X.env)] := by rfl) :
    DI X C st (.Tuple elts kk tpos) (.Call (.Name "enumerate" p) [a] [] pos) (fun env ts => ∃ us, f env (.lst us) ∧ ts = enumD 0 us) := by
  obtain ⟨ta, pa, ka⟩ := ha
  refine ⟨_, pi_enum hg hm (pa_cons pa pa_nil hs) hs, fun env ts q φ σ H R F z => ?_⟩
  obtain ⟨us, q1, rfl⟩ := q
  refine ka env _ q1 φ σ H _ F fun v H1 e1 r1 => ?_
  cases r1 with
  | lst h0 h1 h2 =>
    refine ⟨_, _, rfl, .of h1, z _ H1 e1 fun H' P' k1 k2 k3 => ?_⟩
    have hk := k1 _ _ (fun _ => .inl h0) h1
    have hr := h2.mono (P' := P') (H' := H') fun b o p q => ⟨k2 b o p q, k1 b o (fun _ => .inl p) q⟩
    refine ⟨fun i t ht => ?_, _, .of hk, by rw [enumD_len, h2.length]; exact Nat.le_refl _⟩
    obtain ⟨u, hu, rfl⟩ := enumD_get us 0 i t ht
    obtain ⟨w, hw, rw_⟩ := hr.get hu
    refine ⟨⟨_, w, .of hk, hw⟩, fun x H'' y => ?_⟩
    obtain ⟨T, x', rfl, hT, rfl, y⟩ := y
    have ey := y _ (.of hk)
    rw [hw] at ey
    cases ey
    refine ⟨Ex.new hT, .tup (k3 T hT) upd_same (.cons ?_ (.cons (rw_.ex (Ex.new hT)) .nil))⟩
    rw [Nat.zero_add]
    exact .int _
end
end CM
set_option Elab.async false
set_option linter.all false
set_option maxRecDepth 100000
set_option maxHeartbeats 1000000
/-! The data layer: comprehensions, dicts. -/
namespace CM
open PySem PySem.Spec PyProof.Rows L2
/-- the block of a comprehension -/
abbrev blkX (X : Cx) (scope : Scope) (i : Shared × Hp × Addr × List (Str × Addr) × List Addr) : Cx := X.blk i.1 i.2.1 scope (compEnvC scope i.2.2.2.1 i.2.2.1 X.env) i.2.2.2.2
section
variable {X : Cx} {C : Addr} {scope : Scope} {e : Expr}
theorem all_de {f : En → Dt → Prop} (h : ∀ i, DE (blkX X scope i) C e f) : ∃ t : TE, (∀ i, PE (blkX X scope i) e t) ∧ ∀ env d, f env d → Nonempty (Shared × Hp × Addr × List (Str × Addr) × List Addr) → EvS X.K C t env d := by
  have c : ∀ i, ∃ t, PE (blkX X scope i) e t ∧ ∀ env d, f env d → EvS X.K C t env d := fun i => (h i).ex
  refine ⟨fun σ H Q => ∀ i, Classical.choose (c i) σ H Q, fun i => ⟨fun pins s σ H Q I hq => (Classical.choose_spec (c i)).1.run pins s σ H Q I (hq i)⟩, fun env d q _ φ σ H Q F z i => (Classical.choose_spec (c i)).2 env d q φ σ H Q F z⟩
theorem all_pts {f : En → Bool → Prop} (h : ∀ i, DB (blkX X scope i) C e f) : ∃ t : TT, (∀ i, PTs (blkX X scope i) [e] t) ∧ ∀ env d, f env d → EvB X.K C t env d := by
  have c : ∀ i, ∃ t, PT (blkX X scope i) e t ∧ ∀ env d, f env d → EvB X.K C t env d := fun i => (h i).ex
  refine ⟨fun σ H Q => ∀ i, Classical.choose (c i) σ H Q, fun i => pts_one ⟨fun pins s σ H Q I hq => (Classical.choose_spec (c i)).1.run pins s σ H Q I (hq i)⟩, fun env d q φ σ H Q F z i => (Classical.choose_spec (c i)).2 env d q φ σ H Q F z⟩
theorem all_di {st : Bool} {tg : Expr} {f : En → List Dt → Prop} (h : ∀ i, DI (blkX X scope i) C st tg e f) : ∃ wi : TI, (∀ i, PI (blkX X scope i) tg e wi) ∧ ∀ env ts, f env ts → ∀ (φ : Fra) (σ : L2.St) (H : Hp) (R : It → Hp → Prop), Fok X.K C φ σ H env → (∀ J H1, Ex H H1 → SrcOk X.K C φ.P (sOf st φ) J H1 ts → R J H1) → wi σ H R := by
  have c : ∀ i, ∃ wi, PI (blkX X scope i) tg e wi ∧ ∀ env ts, f env ts → ∀ (φ : Fra) (σ : L2.St) (H : Hp) (R : It → Hp → Prop), Fok X.K C φ σ H env → (∀ J H1, Ex H H1 → SrcOk X.K C φ.P (sOf st φ) J H1 ts → R J H1) → wi σ H R := fun i => (h i).ex
  exact ⟨fun σ H R => ∀ i, Classical.choose (c i) σ H R, fun i => ⟨fun pins s σ H R I hq => (Classical.choose_spec (c i)).1.run pins s σ H R I (hq i)⟩, fun env ts q φ σ H R F z i => (Classical.choose_spec (c i)).2 env ts q φ σ H R F z⟩
/-- a clause's tests: none, or one -/
structure DTs (X : Cx) (C : Addr) (scope : Scope) (ifs : List Expr) (f : En → Bool → Prop) : Prop where
  ex : ∃ t : TT, (∀ i, PTs (blkX X scope i) ifs t) ∧ ∀ env d, f env d → EvB X.K C t env d
theorem dts_nil : DTs X C scope [] (fun _ b => b = true) := ⟨tYes, fun i => pts_nil, fun env d q φ σ H Q F z => by cases q; exact z H (Ex.refl H)⟩
theorem dts_one {f : En → Bool → Prop} (h : ∀ i, DB (blkX X scope i) C e f) : DTs X C scope [e] f := ⟨all_pts h⟩
end
section
variable {K : PySem.W.Frag} {C : Addr}
/-- the env in a comprehension's block -/
def envIn (env : En) (vs : List Nat) (j : Nat) (t : Dt) : En := (wipeE env vs).set j (.sh t)
theorem given_step {c : Dt → Bool} {ev : Dt → Dt} {ts : List Dt} {i : Nat} {t : Dt} (h : ts[i]? = some t) : ((ts.take (i + 1)).filter c).map ev = ((ts.take i).filter c).map ev ++ (if c t = true then [ev t] else []) := by
  rw [List.take_add_one, h, List.filter_append, List.map_append]
  cases q : c t with
  | true => simp [q]
  | false => simp [q]
/-- the reading of a comprehension, one clause -/
theorem lc_ev {wi : TI} {tt : TT} {te : TE} {vs : List Nat} {j : Nat} {env : En} {ts : List Dt} (c : Dt → Bool) (ev : Dt → Dt) (hj : j ∈ vs)
    (hwi : ∀ (φ : Fra) (σ : L2.St) (H : Hp) (R : It → Hp → Prop), Fok K C φ σ H env → (∀ J H1, Ex H H1 → SrcOk K C φ.P (sOf false φ) J H1 ts → R J H1) → wi σ H R)
    (ht : ∀ t ∈ ts, EvB K C tt (envIn env vs j t) (c t)) (he : ∀ t ∈ ts, c t = true → EvS K C te (envIn env vs j t) (ev t)) (hl : ts.length ≤ 100000) :
    EvF K C (tLc wi (gName j) tt te vs) env ((ts.filter c).map ev) := by
  intro φ σ H Q F z
  refine hwi φ σ H _ F fun J H1 e1 src D hD => ?_
  have F1 := F.ex e1
  refine ⟨fun i m H' => m = ts.length - i ∧ i ≤ ts.length ∧ Ex H1 H' ∧ ∃ acc, H' D = some (.lst acc) ∧ RsL K C H' (fun b => φ.P b ∧ b ≠ D) acc (((ts.take i).filter c).map ev),
    ⟨_, rfl, Nat.zero_le _, Ex.new hD, [], upd_same, by simpa using RsL.nil⟩, ?_⟩
  rintro i m H' ⟨rfl, hi, eH, acc, hacc, racc⟩
  obtain ⟨go, stop⟩ := src H' (fun b => φ.P b ∧ b ≠ D) (fun b o _ q => eH b o q) (fun b o p q => ⟨p, ne_of_none q hD⟩) (fun b hb => ⟨F1.fresh b (eH.back hb), ne_none_some hb hacc⟩)
  by_cases hlt : i < ts.length
  · have hti : ts[i]? = some ts[i] := List.getElem?_eq_getElem hlt
    obtain ⟨g1, g2⟩ := go i _ hti
    refine .inr ⟨g1, fun H' => i + 1 ≤ ts.length ∧ Ex H1 H' ∧ ∃ acc, H' D = some (.lst acc) ∧ RsL K C H' (fun b => φ.P b ∧ b ≠ D) acc (((ts.take (i + 1)).filter c).map ev), fun H2 q => ⟨_, by omega, rfl, q⟩, fun x H2 y => ?_⟩
    obtain ⟨e2, rx⟩ := g2 x H2 y
    have F2 : Fok K C (φ.but D) ((wipe σ vs).set j (some x)) H2 (envIn env vs j ts[i]) := ((F1.wipe vs).but hD (eH.trans e2) (e2 _ _ hacc)).putSh j rx
    show wipe ((wipe σ vs).set j (some x)) vs = wipe σ vs ∧ tt ((wipe σ vs).set j (some x)) H2 _
    refine ⟨wipe_set hj _, ht _ (List.getElem_mem hlt) _ _ H2 _ F2 fun H3 e3 => ?_⟩
    have e03 := eH.trans (e2.trans e3)
    have hacc3 := e3 _ _ (e2 _ _ hacc)
    have racc3 := racc.ex (e2.trans e3)
    cases q : c ts[i] with
    | false =>
      refine iteF ⟨hlt, e03, acc, hacc3, ?_⟩
      rw [given_step hti, q]
      simpa using racc3
    | true =>
      refine iteT (he _ (List.getElem_mem hlt) q _ _ H3 _ (F2.ex e3) fun y H4 e4 ry => ?_)
      refine ⟨acc, e4 _ _ hacc3, Nat.lt_of_le_of_lt ?_ (show 100000 < sizeLine by decide), hlt, (e03.trans e4).mut hD, acc ++ [y], upd_same, ?_⟩
      · rw [racc.length, List.length_map]
        refine Nat.le_trans (List.length_filter_le _ _) ?_
        rw [List.length_take]
        omega
      · rw [given_step hti, q]
        have r5 := (racc3.ex e4).append (.cons ry .nil)
        exact r5.mono fun b o p q => ⟨p, by rw [upd_ne p.2]; exact q⟩
  · have ei : i = ts.length := by omega
    subst ei
    refine .inl ⟨stop, z D acc H' (e1.trans eH) (e1.back hD) hacc ?_⟩
    rw [List.take_length] at racc
    exact racc
end
section
variable {X : Cx} {C : Addr} {e elt iter : Expr} {pos p p2 : Pos}
abbrev fLc (vs : List Nat) (j : Nat) (fs : En → List Dt → Prop) (ft : En → Bool → Prop) (fe : En → Dt → Prop) : En → List Dt → Prop := fun env r => ∃ (ts : List Dt) (c : Dt → Bool) (ev : Dt → Dt),
  fs env ts ∧ (∀ t ∈ ts, ft (envIn env vs j t) (c t)) ∧ (∀ t ∈ ts, c t = true → fe (envIn env vs j t) (ev t)) ∧ ts.length ≤ 100000 ∧ r = (ts.filter c).map ev
variable {tg : Expr} {ifs : List Expr} {scope : Scope} {own : List (Str × Nat)} {j : Nat} {x : Str} {ptg : Pos} {fs : En → List Dt → Prop} {ft : En → Bool → Prop} {fe : En → Dt → Prop}
theorem df_lc (hc : X.calm = true) (hN : X.N.Nodup) (own : List (Str × Nat)) (j : Nat) (hi : DI X C false (.Name x ptg) iter fs) (ok : BlkOk X.N X.env.scope scope own) (hj : j ∈ own.map (·.2)) (hg : ∀ i, PG (blkX X scope i) (.Name x ptg) (gName j)) (ht : DTs X C scope ifs ft) (he : ∀ i, DE (blkX X scope i) C elt fe)
    (hs : ∀ x, foldedSetIterable iter X.env x = pure x := by intro _; rfl) : DF X C (.ListComp elt [⟨.Name x ptg, iter, ifs, 0⟩] scope pos) (fLc (own.map (·.2)) j fs ft fe) := by
  obtain ⟨wi, pi, ki⟩ := hi
  obtain ⟨tt, pt, kt⟩ := ht
  obtain ⟨te, pe, ke⟩ := all_de he
  refine ⟨_, pe_lc hc hN pi ok (fun s H C' cl fp => hg (s, H, C', cl, fp)) (fun s H C' cl fp => pt (s, H, C', cl, fp)) (fun s H C' cl fp => pe (s, H, C', cl, fp)) hs, fun env r q φ σ H Q F z => ?_⟩
  obtain ⟨ts, c, ev, q1, q2, q3, q4, rfl⟩ := q
  exact lc_ev c ev hj (ki env ts q1) (fun t m => kt _ _ (q2 t m)) (fun t m hc => ke _ _ (q3 t m hc) ⟨X.s_0, X.H_0, 0, [], []⟩) q4 φ σ H Q F z
/-- such a comprehension, given to a name by a statement of its own -/
structure DLc (X : Cx) (C : Addr) (i : Nat) (st : Stmt) (f : En → List Dt → Prop) : Prop where
  ex : ∃ t, PS X st (tAsg t (gName i)) ∧ ∀ env ts, f env ts → EvF X.K C t env ts
theorem dl_lc {y : Str} {py spos : Pos} (i : Nat) (hc : X.calm = true) (hN : X.N.Nodup) (own : List (Str × Nat)) (j : Nat) (hy : X.N[i]? = some y) (hyl : X.env.scope.names.lookup y = some .local)
    (hsw : swapsWith (.ListComp elt [⟨.Name x ptg, iter, ifs, 0⟩] scope pos) (some (.Name y py)) spos.line X.env = pure true)
    (hi : DI X C false (.Name x ptg) iter fs) (ok : BlkOk X.N X.env.scope scope own) (hj : j ∈ own.map (·.2)) (hg : ∀ i, PG (blkX X scope i) (.Name x ptg) (gName j)) (ht : DTs X C scope ifs ft) (he : ∀ i, DE (blkX X scope i) C elt fe)
    (hs : ∀ x, foldedSetIterable iter X.env x = pure x := by intro _; rfl) : DLc X C i (.Assign [.Name y py] (.ListComp elt [⟨.Name x ptg, iter, ifs, 0⟩] scope pos) spos) (fLc (own.map (·.2)) j fs ft fe) := by
  obtain ⟨wi, pi, ki⟩ := hi
  obtain ⟨tt, pt, kt⟩ := ht
  obtain ⟨te, pe, ke⟩ := all_de he
  refine ⟨_, ps_setLc (i := i) hc hN hy hyl hsw pi ok (fun s H C' cl fp => hg (s, H, C', cl, fp)) (fun s H C' cl fp => pt (s, H, C', cl, fp)) (fun s H C' cl fp => pe (s, H, C', cl, fp)) hs, fun env r q φ σ H Q F z => ?_⟩
  obtain ⟨ts, c, ev, q1, q2, q3, q4, rfl⟩ := q
  exact lc_ev c ev hj (ki env ts q1) (fun t m => kt _ _ (q2 t m)) (fun t m hc => ke _ _ (q3 t m hc) ⟨X.s_0, X.H_0, 0, [], []⟩) q4 φ σ H Q F z
end
/-! ### two clauses, no tests -/
theorem yes_then {σ : L2.St} {H : Hp} {A B : Hp → Prop} (h : A H) : tYes σ H (fun b H3 => if b = true then A H3 else B H3) := by
  show (if true = true then A H else B H)
  rw [if_pos rfl]
  exact h
section
variable {K : PySem.W.Frag} {C : Addr}
def envIn2 (env : En) (vs vs1 : List Nat) (j k : Nat) (t u : Dt) : En := (wipeE (envIn env vs j t) vs1).set k (.sh u)
def given2 (ts : List Dt) (us : Dt → List Dt) (ev : Dt → Dt → Dt) : List Dt := ts.flatMap fun t => (us t).map (ev t)
theorem given2_step {us : Dt → List Dt} {ev : Dt → Dt → Dt} {ts : List Dt} {i : Nat} {t : Dt} (h : ts[i]? = some t) : given2 (ts.take (i + 1)) us ev = given2 (ts.take i) us ev ++ (us t).map (ev t) := by
  unfold given2
  rw [List.take_add_one, h, List.flatMap_append]
  simp
theorem lc2_ev {wi wi1 : TI} {te : TE} {vs vs1 : List Nat} {j k : Nat} {env : En} {ts : List Dt} (us : Dt → List Dt) (ev : Dt → Dt → Dt) (hj : j ∈ vs) (hk : k ∈ vs1)
    (hwi : ∀ (φ : Fra) (σ : L2.St) (H : Hp) (R : It → Hp → Prop), Fok K C φ σ H env → (∀ J H1, Ex H H1 → SrcOk K C φ.P (sOf false φ) J H1 ts → R J H1) → wi σ H R)
    (hwi1 : ∀ t ∈ ts, ∀ (φ : Fra) (σ : L2.St) (H : Hp) (R : It → Hp → Prop), Fok K C φ σ H (envIn env vs j t) → (∀ J H1, Ex H H1 → SrcOk K C φ.P (sOf true φ) J H1 (us t) → R J H1) → wi1 σ H R)
    (he : ∀ t ∈ ts, ∀ u ∈ us t, EvS K C te (envIn2 env vs vs1 j k t u) (ev t u)) (hl : (given2 ts us ev).length ≤ 100000) :
    EvF K C (tLc2 wi (gName j) tYes wi1 (gName k) tYes te vs vs1) env (given2 ts us ev) := by
  intro φ σ H Q F z
  refine hwi φ σ H _ F fun J H1 e1 src D hD => ?_
  have F1 := F.ex e1
  refine ⟨fun i m H' => m = ts.length - i ∧ i ≤ ts.length ∧ Ex H1 H' ∧ ∃ acc, H' D = some (.lst acc) ∧ RsL K C H' (fun b => φ.P b ∧ b ≠ D) acc (given2 (ts.take i) us ev),
    ⟨_, rfl, Nat.zero_le _, Ex.new hD, [], upd_same, by simpa [given2] using RsL.nil⟩, ?_⟩
  rintro i m H' ⟨rfl, hi, eH, acc, hacc, racc⟩
  obtain ⟨go, stop⟩ := src H' (fun b => φ.P b ∧ b ≠ D) (fun b o _ q => eH b o q) (fun b o p q => ⟨p, ne_of_none q hD⟩) (fun b hb => ⟨F1.fresh b (eH.back hb), ne_none_some hb hacc⟩)
  by_cases hlt : i < ts.length
  · have hti : ts[i]? = some ts[i] := List.getElem?_eq_getElem hlt
    have hmem := List.getElem_mem hlt
    obtain ⟨g1, g2⟩ := go i _ hti
    refine .inr ⟨g1, fun H' => i + 1 ≤ ts.length ∧ Ex H1 H' ∧ ∃ acc, H' D = some (.lst acc) ∧ RsL K C H' (fun b => φ.P b ∧ b ≠ D) acc (given2 (ts.take (i + 1)) us ev), fun H2 q => ⟨_, by omega, rfl, q⟩, fun x H2 y => ?_⟩
    obtain ⟨e2, rx⟩ := g2 x H2 y
    have F2 : Fok K C (φ.but D) ((wipe σ vs).set j (some x)) H2 (envIn env vs j ts[i]) := ((F1.wipe vs).but hD (eH.trans e2) (e2 _ _ hacc)).putSh j rx
    show wipe ((wipe σ vs).set j (some x)) vs = wipe σ vs ∧ tYes ((wipe σ vs).set j (some x)) H2 _
    refine ⟨wipe_set hj _, yes_then ?_⟩
    refine hwi1 _ hmem _ _ H2 _ F2 fun J1 H3 e3 src1 => ?_
    have F3 := F2.ex e3
    have hbase : given2 (ts.take i) us ev ++ ((us ts[i]).take 0).map (ev ts[i]) = given2 (ts.take i) us ev := by simp
    refine ⟨fun l n H' => n = (us ts[i]).length - l ∧ l ≤ (us ts[i]).length ∧ Ex H1 H' ∧ (∀ b o, (b ≠ D) → H3 b = some o → H' b = some o) ∧ ∃ acc, H' D = some (.lst acc) ∧ RsL K C H' (fun b => φ.P b ∧ b ≠ D) acc (given2 (ts.take i) us ev ++ ((us ts[i]).take l).map (ev ts[i])),
      ⟨_, rfl, Nat.zero_le _, eH.trans (e2.trans e3), fun b o _ q => q, acc, e3 _ _ (e2 _ _ hacc), by rw [hbase]; exact racc.ex (e2.trans e3)⟩, ?_⟩
    rintro l n H4 ⟨rfl, hl4, e4, k4, acc4, hacc4, racc4⟩
    obtain ⟨go1, stop1⟩ := src1 H4 (fun b => φ.P b ∧ b ≠ D) (fun b o s q => k4 b o (by
      rcases s rfl with s | s
      · exact s.2
      · intro z
        subst z
        exact s (F1.heH.back hD)) q) (fun b o p q => p) (fun b hb => ⟨F1.fresh b (e4.back hb), ne_none_some hb hacc4⟩)
    by_cases hlt4 : l < (us ts[i]).length
    · have htl : (us ts[i])[l]? = some (us ts[i])[l] := List.getElem?_eq_getElem hlt4
      have hmem4 := List.getElem_mem hlt4
      obtain ⟨h1, h2⟩ := go1 l _ htl
      refine .inr ⟨h1, fun H' => l + 1 ≤ (us ts[i]).length ∧ Ex H1 H' ∧ (∀ b o, (b ≠ D) → H3 b = some o → H' b = some o) ∧ ∃ acc, H' D = some (.lst acc) ∧ RsL K C H' (fun b => φ.P b ∧ b ≠ D) acc (given2 (ts.take i) us ev ++ ((us ts[i]).take (l + 1)).map (ev ts[i])), fun H5 q => ⟨_, by omega, rfl, q⟩, fun x1 H5 y1 => ?_⟩
      obtain ⟨e5, rx1⟩ := h2 x1 H5 y1
      have F5 : Fok K C (φ.but D) ((wipe ((wipe σ vs).set j (some x)) vs1).set k (some x1)) H5 (envIn2 env vs vs1 j k ts[i] (us ts[i])[l]) := by
        have FA : Fok K C (φ.but D) ((wipe σ vs).set j (some x)) H5 (envIn env vs j ts[i]) := by
          have FB := ((F1.wipe vs).but hD (e4.trans e5) (e5 _ _ hacc4))
          refine FB.putSh j ?_
          exact rx.mono fun b o p q => ⟨p, e5 _ _ (k4 b o p.2 (e3 _ _ q))⟩
        exact (FA.wipe vs1).putSh k rx1
      show wipe ((wipe ((wipe σ vs).set j (some x)) vs1).set k (some x1)) vs1 = wipe ((wipe σ vs).set j (some x)) vs1 ∧ tYes _ H5 _
      refine ⟨wipe_set hk _, yes_then ?_⟩
      refine he _ hmem _ hmem4 _ _ H5 _ F5 fun y H6 e6 ry => ?_
      have hstep : given2 (ts.take i) us ev ++ ((us ts[i]).take (l + 1)).map (ev ts[i]) = (given2 (ts.take i) us ev ++ ((us ts[i]).take l).map (ev ts[i])) ++ [ev ts[i] (us ts[i])[l]] := by
        rw [List.take_add_one, htl, List.map_append, List.append_assoc]
        rfl
      refine ⟨acc4, e6 _ _ (e5 _ _ hacc4), Nat.lt_of_le_of_lt ?_ (show 100000 < sizeLine by decide), hlt4, (e4.trans (e5.trans e6)).mut hD, fun b o hb q => by rw [upd_ne hb]; exact e6 _ _ (e5 _ _ (k4 b o hb q)), acc4 ++ [y], upd_same, ?_⟩
      · refine Nat.le_trans ?_ hl
        rw [racc4.length]
        have a1 : (given2 (ts.take i) us ev ++ ((us ts[i]).take l).map (ev ts[i])).length ≤ (given2 (ts.take (i + 1)) us ev).length := by
          rw [given2_step hti, List.length_append, List.length_append, List.length_map, List.length_map, List.length_take]
          omega
        refine Nat.le_trans a1 ?_
        have a2 : given2 ts us ev = given2 (ts.take (i + 1)) us ev ++ given2 (ts.drop (i + 1)) us ev := by
          unfold given2
          rw [← List.flatMap_append, List.take_append_drop]
        rw [a2, List.length_append]
        omega
      · rw [hstep]
        have r5 := (racc4.ex (e5.trans e6)).append (.cons ry .nil)
        exact r5.mono fun b o p q => ⟨p, by rw [upd_ne p.2]; exact q⟩
    · have el : l = (us ts[i]).length := by omega
      subst el
      refine .inl ⟨stop1, hlt, e4, acc4, hacc4, ?_⟩
      rw [given2_step hti]
      rw [List.take_length] at racc4
      exact racc4
  · have ei : i = ts.length := by omega
    subst ei
    refine .inl ⟨stop, z D acc H' (e1.trans eH) (e1.back hD) hacc ?_⟩
    rw [List.take_length] at racc
    exact racc
end
section
variable {X : Cx} {C : Addr} {e elt iter iter1 : Expr} {pos p p2 : Pos} {scope : Scope} {x x1 : Str} {ptg ptg1 : Pos} {fs fs1 : En → List Dt → Prop} {fe : En → Dt → Prop}
abbrev fLc2 (vs vs1 : List Nat) (j k : Nat) (fs fs1 : En → List Dt → Prop) (fe : En → Dt → Prop) : En → List Dt → Prop := fun env r => ∃ (ts : List Dt) (us : Dt → List Dt) (ev : Dt → Dt → Dt),
  fs env ts ∧ (∀ t ∈ ts, fs1 (envIn env vs j t) (us t)) ∧ (∀ t ∈ ts, ∀ u ∈ us t, fe (envIn2 env vs vs1 j k t u) (ev t u)) ∧ (given2 ts us ev).length ≤ 100000 ∧ r = given2 ts us ev
theorem df_lc2 (hc : X.calm = true) (hN : X.N.Nodup) (own : List (Str × Nat)) (vs1 : List Nat) (j k : Nat) (hi : DI X C false (.Name x ptg) iter fs) (ok : BlkOk X.N X.env.scope scope own) (hv : ∀ i ∈ vs1, i ∈ own.map (·.2)) (hj : j ∈ own.map (·.2)) (hk : k ∈ vs1) (hg : ∀ i, PG (blkX X scope i) (.Name x ptg) (gName j))
    (hi1 : ∀ i, DI (blkX X scope i) C true (.Name x1 ptg1) iter1 fs1) (hg1 : ∀ i, PG (blkX X scope i) (.Name x1 ptg1) (gName k)) (he : ∀ i, DE (blkX X scope i) C elt fe)
    (hs : ∀ x, foldedSetIterable iter X.env x = pure x := by intro _; rfl) (hs1 : ∀ env x, foldedSetIterable iter1 env x = pure x := by intro _ _; rfl) :
    DF X C (.ListComp elt [⟨.Name x ptg, iter, [], 0⟩, ⟨.Name x1 ptg1, iter1, [], 0⟩] scope pos) (fLc2 (own.map (·.2)) vs1 j k fs fs1 fe) := by
  obtain ⟨wi, pi, ki⟩ := hi
  obtain ⟨wi1, pi1, ki1⟩ := all_di hi1
  obtain ⟨te, pe, ke⟩ := all_de he
  refine ⟨_, pe_lc2 hc hN pi ok hv (fun s H C' cl fp => hg (s, H, C', cl, fp)) (fun s H C' cl fp => pts_nil) (fun s H C' cl fp => pi1 (s, H, C', cl, fp)) (fun s H C' cl fp => hg1 (s, H, C', cl, fp)) (fun s H C' cl fp => pts_nil) (fun s H C' cl fp => pe (s, H, C', cl, fp)) hs hs1, fun env r q φ σ H Q F z => ?_⟩
  obtain ⟨ts, us, ev, q1, q2, q3, q4, rfl⟩ := q
  exact lc2_ev us ev hj hk (ki env ts q1) (fun t m => ki1 _ _ (q2 t m)) (fun t m u n => ke _ _ (q3 t m u n) ⟨X.s_0, X.H_0, 0, [], []⟩) q4 φ σ H Q F z
theorem dl_lc2 {y : Str} {py spos : Pos} (i : Nat) (hc : X.calm = true) (hN : X.N.Nodup) (own : List (Str × Nat)) (vs1 : List Nat) (j k : Nat) (hy : X.N[i]? = some y) (hyl : X.env.scope.names.lookup y = some .local)
    (hsw : swapsWith (.ListComp elt [⟨.Name x ptg, iter, [], 0⟩, ⟨.Name x1 ptg1, iter1, [], 0⟩] scope pos) (some (.Name y py)) spos.line X.env = pure true) (hi : DI X C false (.Name x ptg) iter fs) (ok : BlkOk X.N X.env.scope scope own) (hv : ∀ i ∈ vs1, i ∈ own.map (·.2)) (hj : j ∈ own.map (·.2)) (hk : k ∈ vs1) (hg : ∀ i, PG (blkX X scope i) (.Name x ptg) (gName j))
    (hi1 : ∀ i, DI (blkX X scope i) C true (.Name x1 ptg1) iter1 fs1) (hg1 : ∀ i, PG (blkX X scope i) (.Name x1 ptg1) (gName k)) (he : ∀ i, DE (blkX X scope i) C elt fe)
    (hs : ∀ x, foldedSetIterable iter X.env x = pure x := by intro _; rfl) (hs1 : ∀ env x, foldedSetIterable iter1 env x = pure x := by intro _ _; rfl) :
    DLc X C i (.Assign [.Name y py] (.ListComp elt [⟨.Name x ptg, iter, [], 0⟩, ⟨.Name x1 ptg1, iter1, [], 0⟩] scope pos) spos) (fLc2 (own.map (·.2)) vs1 j k fs fs1 fe) := by
  obtain ⟨wi, pi, ki⟩ := hi
  obtain ⟨wi1, pi1, ki1⟩ := all_di hi1
  obtain ⟨te, pe, ke⟩ := all_de he
  refine ⟨_, ps_setLc2 (i := i) hc hN hy hyl hsw pi ok hv (fun s H C' cl fp => hg (s, H, C', cl, fp)) (fun s H C' cl fp => pts_nil) (fun s H C' cl fp => pi1 (s, H, C', cl, fp)) (fun s H C' cl fp => hg1 (s, H, C', cl, fp)) (fun s H C' cl fp => pts_nil) (fun s H C' cl fp => pe (s, H, C', cl, fp)) hs hs1, fun env r q φ σ H Q F z => ?_⟩
  obtain ⟨ts, us, ev, q1, q2, q3, q4, rfl⟩ := q
  exact lc2_ev us ev hj hk (ki env ts q1) (fun t m => ki1 _ _ (q2 t m)) (fun t m u n => ke _ _ (q3 t m u n) ⟨X.s_0, X.H_0, 0, [], []⟩) q4 φ σ H Q F z
end
end CM
set_option Elab.async false
set_option linter.all false
set_option maxRecDepth 100000
set_option maxHeartbeats 1000000
/-! The data layer: dicts. -/
namespace CM
open PySem PySem.Spec PyProof.Rows L2
section
variable {X : Cx} {C : Addr} {e elt iter iter1 k v o i : Expr} {pos p p2 : Pos} {f g : En → Dt → Prop}
/-- {k: v}, k a tuple -/
theorem pe_dispT1 {tk tv : TE} (hu : X.A.units + 1 < cLine) (hk : PE X k tk) (hv : PE X v tv) : PE X (.Dict [some k] [v] pos) (fun σ H Q => ∀ p, H p = none → tk σ (upd H p (.dT [])) fun x H1 => tv σ H1 fun y H2 =>
    ∃ (b : Addr) (ks : List Key), x = .ref b ∧ H2 p = some (.dT []) ∧ H2 b = some (.tup (ks.map kV)) ∧ Q (.ref p) (upd H2 p (.dT (putK [] ks y)))) := by
  refine ⟨fun pins s σ H Q I q => ?_⟩
  have hn := I.hok.fresh (Nat.le_refl s.heap.objs.size)
  have I1 := I.laid (a := s.heap.objs.size) (o := .dT []) (h' := s.heap.push { cls := .type "dict", data := .dict #[] }) (t' := s.toks) (fun _ _ q => Heap.get?_push_of_some _ q) (Nat.le_refl _) (dt_empty s.heap I.big)
  rw [arm_eval_Dict, zip_pairTrees [some k] [v] X.env pos (by rfl) (by rfl), dictDisplay_pairs _ (by
    have := pairTrees_length [some k] [v] X.env pos (by rfl) (by rfl)
    intro z
    rw [z] at this
    cases this) (by
    have := pairTrees_length [some k] [v] X.env pos (by rfl) (by rfl)
    rw [this]
    show 1 < 17
    omega)]
  refine wpAny_bind (wpAny_standAt (wpAny_bind (wpAny_subDictH (knd := tupleKind (mixKind X.prog X.w)) (Q := fun d s' => wpAny (model X.prog X.w) X.A (pure (Value.ref d)) (EP X pins σ Q) X.xe s') ?_ (by
    have := pairTrees_length [some k] [v] X.env pos (by rfl) (by rfl)
    rw [this]
    show 1 ≤ 15
    omega) ?_)))
  · exact Nat.lt_of_succ_lt hu
  · refine pairTrees_cons_walk (thn (hk.run pins _ σ _ _ I1 (q _ hn)) fun u s1 ⟨x, H1, I1, rx, q1⟩ => thn (hv.run pins s1 σ H1 _ I1 q1) fun w2 s2 ⟨y, H2, I2, ry, q2⟩ => pairTrees_nil_walk ?_)
    obtain ⟨b, ks, rfl, hD, hb, q3⟩ := q2
    cases (show u = Value.ref b from rx)
    obtain ⟨z, hd, xs, rel, dd⟩ := dt_of I2.hok hD
    cases rel
    refine ⟨[(ks, b, w2)], ⟨rfl, rfl, key_of I2.hok hb, trivial⟩, dd, fun h' tk dd' hs => wpAny_pure ⟨.ref s.heap.objs.size, _, ?_, rfl, q3⟩⟩
    obtain ⟨qo, es, ep, hq, h2, h3, h4, _, h5⟩ := dd'
    refine d_write I2 (by rw [hD]; exact True.intro) hs ⟨qo, hq⟩ ⟨by show 1 ≤ sizeLine; decide, hd, _, .cons ⟨rfl, ?_, ry⟩ .nil, qo, es, ep, hq, h2, h3, h4, h5⟩
    rw [upd_ne (ne_of hb hD (fun z => nomatch z))]
    exact hb
/-! ### reading -/
def lookI (kvs : List (Int × Dt)) (k : Int) : Option Dt := (kvs.find? fun p => decide (p.1 = k)).map (·.2)
def lookT (kvs : List (List Int × Dt)) (k : List Int) : Option Dt := (kvs.find? fun p => decide (p.1 = k)).map (·.2)
theorem valV_kI (k : Int) : ∀ kvs : List (Int × Dt), valV (kI kvs) (Sum.inl k) = (lookI kvs k).map vOf
  | [] => rfl
  | p :: r => by
    have ih := valV_kI k r
    unfold valV lookI kI at ih ⊢
    rw [List.map_cons, List.find?_cons, List.find?_cons]
    by_cases h : p.1 = k
    · have h' : (Sum.inl p.1 : Key) = Sum.inl k := by rw [h]
      rw [decide_eq_true h, decide_eq_true h']
      rfl
    · have h' : ¬ (Sum.inl p.1 : Key) = Sum.inl k := fun q => h (Sum.inl.inj q)
      rw [decide_eq_false h, decide_eq_false h']
      exact ih
theorem inl_inj : ∀ {a b : List Int}, a.map (Sum.inl : Int → Key) = b.map Sum.inl → a = b
  | [], [], _ => rfl
  | [], _ :: _, h => by cases h
  | _ :: _, [], h => by cases h
  | x :: a, y :: b, h => by
    rw [List.map_cons, List.map_cons] at h
    injection h with h1 h2
    rw [Sum.inl.inj h1, inl_inj h2]
theorem valV_kT (k : List Int) : ∀ kvs : List (List Int × Dt), valV (kT kvs) (k.map Sum.inl) = (lookT kvs k).map vOf
  | [] => rfl
  | p :: r => by
    have ih := valV_kT k r
    unfold valV lookT kT at ih ⊢
    rw [List.map_cons, List.find?_cons, List.find?_cons]
    by_cases h : p.1 = k
    · have h' : p.1.map (Sum.inl : Int → Key) = k.map Sum.inl := by rw [h]
      rw [decide_eq_true h, decide_eq_true h']
      rfl
    · have h' : ¬ p.1.map (Sum.inl : Int → Key) = k.map Sum.inl := fun q => h (inl_inj q)
      rw [decide_eq_false h, decide_eq_false h']
      exact ih
theorem kV_map (ns : List Int) : (ns.map (Sum.inl : Int → Key)).map kV = ns.map V.int := by
  rw [List.map_map]
  rfl
theorem look_scal {κ : Type} [DecidableEq κ] {kvs : List (κ × Dt)} {k : κ} {d : Dt} (hs : ∀ p ∈ kvs, scalT p.2 = true) (h : ((kvs.find? fun p => decide (p.1 = k)).map (·.2)) = some d) : scalT d = true := by
  obtain ⟨p, hp, rfl⟩ := Option.map_eq_some_iff.mp h
  exact hs p (List.mem_of_find?_eq_some hp)
/-- d[k], d a dict of the frame's own with int keys -/
theorem de_dgetI (di : Nat) {x : Str} {px : Pos} (hu : X.A.units + 1 < cLine) (hi : DE X C i g) (hN : X.N[di]? = some x := by rfl) (hv : Vis X.env.scope x := by first | exact Or.inl rfl | exact Or.inr (Or.inl rfl) | exact Or.inr (Or.inr rfl)) (hd : (x == ("__debug__" : Str)) = false := by decide)
    (hcd : (x == ("__classdict__" : Str)) = false := by decide) (hs : NoSl i := by exact fun _ _ => rfl) : DE X C (.Subscript (.Name x px) i pos) (fun env d => ∃ kvs n, env[di]? = some (.oI kvs) ∧ g env (.int n) ∧ lookI kvs n = some d) := by
  obtain ⟨ti, pi, ki⟩ := hi
  refine ⟨_, pe_dget hu (pe_var hN hv hd hcd) pi hs, fun env d q φ σ H Q F z => ?_⟩
  obtain ⟨kvs, n, q1, q2, q3⟩ := q
  obtain ⟨⟨h1, h2, h3, h4⟩, h5, h6⟩ := F.slot di _ q1
  refine ⟨_, h1, ki env _ q2 φ σ H _ F fun v H1 e1 r1 => ?_⟩
  cases r1
  have sc := look_scal h6 q3
  have g' := DGet.k (k := Sum.inl n) (e1 _ _ h5)
  rw [valV_kI, q3] at g'
  exact ⟨_, vOf d, rfl, g', z _ H1 e1 (rs_vOf sc)⟩
/-- d[k], tuple keys -/
theorem de_dgetT (di : Nat) {x : Str} {px : Pos} (hu : X.A.units + 1 < cLine) (hi : DE X C i g) (hN : X.N[di]? = some x := by rfl) (hv : Vis X.env.scope x := by first | exact Or.inl rfl | exact Or.inr (Or.inl rfl) | exact Or.inr (Or.inr rfl)) (hd : (x == ("__debug__" : Str)) = false := by decide)
    (hcd : (x == ("__classdict__" : Str)) = false := by decide) (hs : NoSl i := by exact fun _ _ => rfl) : DE X C (.Subscript (.Name x px) i pos) (fun env d => ∃ kvs ns, env[di]? = some (.oT kvs) ∧ g env (tI ns) ∧ lookT kvs ns = some d) := by
  obtain ⟨ti, pi, ki⟩ := hi
  refine ⟨_, pe_dget hu (pe_var hN hv hd hcd) pi hs, fun env d q φ σ H Q F z => ?_⟩
  obtain ⟨kvs, ns, q1, q2, q3⟩ := q
  obtain ⟨⟨h1, h2, h3, h4⟩, h5, h6⟩ := F.slot di _ q1
  refine ⟨_, h1, ki env _ q2 φ σ H _ F fun v H1 e1 r1 => ?_⟩
  cases r1 with
  | tup p0 p1 p2 =>
    obtain rfl := p2.of_ints
    have sc := look_scal h6 q3
    rw [← kV_map] at p1
    have g' := DGet.t (e1 _ _ h5) p1
    rw [valV_kT, q3] at g'
    exact ⟨_, vOf d, rfl, g', z _ H1 e1 (rs_vOf sc)⟩
/-- k not in d -/
theorem db_notInT (di : Nat) {x : Str} {px : Pos} (hu : X.A.units + 1 < cLine) (hi : DE X C i g) (hN : X.N[di]? = some x := by rfl) (hv : Vis X.env.scope x := by first | exact Or.inl rfl | exact Or.inr (Or.inl rfl) | exact Or.inr (Or.inr rfl)) (hd : (x == ("__debug__" : Str)) = false := by decide)
    (hcd : (x == ("__classdict__" : Str)) = false := by decide) (hm : behindInMarks .NotIn (.Name x px) = false := by rfl) : DB X C (.Compare i [.NotIn] [.Name x px] pos) (fun env r => ∃ kvs ns, env[di]? = some (.oT kvs) ∧ g env (tI ns) ∧ r = !(lookT kvs ns).isSome) := by
  obtain ⟨ti, pi, ki⟩ := hi
  refine ⟨_, pt_cmp (pc_dnotin hu pi (pe_var hN hv hd hcd)) hm, fun env d q φ σ H Q F z => ?_⟩
  obtain ⟨kvs, ns, q1, q2, rfl⟩ := q
  obtain ⟨⟨h1, h2, h3, h4⟩, h5, h6⟩ := F.slot di _ q1
  refine ki env _ q2 φ σ H _ F fun v H1 e1 r1 => ⟨_, h1, ?_⟩
  cases r1 with
  | tup p0 p1 p2 =>
    obtain rfl := p2.of_ints
    rw [← kV_map] at p1
    have g' := DGet.t (e1 _ _ h5) p1
    rw [valV_kT] at g'
    refine ⟨_, _, rfl, g', _, rfl, ?_⟩
    have e : ((lookT kvs ns).map vOf).isSome = (lookT kvs ns).isSome := by cases lookT kvs ns <;> rfl
    rw [e]
    exact z H1 e1
/-! ### new dicts -/
structure DN (X : Cx) (C : Addr) (e : Expr) (f : En → Sl → Prop) : Prop where
  ex : ∃ t, PE X e t ∧ ∀ env s, f env s → (∃ kvs, s = .oI kvs ∧ (∀ p ∈ kvs, scalT p.2 = true) ∧ EvO X.K C t env (.dK (kI kvs))) ∨ (∃ kvs, s = .oT kvs ∧ (∀ p ∈ kvs, scalT p.2 = true) ∧ EvO X.K C t env (.dT (kT kvs)))
theorem dn_empT : DN X C (.Dict [] [] pos) (fun _ s => s = .oT []) :=
  ⟨_, pe_dnewT, fun env s q => .inr ⟨[], q, (fun p h => by cases h), fun φ σ H Q F z p hp => z p _ (Ex.new hp) hp upd_same⟩⟩
theorem dn_dispT1 (hu : X.A.units + 1 < cLine) (hk : DE X C k f) (hv : DE X C v g) : DN X C (.Dict [some k] [v] pos) (fun env s => ∃ ns d, f env (tI ns) ∧ g env d ∧ scalT d = true ∧ s = .oT [(ns, d)]) := by
  obtain ⟨tk, pk, kk⟩ := hk
  obtain ⟨tv, pv, kv⟩ := hv
  refine ⟨_, pe_dispT1 hu pk pv, fun env s q => ?_⟩
  obtain ⟨ns, d, q1, q2, q3, rfl⟩ := q
  refine .inr ⟨_, rfl, fun p h => ?_, fun φ σ H Q F z p hp => ?_⟩
  · cases h with
    | head => exact q3
    | tail _ h => cases h
  · have F1 := F.ex (Ex.new (o := .dT []) hp)
    refine kk env _ q1 φ σ _ _ F1 fun x H1 e1 r1 => kv env _ q2 φ σ H1 _ (F1.ex e1) fun y H2 e2 r2 => ?_
    cases r1 with
    | tup p0 p1 p2 =>
      obtain rfl := p2.of_ints
      rw [← kV_map] at p1
      have hp2 : H2 p = some (.dT []) := e2 _ _ (e1 _ _ upd_same)
      refine ⟨_, _, rfl, hp2, e2 _ _ p1, ?_⟩
      have ey : y = vOf d := vOf_rs q3 r2
      subst ey
      exact z p _ (Ex.mut ((Ex.new hp).trans (e1.trans e2)) hp) hp upd_same
end
end CM
set_option Elab.async false
set_option linter.all false
set_option maxRecDepth 100000
set_option maxHeartbeats 1000000
/-! enumerate(a tuple). -/
namespace PySem
open Sem (wp)
open AutoSeq1 (wpAny_loadPart')
theorem meets_enumerate_newTup (l : Addr) (items : Array Value) (n : Nat) (dct : Option Addr) (sl : Array (Option Value)) :
    Meets (Builtin.«enumerate.__new__» ⟨[.type "enumerate", .ref l], []⟩) (fun _ R s => s.heap.get? l = some { cls := .type "tuple", dict := dct, data := .seq items n, slots := sl } ∧
      R (.ok (.ret (.ref (s.heap.push { cls := .type "tuple_iterator", data := .fields #[.ref l, .int 0 0] }).objs.size)))
        { s with heap := (s.heap.push { cls := .type "tuple_iterator", data := .fields #[.ref l, .int 0 0] }).push { cls := .type "enumerate", data := .fields #[.none, .bool false, .ref s.heap.objs.size, rawInt 0, .none, .none] } }) :=
  .of_wp fun prog w A R s h => by
    obtain ⟨hp, g, d, tk, os⟩ := s; obtain ⟨hl, h⟩ := h
    have hsub := sub_enumerate
    have hL : Heap.IsTuple (Shared.heap ⟨hp, g, d, tk, os⟩) l items := ⟨_, hl, rfl, n, rfl⟩
    wp_walk using wpAny_loadPart' hl
    refine wpAny_stack_any fun st => wpAny_pure ?_
    split
    · rename_i c _ _ _ _ _
      cases (c == Value.type "enumerate")
      · wp_walk using wpAny_loadPart' hl, wpAny_pyIter_tuple hL
        exact ⟨_, rfl, h⟩
      · wp_walk using wpAny_loadPart' hl, wpAny_pyIter_tuple hL
        exact ⟨_, rfl, h⟩
    · wp_walk using wpAny_loadPart' hl, wpAny_pyIter_tuple hL
      exact ⟨_, rfl, h⟩
section
variable {prog : Program} {w : World} {A : Around} {E : Value → Shared → Prop} {s : Shared}
theorem call_enumerate_tupleX {l : Addr} {items : Array Value} {Q : Value → Shared → Prop} (hL : s.heap.IsTuple l items)
    (h : ∀ h', IsEnum h' (s.heap.objs.size + 1) s.heap.objs.size 0 .none → h'.IsTupleIter s.heap.objs.size l 0 → h'.objs.size = s.heap.objs.size + 2 →
      (∀ b o, s.heap.get? b = some o → h'.get? b = some o) → Q (.ref (s.heap.objs.size + 1)) { s with heap := h' }) :
    wpAny (model prog w) A (call (.type "enumerate") [.ref l]) Q E s := by
  obtain ⟨⟨c, dct, dt, sl⟩, hl, hc, n, hd⟩ := hL
  replace hc : c = .type "tuple" := hc
  replace hd : dt = .seq items n := hd
  subst hc hd
  refine callType_new F.called_enumerate (by decide) (F.typeCall_enumerate_1 _) (F.newCall_enumerate_1 _) (fun obj => F.args_object_init_2 obj _) F.entry_enumerate_new
    (meets_enumerate_newTup l items n dct sl) ⟨hl, ?_⟩
  have hz : (s.heap.push { cls := .type "tuple_iterator", data := .fields #[.ref l, .int 0 0] }).objs.size = s.heap.objs.size + 1 := Heap.size_push ..
  show _ ∧ _
  rw [hz]
  have he : IsEnum ((s.heap.push { cls := .type "tuple_iterator", data := .fields #[.ref l, .int 0 0] }).push
      { cls := .type "enumerate", data := .fields #[.none, .bool false, .ref s.heap.objs.size, rawInt 0, .none, .none] }) (s.heap.objs.size + 1) s.heap.objs.size 0 .none := by
    have := Heap.get?_push_size (s.heap.push { cls := .type "tuple_iterator", data := .fields #[.ref l, .int 0 0] })
      (o := { cls := .type "enumerate", data := .fields #[.none, .bool false, .ref s.heap.objs.size, rawInt 0, .none, .none] }) rfl
    rw [hz] at this; exact this
  refine ⟨⟨_, he, rfl⟩, h _ he ⟨_, Heap.get?_push_of_some _ (Heap.get?_push_size _ rfl), rfl, rfl⟩ (by rw [Heap.size_push, hz]) fun b o x => Heap.get?_push_of_some _ (Heap.get?_push_of_some _ x)⟩
end
end PySem
namespace CM
open PySem PySem.Spec PyProof.Rows L2
def IteT (K : PySem.W.Frag) (a : Addr) : It :=
  ⟨fun i H => ∃ (xs : List V) (x : V), SqT K H a xs ∧ xs[i]? = some x, fun i H v H' => ∃ T x, v = .ref T ∧ H T = none ∧ H' = upd H T (.tup [.int (i : Nat), x]) ∧ ∀ xs, SqT K H a xs → xs[i]? = some x, fun i H => ∃ xs : List V, SqT K H a xs ∧ xs.length ≤ i⟩
theorem turn_enumT {P : Program} {w : World} {K : PySem.W.Frag} {elts : List Expr} {kk : Nat} {tpos : Pos} (a e it : Addr) (hae : a ≠ e) (hai : a ≠ it) :
    Turn P w K (.Tuple elts kk tpos) (IteT K a) [e, it] e (fun i h => (∃ old, IsEnum h e it ((i : Nat) : Int) old) ∧ h.IsTupleIter it a i ∧ e ≠ it) where
  mem := by simp
  obj := fun i h st b hb => by
    obtain ⟨⟨old, he⟩, ⟨o, ho, hc, hd⟩, _⟩ := st
    have e' : b = e ∨ b = it := by simpa using hb
    rcases e' with z | z
    · rw [z]; exact ⟨_, he, fun v q => nomatch q⟩
    · rw [z]; exact ⟨o, ho, fun v q => by rw [hd] at q; cases q⟩
  keep := fun i h h' st k => let ⟨⟨old, he⟩, hi, hne⟩ := st; ⟨⟨old, k e (by simp) _ he⟩, hi.at fun o q => k it (by simp) o q, hne⟩
  item := by
    intro X hP hw hK hc i pins s σ H E I hf st hg
    subst hP hw hK
    obtain ⟨⟨old, he⟩, hit, hne⟩ := st
    obtain ⟨xs, x, hq, hx⟩ := hg
    obtain ⟨its, rv, p, hz⟩ := I.tuple hq
    obtain ⟨u, hu, ru⟩ := rv.get hx
    have hel : e < s.heap.objs.size := Heap.lt_size he
    have hil : it < s.heap.objs.size := by obtain ⟨_, q, _⟩ := hit; exact Heap.lt_size q
    have D := Draws.tuple (prog := X.prog) (w := X.w) (A := X.A.in1) (I.ok.hd hc) it a hai its.toArray
    refine wpAny_pyNext_enum_itemD D he ⟨hit, p⟩ (by simpa using (List.getElem?_eq_some_iff.mp hu).1) hne (by simp [hne, hae.symm]) fun x' h' tk hx' ho hit' hT hsz hk => ?_
    have ex' : x' = u := by
      have q : its[i]? = some x' := by simpa using hx'
      rw [hu] at q
      exact (Option.some.inj q).symm
    subst ex'
    refine ⟨_, rfl, wpAny_letOwnedTupleGo_enum (s := { s with heap := h', toks := tk + 1 }) ho fun h'' he' sb => ?_⟩
    have hT2 : h''.get? s.heap.objs.size = some { cls := .type "tuple", data := .seq #[.int i tk, x'] } := (sb.2 _ (Nat.ne_of_gt hel)).trans hT
    have new : ObjOk X.prog X.w (upd H s.heap.objs.size (.tup [.int (i : Nat), x])) h'' s.heap.objs.size (.tup [.int (i : Nat), x]) :=
      ⟨by show 2 ≤ sizeLine; decide, [.int i tk, x'], .cons ⟨_, rfl⟩ (.cons ru .nil), ⟨_, hT2, rfl, _, rfl⟩⟩
    have I1 : Inv X pins σ (upd H s.heap.objs.size (.tup [.int (i : Nat), x])) { s with heap := h'', toks := tk + 1 } :=
      I.turnedNew (ch := [e, it]) (fun b ob hb q => (sb.2 b (fun z => hb (by simp [z]))).trans (hk b ob (fun z => hb (by simp [z])) (fun z => hb (by simp [z])) q)) hf (Nat.le_refl _) new
    refine ⟨.ref s.heap.objs.size, _, I1, rfl, ⟨_, x, rfl, I.hok.fresh (Nat.le_refl _), rfl, fun ys hy => by rw [I.tuple_inj hy hq]; exact hx⟩, ⟨⟨x', ?_⟩, hit'.1.at fun o q => (sb.2 it (Ne.symm hne)).trans q, hne⟩, fun b hb => ?_⟩
    · have e1 : ((i + 1 : Nat) : Int) = (i : Int) + 1 := by omega
      rw [e1]; exact he'
    · have hb' : b < s.heap.objs.size := by
        have e' : b = e ∨ b = it := by simpa using hb
        rcases e' with z | z
        · rw [z]; exact hel
        · rw [z]; exact hil
      rw [upd_ne (Nat.ne_of_lt hb')]
      exact (hf b hb).1
  done := by
    intro X hP hw hK hc i pins s σ H E I hf st hg
    subst hP hw hK
    obtain ⟨⟨old, he⟩, hit, hne⟩ := st
    obtain ⟨xs, hq, hx⟩ := hg
    obtain ⟨its, rv, p, hz⟩ := I.tuple hq
    obtain ⟨f0, f1, f2, f3, f4, f5⟩ := hf it (by simp)
    have hl := rv.length
    have hii : its.length ≤ i := by omega
    have hT : s.TypeIs (.ref e) "enumerate" := ⟨_, he, rfl⟩
    unfold pyNext
    refine wpAny_bind (wpAny_attempt (wpAny_callSpecial?_slot (name := Str.ofString "__next__") hT F.slot_enumerate_next
      (wpAny_call_entry F.slot_enumerate_next hT F.entry_enumerate_next ?_ (F.args_enumerate_next_1 _))))
    show wpAny _ _ (field (.ref e) 2 >>= _) _ _ _
    refine wpAny_bind (wpAny_field he rfl (x := .ref it) rfl ?_)
    refine wpAny_bind (wpAny_nextOf_tuple_end (show X.A.in1.handled = none from I.ok.hd hc) hit p (by simpa using hii) fun h' x he' hx' => ?_)
    obtain ⟨o, ho, hc'⟩ := hx'
    refine wpAny_bind (wpAny_isInstance (T := "StopIteration") (b := true) ⟨o, ho, hc'⟩ isSubtype_stop ?_)
    exact wpAny_pure ⟨rfl, I.turned (t' := s.toks) (fun b o hb q => he' b o hb q) f0 f1 f3 f4 f5⟩
  self := fun A i s Q E st h => let ⟨⟨_, he⟩, _⟩ := st; wpAny_pyIter_enum he h
def iEnumT (K : PySem.W.Frag) (ta : TA) : TI := fun σ H R => ta σ H fun vs H1 => ∃ a xs, vs = [.ref a] ∧ SqT K H1 a xs ∧ R (IteT K a) H1
theorem pi_enumT {X : Cx} {e : Expr} {ta : TA} {p pos tpos : Pos} {elts : List Expr} {kk : Nat} (hg : Gl X "enumerate") (hm : X.mg "enumerate" = none) (ha : PA X [e] ta) (hs : starEach [e] X.env = [(false, eval e X.env)] := by rfl) :
    PI X (.Tuple elts kk tpos) (.Call (.Name "enumerate" p) [e] [] pos) (iEnumT X.K ta) := by
  refine ⟨fun pins s σ H R I h => ?_⟩
  refine Call_ (ld_blt I hg hm boot_enumerate (PyProof.Rows.callWith_type1 (thn (ha.run pos pins s σ H _ I h) fun us s1 ⟨vs, H1, I1, r1, q1⟩ => ?_) hs rfl))
  obtain ⟨a, xs, ex, hq, q⟩ := q1
  subst ex
  cases r1 with
  | cons r rr =>
    cases rr
    cases r
    obtain ⟨its, rv, p', hz⟩ := I1.tuple hq
    have hal : a < s1.heap.objs.size := by
      obtain ⟨o, ho, _⟩ := p'
      exact Heap.lt_size ho
    refine call_enumerate_tupleX p' fun h' he hit hsz hk => wpAny_pyIter_enum he ?_
    have I2 : Inv X pins σ H1 { s1 with heap := h' } := I1.kept (t' := s1.toks) hk
    refine ⟨s1.heap.objs.size + 1, [s1.heap.objs.size + 1, s1.heap.objs.size], _, _, H1, rfl, I2, turn_enumT a (s1.heap.objs.size + 1) s1.heap.objs.size (Nat.ne_of_lt (Nat.lt_succ_of_lt hal)) (Nat.ne_of_lt hal), ⟨⟨.none, he⟩, hit, Nat.succ_ne_self _⟩, fun b hb => ?_, q⟩
    have e' : b = s1.heap.objs.size + 1 ∨ b = s1.heap.objs.size := by simpa using hb
    have hle : s1.heap.objs.size ≤ b := by
      rcases e' with z | z
      · rw [z]; exact Nat.le_add_right _ _
      · rw [z]; exact Nat.le_refl _
    exact I1.fpOk hle (I1.hok.fresh hle)
/-- enumerate(a tuple or a list) -/
theorem di_enumT {X : Cx} {C : Addr} {a : Expr} {f : En → Dt → Prop} {p pos : Pos} {st : Bool} {elts : List Expr} {kk : Nat} {tpos : Pos} (hm : X.mg "enumerate" = none) (ha : DE X C a f) (hg : Gl X "enumerate" := by rfl) (hs : starEach [a] X.env = [(false, eval a X.env)] := by rfl) :
    DI X C st (.Tuple elts kk tpos) (.Call (.Name "enumerate" p) [a] [] pos) (fun env ts => ∃ us, f env (.xtp us) ∧ ts = enumD 0 us) := by
  obtain ⟨ta, pa, ka⟩ := ha
  refine ⟨_, pi_enumT hg hm (pa_cons pa pa_nil hs) hs, fun env ts q φ σ H R F z => ?_⟩
  obtain ⟨us, q1, rfl⟩ := q
  refine ka env _ q1 φ σ H _ F fun v H1 e1 r1 => ?_
  cases r1 with
  | xtp h0 hd h1 h2 =>
    refine ⟨_, _, rfl, (TupAt.x hd h1).sq, z _ H1 e1 fun H' P' k1 k2 k3 => ?_⟩
    have hk : SqT X.K H' _ _ := (TupAt.x hd (k1 _ _ (fun _ => .inl h0) h1)).sq
    have hr := h2.mono (P' := P') (H' := H') fun b o p q => ⟨k2 b o p q, k1 b o (fun _ => .inl p) q⟩
    refine ⟨fun i t ht => ?_, _, hk, by rw [enumD_len, h2.length]; exact Nat.le_refl _⟩
    obtain ⟨u, hu, rfl⟩ := enumD_get us 0 i t ht
    obtain ⟨w, hw, rw_⟩ := hr.get hu
    refine ⟨⟨_, w, hk, hw⟩, fun x H'' y => ?_⟩
    obtain ⟨T, x', rfl, hT, rfl, y⟩ := y
    have ey := y _ hk
    rw [hw] at ey
    cases ey
    refine ⟨Ex.new hT, .tup (k3 T hT) upd_same (.cons ?_ (.cons (rw_.ex (Ex.new hT)) .nil))⟩
    rw [Nat.zero_add]
    exact .int _
/-! ### {k: v for a, b in ..} -/
theorem kI_app (kvs : List (Int × Dt)) (k : Int) (d : Dt) : kI (kvs ++ [(k, d)]) = kI kvs ++ [(Sum.inl k, vOf d)] := by
  unfold kI
  rw [List.map_append]
  rfl
theorem putK_kI {kvs : List (Int × Dt)} {k : Int} {d : Dt} (h : k ∉ kvs.map (·.1)) : putK (kI kvs) (Sum.inl k : Key) (vOf d) = kI (kvs ++ [(k, d)]) := by
  rw [kI_app, putK_new]
  rw [valV_kI]
  have e : lookI kvs k = none := by
    unfold lookI
    rw [List.find?_eq_none.mpr]
    · rfl
    · intro p hp
      simp only [decide_eq_true_eq]
      exact fun q => h (List.mem_map.mpr ⟨p, hp, q⟩)
  rw [e]
  rfl
section
variable {X : Cx} {C : Addr} {kx vx iter ta tb : Expr} {pos tpos : Pos} {kk : Nat} {scope : Scope} {fs : En → List Dt → Prop} {fk fv : En → Dt → Prop}
def envIn3 (env : En) (vs : List Nat) (j k : Nat) (t u : Dt) : En := ((wipeE env vs).set j (.sh t)).set k (.sh u)
abbrev fDc (vs : List Nat) (j k : Nat) (fs : En → List Dt → Prop) (fk fv : En → Dt → Prop) : En → Sl → Prop := fun env s => ∃ (ts : List Dt) (kf : Dt → Int) (vf : Dt → Dt),
  fs env ts ∧ (∀ t ∈ ts, ∃ a b, t = .tup [a, b] ∧ fk (envIn3 env vs j k a b) (.int (kf t)) ∧ fv (envIn3 env vs j k a b) (vf t) ∧ scalT (vf t) = true) ∧ (ts.map kf).Nodup ∧ ts.length ≤ 100000 ∧ s = .oI (ts.map fun t => (kf t, vf t))
theorem dn_dc (hc : X.calm = true) (hN : X.N.Nodup) (own : List (Str × Nat)) (j k : Nat) (hi : DI X C false (.Tuple [ta, tb] kk tpos) iter fs) (ok : BlkOk X.N X.env.scope scope own) (hj : j ∈ own.map (·.2)) (hk : k ∈ own.map (·.2))
    (hg : ∀ i, PG (blkX X scope i) (.Tuple [ta, tb] kk tpos) (gTup X.K 2 (gCons (gName j) (gCons (gName k) gNil)))) (hke : ∀ i, DE (blkX X scope i) C kx fk) (hve : ∀ i, DE (blkX X scope i) C vx fv)
    (hs : ∀ x, foldedSetIterable iter X.env x = pure x := by intro _; rfl) : DN X C (.DictComp kx vx [⟨.Tuple [ta, tb] kk tpos, iter, [], 0⟩] scope pos) (fDc (own.map (·.2)) j k fs fk fv) := by
  obtain ⟨wi, pi, ki⟩ := hi
  obtain ⟨tk, pk, kk'⟩ := all_de hke
  obtain ⟨tv, pv', kv⟩ := all_de hve
  have ne : Nonempty (Shared × Hp × Addr × List (Str × Addr) × List Addr) := ⟨X.s_0, X.H_0, 0, [], []⟩
  refine ⟨_, pe_dc hc hN pi ok (fun s H C' cl fp => hg (s, H, C', cl, fp)) (fun s H C' cl fp => pts_nil) (fun s H C' cl fp => pk (s, H, C', cl, fp)) (fun s H C' cl fp => pv' (s, H, C', cl, fp)) hs, fun env s q => ?_⟩
  obtain ⟨ts, kf, vf, q1, q2, q3, q4, rfl⟩ := q
  refine .inl ⟨_, rfl, fun p hp => ?_, fun φ σ H Q F z => ?_⟩
  · obtain ⟨t, ht, rfl⟩ := List.mem_map.mp hp
    obtain ⟨_, _, _, _, _, h⟩ := q2 t ht
    exact h
  refine ki env ts q1 φ σ H _ F fun J H1 e1 src D hD => ?_
  have F1 := F.ex e1
  refine ⟨fun i m H' => m = ts.length - i ∧ i ≤ ts.length ∧ Ex H1 H' ∧ H' D = some (.dK (kI ((ts.take i).map fun t => (kf t, vf t)))), ⟨_, rfl, Nat.zero_le _, Ex.new hD, upd_same⟩, ?_⟩
  rintro i m H' ⟨rfl, hi', eH, hacc⟩
  obtain ⟨go, stop⟩ := src H' (fun b => φ.P b ∧ b ≠ D) (fun b o _ q => eH b o q) (fun b o p q => ⟨p, ne_of_none q hD⟩) (fun b hb => ⟨F1.fresh b (eH.back hb), ne_none_some hb hacc⟩)
  by_cases hlt : i < ts.length
  · have hti : ts[i]? = some ts[i] := List.getElem?_eq_getElem hlt
    have hmem := List.getElem_mem hlt
    obtain ⟨g1, g2⟩ := go i _ hti
    refine .inr ⟨g1, fun H' => i + 1 ≤ ts.length ∧ Ex H1 H' ∧ H' D = some (.dK (kI ((ts.take (i + 1)).map fun t => (kf t, vf t)))), fun H2 q => ⟨_, by omega, rfl, q⟩, fun x H2 y => ?_⟩
    obtain ⟨e2, rx⟩ := g2 x H2 y
    obtain ⟨a, b, et, h1, h2, h3⟩ := q2 _ hmem
    rw [et] at rx
    cases rx with
    | tup p0 p1 p2 =>
      cases p2 with
      | cons ra rr =>
        cases rr with
        | cons rb rn =>
          cases rn
          refine ⟨_, _, rfl, .of p1, rfl, _, _, rfl, _, _, rfl, rfl, ?_⟩
          have F2 : Fok X.K C (φ.but D) (((wipe σ (own.map (·.2))).set j (some _)).set k (some _)) H2 (envIn3 env (own.map (·.2)) j k a b) := (((F1.wipe _).but hD (eH.trans e2) (e2 _ _ hacc)).putSh j ra).putSh k rb
          refine ⟨wipe_set2 hj hk _ _, yes_then ?_⟩
          refine kk' _ _ h1 ne _ _ H2 _ F2 fun y1 H3 e3 r3 => kv _ _ h2 ne _ _ H3 _ (F2.ex e3) fun y2 H4 e4 r4 => ?_
          cases r3
          have hacc4 := e4 _ _ (e3 _ _ (e2 _ _ hacc))
          have ey : y2 = vOf (vf ts[i]) := vOf_rs h3 r4
          subst ey
          have hkey : kf ts[i] ∉ ((ts.take i).map fun t => (kf t, vf t)).map (·.1) := by
            rw [List.map_map]
            intro hm
            obtain ⟨t, ht, e⟩ := List.mem_map.mp hm
            obtain ⟨l, hl, rfl⟩ := List.mem_iff_getElem.mp ht
            rw [List.length_take] at hl
            have hl' : l < ts.length := by omega
            have e' : (ts.map kf)[l]'(by simpa using hl') = (ts.map kf)[i]'(by simpa using hlt) := by simpa using e
            have := (List.getElem_inj q3).mp e'
            omega
          refine ⟨_, Sum.inl (kf ts[i]), rfl, hacc4, ?_, hlt, (eH.trans (e2.trans (e3.trans e4))).mut hD, ?_⟩
          · unfold kI
            rw [List.length_map, List.length_map, List.length_take]
            exact Nat.lt_of_le_of_lt (show min i ts.length ≤ 100000 by omega) (by decide)
          · rw [upd_same, putK_kI hkey, List.take_add_one, hti, List.map_append]
            rfl
  · have ei : i = ts.length := by omega
    subst ei
    rw [List.take_length] at hacc
    exact .inl ⟨stop, z D H' (e1.trans eH) (e1.back hD) hacc⟩
end
end CM
set_option Elab.async false
set_option linter.all false
set_option maxRecDepth 100000
set_option maxHeartbeats 1000000
/-! The data layer: statements, defs. -/
namespace CM
open PySem PySem.Spec PyProof.Rows L2
/-- the frame at a statement: H0 stands, P0 allows what was handed in and what is new -/
def Stt (K : PySem.W.Frag) (C : Addr) (HE H0 : Hp) (P0 : Addr → Prop) (σ : L2.St) (H : Hp) (env : En) : Prop :=
  ∃ (P : Addr → Prop) (ow : Nat → Addr), (∀ b, P b → P0 b) ∧ (∀ b, H0 b ≠ none → P0 b → P b) ∧ Ex H0 H ∧ Fok K C ⟨HE, H0, P0, P, ow⟩ σ H env
structure Ed where
  nx : En → Prop
  rt : Dt → Prop
  bk : En → Prop := fun _ => False
  ct : En → Prop := fun _ => False
structure Fits (K : PySem.W.Frag) (C : Addr) (HE H0 : Hp) (P0 : Addr → Prop) (D : Ends) (E : Ed) : Prop where
  nx : ∀ σ H env, Stt K C HE H0 P0 σ H env → E.nx env → D.nx σ H
  rt : ∀ v H d, Ex H0 H → Rs K C H P0 v d → E.rt d → D.rt v H
  bk : ∀ σ H env, Stt K C HE H0 P0 σ H env → E.bk env → D.bk σ H
  ct : ∀ σ H env, Stt K C HE H0 P0 σ H env → E.ct env → D.ct σ H
abbrev DT := Ed → En → Prop
structure DS (X : Cx) (C : Addr) (st : Stmt) (dt : DT) : Prop where
  ex : ∃ t, PS X st t ∧ ∀ HE H0 P0 D E σ H env, Fits X.K C HE H0 P0 D E → Stt X.K C HE H0 P0 σ H env → dt E env → t D σ H
structure DSs (X : Cx) (C : Addr) (st : List Stmt) (dt : DT) : Prop where
  ex : ∃ t, PSs X st t ∧ ∀ HE H0 P0 D E σ H env, Fits X.K C HE H0 P0 D E → Stt X.K C HE H0 P0 σ H env → dt E env → t D σ H
section
variable {K : PySem.W.Frag} {C : Addr} {HE H0 : Hp} {P0 : Addr → Prop} {D : Ends} {E : Ed} {σ : L2.St} {H H' : Hp} {env : En}
theorem Stt.ex (s : Stt K C HE H0 P0 σ H env) (e : Ex H H') : Stt K C HE H0 P0 σ H' env := by
  obtain ⟨P, ow, h1, h2, h3, F⟩ := s
  exact ⟨P, ow, h1, h2, h3.trans e, F.ex e⟩
/-- a new object becomes the frame's own -/
theorem own_new {P : Addr → Prop} {ow : Nat → Addr} (h1 : ∀ b, P b → P0 b) (h2 : ∀ b, H0 b ≠ none → P0 b → P b) (h3 : Ex H0 H) (F : Fok K C ⟨HE, H0, P0, P, ow⟩ σ H env) {a : Addr} {o : HO} (e : Ex H H') (ha : H a = none) (ha' : H' a = some o) (i : Nat) (s : Sl) (hs : s.isOwn = true)
    (hsl : ∀ ow' : Nat → Addr, ow' i = a → OwnAt ⟨HE, H0, P0, fun b => P b ∧ b ≠ a, ow'⟩ i (some (some (.ref a))) → SlOk K C ⟨HE, H0, P0, fun b => P b ∧ b ≠ a, ow'⟩ H' i (some (some (.ref a))) s) : Stt K C HE H0 P0 (σ.set i (some (.ref a))) H' (env.set i s) := by
  have hH0 : H0 a = none := h3.back ha
  have F' := F.but ha e ha'
  refine ⟨fun b => P b ∧ b ≠ a, fun j => if j = i then a else ow j, fun b q => h1 b q.1, fun b q r => ⟨h2 b q r, fun z => q (by rw [z]; exact hH0)⟩, h3.trans e, ⟨by rw [List.length_set, List.length_set]; exact F.len, fun j t ej => ?_, fun j k s1 t1 e1 e2 q1 q2 q => ?_, F'.fresh, F'.he, F'.heH⟩⟩
  · by_cases hj : j = i
    · subst hj
      by_cases hi : j < env.length
      · rw [List.getElem?_set_self hi] at ej
        cases ej
        rw [List.getElem?_set_self (by rw [F.len]; exact hi)]
        exact hsl _ (if_pos rfl) ⟨by show some (some (V.ref a)) = some (some (V.ref (if j = j then a else ow j))); rw [if_pos rfl], fun q => q.2 (if_pos rfl), by
          show P0 (if j = j then a else ow j)
          rw [if_pos rfl]
          exact h1 _ (F.fresh a ha), by
          show H0 (if j = j then a else ow j) = none
          rw [if_pos rfl]
          exact hH0⟩
      · rw [List.getElem?_eq_none (by simpa using hi)] at ej
        cases ej
    · rw [List.getElem?_set_ne (Ne.symm hj)] at ej
      rw [List.getElem?_set_ne (Ne.symm hj)]
      have z := F'.slot j t ej
      have en : (if j = i then a else ow j) = ow j := if_neg hj
      cases t with
      | un => trivial
      | sh d => exact z
      | raw d => exact z
      | own ts =>
        obtain ⟨⟨a1, a2, a3, a4⟩, a5⟩ := z
        simp only [SlOk, OwnAt, en]
        exact ⟨⟨a1, a2, a3, a4⟩, a5⟩
      | oI kvs =>
        obtain ⟨⟨a1, a2, a3, a4⟩, a5⟩ := z
        simp only [SlOk, OwnAt, en]
        exact ⟨⟨a1, a2, a3, a4⟩, a5⟩
      | oT kvs =>
        obtain ⟨⟨a1, a2, a3, a4⟩, a5⟩ := z
        simp only [SlOk, OwnAt, en]
        exact ⟨⟨a1, a2, a3, a4⟩, a5⟩
      | oG a' fs =>
        obtain ⟨⟨a1, a2, a3, a4⟩, a5⟩ := z
        simp only [SlOk, OwnAt, en]
        exact ⟨⟨a1, a2, a3, a4⟩, a5⟩
  · -- two slots, one object
    have there : ∀ (l : Nat) (u : Sl), env[l]? = some u → u.isOwn = true → ow l ≠ a := fun l u el ul z => by
      have k := F.slot l u el
      cases u with
      | own ts =>
        obtain ⟨_, xs, k2, _⟩ := k
        have k2' : H (ow l) = some (.lst xs) := k2
        rw [z, ha] at k2'
        cases k2'
      | oI kvs =>
        obtain ⟨_, k2, _⟩ := k
        have k2' : H (ow l) = some (.dK (kI kvs)) := k2
        rw [z, ha] at k2'
        cases k2'
      | oT kvs =>
        obtain ⟨_, k2, _⟩ := k
        have k2' : H (ow l) = some (.dT (kT kvs)) := k2
        rw [z, ha] at k2'
        cases k2'
      | oG a' fs =>
        obtain ⟨_, dx, fvs, _, k2, _⟩ := k
        have k2' : H (ow l) = some (.ins C dx fvs) := k2
        rw [z, ha] at k2'
        cases k2'
      | _ => cases ul
    by_cases hj : j = i
    · by_cases hk : k = i
      · rw [hj, hk]
      · exfalso
        rw [List.getElem?_set_ne (Ne.symm hk)] at e2
        have q' : (if j = i then a else ow j) = (if k = i then a else ow k) := q
        rw [if_pos hj, if_neg hk] at q'
        exact there k t1 e2 q2 q'.symm
    · by_cases hk : k = i
      · exfalso
        rw [List.getElem?_set_ne (Ne.symm hj)] at e1
        have q' : (if j = i then a else ow j) = (if k = i then a else ow k) := q
        rw [if_neg hj, if_pos hk] at q'
        exact there j s1 e1 q1 q'
      · rw [List.getElem?_set_ne (Ne.symm hj)] at e1
        rw [List.getElem?_set_ne (Ne.symm hk)] at e2
        have q' : (if j = i then a else ow j) = (if k = i then a else ow k) := q
        rw [if_neg hj, if_neg hk] at q'
        exact F.inj j k s1 t1 e1 e2 q1 q2 q'
/-- an object of the frame's own is written -/
theorem own_mut {P : Addr → Prop} {ow : Nat → Addr} (h1 : ∀ b, P b → P0 b) (h2 : ∀ b, H0 b ≠ none → P0 b → P b) (h3 : Ex H0 H) (F : Fok K C ⟨HE, H0, P0, P, ow⟩ σ H env) {i : Nat} {s s' : Sl} (hi : env[i]? = some s) (hs : s.isOwn = true) (hs' : s'.isOwn = true) (o : HO)
    (hsl : OwnAt ⟨HE, H0, P0, P, ow⟩ i σ[i]? → SlOk K C ⟨HE, H0, P0, P, ow⟩ (upd H (ow i) o) i σ[i]? s') : Stt K C HE H0 P0 σ (upd H (ow i) o) (env.set i s') := by
  have hown : OwnAt ⟨HE, H0, P0, P, ow⟩ i σ[i]? := by
    have z := F.slot i s hi
    cases s with
    | own ts => exact z.1
    | oI kvs => exact z.1
    | oT kvs => exact z.1
    | oG _ _ => exact z.1
    | _ => cases hs
  have hil : i < env.length := (List.getElem?_eq_some_iff.mp hi).1
  have n0 : H0 (ow i) = none := hown.2.2.2
  have nP : ¬ P (ow i) := hown.2.1
  have nE : HE (ow i) = none := F.he.back n0
  have mono : ∀ a u, P a → H a = some u → P a ∧ upd H (ow i) o a = some u := fun a u p q => ⟨p, by rw [upd_ne (fun z => nP (by rw [← z]; exact p))]; exact q⟩
  refine ⟨P, ow, h1, h2, h3.mut n0, ⟨by rw [List.length_set]; exact F.len, fun j t ej => ?_, fun j k s1 t1 e1 e2 q1 q2 q => ?_, fun b hb => ?_, F.he, F.heH.mut nE⟩⟩
  · by_cases hj : i = j
    · subst hj
      rw [List.getElem?_set_self hil] at ej
      cases ej
      exact hsl hown
    · rw [List.getElem?_set_ne hj] at ej
      have z := F.slot j t ej
      cases t with
      | un => trivial
      | sh d =>
        obtain ⟨v, a1, a2⟩ := z
        exact ⟨v, a1, a2.mono mono⟩
      | raw d =>
        obtain ⟨v, a, xs, ts, a1, a2, a3, a4, ⟨ns, a5, a5'⟩, a6, a7⟩ := z
        have na : a ≠ ow i := fun z => a7 (by show HE a = none; rw [z]; exact nE)
        have keep : ∀ u, H a = some u → upd H (ow i) o a = some u := fun u q => by rw [upd_ne na]; exact q
        refine ⟨v, a, xs, ts, a1, a2, a3, a4.imp (keep _) (fun k => k.mono keep), ⟨ns, a5, a5'⟩, ?_, a7⟩
        subst a2
        cases d with
        | lst us =>
          cases a3
          obtain ⟨a', xs', b1, b2, b3⟩ := a6.listOf
          cases b1
          exact .lst (keep _ b2) (b3.mono mono)
        | tup us =>
          cases a3
          obtain ⟨a', xs', b1, b2, b3⟩ := a6.tupOf
          cases b1
          exact .tup (keep _ b2) (b3.mono mono)
        | xtp us =>
          cases a6 with
          | of a6 => exact .of (a6.mono mono)
        | _ => cases a3
      | own ts =>
        obtain ⟨a1, xs, a2, a3⟩ := z
        have nj : ow j ≠ ow i := fun z => hj (F.inj i j s _ hi ej hs rfl z.symm)
        exact ⟨a1, xs, by show upd H (ow i) o (ow j) = _; rw [upd_ne nj]; exact a2, a3.mono mono⟩
      | oI kvs =>
        obtain ⟨a1, a2, a3⟩ := z
        have nj : ow j ≠ ow i := fun z => hj (F.inj i j s _ hi ej hs rfl z.symm)
        exact ⟨a1, by show upd H (ow i) o (ow j) = _; rw [upd_ne nj]; exact a2, a3⟩
      | oT kvs =>
        obtain ⟨a1, a2, a3⟩ := z
        have nj : ow j ≠ ow i := fun z => hj (F.inj i j s _ hi ej hs rfl z.symm)
        exact ⟨a1, by show upd H (ow i) o (ow j) = _; rw [upd_ne nj]; exact a2, a3⟩
      | oG a' fs =>
        obtain ⟨a1, dx, fvs, a2, a3, a4, a5⟩ := z
        have nj : ow j ≠ ow i := fun z => hj (F.inj i j s _ hi ej hs rfl z.symm)
        exact ⟨a1, dx, fvs, a2, by show upd H (ow i) o (ow j) = _; rw [upd_ne nj]; exact a3, a4, a5.mono mono⟩
  · have back : ∀ (l : Nat) (u : Sl), (env.set i s')[l]? = some u → u.isOwn = true → ∃ u', env[l]? = some u' ∧ u'.isOwn = true := fun l u el ul => by
      by_cases hl : i = l
      · subst hl
        exact ⟨s, hi, hs⟩
      · rw [List.getElem?_set_ne hl] at el
        exact ⟨u, el, ul⟩
    obtain ⟨u, b1, b2⟩ := back j s1 e1 q1
    obtain ⟨u', b3, b4⟩ := back k t1 e2 q2
    exact F.inj j k u u' b1 b3 b2 b4 q
  · by_cases hb' : b = ow i
    · subst hb'
      rw [upd_same] at hb
      cases hb
    · rw [upd_ne hb'] at hb
      exact F.fresh b hb
end
section
variable {X : Cx} {C : Addr} {e a b : Expr} {pos : Pos} {st : Stmt} {rest : List Stmt} {f g : En → Dt → Prop} {d1 d2 : DT}
/-! ### blocks -/
theorem dss_nil : DSs X C [] (fun E env => E.nx env) := ⟨_, pss_nil, fun HE H0 P0 D E σ H env F s q => F.nx _ _ _ s q⟩
theorem dss_cons (h1 : DS X C st d1) (h2 : DSs X C rest d2) : DSs X C (st :: rest) (fun E env => d1 { E with nx := d2 E } env) := by
  obtain ⟨t1, p1, k1⟩ := h1
  obtain ⟨t2, p2, k2⟩ := h2
  refine ⟨_, pss_cons p1 p2, fun HE H0 P0 D E σ H env F s q => ?_⟩
  exact k1 HE H0 P0 { D with nx := t2 D } { E with nx := d2 E } σ H env ⟨fun σ' H' env' s' q' => k2 HE H0 P0 D E σ' H' env' F s' q', F.rt, F.bk, F.ct⟩ s q
theorem dss_one (h1 : DS X C st d1) : DSs X C [st] d1 := by
  obtain ⟨t1, p1, k1⟩ := h1
  exact ⟨_, pss_one p1, k1⟩
theorem DSs.imp (h : DSs X C rest d1) (i : ∀ E env, d2 E env → d1 E env) : DSs X C rest d2 := by
  obtain ⟨t1, p1, k1⟩ := h
  exact ⟨t1, p1, fun HE H0 P0 D E σ H env F s q => k1 HE H0 P0 D E σ H env F s (i E env q)⟩
/-! ### assignments -/
abbrev dAsg (i : Nat) (f : En → Dt → Prop) : DT := fun E env => ∃ d, f env d ∧ E.nx (env.set i (.sh d))
theorem ds_set {x : Str} {pos' : Pos} (i : Nat) (hN : X.N.Nodup) (h : DE X C e f) (hi : X.N[i]? = some x := by rfl) (hx : Loc X.env.scope x := by first | exact Or.inl rfl | exact Or.inr rfl) (hs : swapsWith e (some (.Name x pos')) pos.line X.env = pure false := by rfl)
    (hf : X.fn x = true ∨ X.env.scope.names.lookup x = some .local := by first | exact .inl rfl | exact .inr rfl | assumption) : DS X C (.Assign [.Name x pos'] e pos) (dAsg i f) := by
  obtain ⟨t, p, k⟩ := h
  refine ⟨_, ps_set (i := i) hN hi hx p hs hf, fun HE H0 P0 D E σ H env F s q => ?_⟩
  obtain ⟨d, q1, q2⟩ := q
  obtain ⟨P, ow, h1, h2, h3, Fk⟩ := s
  refine k env d q1 _ σ H _ Fk fun v H' e1 r => ?_
  exact F.nx _ _ _ ⟨P, ow, h1, h2, h3.trans e1, (Fk.ex e1).putSh i r⟩ q2
abbrev dOwn (i : Nat) (f : En → List Dt → Prop) : DT := fun E env => ∃ ts, f env ts ∧ E.nx (env.set i (.own ts))
theorem own_list {K : PySem.W.Frag} {HE H0 : Hp} {P0 : Addr → Prop} {σ : L2.St} {H : Hp} {env : En} {P : Addr → Prop} {ow : Nat → Addr} (h1 : ∀ b, P b → P0 b) (h2 : ∀ b, H0 b ≠ none → P0 b → P b) (h3 : Ex H0 H) (F : Fok K C ⟨HE, H0, P0, P, ow⟩ σ H env) {a : Addr} {xs : List V} {ts : List Dt} {H' : Hp} (e : Ex H H') (ha : H a = none) (ha' : H' a = some (.lst xs))
    (r : RsL K C H' (fun b => P b ∧ b ≠ a) xs ts) (i : Nat) : Stt K C HE H0 P0 (σ.set i (some (.ref a))) H' (env.set i (.own ts)) :=
  own_new h1 h2 h3 F e ha ha' i (.own ts) rfl fun ow' ho hA => ⟨hA, xs, by show H' (ow' i) = _; rw [ho]; exact ha', r⟩
theorem ds_own {x : Str} {pos' : Pos} {f : En → List Dt → Prop} (i : Nat) (hN : X.N.Nodup) (h : DF X C e f) (hi : X.N[i]? = some x := by rfl) (hx : Loc X.env.scope x := by first | exact Or.inl rfl | exact Or.inr rfl) (hs : swapsWith e (some (.Name x pos')) pos.line X.env = pure false := by rfl)
    (hf : X.fn x = true ∨ X.env.scope.names.lookup x = some .local := by first | exact .inl rfl | exact .inr rfl | assumption) : DS X C (.Assign [.Name x pos'] e pos) (dOwn i f) := by
  obtain ⟨t, p, k⟩ := h
  refine ⟨_, ps_set (i := i) hN hi hx p hs hf, fun HE H0 P0 D E σ H env F s q => ?_⟩
  obtain ⟨ts, q1, q2⟩ := q
  obtain ⟨P, ow, h1, h2, h3, Fk⟩ := s
  refine k env ts q1 _ σ H _ Fk fun a xs H' e1 ha ha' r => ?_
  exact F.nx _ _ _ (own_list h1 h2 h3 Fk e1 ha ha' r i) q2
/-- name = [..] on one line -/
theorem ds_lcSh {f : En → List Dt → Prop} {i : Nat} (h : DLc X C i st f) : DS X C st (dAsg i (fLst f)) := by
  obtain ⟨t, p, k⟩ := h
  refine ⟨_, p, fun HE H0 P0 D E σ H env F s q => ?_⟩
  obtain ⟨_, ⟨ts, q1, rfl⟩, q2⟩ := q
  obtain ⟨P, ow, h1, h2, h3, Fk⟩ := s
  refine k env ts q1 _ σ H _ Fk fun a xs H' e1 ha ha' r => ?_
  exact F.nx _ _ _ ⟨P, ow, h1, h2, h3.trans e1, (Fk.ex e1).putSh i (.lst (Fk.fresh a ha) ha' (r.wid fun _ h => h.1))⟩ q2
theorem ds_lcOwn {f : En → List Dt → Prop} {i : Nat} (h : DLc X C i st f) : DS X C st (dOwn i f) := by
  obtain ⟨t, p, k⟩ := h
  refine ⟨_, p, fun HE H0 P0 D E σ H env F s q => ?_⟩
  obtain ⟨ts, q1, q2⟩ := q
  obtain ⟨P, ow, h1, h2, h3, Fk⟩ := s
  refine k env ts q1 _ σ H _ Fk fun a xs H' e1 ha ha' r => ?_
  exact F.nx _ _ _ (own_list h1 h2 h3 Fk e1 ha ha' r i) q2
abbrev dNew (i : Nat) (f : En → Sl → Prop) : DT := fun E env => ∃ s, f env s ∧ E.nx (env.set i s)
theorem ds_new {x : Str} {pos' : Pos} {f : En → Sl → Prop} (i : Nat) (hN : X.N.Nodup) (h : DN X C e f) (hi : X.N[i]? = some x := by rfl) (hx : Loc X.env.scope x := by first | exact Or.inl rfl | exact Or.inr rfl) (hs : swapsWith e (some (.Name x pos')) pos.line X.env = pure false := by rfl)
    (hf : X.fn x = true ∨ X.env.scope.names.lookup x = some .local := by first | exact .inl rfl | exact .inr rfl | assumption) : DS X C (.Assign [.Name x pos'] e pos) (dNew i f) := by
  obtain ⟨t, p, k⟩ := h
  refine ⟨_, ps_set (i := i) hN hi hx p hs hf, fun HE H0 P0 D E σ H env F s q => ?_⟩
  obtain ⟨sl, q1, q2⟩ := q
  obtain ⟨P, ow, h1, h2, h3, Fk⟩ := s
  rcases k env sl q1 with ⟨kvs, rfl, hsc, ev⟩ | ⟨kvs, rfl, hsc, ev⟩
  · refine ev _ σ H _ Fk fun a H' e1 ha ha' => ?_
    exact F.nx _ _ _ (own_new h1 h2 h3 Fk e1 ha ha' i (.oI kvs) rfl fun ow' ho hA => ⟨hA, by show H' (ow' i) = _; rw [ho]; exact ha', hsc⟩) q2
  · refine ev _ σ H _ Fk fun a H' e1 ha ha' => ?_
    exact F.nx _ _ _ (own_new h1 h2 h3 Fk e1 ha ha' i (.oT kvs) rfl fun ow' ho hA => ⟨hA, by show H' (ow' i) = _; rw [ho]; exact ha', hsc⟩) q2
/-- x op= e of ints -/
abbrev dAug (i : Nat) (f : En → Dt → Prop) (c : Int → Int → Prop) (h : Int → Int → Int) : DT := fun E env => ∃ m n, env[i]? = some (.sh (.int m)) ∧ f env (.int n) ∧ c m n ∧ E.nx (env.set i (.sh (.int (h m n))))
theorem ds_aug {x : Str} {pos' : Pos} {op : Operator} {c : Int → Int → Prop} {h : Int → Int → Int} (i : Nat) (hN : X.N.Nodup) (ho : PIp X op (rI c fun i j => .int (h i j))) (he : DE X C e f) (hi : X.N[i]? = some x := by rfl) (hx : Loc X.env.scope x := by first | exact Or.inl rfl | exact Or.inr rfl)
    (hf : X.fn x = true ∨ X.env.scope.names.lookup x = some .local := by first | exact .inl rfl | exact .inr rfl | assumption) : DS X C (.AugAssign (.Name x pos') op e pos) (dAug i f c h) := by
  obtain ⟨t, p, k⟩ := he
  refine ⟨_, ps_aug (i := i) hN hi hx p ho hf, fun HE H0 P0 D E σ H env F s q => ?_⟩
  obtain ⟨m, n, q0, q1, q2, q3⟩ := q
  obtain ⟨P, ow, h1, h2, h3, Fk⟩ := s
  obtain ⟨v, hv, r⟩ := Fk.sh q0
  cases r
  refine ⟨_, hv, k env _ q1 _ σ H _ Fk fun w H' e1 r1 => ?_⟩
  cases r1
  exact ⟨m, n, rfl, rfl, q2, F.nx _ _ _ ⟨P, ow, h1, h2, h3.trans e1, (Fk.ex e1).putSh i (.int _)⟩ q3⟩
theorem ip_addI : PIp X .Add (rI (fun _ _ => True) fun i j => .int (i + j)) := fun pins s σ H x y v u Q I rx ry h => by
  obtain ⟨i, j, h1, h2, _, h3⟩ := h
  exact ip_add pins s σ H x y v u Q I rx ry ⟨i, j, h1, h2, h3⟩
theorem ip_mulI : PIp X .Mult (rI CMul fun i j => .int (i * j)) := fun pins s σ H x y v u Q I rx ry h => iop_mul pins s σ H x y v u Q I rx ry h
/-! ### return, if, expressions -/
abbrev dRet (f : En → Dt → Prop) : DT := fun E env => ∃ d, f env d ∧ E.rt d
theorem ds_ret (h : DE X C e f) : DS X C (.Return (some e) pos) (dRet f) := by
  obtain ⟨t, p, k⟩ := h
  refine ⟨_, ps_ret p, fun HE H0 P0 D E σ H env F s q => ?_⟩
  obtain ⟨d, q1, q2⟩ := q
  obtain ⟨P, ow, h1, h2, h3, Fk⟩ := s
  exact k env d q1 _ σ H _ Fk fun v H' e1 r => F.rt v H' d (h3.trans e1) (r.wid h1) q2
/-- return of a list of the frame's own -/
abbrev dRetO (i : Nat) : DT := fun E env => ∃ ts, env[i]? = some (.own ts) ∧ E.rt (.lst ts)
theorem ds_retO {x : Str} {px : Pos} (i : Nat) (hN : X.N[i]? = some x := by rfl) (hv : Vis X.env.scope x := by first | exact Or.inl rfl | exact Or.inr (Or.inl rfl) | exact Or.inr (Or.inr rfl)) (hd : (x == ("__debug__" : Str)) = false := by decide)
    (hcd : (x == ("__classdict__" : Str)) = false := by decide) : DS X C (.Return (some (.Name x px)) pos) (dRetO i) := by
  refine ⟨_, ps_ret (pe_var hN hv hd hcd), fun HE H0 P0 D E σ H env F s q => ?_⟩
  obtain ⟨ts, q1, q2⟩ := q
  obtain ⟨P, ow, h1, h2, h3, Fk⟩ := s
  obtain ⟨⟨a1, a2, a3, a4⟩, xs, a5, a6⟩ := Fk.slot i _ q1
  exact ⟨_, a1, F.rt _ H _ h3 (.lst a3 a5 (a6.wid h1)) q2⟩
theorem ds_retN : DS X C (.Return none pos) (fun E env => E.rt .non) := ⟨_, ps_retN, fun HE H0 P0 D E σ H env F s q => by
  obtain ⟨P, ow, h1, h2, h3, Fk⟩ := s
  exact F.rt _ H _ h3 .non q⟩
abbrev dIf (f : En → Bool → Prop) (d1 d2 : DT) : DT := fun E env => ∃ r, f env r ∧ (r = true → d1 E env) ∧ (r = false → d2 E env)
theorem ds_if {c : Expr} {s1 s2 : List Stmt} {f : En → Bool → Prop} (hc : DB X C c f) (h1 : DSs X C s1 d1) (h2 : DSs X C s2 d2) : DS X C (.If c s1 s2 pos) (dIf f d1 d2) := by
  obtain ⟨t, p, k⟩ := hc
  obtain ⟨t1, p1, k1⟩ := h1
  obtain ⟨t2, p2, k2⟩ := h2
  refine ⟨_, ps_if p p1 p2, fun HE H0 P0 D E σ H env F s q => ?_⟩
  obtain ⟨r, q1, q2, q3⟩ := q
  have s' := s
  obtain ⟨P, ow, a1, a2, a3, Fk⟩ := s
  refine k env r q1 _ σ H _ Fk fun H' e1 => ?_
  cases r with
  | true => exact iteT (k1 HE H0 P0 D E σ H' env F (s'.ex e1) (q2 rfl))
  | false => exact iteF (k2 HE H0 P0 D E σ H' env F (s'.ex e1) (q3 rfl))
abbrev dDrop (f : En → Dt → Prop) : DT := fun E env => (∃ d, f env d) ∧ E.nx env
theorem ds_expr (h : DE X C e f) (hs : swapsWith e none pos.line X.env = pure false := by rfl) : DS X C (.Expr e pos) (dDrop f) := by
  obtain ⟨t, p, k⟩ := h
  refine ⟨_, ps_expr p hs, fun HE H0 P0 D E σ H env F s q => ?_⟩
  obtain ⟨⟨d, q1⟩, q2⟩ := q
  have s' := s
  obtain ⟨P, ow, h1, h2, h3, Fk⟩ := s
  exact k env d q1 _ σ H _ Fk fun v H' e1 r => F.nx _ _ _ (s'.ex e1) q2
theorem ds_pass : DS X C (.Pass pos) (fun E env => E.nx env) := ⟨_, ps_pass, fun HE H0 P0 D E σ H env F s q => F.nx _ _ _ s q⟩
theorem ds_break : DS X C (.Break pos) (fun E env => E.bk env) := ⟨_, ps_break, fun HE H0 P0 D E σ H env F s q => F.bk _ _ _ s q⟩
theorem ds_continue : DS X C (.Continue pos) (fun E env => E.ct env) := ⟨_, ps_continue, fun HE H0 P0 D E σ H env F s q => F.ct _ _ _ s q⟩
theorem ds_never : DS X C st (fun E env => False) := ⟨_, ps_never, fun HE H0 P0 D E σ H env F s q => q⟩
/-! ### changes of the frame's own -/
abbrev dApp (i : Nat) (f : En → Dt → Prop) : DT := fun E env => ∃ ts d, env[i]? = some (.own ts) ∧ f env d ∧ ts.length < 100000 ∧ E.nx (env.set i (.own (ts ++ [d])))
theorem ds_app {x : Str} {px apos cpos : Pos} (i : Nat) (h : DE X C e f) (hN : X.N[i]? = some x := by rfl) (hv : Vis X.env.scope x := by first | exact Or.inl rfl | exact Or.inr (Or.inl rfl) | exact Or.inr (Or.inr rfl)) (hd : (x == ("__debug__" : Str)) = false := by decide)
    (hcd : (x == ("__classdict__" : Str)) = false := by decide)
    (hbase : attributeBase (.Name x px) "append" X.env (eval (.Name x px) X.env) = eval (.Name x px) X.env := by rfl)
    (hfew : ((backTo cpos (starEach [e] X.env)).all (fun x => !x.1) && (backToKw cpos (keywordEach [] X.env)).all (fun x => x.1.isSome)
      && decide ([e].length + ([] : List Keyword).length + (if ([] : List Keyword).isEmpty then 0 else 1) < 30)) = true := by rfl)
    (hline : (apos.endLine == cpos.line) = true := by rfl) (hs : starEach [e] X.env = (false, eval e X.env) :: starEach [] X.env := by rfl) (hplain : (backTo cpos (starEach [] X.env)).any (·.1) = false := by rfl)
    (hsw : swapsWith (.Call (.Attribute (.Name x px) "append" apos) [e] [] cpos) none pos.line X.env = pure false := by rfl) : DS X C (.Expr (.Call (.Attribute (.Name x px) "append" apos) [e] [] cpos) pos) (dApp i f) := by
  obtain ⟨t, p, k⟩ := h
  refine ⟨_, ps_expr (pe_bm PySem.F.plainAttrs_list PySem.F.slot_list_append PySem.F.type_list_append mt_append (pe_var hN hv hd hcd) (pa_cons p pa_nil hs) hbase hfew hline hs hplain) hsw, fun HE H0 P0 D E σ H env F s q => ?_⟩
  obtain ⟨ts, d, q0, q1, q2, q3⟩ := q
  obtain ⟨P, ow, h1, h2, h3, Fk⟩ := s
  obtain ⟨⟨a1, a2, a3, a4⟩, xs, a5, a6⟩ := Fk.slot i _ q0
  refine ⟨_, a1, .inl ⟨rfl, _, .of a5⟩, k env d q1 _ σ H _ Fk fun v H' e1 r => ?_⟩
  refine ⟨_, xs, v, rfl, rfl, e1 _ _ a5, Nat.lt_of_le_of_lt (by rw [a6.length]; exact Nat.le_of_lt q2) (show 100000 < sizeLine by decide), ?_⟩
  have Fk1 := Fk.ex e1
  refine F.nx _ _ _ (own_mut (s' := .own (ts ++ [d])) h1 h2 (h3.trans e1) Fk1 q0 rfl rfl _ fun ho => ⟨ho, _, upd_same, ?_⟩) q3
  exact ((a6.ex e1).append (.cons r .nil)).mono fun b o p q => ⟨p, by rw [upd_ne (fun z => a2 (by have p' : P b := p; rw [z] at p'; exact p'))]; exact q⟩
abbrev dSetI (i : Nat) (fi f : En → Dt → Prop) : DT := fun E env => ∃ (ts : List Dt) (k : Int) (j : Nat) (d : Dt), env[i]? = some (.own ts) ∧ fi env (.int k) ∧ f env d ∧ ixN ts.length k = some j ∧ E.nx (env.set i (.own (ts.set j d)))
theorem ds_setI {x : Str} {px p2 : Pos} {ix : Expr} {fi : En → Dt → Prop} (i : Nat) (h : DE X C e f) (hi : DE X C ix fi) (hpg : ∀ {to ti : TE}, PE X (.Name x px) to → PE X ix ti → PG X (.Subscript (.Name x px) ix p2) (gSub to ti rSetL)) (hN : X.N[i]? = some x := by rfl) (hv : Vis X.env.scope x := by first | exact Or.inl rfl | exact Or.inr (Or.inl rfl) | exact Or.inr (Or.inr rfl)) (hd : (x == ("__debug__" : Str)) = false := by decide)
    (hcd : (x == ("__classdict__" : Str)) = false := by decide) (hs : swapsWithSole [.Subscript (.Name x px) ix p2] e pos.line X.env = pure false := by rfl) (hw : swappedStores [.Subscript (.Name x px) ix p2] e X.env = pure none := by rfl) : DS X C (.Assign [.Subscript (.Name x px) ix p2] e pos) (dSetI i fi f) := by
  obtain ⟨t, p, k⟩ := h
  obtain ⟨ti, pi, ki⟩ := hi
  refine ⟨_, ps_asg p (hpg (pe_var hN hv hd hcd) pi) hs hw, fun HE H0 P0 D E σ H env F s q => ?_⟩
  obtain ⟨ts, kk, j, d, q0, q1, q2, q3, q4⟩ := q
  obtain ⟨P, ow, h1, h2, h3, Fk⟩ := s
  obtain ⟨⟨a1, a2, a3, a4⟩, xs, a5, a6⟩ := Fk.slot i _ q0
  refine k env d q2 _ σ H _ Fk fun v H' e1 r => ⟨_, a1, ki env _ q1 _ σ H' _ (Fk.ex e1) fun u H2 e2 r2 => ?_⟩
  cases r2
  have e12 := e1.trans e2
  refine ⟨_, xs, kk, j, rfl, rfl, e12 _ _ a5, by rw [a6.length]; exact q3, ?_⟩
  refine F.nx _ _ _ (own_mut (s' := .own (ts.set j d)) h1 h2 (h3.trans e12) (Fk.ex e12) q0 rfl rfl _ fun ho => ⟨ho, _, upd_same, ?_⟩) q4
  exact (RsL.set (r.ex e2) j (a6.ex e12)).mono fun b o p q => ⟨p, by rw [upd_ne (fun z => a2 (by have p' : P b := p; rw [z] at p'; exact p'))]; exact q⟩
/-- d[k] = e, k a tuple -/
def putT (kvs : List (List Int × Dt)) (k : List Int) (d : Dt) : List (List Int × Dt) := if (kvs.any fun p => decide (p.1 = k)) = true then kvs.map (fun p => if p.1 = k then (p.1, d) else p) else kvs ++ [(k, d)]
theorem putK_kT (kvs : List (List Int × Dt)) (k : List Int) (d : Dt) : putK (kT kvs) (k.map Sum.inl : List Key) (vOf d) = kT (putT kvs k d) := by
  have e : ∀ l : List (List Int × Dt), ((kT l).any fun kv => decide (kv.1 = k.map Sum.inl)) = l.any fun p => decide (p.1 = k) := by
    intro l
    induction l with
    | nil => rfl
    | cons p r ih =>
      unfold kT at ih ⊢
      rw [List.map_cons, List.any_cons, List.any_cons, ih]
      by_cases h : p.1 = k
      · have h' : p.1.map (Sum.inl : Int → Key) = k.map Sum.inl := by rw [h]
        rw [decide_eq_true h, decide_eq_true h']
      · have h' : ¬ p.1.map (Sum.inl : Int → Key) = k.map Sum.inl := fun q => h (inl_inj q)
        rw [decide_eq_false h, decide_eq_false h']
  unfold putK putT
  rw [e]
  split
  · unfold kT
    rw [List.map_map, List.map_map]
    refine List.map_congr_left fun p hp => ?_
    show (if p.1.map (Sum.inl : Int → Key) = k.map Sum.inl then _ else _) = _
    by_cases h : p.1 = k
    · have h' : p.1.map (Sum.inl : Int → Key) = k.map Sum.inl := by rw [h]
      rw [if_pos h']
      show _ = (((if p.1 = k then (p.1, d) else p).1.map Sum.inl, vOf (if p.1 = k then (p.1, d) else p).2))
      rw [if_pos h]
    · have h' : ¬ p.1.map (Sum.inl : Int → Key) = k.map Sum.inl := fun q => h (inl_inj q)
      rw [if_neg h']
      show _ = (((if p.1 = k then (p.1, d) else p).1.map Sum.inl, vOf (if p.1 = k then (p.1, d) else p).2))
      rw [if_neg h]
  · unfold kT
    rw [List.map_append]
    rfl
theorem putT_scal {kvs : List (List Int × Dt)} {k : List Int} {d : Dt} (h : ∀ p ∈ kvs, scalT p.2 = true) (hd : scalT d = true) : ∀ p ∈ putT kvs k d, scalT p.2 = true := by
  intro p hp
  unfold putT at hp
  split at hp
  · obtain ⟨q, hq, rfl⟩ := List.mem_map.mp hp
    split
    · exact hd
    · exact h q hq
  · rcases List.mem_append.mp hp with hp | hp
    · exact h p hp
    · rw [List.mem_singleton.mp hp]
      exact hd
abbrev dPutT (i : Nat) (fk f : En → Dt → Prop) : DT := fun E env => ∃ kvs k d, env[i]? = some (.oT kvs) ∧ fk env (tI k) ∧ f env d ∧ scalT d = true ∧ kvs.length < 100000 ∧ E.nx (env.set i (.oT (putT kvs k d)))
theorem ds_putT {x : Str} {px p2 : Pos} {ix : Expr} {fi : En → Dt → Prop} (i : Nat) (hu : X.A.units + 1 < cLine) (h : DE X C e f) (hi : DE X C ix fi) (hN : X.N[i]? = some x := by rfl) (hv : Vis X.env.scope x := by first | exact Or.inl rfl | exact Or.inr (Or.inl rfl) | exact Or.inr (Or.inr rfl)) (hd : (x == ("__debug__" : Str)) = false := by decide)
    (hcd : (x == ("__classdict__" : Str)) = false := by decide) (hs : swapsWith e (some (.Subscript (.Name x px) ix p2)) pos.line X.env = pure false := by rfl) : DS X C (.Assign [.Subscript (.Name x px) ix p2] e pos) (dPutT i fi f) := by
  obtain ⟨t, p, k⟩ := h
  obtain ⟨ti, pi, ki⟩ := hi
  refine ⟨_, ps_dput hu (pe_var hN hv hd hcd) pi p hs, fun HE H0 P0 D E σ H env F s q => ?_⟩
  obtain ⟨kvs, kk, d, q0, q1, q2, q3, q4, q5⟩ := q
  obtain ⟨P, ow, h1, h2, h3, Fk⟩ := s
  obtain ⟨⟨a1, a2, a3, a4⟩, a5, a6⟩ := Fk.slot i _ q0
  refine k env d q2 _ σ H _ Fk fun v H' e1 r => ⟨_, a1, ki env _ q1 _ σ H' _ (Fk.ex e1) fun u H2 e2 r2 => ?_⟩
  have e12 := e1.trans e2
  have ev : v = vOf d := vOf_rs q3 r
  subst ev
  cases r2 with
  | tup p0 p1 p2 =>
    obtain rfl := p2.of_ints
    rw [← kV_map] at p1
    refine ⟨_, _, rfl, DPut.t (e12 _ _ a5) p1 (by unfold kT; rw [List.length_map]; exact Nat.lt_trans q4 (by decide)), ?_⟩
    rw [putK_kT]
    exact F.nx _ _ _ (own_mut (s' := .oT (putT kvs kk d)) h1 h2 (h3.trans e12) (Fk.ex e12) q0 rfl rfl _ fun ho => ⟨ho, upd_same, putT_scal a6 q3⟩) q5
end
/-! ### loops -/
section
variable {X : Cx} {C : Addr} {e tg : Expr} {pos : Pos} {body : List Stmt} {fs : En → List Dt → Prop} {d1 : DT}
/-- a target takes a tree -/
structure DG (X : Cx) (C : Addr) (tg : Expr) (dg : En → Dt → En → Prop) : Prop where
  ex : ∃ g, PG X tg g ∧ ∀ env t env', dg env t env' → ∀ (φ : Fra) (σ : L2.St) (H : Hp) (v : V) (Q : L2.St → Hp → Prop), Fok X.K C φ σ H env → Rs X.K C H φ.P v t → (∀ σ', Fok X.K C φ σ' H env' → Q σ' H) → g v σ H Q
theorem dg_name {x : Str} (i : Nat) (hN : X.N.Nodup) (hi : X.N[i]? = some x := by rfl) (hx : Loc X.env.scope x := by first | exact Or.inl rfl | exact Or.inr rfl) (hf : X.fn x = true ∨ X.env.scope.names.lookup x = some .local := by first | exact .inl rfl | exact .inr rfl | assumption) : DG X C (.Name x pos) (fun env t env' => env' = env.set i (.sh t)) :=
  ⟨gName i, pg_name hN hi hx hf, fun env t env' q φ σ H v Q F r z => by subst q; exact z _ (F.putSh i r)⟩
theorem dg_pair {a b : Expr} {kk} (i j : Nat) (hp : PG X (.Tuple [a, b] kk pos) (gTup X.K 2 (gCons (gName i) (gCons (gName j) gNil)))) : DG X C (.Tuple [a, b] kk pos) (fun env t env' => ∃ x y, t = .tup [x, y] ∧ env' = (env.set i (.sh x)).set j (.sh y)) := by
  refine ⟨_, hp, fun env t env' q φ σ H v Q F r z => ?_⟩
  obtain ⟨x, y, rfl, rfl⟩ := q
  cases r with
  | tup p0 p1 p2 =>
    cases p2 with
    | cons ra rr =>
      cases rr with
      | cons rb rn =>
        cases rn
        exact ⟨_, _, rfl, .of p1, rfl, _, _, rfl, _, _, rfl, rfl, z _ ((F.putSh i ra).putSh j rb)⟩
abbrev dFor (fs : En → List Dt → Prop) (dg : En → Dt → En → Prop) (d1 : DT) : DT := fun E env => ∃ ts, fs env ts ∧ ∃ W : Nat → En → Prop, W 0 env ∧
  (∀ k t env', ts[k]? = some t → W k env' → ∃ env2, dg env' t env2 ∧ d1 { nx := W (k + 1), ct := W (k + 1), bk := E.nx, rt := E.rt } env2) ∧ ∀ env', W ts.length env' → E.nx env'
open Classical in
theorem ds_for {dg : En → Dt → En → Prop} (hpo : PassesOwn (model X.prog X.w) X.A X.env X.xe) (hc : X.calm = true) (hi : DI X C true tg e fs) (hg : DG X C tg dg) (hb : DSs X C body d1) (hfs : ∀ x, foldedSetIterable e X.env x = pure x := by intro _; rfl) : DS X C (.For tg e body [] pos) (dFor fs dg d1) := by
  obtain ⟨wi, pi, ki⟩ := hi
  obtain ⟨g, pg, kg⟩ := hg
  obtain ⟨tb, pb, kb⟩ := hb
  refine ⟨_, ps_for hpo hc pi pg pb hfs, fun HE H0 P0 D E σ H env F s q => ?_⟩
  obtain ⟨ts, q1, W, w0, wt, we⟩ := q
  obtain ⟨P, ow, h1, h2, h3, Fk⟩ := s
  refine ki env ts q1 _ σ H _ Fk fun J H1 e1 src => ?_
  have Fk1 := Fk.ex e1
  have h31 := h3.trans e1
  -- what is to stand throughout the loop
  let HL : Hp := fun b => if H0 b ≠ none ∨ P b then H1 b else none
  have hL1 : Ex HL H1 := fun b o q => by
    have q' : (if H0 b ≠ none ∨ P b then H1 b else none) = some o := q
    split at q'
    · exact q'
    · cases q'
  have h0L : Ex H0 HL := fun b o q => by
    show (if H0 b ≠ none ∨ P b then H1 b else none) = some o
    rw [if_pos (.inl (by rw [q]; simp))]
    exact h31 b o q
  have hLP : ∀ b, HL b ≠ none → P0 b → P b := fun b q r => by
    have q' : (if H0 b ≠ none ∨ P b then H1 b else none) ≠ none := q
    split at q'
    · rename_i z
      rcases z with z | z
      · exact h2 b z r
      · exact z
    · exact absurd rfl q'
  have hPL : ∀ b o, P b → H1 b = some o → HL b = some o := fun b o p q => by
    show (if H0 b ≠ none ∨ P b then H1 b else none) = some o
    rw [if_pos (.inr p)]
    exact q
  have down : ∀ {σ' H' env'}, Stt X.K C HE HL P0 σ' H' env' → Stt X.K C HE H0 P0 σ' H' env' := fun {σ' H' env'} z => by
    obtain ⟨P', ow', a1, a2, a3, a4⟩ := z
    refine ⟨P', ow', a1, fun b q r => a2 b (fun z => q (h0L.back z)) r, h0L.trans a3, ⟨a4.len, fun j t ej => ?_, a4.inj, a4.fresh, Fk.he, a4.heH⟩⟩
    have z := a4.slot j t ej
    cases t with
    | un => trivial
    | sh d => exact z
    | raw d => exact z
    | own us => exact ⟨⟨z.1.1, z.1.2.1, z.1.2.2.1, h0L.back z.1.2.2.2⟩, z.2⟩
    | oI us => exact ⟨⟨z.1.1, z.1.2.1, z.1.2.2.1, h0L.back z.1.2.2.2⟩, z.2⟩
    | oT us => exact ⟨⟨z.1.1, z.1.2.1, z.1.2.2.1, h0L.back z.1.2.2.2⟩, z.2⟩
    | oG a' us => exact ⟨⟨z.1.1, z.1.2.1, z.1.2.2.1, h0L.back z.1.2.2.2⟩, z.2⟩
  have start : Stt X.K C HE HL P0 σ H1 env := by
    have noL : ∀ i, H0 (ow i) = none → ¬ P (ow i) → HL (ow i) = none := fun i q r => by
      show (if H0 (ow i) ≠ none ∨ P (ow i) then H1 (ow i) else none) = none
      rw [if_neg]
      rintro (z | z)
      · exact z q
      · exact r z
    refine ⟨P, ow, h1, hLP, hL1, ⟨Fk1.len, fun j t ej => ?_, Fk1.inj, Fk1.fresh, Fk.he.trans h0L, Fk1.heH⟩⟩
    have z := Fk1.slot j t ej
    cases t with
    | un => trivial
    | sh d => exact z
    | raw d => exact z
    | own us => exact ⟨⟨z.1.1, z.1.2.1, z.1.2.2.1, noL j z.1.2.2.2 z.1.2.1⟩, z.2⟩
    | oI us => exact ⟨⟨z.1.1, z.1.2.1, z.1.2.2.1, noL j z.1.2.2.2 z.1.2.1⟩, z.2⟩
    | oT us => exact ⟨⟨z.1.1, z.1.2.1, z.1.2.2.1, noL j z.1.2.2.2 z.1.2.1⟩, z.2⟩
    | oG a' us => exact ⟨⟨z.1.1, z.1.2.1, z.1.2.2.1, noL j z.1.2.2.2 z.1.2.1⟩, z.2⟩
  refine ⟨fun i m σ' H' => m = ts.length - i ∧ i ≤ ts.length ∧ ∃ env', W i env' ∧ Stt X.K C HE HL P0 σ' H' env', ⟨_, rfl, Nat.zero_le _, env, w0, start⟩, ?_⟩
  rintro i m σ' H' ⟨rfl, hi', env', hW, hS⟩
  have hS' := hS
  obtain ⟨P', ow', b1, b2, b3, F'⟩ := hS
  have ePP : ∀ b o, P b → H1 b = some o → P' b := fun b o p q => b2 b (by rw [hPL b o p q]; simp) (h1 b p)
  obtain ⟨go, stop⟩ := src H' P' (fun b o sb q => by
    rcases sb rfl with z | z
    · exact b3 b o (hPL b o z q)
    · have z' : HE b ≠ none := z
      obtain ⟨u, hu⟩ := Option.ne_none_iff_exists'.mp z'
      have e1' := F'.heH b u hu
      have e2' := Fk1.heH b u hu
      rw [e2'] at q
      rw [e1']
      exact q) ePP F'.fresh
  by_cases hlt : i < ts.length
  · have hti : ts[i]? = some ts[i] := List.getElem?_eq_getElem hlt
    obtain ⟨g1, g2⟩ := go i _ hti
    obtain ⟨env2, dg2, hbody⟩ := wt i _ env' hti hW
    refine .inr ⟨g1, fun σ2 H2 => i + 1 ≤ ts.length ∧ ∃ env', W (i + 1) env' ∧ Stt X.K C HE HL P0 σ2 H2 env', fun σ2 H2 q => ⟨_, by omega, rfl, q⟩, fun x H2 y => ?_⟩
    obtain ⟨e2, rx⟩ := g2 x H2 y
    refine kg env' _ env2 dg2 _ σ' H2 x _ (F'.ex e2) rx fun σ3 F3 => ?_
    refine kb HE HL P0 _ { nx := W (i + 1), ct := W (i + 1), bk := E.nx, rt := E.rt } σ3 H2 env2 ⟨fun σ4 H4 env4 s4 w4 => ⟨hlt, env4, w4, s4⟩, fun v H4 d4 e4 r4 q4 => F.rt v H4 d4 (h0L.trans e4) r4 q4, fun σ4 H4 env4 s4 w4 => F.nx _ _ _ (down s4) w4, fun σ4 H4 env4 s4 w4 => ⟨hlt, env4, w4, s4⟩⟩ ⟨P', ow', b1, b2, b3.trans e2, F3⟩ hbody
  · have ei : i = ts.length := by omega
    subst ei
    exact .inl ⟨stop, F.nx _ _ _ (down hS') (we env' hW)⟩
abbrev dWhile (f : En → Bool → Prop) (d1 : DT) : DT := fun E env => ∃ W : Nat → En → Prop, (∃ m, W m env) ∧ ∀ m env', W m env' → ∃ r, f env' r ∧
  (r = true → d1 { nx := fun e => ∃ m', m' < m ∧ W m' e, ct := fun e => ∃ m', m' < m ∧ W m' e, bk := E.nx, rt := E.rt } env') ∧ (r = false → E.nx env')
theorem ds_while {c : Expr} {f : En → Bool → Prop} (hpo : PassesOwn (model X.prog X.w) X.A X.env X.xe) (hcn : DB X C c f) (hb : DSs X C body d1) : DS X C (.While c body [] pos) (dWhile f d1) := by
  obtain ⟨t, p, k⟩ := hcn
  obtain ⟨tb, pb, kb⟩ := hb
  refine ⟨_, ps_while hpo p pb, fun HE H0 P0 D E σ H env F s q => ?_⟩
  obtain ⟨W, ⟨m, w0⟩, wt⟩ := q
  refine ⟨fun m σ' H' => ∃ env', W m env' ∧ Stt X.K C HE H0 P0 σ' H' env', ⟨m, env, w0, s⟩, ?_⟩
  rintro m σ' H' ⟨env', hW, hS⟩
  obtain ⟨r, q1, q2, q3⟩ := wt m env' hW
  have hS' := hS
  obtain ⟨P, ow, h1, h2, h3, Fk⟩ := hS
  refine k env' r q1 _ σ' H' _ Fk fun H2 e2 => ?_
  cases r with
  | true =>
    refine iteT ⟨fun σ2 H2 => ∃ m', m' < m ∧ ∃ env', W m' env' ∧ Stt X.K C HE H0 P0 σ2 H2 env', fun σ2 H2 ⟨m', a, b⟩ => ⟨m', a, b⟩, ?_⟩
    refine (kb HE H0 P0 _ { nx := fun e => ∃ m', m' < m ∧ W m' e, ct := fun e => ∃ m', m' < m ∧ W m' e, bk := E.nx, rt := E.rt } σ' H2 env' ⟨fun σ4 H4 env4 s4 w4 => ?_, F.rt, fun σ4 H4 env4 s4 w4 => F.nx _ _ _ s4 w4, fun σ4 H4 env4 s4 w4 => ?_⟩ (hS'.ex e2) (q2 rfl))
    · obtain ⟨m', a, b⟩ := w4
      exact ⟨m', a, env4, b, s4⟩
    · obtain ⟨m', a, b⟩ := w4
      exact ⟨m', a, env4, b, s4⟩
  | false => exact iteF (F.nx _ _ _ (hS'.ex e2) (q3 rfl))
end
end CM
set_option Elab.async false
set_option linter.all false
set_option maxRecDepth 100000
set_option maxHeartbeats 1000000
/-! The data layer: a def's promise from its body. -/
namespace CM
open PySem PySem.Spec PyProof.Rows L2
def slotsOf : List Bool → List Dt → En
  | false :: fl, d :: ds => .sh d :: slotsOf fl ds
  | true :: fl, d :: ds => .raw d :: slotsOf fl ds
  | _, _ => []
def startE (n : Nat) (fl : List Bool) (ds : List Dt) : En := slotsOf fl ds ++ List.replicate (n - fl.length) .un
/-- what is lent holds ints -/
def RawI : List Bool → List Dt → Prop
  | false :: fl, _ :: ds => RawI fl ds
  | true :: fl, d :: ds => (∃ ns : List Int, d.sq = some (ns.map .int)) ∧ RawI fl ds
  | _, _ => True
section
variable {K : PySem.W.Frag} {C : Addr} {H : Hp} {P : Addr → Prop}
theorem ArgsOk.len : ∀ {fl : List Bool} {vs : List V} {ds : List Dt}, ArgsOk K C H P fl vs ds → vs.length = fl.length ∧ ds.length = fl.length
  | _, _, _, .nil => ⟨rfl, rfl⟩
  | _, _, _, .sh _ t => ⟨congrArg Nat.succ (ArgsOk.len t).1, congrArg Nat.succ (ArgsOk.len t).2⟩
  | _, _, _, .raw _ t => ⟨congrArg Nat.succ (ArgsOk.len t).1, congrArg Nat.succ (ArgsOk.len t).2⟩
theorem slots_ok {φ : Fra} (hP : φ.P = P) (hE : φ.HE = H) : ∀ {fl : List Bool} {vs : List V} {ds : List Dt}, ArgsOk K C H P fl vs ds → RawI fl ds → (slotsOf fl ds).length = vs.length ∧ (∀ s ∈ slotsOf fl ds, s.isOwn = false) ∧ ∀ (i m : Nat) (s : Sl), (slotsOf fl ds)[i]? = some s → SlOk K C φ H m ((vs.map some)[i]?) s
  | _, _, _, .nil, _ => ⟨rfl, (fun s h => by cases h), fun i m s h => by cases (show ([] : List Sl)[i]? = some s from h)⟩
  | _, _, _, @ArgsOk.sh _ _ _ _ v d fl vs ds r t, hr => by
    obtain ⟨h1, h2, h3⟩ := slots_ok hP hE t hr
    refine ⟨congrArg Nat.succ h1, fun s h => ?_, fun i m s h => ?_⟩
    · rcases List.mem_cons.mp h with rfl | h
      · rfl
      · exact h2 s h
    · cases i with
      | zero =>
        have e := Option.some.inj h
        subst e
        exact ⟨v, rfl, by rw [hP]; exact r⟩
      | succ i => exact h3 i m s (by simpa [slotsOf] using h)
  | _, _, _, @ArgsOk.raw _ _ _ _ v d fl vs ds r t, hr => by
    obtain ⟨⟨ns, hns⟩, hr⟩ := hr
    obtain ⟨h1, h2, h3⟩ := slots_ok hP hE t hr
    refine ⟨congrArg Nat.succ h1, fun s h => ?_, fun i m s h => ?_⟩
    · rcases List.mem_cons.mp h with rfl | h
      · rfl
      · exact h2 s h
    · cases i with
      | zero =>
        have e := Option.some.inj h
        subst e
        obtain ⟨a, xs, e1, e2, e3⟩ := r.seq hns
        have e4 := e3.of_ints
        refine ⟨v, a, xs, _, rfl, e1, hns, e2, ⟨ns, rfl, e4⟩, by rw [hP]; exact r, ?_⟩
        rw [hE]
        rcases e2 with q | q
        · rw [q]
          simp
        · cases q with
          | t q =>
            rw [q]
            simp
          | x _ q =>
            rw [q]
            simp
      | succ i => exact h3 i m s (by simpa [slotsOf] using h)
theorem start_ok {N : List Str} {fl : List Bool} {vs : List V} {ds : List Dt} (h : ArgsOk K C H P fl vs ds) (hr : RawI fl ds) (hn : fl.length ≤ N.length) (hf : ∀ b, H b = none → P b) : Stt K C H H P (L2.start N vs) H (startE N.length fl ds) := by
  obtain ⟨h1, h2, h3⟩ := slots_ok (φ := ⟨H, H, P, P, fun _ => 0⟩) rfl rfl h hr
  obtain ⟨l1, l2⟩ := h.len
  have noOwn : ∀ (j : Nat) (t : Sl), (startE N.length fl ds)[j]? = some t → t.isOwn = false := fun j t e => by
    unfold startE at e
    rcases List.mem_append.mp (List.mem_of_getElem? e) with m | m
    · exact h2 t m
    · rw [(List.mem_replicate.mp m).2]
      rfl
  refine ⟨P, fun _ => 0, fun b p => p, fun b _ p => p, Ex.refl H, ⟨?_, fun i s e => ?_, fun i j s t e1 e2 q1 => ?_, hf, Ex.refl H, Ex.refl H⟩⟩
  · unfold L2.start startE
    rw [List.length_append, List.length_map, List.length_replicate, List.length_append, List.length_replicate, h1, l1]
  · unfold startE at e
    unfold L2.start
    by_cases hi : i < vs.length
    · rw [List.getElem?_append_left (by rw [List.length_map]; exact hi)]
      rw [List.getElem?_append_left (by rw [h1]; exact hi)] at e
      exact h3 i i s e
    · rw [List.getElem?_append_right (by rw [h1]; omega)] at e
      have m := List.mem_of_getElem? e
      rw [(List.mem_replicate.mp m).2]
      trivial
  · rw [noOwn i s e1] at q1
    cases q1
end
/-- what is written of the module: the class, the built-ins -/
structure Tx (K : PySem.W.Frag) (mg : Str → Option Value) (C : Addr) : Prop where
  cl : Cls K C
  nR : NoAttr K C "rows"
  nS : NoAttr K C "size"
  nI : NoAttr K C "inverses"
  len : mg "len" = none
  sorted : mg "sorted" = none
  range : mg "range" = none
  list : mg "list" = none
  all : mg "all" = none
  set : mg "set" = none
  tuple : mg "tuple" = none
  enumerate : mg "enumerate" = none
  isinstance : mg "isinstance" = none
  int : mg "int" = none
  bool : mg "bool" = none
  str : mg "str" = none
  abs : mg "abs" = none
  min : mg "min" = none
  max : mg "max" = none
  most : ∃ t, mg "MOST_MEMBERS" = some (.int 60 t)
section
variable {P : Program} {w : World} {K : PySem.W.Frag} {mg : Str → Option Value} {base : Heap} {C : Addr}
/-- a def's promise -/
theorem fn_ok {x qual : Str} {params : Arguments} {body : List Stmt} {scope : Scope} {kws : List (Str × V)} {dvs : List V} {f : Addr} {fd : FuncData} {N ps : List Str} {k : Nat} {fl : List Bool} {R : List Dt → Dt → Prop} {dt : DT}
    (F : FunD K x qual params body scope dvs kws f fd) (S : FnScope N ps scope) (hl : fl.length = ps.length) (hn : fl.length ≤ N.length) (hraw : ∀ ds r, R ds r → RawI fl ds)
    (hb : ∀ (cdv : Value) (A : Around) (outer : List Env) (s : Shared) (H : Hp) (E : XK), Room k (A.deeper (envOfC qual scope s.heap.objs.size f cdv)) → DSs (cxOf CX0 P w K mg base N qual scope f cdv A outer s H E).nox C body dt)
    (hp : ∀ ds r, R ds r → ds.length = fl.length → dt { nx := fun _ => r = .non, rt := fun d => d = r } (startE N.length fl ds)) : FnOk P w K mg base CX0 (k + 1) f fd ps (spD K C fl R) := by
  refine F.ok S (fun vs H Q E h => ?_) (fun cdv A outer s H vs Q E hr h => ?_)
  · obtain ⟨P0, ds, r, _, ha, _⟩ := h
    rw [ha.len.1, hl]
  · obtain ⟨P0, ds, r, hf, ha, hR, hk⟩ := h
    obtain ⟨t, pt, kt⟩ := hb cdv A outer s H E hr
    refine ⟨t, PSs.nox pt, kt H H P0 _ { nx := fun _ => r = .non, rt := fun d => d = r } _ H _ ⟨fun σ' H' env' s' q => ?_, fun v H' d e rs q => ?_, fun _ _ _ _ q => q, fun _ _ _ _ q => q⟩ (start_ok ha (hraw ds r hR) hn hf) (hp ds r hR ha.len.2)⟩
    · subst q
      obtain ⟨_, _, _, _, e, _⟩ := s'
      exact hk _ H' e .non
    · subst q
      exact hk v H' e rs
theorem Fn.of {x : Str} {k : Nat} {fl : List Bool} {R : List Dt → Dt → Prop} {qual : Str} {params : Arguments} {body : List Stmt} {scope : Scope} {f : Addr} {fd : FuncData} {ps : List Str} (F : FunD K x qual params body scope [] [] f fd) (h : FnOk P w K mg base CX0 k f fd ps (spD K C fl R)) (hb : Binds K fd ps []) (hm : mg x = some (.ref f)) : Fn P w K mg base C x k fl R :=
  ⟨f, hm, F.kp, (h.raw hb .nil).imp fun vs H Q E q => by rw [List.append_nil]; exact q⟩
theorem Mn.of {x : Str} {k : Nat} {fl : List Bool} {R : List Dt → Dt → Prop} {qual : Str} {params : Arguments} {body : List Stmt} {scope : Scope} {f : Addr} {fd : FuncData} {ps : List Str} (F : FunD K x qual params body scope [] [] f fd) (h : FnOk P w K mg base CX0 k f fd ps (spD K C fl R)) (hb : Binds K fd ps []) (hm : Meth K C x f) : Mn P w K mg base C x k fl R :=
  ⟨f, hm, (h.raw hb .nil).imp fun vs H Q E q => by rw [List.append_nil]; exact q⟩
theorem Fn.mono {x : Str} {j k : Nat} {fl : List Bool} {R : List Dt → Dt → Prop} (h : Fn P w K mg base C x j fl R) (l : j ≤ k) : Fn P w K mg base C x k fl R := by
  obtain ⟨f, h1, h2, h3⟩ := h
  exact ⟨f, h1, h2, h3.mono l⟩
end
end CM
set_option Elab.async false
set_option linter.all false
set_option maxRecDepth 100000
/-! The text by places. Printed by gen/head.py. -/
namespace CM
open PySem PySem.Spec PyProof.Rows L2
def top (i : Nat) : Stmt := PySem.Challenge.pw_chosenmoves_k16_whole_series_of_built_gr.main.body.getD i (.Pass ⟨0, 0, 0, 0⟩)
abbrev s_reached : Stmt := top 10
abbrev s_generating_members : Stmt := top 11
abbrev s_is_associative : Stmt := top 12
abbrev s_table_fault : Stmt := top 13
abbrev s_init_m : Stmt := inClass (top 14) 0
abbrev s_check_m : Stmt := inClass (top 14) 6
abbrev s_conjugated_m : Stmt := inClass (top 14) 9
abbrev s_commutator_m : Stmt := inClass (top 14) 10
abbrev s_generated : Stmt := top 15
abbrev s_check_subgroup : Stmt := top 16
abbrev s_commutator_subgroup : Stmt := top 17
abbrev s_is_normal : Stmt := top 19
abbrev s_cosets : Stmt := top 20
abbrev s_paired_rows : Stmt := top 22
abbrev s_product_group : Stmt := top 23
abbrev s_subgroup_group : Stmt := top 24
abbrev s_quotient_group : Stmt := top 25
abbrev s_derived_row : Stmt := top 27
abbrev s_perfect_subgroup : Stmt := top 28
abbrev s_lower_row : Stmt := top 30
abbrev s_subgroup_at : Stmt := top 31
abbrev s_lower : Stmt := top 32
abbrev s_class_of : Stmt := top 33
abbrev s_central_members : Stmt := top 35
abbrev s_centre : Stmt := top 36
abbrev s_upper_row : Stmt := top 37
abbrev s_law_cell : Stmt := top 39
abbrev s_law_numbers : Stmt := top 40
abbrev s_law_same : Stmt := top 41
abbrev s_law_generators : Stmt := top 42
abbrev s_law_close : Stmt := top 43
abbrev s_law_table : Stmt := top 44
abbrev s_law_renumbered : Stmt := top 45
abbrev s_law_group : Stmt := top 46
abbrev s_law_product : Stmt := top 47
abbrev s_law_affine : Stmt := top 48
abbrev s_law_any_group : Stmt := top 49
abbrev s_law_conjugates : Stmt := top 50
abbrev s_law_closed : Stmt := top 51
abbrev s_law_cosets : Stmt := top 52
abbrev s_law_picture : Stmt := top 53
abbrev s_law_subtable : Stmt := top 54
abbrev s_law_commutators : Stmt := top 55
abbrev s_law_series : Stmt := top 56
abbrev s_law_central : Stmt := top 57
abbrev s_law_upper : Stmt := top 58
abbrev s_law_end : Stmt := top 59
abbrev s_law_pairs : Stmt := top 60
abbrev s_law_lies_in : Stmt := top 61
abbrev s_law_product_told : Stmt := top 62
abbrev s_law_single_told : Stmt := top 63
abbrev s_law_cut : Stmt := top 64
abbrev s_law_pictured : Stmt := top 65
abbrev s_law_quotient_told : Stmt := top 66
abbrev s_law_stands : Stmt := top 67
abbrev s_law_subgroup_told : Stmt := top 68
abbrev s_law_normal : Stmt := top 69
abbrev s_law : Stmt := top 70
end CM
set_option Elab.async false
set_option linter.all false
set_option maxRecDepth 100000
set_option maxHeartbeats 1000000
/-! Plain lists of numbers as trees; small facts for the defs' pure goals. -/
namespace CM
open PySem PySem.Spec PyProof.Rows L2
theorem hu_of {k : Nat} {A : Around} (r : Room k A) : A.units + 1 < cLine := by have := r.units; omega
/-- def x stands with the text of st -/
abbrev FnS (K : PySem.W.Frag) (mg : Str → Option Value) (x : Str) (st : Stmt) : Prop := ∃ (f : Addr) (fd : FuncData), FunD K x x (defArgs st) (defBody st) (defScope st) [] [] f fd ∧ mg x = some (.ref f)
abbrev MnS (K : PySem.W.Frag) (C : Addr) (x qual : Str) (st : Stmt) : Prop := ∃ (f : Addr) (fd : FuncData), FunD K x qual (defArgs st) (defBody st) (defScope st) [] [] f fd ∧ Meth K C x f
def nD (M : List Nat) : List Dt := List.map (fun k : Nat => Dt.int (k : Int)) M
abbrev lN (M : List Nat) : Dt := .lst (nD M)
abbrev tN (M : List Nat) : Dt := .tup (nD M)
abbrev bD (bs : List Bool) : List Dt := bs.map .bl
theorem nD_len (M : List Nat) : (nD M).length = M.length := List.length_map ..
theorem bD_len (M : List Bool) : (bD M).length = M.length := List.length_map ..
theorem nD_get (M : List Nat) (i : Nat) : (nD M)[i]? = (M[i]?).map (fun k : Nat => Dt.int (k : Int)) := List.getElem?_map ..
theorem nD_app (M N : List Nat) : nD (M ++ N) = nD M ++ nD N := List.map_append ..
theorem bD_set (bs : List Bool) (k : Nat) (b : Bool) : bD (bs.set k b) = (bD bs).set k (.bl b) := by simp [bD, List.map_set]
theorem nD_snoc (M : List Nat) (k : Nat) : nD (M ++ [k]) = nD M ++ [.int (k : Int)] := by simp [nD]
theorem bD_rep (n : Nat) (b : Bool) : bD (List.replicate n b) = List.replicate n (.bl b) := by simp [bD]
theorem nD_rep (n k : Nat) : nD (List.replicate n k) = List.replicate n (.int (k : Int)) := by simp [nD]
theorem nD_set (M : List Nat) (k x : Nat) : nD (M.set k x) = (nD M).set k (.int (x : Int)) := by simp [nD, List.map_set]
theorem nD_ints (M : List Nat) : nD M = (List.map (fun k : Nat => (k : Int)) M).map Dt.int := by simp [nD]
theorem nD_rng (n : Nat) : rngD (n : Int) = nD (List.range n) := by simp [rngD, nD]
theorem lI_eq (M : List Nat) : lN M = lI (List.map (fun k : Nat => (k : Int)) M) := congrArg Dt.lst (nD_ints M)
theorem tI_eq (M : List Nat) : tN M = tI (List.map (fun k : Nat => (k : Int)) M) := congrArg Dt.tup (nD_ints M)
theorem ixN_nat {n k : Nat} (h : k < n) : ixN n (k : Int) = some k := by
  unfold ixN
  rw [if_pos (by omega), if_pos (by omega)]
  simp
theorem atI_nat {α : Type} {xs : List α} {k : Nat} {x : α} (h : xs[k]? = some x) : atI xs (k : Int) = some x := by
  have hk : k < xs.length := (List.getElem?_eq_some_iff.mp h).1
  unfold atI
  rw [ixN_nat hk]
  exact h
theorem atI_zero {α : Type} {xs : List α} {x : α} (h : xs[0]? = some x) : atI xs 0 = some x := atI_nat (k := 0) h
theorem atI_last {α : Type} {xs : List α} {x : α} (h : xs.getLast? = some x) : atI xs (-1) = some x := by
  cases xs with
  | nil => cases h
  | cons a t =>
    rw [List.getLast?_eq_getElem?] at h
    unfold atI ixN
    rw [if_neg (by omega), if_pos (by simp; omega)]
    have e : (-1 + ((a :: t).length : Int)).toNat = (a :: t).length - 1 := by simp; omega
    show (a :: t)[(-1 + ((a :: t).length : Int)).toNat]? = some x
    rw [e]
    exact h
theorem nD_at {M : List Nat} {k x : Nat} (h : M[k]? = some x) : atI (nD M) (k : Int) = some (.int x) := atI_nat (by rw [nD_get, h] <;> rfl)
theorem nD_last {M : List Nat} {x : Nat} (h : M.getLast? = some x) : atI (nD M) (-1) = some (.int x) := atI_last (by rw [nD, List.getLast?_map, h] <;> rfl)
theorem bD_at {M : List Bool} {k : Nat} {x : Bool} (h : M[k]? = some x) : atI (bD M) (k : Int) = some (.bl x) := atI_nat (by rw [List.getElem?_map, h] <;> rfl)
theorem nD_mem {M : List Nat} {t : Dt} (h : t ∈ nD M) : ∃ k ∈ M, t = .int (k : Int) := by
  obtain ⟨k, h1, h2⟩ := List.mem_map.mp h
  exact ⟨k, h1, h2.symm⟩
theorem nD_at' {M : List Nat} {i : Nat} {t : Dt} (h : (nD M)[i]? = some t) : ∃ k, M[i]? = some k ∧ t = .int (k : Int) := by
  rw [nD_get] at h
  cases q : M[i]? with
  | none =>
    rw [q] at h
    cases h
  | some k =>
    rw [q] at h
    cases h
    exact ⟨k, rfl, rfl⟩
theorem mem_nat {M : List Nat} {k : Nat} : decide ((k : Int) ∈ List.map (fun j : Nat => (j : Int)) M) = decide (k ∈ M) := by
  apply decide_eq_decide.mpr
  rw [List.mem_map]
  exact ⟨fun ⟨a, h, e⟩ => by
    have : a = k := by omega
    exact this ▸ h, fun h => ⟨k, h, rfl⟩⟩
/-! ### == of data -/
theorem pyL_nD : ∀ M : List Nat, Dt.pyL (nD M) = some (List.map (fun k : Nat => PyData.int (k : Int)) M)
  | [] => rfl
  | a :: r => by
    have e : nD (a :: r) = Dt.int (a : Int) :: nD r := rfl
    rw [e, Dt.pyL, pyL_nD r]
    rfl
theorem eqvAll_nD : ∀ M N : List Nat, PyData.eqvAll (List.map (fun k : Nat => PyData.int (k : Int)) M) (List.map (fun k : Nat => PyData.int (k : Int)) N) = decide (M = N)
  | [], [] => rfl
  | [], _ :: _ => rfl
  | _ :: _, [] => rfl
  | a :: r, b :: t => by
    show (PyData.eqv (.int (a : Int)) (.int (b : Int)) && PyData.eqvAll _ _) = _
    rw [eqvAll_nD r t]
    show (((a : Int) == (b : Int)) && _) = _
    by_cases h : a = b
    · subst h
      simp
    · have h' : ((a : Int) == (b : Int)) = false := by
        rw [beq_eq_false_iff_ne]
        omega
      rw [h']
      simp [h]
theorem lay_nD : ∀ M : List Nat, PyData.canLayAll0 (List.map (fun k : Nat => PyData.int (k : Int)) M) = true
  | [] => rfl
  | a :: r => by
    show (PyData.canLay0 (.int (a : Int)) && PyData.canLayAll0 _) = true
    rw [lay_nD r]
    rfl
theorem dep_nD : ∀ M : List Nat, PyData.depthAll (List.map (fun k : Nat => PyData.int (k : Int)) M) ≤ 1
  | [] => by decide
  | a :: r => by
    show max (PyData.depth (.int (a : Int))) (PyData.depthAll _) ≤ 1
    have := dep_nD r
    have e : PyData.depth (.int (a : Int)) ≤ 1 := by
      show (_ : Nat) ≤ 1
      simp only [PyData.depth]
      omega
    omega
theorem shp_tN (M : List Nat) : SeqAt.shaped (.tuple (List.map (fun k : Nat => PyData.int (k : Int)) M)) = true := by
  have h := dep_nD M
  have e : PyData.depth (.tuple (List.map (fun k : Nat => PyData.int (k : Int)) M)) ≤ 64 := by
    rw [PyData.depth]
    omega
  unfold SeqAt.shaped
  rw [decide_eq_true e, PyData.canLay0, lay_nD]
  rfl
theorem shp_lN (M : List Nat) : SeqAt.shaped (.list (List.map (fun k : Nat => PyData.int (k : Int)) M)) = true := by
  have h := dep_nD M
  have e : PyData.depth (.list (List.map (fun k : Nat => PyData.int (k : Int)) M)) ≤ 64 := by
    rw [PyData.depth]
    omega
  unfold SeqAt.shaped
  rw [decide_eq_true e, PyData.canLay0, lay_nD]
  rfl
theorem eqD_tN (M N : List Nat) : EqD (tN M) (tN N) (decide (M = N)) :=
  ⟨_, _, by rw [Dt.py, pyL_nD]; rfl, by rw [Dt.py, pyL_nD]; rfl, shp_tN M, shp_tN N, by rw [PyData.eqv, eqvAll_nD]⟩
theorem eqD_lN (M N : List Nat) : EqD (lN M) (lN N) (decide (M = N)) :=
  ⟨_, _, by rw [Dt.py, pyL_nD]; rfl, by rw [Dt.py, pyL_nD]; rfl, shp_lN M, shp_lN N, by rw [PyData.eqv, eqvAll_nD]⟩
theorem sort_ex (l : List Nat) : ∃ k : List Nat, k.Perm l ∧ k.Pairwise (· ≤ ·) := by
  refine ⟨l.mergeSort (fun a b => decide (a ≤ b)), List.mergeSort_perm l _, ?_⟩
  have := List.pairwise_mergeSort (le := fun a b : Nat => decide (a ≤ b)) (fun a b c h1 h2 => by simp at *; omega) (fun a b => by simp; omega) l
  exact this.imp fun h => by simpa using h
section
variable {X : Cx} {C : Addr} {a b e : Expr} {es : List Expr} {pos p p2 : Pos} {f g : En → Dt → Prop}
theorem DF.imp {f g : En → List Dt → Prop} (h : DF X C e f) (i : ∀ env d, g env d → f env d) : DF X C e g := by
  obtain ⟨t, p, k⟩ := h
  exact ⟨t, p, fun env d q => k env d (i env d q)⟩
theorem df_sortedN (hm : X.mg "sorted" = none) (ha : DR X C a f) (hg : Gl X "sorted" := by rfl) (hs : starEach [a] X.env = (false, eval a X.env) :: starEach [] X.env := by rfl) :
    DF X C (.Call (.Name "sorted" p) [a] [] pos) (fun env r => ∃ ns ms : List Nat, f env (lN ns) ∧ ms.Perm ns ∧ ms.Pairwise (· ≤ ·) ∧ r = nD ms) :=
  (df_sorted hm ha hg hs).imp fun env d ⟨ns, ms, h1, h2, h3, h4⟩ => ⟨_, List.map (fun k : Nat => (k : Int)) ms, (by rw [← lI_eq] <;> exact h1 : f env (lI (List.map (fun k : Nat => (k : Int)) ns))), h2.map _, by
    rw [List.pairwise_map]
    exact h3.imp fun h => by omega, by rw [h4, nD_ints]⟩
theorem nd_int {ns : List Nat} (h : ns.Nodup) : (List.map (fun k : Nat => (k : Int)) ns).Nodup := by
  rw [List.nodup_iff_pairwise_ne, List.pairwise_map]
  exact (List.nodup_iff_pairwise_ne.mp h).imp fun h => by omega
theorem de_lenSetN {p3 : Pos} (hc : X.calm = true) (hm : X.mg "len" = none) (hm2 : X.mg "set" = none) (ha : DE X C a f) (hg : Gl X "len" := by rfl) (hg2 : Gl X "set" := by rfl)
    (na : starEach [a] X.env = (false, eval a X.env) :: starEach [] X.env := by rfl) :
    DE X C (.Call (.Name "len" p) [.Call (.Name "set" p2) [a] [] p3] [] pos) (fun env d => ∃ ns : List Nat, f env (lN ns) ∧ ns.length < 64 ∧ ns.Nodup ∧ d = .int ns.length) :=
  (de_lenSet hc hm hm2 ha hg hg2 na).imp fun env d ⟨ns, h1, h2, h3, h4⟩ => ⟨_, (by rw [← lI_eq] <;> exact h1 : f env (lI (List.map (fun k : Nat => (k : Int)) ns))), by rw [List.length_map] <;> exact h2, nd_int h3, by rw [h4, List.length_map]⟩
theorem ix_int {ys : List Nat} {z j : Nat} (h : ys[j]? = some z) (h2 : ∀ m, m < j → ys[m]? ≠ some z) : (List.map (fun k : Nat => (k : Int)) ys)[j]? = some (z : Int) ∧ ∀ m, m < j → (List.map (fun k : Nat => (k : Int)) ys)[m]? ≠ some (z : Int) := by
  refine ⟨by rw [List.getElem?_map, h] <;> rfl, fun m hm => ?_⟩
  rw [List.getElem?_map]
  intro e
  cases q : ys[m]? with
  | none =>
    rw [q] at e
    cases e
  | some y =>
    rw [q] at e
    have e' : (y : Int) = (z : Int) := Option.some.inj e
    exact h2 m hm (by rw [q]; congr 1; omega)
theorem de_lstIndexN (ha : DR X C a f) (hb : DE X C b g) (h : ∀ {ta tb : TE}, PE X a ta → PE X b tb → PE X e (tBM X.K "list" (rIndex X.K) ta (tCons tb tNil))) :
    DE X C e (fun env d => ∃ (ys : List Nat) (z j : Nat), f env (lN ys) ∧ g env (.int (z : Int)) ∧ ys[j]? = some z ∧ (∀ m, m < j → ys[m]? ≠ some z) ∧ d = .int (j : Int)) :=
  (de_lstIndex ha hb h).imp fun env d ⟨ys, z, j, h1, h2, h3, h4, h5⟩ => ⟨_, z, j, (by rw [← lI_eq] <;> exact h1 : f env (lI (List.map (fun k : Nat => (k : Int)) ys))), h2, (ix_int h3 h4).1, (ix_int h3 h4).2, h5⟩
theorem de_tupIndexN {apos cpos : Pos} (ha : DE X C a f) (hb : DE X C b g) (hbase : attributeBase a "index" X.env (eval a X.env) = eval a X.env := by rfl)
    (hfew : ((backTo cpos (starEach [b] X.env)).all (fun x => !x.1) && (backToKw cpos (keywordEach [] X.env)).all (fun x => x.1.isSome)
      && decide ([b].length + ([] : List Keyword).length + (if ([] : List Keyword).isEmpty then 0 else 1) < 30)) = true := by rfl)
    (hline : (apos.endLine == cpos.line) = true := by rfl) (hs : starEach [b] X.env = (false, eval b X.env) :: starEach [] X.env := by rfl) (hplain : (backTo cpos (starEach [] X.env)).any (·.1) = false := by rfl) :
    DE X C (.Call (.Attribute a "index" apos) [b] [] cpos) (fun env d => ∃ (ys : List Nat) (z j : Nat), f env (.xtp (nD ys)) ∧ g env (.int (z : Int)) ∧ ys[j]? = some z ∧ (∀ m, m < j → ys[m]? ≠ some z) ∧ d = .int (j : Int)) :=
  (de_tupIndex ha hb hbase hfew hline hs hplain).imp fun env d ⟨ys, z, j, h1, h2, h3, h4, h5⟩ => ⟨_, z, j, (by rw [← nD_ints] <;> exact h1 : f env (.xtp ((List.map (fun k : Nat => (k : Int)) ys).map .int))), h2, (ix_int h3 h4).1, (ix_int h3 h4).2, h5⟩
theorem de_inN (ha : DE X C a f) (hb : DR X C b g) (hm : behindInMarks .In b = false := by rfl) : DE X C (.Compare a [.In] [b] pos) (fun env d => ∃ (i : Nat) (s : Dt) (ns : List Nat), f env (.int (i : Int)) ∧ g env s ∧ s.sq = some (nD ns) ∧ d = .bl (decide (i ∈ ns))) :=
  (de_in ha hb hm).imp fun env d ⟨i, s, ns, h1, h2, h3, h4⟩ => ⟨i, s, _, h1, h2, by rw [h3, nD_ints], by rw [h4, mem_nat]⟩
theorem db_inN (ha : DE X C a f) (hb : DR X C b g) (hm : behindInMarks .In b = false := by rfl) : DB X C (.Compare a [.In] [b] pos) (fun env r => ∃ (i : Nat) (s : Dt) (ns : List Nat), f env (.int (i : Int)) ∧ g env s ∧ s.sq = some (nD ns) ∧ r = decide (i ∈ ns)) :=
  db_imp (db_in ha hb hm) fun env d ⟨i, s, ns, h1, h2, h3, h4⟩ => ⟨i, s, _, h1, h2, by rw [h3, nD_ints], by rw [h4, mem_nat]⟩
theorem db_notInN (ha : DE X C a f) (hb : DR X C b g) (hm : behindInMarks .NotIn b = false := by rfl) : DB X C (.Compare a [.NotIn] [b] pos) (fun env r => ∃ (i : Nat) (s : Dt) (ns : List Nat), f env (.int (i : Int)) ∧ g env s ∧ s.sq = some (nD ns) ∧ r = !decide (i ∈ ns)) :=
  db_imp (db_notIn ha hb hm) fun env d ⟨i, s, ns, h1, h2, h3, h4⟩ => ⟨i, s, _, h1, h2, by rw [h3, nD_ints], by rw [h4, mem_nat]⟩
/-! ### introductions -/
variable {env : En} {d : Dt}
theorem fAndV_i {c b : Bool} (h1 : f env (.bl c)) (h2 : c = true → g env (.bl b)) : fAndV f g env (.bl (c && b)) := by
  refine ⟨c, h1, fun h => ?_, fun h => ?_⟩
  · have := h2 h
    rw [h]
    exact this
  · rw [h]
    rfl
theorem fAnd_i {f g : En → Bool → Prop} {c b : Bool} (h1 : f env c) (h2 : c = true → g env b) : fAnd f g env (c && b) := by
  refine ⟨c, h1, fun h => ?_, fun h => ?_⟩
  · have := h2 h
    rw [h]
    exact this
  · rw [h]
    rfl
theorem fOr_i {f g : En → Bool → Prop} {c b : Bool} (h1 : f env c) (h2 : c = false → g env b) : fOr f g env (c || b) := by
  refine ⟨c, h1, fun h => ?_, fun h => ?_⟩
  · have := h2 h
    rw [h]
    exact this
  · rw [h]
    rfl
theorem fOr_t {f g : En → Bool → Prop} (h1 : f env true) : fOr f g env true := ⟨true, h1, (fun h => Bool.noConfusion h), (fun _ => rfl)⟩
theorem fAnd_f {f g : En → Bool → Prop} (h1 : f env false) : fAnd f g env false := ⟨false, h1, (fun h => Bool.noConfusion h), (fun _ => rfl)⟩
/-- a comprehension over numbers -/
theorem fLc_n {vs : List Nat} {j : Nat} {fs : En → List Dt → Prop} {ft : En → Bool → Prop} {fe : En → Dt → Prop} {M : List Nat} (h : fs env (nD M)) (p : Nat → Bool) (ev : Nat → Dt)
    (ht : ∀ k ∈ M, ft (envIn env vs j (.int (k : Int))) (p k)) (he : ∀ k ∈ M, p k = true → fe (envIn env vs j (.int (k : Int))) (ev k)) (hl : M.length ≤ 100000) : fLc vs j fs ft fe env ((M.filter p).map ev) := by
  refine ⟨nD M, fun t => match t with | .int i => p i.toNat | _ => false, fun t => match t with | .int i => ev i.toNat | _ => .non, h, ?_, ?_, by rw [nD_len] <;> exact hl, ?_⟩
  · intro t m
    obtain ⟨k, hk, rfl⟩ := nD_mem m
    exact ht k hk
  · intro t m hp
    obtain ⟨k, hk, rfl⟩ := nD_mem m
    exact he k hk hp
  · rw [nD, List.filter_map, List.map_map]
    rfl
theorem fLc_a {vs : List Nat} {j : Nat} {fs : En → List Dt → Prop} {fe : En → Dt → Prop} {M : List Nat} (h : fs env (nD M)) (ev : Nat → Dt)
    (he : ∀ k ∈ M, fe (envIn env vs j (.int (k : Int))) (ev k)) (hl : M.length ≤ 100000) : fLc vs j fs (fun _ b => b = true) fe env (M.map ev) := by
  have := fLc_n (ft := fun _ b => b = true) (vs := vs) (j := j) (fe := fe) h (fun _ => true) ev (fun _ _ => rfl) (fun k hk _ => he k hk) hl
  rw [List.filter_eq_self.mpr (fun _ _ => rfl)] at this
  exact this
/-- a comprehension over what is given by a function of a number -/
theorem fLc_g {vs : List Nat} {j : Nat} {fs : En → List Dt → Prop} {fe : En → Dt → Prop} {ts : List Dt} (h : fs env ts) (ev : Dt → Dt)
    (he : ∀ t ∈ ts, fe (envIn env vs j t) (ev t)) (hl : ts.length ≤ 100000) : fLc vs j fs (fun _ b => b = true) fe env (ts.map ev) := by
  refine ⟨ts, fun _ => true, ev, h, fun _ _ => rfl, fun t m _ => he t m, hl, ?_⟩
  rw [List.filter_eq_self.mpr (fun _ _ => rfl)]
open Classical in
/-- a comprehension over what numbers stand for -/
theorem fLc_i {α : Type} {vs : List Nat} {j : Nat} {fs : En → List Dt → Prop} {fe : En → Dt → Prop} {M : List α} {gg : α → Dt} (h : fs env (M.map gg)) (v : α → Dt) (hg : ∀ a ∈ M, ∀ b ∈ M, gg a = gg b → v a = v b)
    (he : ∀ a ∈ M, fe (envIn env vs j (gg a)) (v a)) (hl : M.length ≤ 100000) : fLc vs j fs (fun _ b => b = true) fe env (M.map v) := by
  have ev : ∃ ev : Dt → Dt, ∀ a ∈ M, ev (gg a) = v a := by
    refine ⟨fun t => if h : ∃ a ∈ M, gg a = t then v h.choose else .non, fun a ha => ?_⟩
    have q : ∃ b ∈ M, gg b = gg a := ⟨a, ha, rfl⟩
    show (if h : ∃ b ∈ M, gg b = gg a then v h.choose else .non) = v a
    rw [dif_pos q]
    exact hg _ q.choose_spec.1 _ ha q.choose_spec.2
  obtain ⟨ev, hev⟩ := ev
  have k := fLc_g (vs := vs) (j := j) (fe := fe) h ev (fun t ht => by
    obtain ⟨a, ha, rfl⟩ := List.mem_map.mp ht
    rw [hev a ha]
    exact he a ha) (by rw [List.length_map]; exact hl)
  have e2 : List.map (ev ∘ gg) M = List.map v M := List.map_congr_left fun a ha => hev a ha
  rw [List.map_map, e2] at k
  exact k
open Classical in
theorem fLc2_i {α β : Type} {vs vs1 : List Nat} {j k : Nat} {fs fs1 : En → List Dt → Prop} {fe : En → Dt → Prop} {M : List α} {gg : α → Dt} {N : α → List β} {hh : α → β → Dt} (h : fs env (M.map gg)) (v : α → β → Dt)
    (hg : ∀ a ∈ M, ∀ b ∈ M, gg a = gg b → a = b) (hg2 : ∀ a ∈ M, ∀ x ∈ N a, ∀ y ∈ N a, hh a x = hh a y → v a x = v a y)
    (h1 : ∀ a ∈ M, fs1 (envIn env vs j (gg a)) ((N a).map (hh a))) (he : ∀ a ∈ M, ∀ b ∈ N a, fe (envIn2 env vs vs1 j k (gg a) (hh a b)) (v a b))
    (hl : (M.flatMap fun a => (N a).map (v a)).length ≤ 100000) : fLc2 vs vs1 j k fs fs1 fe env (M.flatMap fun a => (N a).map (v a)) := by
  have us : ∃ us : Dt → List Dt, ∀ a ∈ M, us (gg a) = (N a).map (hh a) := by
    refine ⟨fun t => if h : ∃ a ∈ M, gg a = t then (N h.choose).map (hh h.choose) else [], fun a ha => ?_⟩
    have q : ∃ b ∈ M, gg b = gg a := ⟨a, ha, rfl⟩
    show (if h : ∃ b ∈ M, gg b = gg a then (N h.choose).map (hh h.choose) else []) = _
    rw [dif_pos q]
    rw [hg _ q.choose_spec.1 _ ha q.choose_spec.2]
  have ev : ∃ ev : Dt → Dt → Dt, ∀ a ∈ M, ∀ b ∈ N a, ev (gg a) (hh a b) = v a b := by
    refine ⟨fun t u => if h : ∃ p : α × β, p.1 ∈ M ∧ p.2 ∈ N p.1 ∧ gg p.1 = t ∧ hh p.1 p.2 = u then v h.choose.1 h.choose.2 else .non, fun a ha b hb => ?_⟩
    have q : ∃ p : α × β, p.1 ∈ M ∧ p.2 ∈ N p.1 ∧ gg p.1 = gg a ∧ hh p.1 p.2 = hh a b := ⟨(a, b), ha, hb, rfl, rfl⟩
    show (if h : ∃ p : α × β, p.1 ∈ M ∧ p.2 ∈ N p.1 ∧ gg p.1 = gg a ∧ hh p.1 p.2 = hh a b then v h.choose.1 h.choose.2 else .non) = v a b
    rw [dif_pos q]
    obtain ⟨c1, c2, c3, c4⟩ := q.choose_spec
    have e := hg _ c1 _ ha c3
    generalize q.choose = p at c1 c2 c3 c4 e
    obtain ⟨p1, p2⟩ := p
    subst e
    exact hg2 _ ha _ c2 _ hb c4
  obtain ⟨us, hus⟩ := us
  obtain ⟨ev, hev⟩ := ev
  have e : given2 (M.map gg) us ev = M.flatMap fun a => (N a).map (v a) := by
    have z : ∀ L : List α, (∀ a ∈ L, a ∈ M) → given2 (L.map gg) us ev = L.flatMap fun a => (N a).map (v a) := by
      intro L
      induction L with
      | nil => exact fun _ => rfl
      | cons a L ih =>
        intro hL
        have ha := hL a (List.mem_cons_self ..)
        show (us (gg a)).map (ev (gg a)) ++ given2 (L.map gg) us ev = (N a).map (v a) ++ _
        rw [ih (fun b hb => hL b (List.mem_cons_of_mem _ hb)), hus a ha, List.map_map]
        congr 1
        exact List.map_congr_left fun b hb => hev a ha b hb
    exact z M fun _ h => h
  refine ⟨M.map gg, us, ev, h, fun t ht => ?_, fun t ht u hu => ?_, by rw [e]; exact hl, e.symm⟩
  · obtain ⟨a, ha, rfl⟩ := List.mem_map.mp ht
    rw [hus a ha]
    exact h1 a ha
  · obtain ⟨a, ha, rfl⟩ := List.mem_map.mp ht
    rw [hus a ha] at hu
    obtain ⟨b, hb, rfl⟩ := List.mem_map.mp hu
    rw [hev a ha b hb]
    exact he a ha b hb
/-- all the items are these truth values, all of them b -/
def AllB (ts : List Dt) (b : Bool) : Prop := ∃ bs : List Bool, ts = bs.map .bl ∧ bs.all id = b
theorem allB_true {ts : List Dt} (h : ∀ t ∈ ts, t = .bl true) : AllB ts true := by
  refine ⟨List.replicate ts.length true, ?_, by simp⟩
  rw [List.map_replicate]
  exact List.eq_replicate_iff.mpr ⟨rfl, h⟩
theorem allB_map {α : Type} (M : List α) (p : α → Bool) : AllB (M.map fun a => .bl (p a)) (M.all p) := ⟨M.map p, by rw [List.map_map]; rfl, by rw [List.all_map]; rfl⟩
theorem de_allB (hc : X.calm = true) (hm : X.mg "all" = none) (ha : DR X C a f) (hg : Gl X "all" := by rfl) (hs : starEach [a] X.env = (false, eval a X.env) :: starEach [] X.env := by rfl) :
    DE X C (.Call (.Name "all" p) [a] [] pos) (fun env d => ∃ ts b, f env (.lst ts) ∧ AllB ts b ∧ d = .bl b) :=
  (de_all hc hm ha hg hs).imp fun env d ⟨ts, b, h1, ⟨bs, e1, e2⟩, h3⟩ => ⟨bs, by rw [← e1]; exact h1, by rw [e2]; exact h3⟩
theorem scal_it {i j : Int} (h : i = j) : Scal2 (.int i) (.int j) true := by
  have := Scal2.int i j
  rw [decide_eq_true h] at this
  exact this
theorem scal_if {i j : Int} (h : i ≠ j) : Scal2 (.int i) (.int j) false := by
  have := Scal2.int i j
  rw [decide_eq_false h] at this
  exact this
theorem fLc_iN {α : Type} {vs : List Nat} {j : Nat} {fs : En → List Dt → Prop} {fe : En → Dt → Prop} {M : List α} {gg : α → Dt} (h : fs env (M.map gg)) (v : α → Nat) (hg : ∀ a ∈ M, ∀ b ∈ M, gg a = gg b → v a = v b)
    (he : ∀ a ∈ M, fe (envIn env vs j (gg a)) (.int ((v a : Nat) : Int))) (hl : M.length ≤ 100000) : fLc vs j fs (fun _ b => b = true) fe env (nD (M.map v)) := by
  have := fLc_i (vs := vs) (j := j) (fe := fe) h (fun a => .int ((v a : Nat) : Int)) (fun a ha b hb e => by rw [hg a ha b hb e]) he hl
  rw [nD, List.map_map]
  exact this
theorem fLc_aN {vs : List Nat} {j : Nat} {fs : En → List Dt → Prop} {fe : En → Dt → Prop} {M : List Nat} (h : fs env (nD M)) (v : Nat → Nat)
    (he : ∀ k ∈ M, fe (envIn env vs j (.int (k : Int))) (.int ((v k : Nat) : Int))) (hl : M.length ≤ 100000) : fLc vs j fs (fun _ b => b = true) fe env (nD (M.map v)) := by
  have := fLc_a (vs := vs) (j := j) (fe := fe) h (fun k => .int ((v k : Nat) : Int)) he hl
  rw [nD, List.map_map]
  exact this
/-- those that pass -/
theorem fLc_f {vs : List Nat} {j : Nat} {fs : En → List Dt → Prop} {ft : En → Bool → Prop} {fe : En → Dt → Prop} {M : List Nat} (h : fs env (nD M)) (p : Nat → Bool)
    (ht : ∀ k ∈ M, ft (envIn env vs j (.int (k : Int))) (p k)) (he : ∀ k ∈ M, fe (envIn env vs j (.int (k : Int))) (.int (k : Int))) (hl : M.length ≤ 100000) : fLc vs j fs ft fe env (nD (M.filter p)) :=
  fLc_n (vs := vs) (j := j) (ft := ft) (fe := fe) h p (fun k => .int (k : Int)) ht (fun k hk _ => he k hk) hl
theorem fLc2_nN {vs vs1 : List Nat} {j k : Nat} {fs fs1 : En → List Dt → Prop} {fe : En → Dt → Prop} {M : List Nat} {N : Nat → List Nat} (h : fs env (nD M)) (v : Nat → Nat → Nat)
    (h1 : ∀ a ∈ M, fs1 (envIn env vs j (.int (a : Int))) (nD (N a))) (he : ∀ a ∈ M, ∀ b ∈ N a, fe (envIn2 env vs vs1 j k (.int (a : Int)) (.int (b : Int))) (.int ((v a b : Nat) : Int)))
    (hl : (M.flatMap fun a => (N a).map (v a)).length ≤ 100000) : fLc2 vs vs1 j k fs fs1 fe env (nD (M.flatMap fun a => (N a).map (v a))) := by
  have e : nD (M.flatMap fun a => (N a).map (v a)) = M.flatMap fun a => (N a).map fun b => Dt.int ((v a b : Nat) : Int) := by
    rw [nD, List.map_flatMap]
    congr 1
    funext a
    rw [List.map_map]
    rfl
  have := fLc2_i (vs := vs) (vs1 := vs1) (j := j) (k := k) (fs := fs) (fs1 := fs1) (fe := fe) (env := env) (M := M) (gg := fun a => Dt.int (a : Int)) (N := N) (hh := fun _ b => Dt.int (b : Int)) h (fun a b => .int ((v a b : Nat) : Int))
    (fun a _ b _ h => by
      injection h with h
      omega) (fun a _ x _ y _ h => by
      injection h with h
      have : x = y := by omega
      rw [this]) h1 he (by rw [← e, nD_len]; exact hl)
  rw [e]
  exact this
end
theorem ArgsOk.snoc {K : PySem.W.Frag} {C : Addr} {H : Hp} {P : Addr → Prop} {v : V} {d : Dt} (h : Rs K C H P v d) : ∀ {fl : List Bool} {vs : List V} {ds : List Dt}, ArgsOk K C H P fl vs ds → ArgsOk K C H P (fl ++ [false]) (vs ++ [v]) (ds ++ [d])
  | _, _, _, .nil => .sh h .nil
  | _, _, _, .sh r t => .sh r (ArgsOk.snoc h t)
  | _, _, _, .raw r t => .raw r (ArgsOk.snoc h t)
/-- a def with one keyword-only parameter that no call gives -/
theorem Fn.ofK {P : Program} {w : World} {K : PySem.W.Frag} {mg : Str → Option Value} {base : Heap} {C : Addr} {x : Str} {k : Nat} {fl : List Bool} {R R3 : List Dt → Dt → Prop} {qual : Str} {params : Arguments} {body : List Stmt} {scope : Scope} {f : Addr} {fd : FuncData} {ps : List Str} {kws : List (Str × V)} {b : Bool}
    (F : FunD K x qual params body scope [] kws f fd) (h : FnOk P w K mg base CX0 k f fd ps (spD K C (fl ++ [false]) R3)) (hb : ∃ ds, Vals [V.bl b] ds ∧ Binds K fd ps ds) (hR : ∀ ds r, R ds r → R3 (ds ++ [.bl b]) r) (hm : mg x = some (.ref f)) : Fn P w K mg base C x k fl R := by
  obtain ⟨ds0, v0, b0⟩ := hb
  refine ⟨f, hm, F.kp, (h.raw b0 v0).imp fun vs H Q E q => ?_⟩
  obtain ⟨Pp, ds, r, h1, ha, h2, h3⟩ := q
  exact ⟨Pp, ds ++ [.bl b], r, h1, ha.snoc (.bl b), hR ds r h2, h3⟩
theorem eqD_tx (M N : List Nat) : EqD (tN M) (.xtp (nD N)) (decide (M = N)) :=
  ⟨_, _, by rw [Dt.py, pyL_nD]; rfl, by rw [Dt.py, pyL_nD]; rfl, shp_tN M, shp_tN N, by rw [PyData.eqv, eqvAll_nD]⟩
end CM
set_option Elab.async false
set_option linter.all false
set_option maxRecDepth 100000
set_option maxHeartbeats 1000000
/-! The data layer: an instance under its own __init__, and its making. -/
namespace CM
open PySem PySem.Spec PyProof.Rows L2
theorem putF_new {nm : Str} {y : V} : ∀ {fs : List (Str × V)}, nm ∉ fs.map (·.1) → putF nm y fs = fs ++ [(nm, y)]
  | [], _ => rfl
  | (g, x) :: r, h => by
    have h1 : ¬ g = nm := fun e => h (by simp [e])
    have h2 : nm ∉ r.map (·.1) := fun e => h (by simp at e ⊢; exact Or.inr e)
    show (if g = nm then (g, y) :: r else (g, x) :: putF nm y r) = _
    rw [if_neg h1, putF_new h2]
    rfl
section
variable {X : Cx} {C : Addr} {a e : Expr} {pos p apos : Pos} {f : En → Dt → Prop}
abbrev dFld (i : Nat) (nm : Str) (f : En → Dt → Prop) : DT := fun E env => ∃ ad fs d, env[i]? = some (.oG ad fs) ∧ f env d ∧ nm ∉ fs.map (·.1) ∧ fs.length < 1000 ∧ E.nx (env.set i (.oG ad (fs ++ [(nm, d)])))
theorem ds_fld {x nm : Str} {px pos' : Pos} (i : Nat) (c : Cls X.K C) (n : NoAttr X.K C nm) (h : DE X C e f) (hN : X.N[i]? = some x := by rfl) (hv : Vis X.env.scope x := by first | exact Or.inl rfl | exact Or.inr (Or.inl rfl) | exact Or.inr (Or.inr rfl)) (hd : (x == ("__debug__" : Str)) = false := by decide)
    (hcd : (x == ("__classdict__" : Str)) = false := by decide) (hs : swapsWith e (some (.Attribute (.Name x px) nm pos')) pos.line X.env = pure false := by rfl) : DS X C (.Assign [.Attribute (.Name x px) nm pos'] e pos) (dFld i nm f) := by
  obtain ⟨t, p, k⟩ := h
  refine ⟨_, ps_fld (pe_var hN hv hd hcd) p hs, fun HE H0 P0 D E σ H env F s q => ?_⟩
  obtain ⟨ad, fs, d, q0, q1, q2, q3, q4⟩ := q
  obtain ⟨P, ow, h1, h2, h3, Fk⟩ := s
  obtain ⟨⟨a1, a2, a3, a4⟩, dx, fvs, a5, a6, a7, a8⟩ := Fk.slot i _ q0
  refine k env d q1 _ σ H _ Fk fun v H' e1 r => ?_
  have Fk1 := Fk.ex e1
  have hnm : nm ∉ fvs.map (·.1) := by rw [a7]; exact q2
  have hlen : fvs.length = fs.length := by
    have := congrArg List.length a7
    simpa using this
  refine ⟨_, a1, _, C, dx, fvs, rfl, e1 _ _ a6, c, n, by omega, ?_⟩
  rw [putF_new hnm]
  refine F.nx _ _ _ (own_mut (s' := .oG ad (fs ++ [(nm, d)])) h1 h2 (h3.trans e1) Fk1 q0 rfl rfl _ fun ho => ⟨ho, dx, _, a5, upd_same, by simp [a7], ?_⟩) q4
  have g : ∀ b o, P b → H' b = some o → P b ∧ upd H' (ow i) (.ins C dx (fvs ++ [(nm, v)])) b = some o := fun b o p q => ⟨p, by rw [upd_ne (fun z => a2 (by have p' : P b := p; rw [z] at p'; exact p'))]; exact q⟩
  have := ((a8.ex e1).append (.cons r .nil)).mono g
  simpa using this
theorem de_fldG {x nm : Str} {px : Pos} (i : Nat) (c : Cls X.K C) (n : NoAttr X.K C nm) (hN : X.N[i]? = some x := by rfl) (hv : Vis X.env.scope x := by first | exact Or.inl rfl | exact Or.inr (Or.inl rfl) | exact Or.inr (Or.inr rfl)) (hd : (x == ("__debug__" : Str)) = false := by decide)
    (hcd : (x == ("__classdict__" : Str)) = false := by decide) (hb : attributeBase (.Name x px) nm X.env (eval (.Name x px) X.env) = eval (.Name x px) X.env := by rfl) : DE X C (.Attribute (.Name x px) nm pos) (fun env d => ∃ ad, env[i]? = some (.oG ad [(nm, d)]) ∨ ∃ nm2 d2, (nm == nm2) = true ∧ False ∧ d2 = d) := by
  refine ⟨_, pe_fld (pe_var hN hv hd hcd) hb, fun env d q φ σ H Q F z => ?_⟩
  obtain ⟨ad, q | ⟨_, _, _, q, _⟩⟩ := q
  · obtain ⟨⟨a1, a2, a3, a4⟩, dx, fvs, a5, a6, a7, a8⟩ := F.slot i _ q
    match fvs, a6, a7, a8 with
    | [(g, v)], a6, a7, .cons r .nil =>
      have e : g = nm := by simpa using a7
      subst e
      exact ⟨_, a1, _, C, dx, _, _, rfl, a6, c, n, by simp [List.lookup], z _ H (Ex.refl H) r⟩
  · exact q.elim
theorem de_fldG2 {x nm nm2 : Str} {px : Pos} (i : Nat) (c : Cls X.K C) (n : NoAttr X.K C nm) (hN : X.N[i]? = some x := by rfl) (hv : Vis X.env.scope x := by first | exact Or.inl rfl | exact Or.inr (Or.inl rfl) | exact Or.inr (Or.inr rfl)) (hd : (x == ("__debug__" : Str)) = false := by decide)
    (hcd : (x == ("__classdict__" : Str)) = false := by decide) (hb : attributeBase (.Name x px) nm X.env (eval (.Name x px) X.env) = eval (.Name x px) X.env := by rfl) : DE X C (.Attribute (.Name x px) nm pos) (fun env d => ∃ ad d2, env[i]? = some (.oG ad [(nm, d), (nm2, d2)])) := by
  refine ⟨_, pe_fld (pe_var hN hv hd hcd) hb, fun env d q φ σ H Q F z => ?_⟩
  obtain ⟨ad, d2, q⟩ := q
  obtain ⟨⟨a1, a2, a3, a4⟩, dx, fvs, a5, a6, a7, a8⟩ := F.slot i _ q
  match fvs, a6, a7, a8 with
  | [(g, v), (g2, v2)], a6, a7, .cons r (.cons r2 .nil) =>
    have e : g = nm ∧ g2 = nm2 := by simpa using a7
    obtain ⟨rfl, rfl⟩ := e
    exact ⟨_, a1, _, C, dx, _, _, rfl, a6, c, n, by simp [List.lookup], z _ H (Ex.refl H) r⟩
end
/-- the promise of __init__: self is new, without attributes -/
def spInit (K : PySem.W.Frag) (C : Addr) (R : List Dt → Dt → Prop) : Sp := fun vs H Q _ => ∃ (x dx : Addr) (H1 : Hp) (P : Addr → Prop) (v : V) (d r s i : Dt), vs = [.ref x, v] ∧ H1 x = none ∧ H1 dx = none ∧ dx ≠ x ∧ H = upd (upd H1 dx (.own x)) x (.ins C dx []) ∧
  (∀ b, H1 b = none → P b) ∧ Rs K C H1 P v d ∧ R [d] (.grp r s i) ∧ ∀ H', Ex H1 H' → Rs K C H' P (.ref x) (.grp r s i) → Q .non H'
section
variable {P : Program} {w : World} {K : PySem.W.Frag} {mg : Str → Option Value} {base : Heap} {C : Addr}
def Made (P : Program) (w : World) (K : PySem.W.Frag) (mg : Str → Option Value) (base : Heap) (C : Addr) (k : Nat) (R : List Dt → Dt → Prop) : Prop := ∃ f : Addr, Mk K C f ∧ mg "Group" = some (.ref C) ∧ FnR P w K mg base CX0 k f (spInit K C R)
theorem start_init {N : List Str} {x dx : Addr} {H1 : Hp} {Pp : Addr → Prop} {v : V} {d : Dt} (hn : 2 ≤ N.length) (nx : H1 x = none) (nd : H1 dx = none) (ne : dx ≠ x) (hf : ∀ b, H1 b = none → Pp b) (r : Rs K C H1 Pp v d) :
    Stt K C H1 H1 Pp (L2.start N [.ref x, v]) (upd (upd H1 dx (.own x)) x (.ins C dx [])) (Sl.oG x [] :: .sh d :: List.replicate (N.length - 2) .un) := by
  have e1 : Ex H1 (upd H1 dx (.own x)) := Ex.new nd
  have e2 : Ex H1 (upd (upd H1 dx (.own x)) x (.ins C dx [])) := e1.trans (Ex.new (by rw [upd_ne (Ne.symm ne)]; exact nx))
  have fr : ∀ b, upd (upd H1 dx (.own x)) x (.ins C dx []) b = none → Pp b ∧ b ≠ x := fun b hb => ⟨hf b (e2.back hb), fun z => by
    rw [z, upd_same] at hb
    cases hb⟩
  refine ⟨fun b => Pp b ∧ b ≠ x, fun _ => x, fun b q => q.1, fun b q r => ⟨r, fun z => q (by rw [z]; exact nx)⟩, e2, ⟨?_, fun i s e => ?_, fun i j s t es et qs qt _ => ?_, fr, Ex.refl H1, e2⟩⟩
  · unfold L2.start
    simp
  · match i, e with
    | 0, e =>
      cases e
      exact ⟨⟨rfl, fun q => q.2 rfl, hf x nx, nx⟩, dx, [], rfl, upd_same, rfl, .nil⟩
    | 1, e =>
      cases e
      exact ⟨v, rfl, (r.but nx).ex e2⟩
    | i + 2, e =>
      have m := List.mem_of_getElem? (show (List.replicate (N.length - 2) Sl.un)[i]? = some s from e)
      rw [(List.mem_replicate.mp m).2]
      trivial
  · have g : ∀ (l : Nat) (u : Sl), (Sl.oG x [] :: .sh d :: List.replicate (N.length - 2) .un)[l]? = some u → u.isOwn = true → l = 0 := fun l u e q => by
      match l, e with
      | 0, _ => rfl
      | 1, e =>
        cases e
        cases q
      | l + 2, e =>
        have m := List.mem_of_getElem? (show (List.replicate (N.length - 2) Sl.un)[l]? = some u from e)
        rw [(List.mem_replicate.mp m).2] at q
        cases q
    rw [g i s es qs, g j t et qt]
theorem init_ok {x qual : Str} {params : Arguments} {body : List Stmt} {scope : Scope} {f : Addr} {fd : FuncData} {N ps : List Str} {k : Nat} {R : List Dt → Dt → Prop} {dt : DT}
    (F : FunD K x qual params body scope [] [] f fd) (S : FnScope N ps scope) (hl : ps.length = 2) (hn : 2 ≤ N.length)
    (hb : ∀ (cdv : Value) (A : Around) (outer : List Env) (s : Shared) (H : Hp) (E : XK), Room k (A.deeper (envOfC qual scope s.heap.objs.size f cdv)) → DSs (cxOf CX0 P w K mg base N qual scope f cdv A outer s H E).nox C body dt)
    (hp : ∀ a d r s i, R [d] (.grp r s i) → dt { nx := fun env => env[0]? = some (.oG a [("rows", r), ("size", s), ("inverses", i)]), rt := fun _ => False } (Sl.oG a [] :: .sh d :: List.replicate (N.length - 2) .un)) : FnOk P w K mg base CX0 (k + 1) f fd ps (spInit K C R) := by
  refine F.ok S (fun vs H Q E h => ?_) (fun cdv A outer s H vs Q E hr h => ?_)
  · obtain ⟨x, dx, H1, Pp, v, d, r, s, i, rfl, _⟩ := h
    exact hl.symm
  · obtain ⟨x, dx, H1, Pp, v, d, r, s', i, rfl, n1, n2, n3, rfl, hf, rv, hR, hk⟩ := h
    obtain ⟨t, pt, kt⟩ := hb cdv A outer s _ E hr
    refine ⟨t, PSs.nox pt, kt H1 H1 Pp _ { nx := fun env => env[0]? = some (.oG x [("rows", r), ("size", s'), ("inverses", i)]), rt := fun _ => False } _ _ _ ⟨fun σ' H' env' s'' q => ?_, fun v H' d e rs q => q.elim, fun _ _ _ _ q => q, fun _ _ _ _ q => q⟩ (start_init hn n1 n2 n3 hf rv) (hp x d r s' i hR)⟩
    obtain ⟨P', ow', h1, h2, h3, F'⟩ := s''
    obtain ⟨⟨a1, a2, a3, a4⟩, dx', fvs, a5, a6, a7, a8⟩ := F'.slot 0 _ q
    have a6' : H' (ow' 0) = some (.ins C dx' fvs) := a6
    have a5' : ow' 0 = x := a5
    rw [a5'] at a6'
    refine hk H' h3 ?_
    match fvs, a6', a7, a8 with
    | [(g1, v1), (g2, v2), (g3, v3)], a6', a7, .cons r1 (.cons r2 (.cons r3 .nil)) =>
      have e : g1 = "rows" ∧ g2 = "size" ∧ g3 = "inverses" := by simpa using a7
      obtain ⟨rfl, rfl, rfl⟩ := e
      exact .grp (hf x n1) a6' (r1.wid h1) (r2.wid h1) (r3.wid h1)
theorem Made.of {x : Str} {k : Nat} {R : List Dt → Dt → Prop} {qual : Str} {params : Arguments} {body : List Stmt} {scope : Scope} {f : Addr} {fd : FuncData} {ps : List Str} (F : FunD K x qual params body scope [] [] f fd) (h : FnOk P w K mg base CX0 k f fd ps (spInit K C R)) (hb : Binds K fd ps []) (M : Mk K C f) (hm : mg "Group" = some (.ref C)) : Made P w K mg base C k R :=
  ⟨f, M, hm, (h.raw hb .nil).imp fun vs H Q E q => by rw [List.append_nil]; exact q⟩
end
section
variable {X : Cx} {C : Addr} {a : Expr} {pos p : Pos} {f : En → Dt → Prop} {k : Nat} {R : List Dt → Dt → Prop}
theorem de_group (G : Made X.prog X.w X.K X.mg X.base C k R) (hr : Room (k + 1) X.A) (ha : DE X C a f) (hg : Gl X "Group" := by rfl) (he : starEach [a] X.env = (false, eval a X.env) :: starEach [] X.env := by rfl) (hpl : (backTo pos (starEach [] X.env)).any (·.1) = false := by rfl) :
    DE X C (.Call (.Name "Group" p) [a] [] pos) (fun env g => ∃ d r s i, f env d ∧ R [d] (.grp r s i) ∧ g = .grp r s i) := by
  obtain ⟨fa, M, hm, F⟩ := G
  obtain ⟨ta, pa, ka⟩ := ha
  refine ⟨_, StX.pe_makeR M F hr hg hm pass0 (pa_cons pa pa_nil he) (he := he) (hpl := hpl), fun env g q φ σ H Q F z => ?_⟩
  obtain ⟨d, r, s, i, q1, q2, rfl⟩ := q
  refine ka env d q1 φ σ H _ F fun v H1 e1 r1 => ?_
  intro x dx nx nd ne
  exact ⟨x, dx, H1, φ.P, v, d, r, s, i, rfl, nx, nd, ne, rfl, fun b hb => F.fresh b (e1.back hb), r1, q2, fun H' e2 r2 => ⟨rfl, z _ H' (e1.trans e2) r2⟩⟩
end
/-- def x(*args) -/
theorem Fn.star {P : Program} {w : World} {K : PySem.W.Frag} {mg : Str → Option Value} {base : Heap} {C : Addr} {x qual pv : Str} {params : Arguments} {body : List Stmt} {scope : Scope} {f : Addr} {fd : FuncData} {N : List Str} {k : Nat} {fl : List Bool} {R R3 : List Dt → Dt → Prop} {dt : DT}
    (F : FunD K x qual params body scope [] [] f fd) (S : FnScope N [pv] scope) (hn : 1 ≤ N.length)
    (hbind : ∀ (kV doc pm : Value) (an : Option Addr) (cdv ct : Value) (rest : List Value), bindArgs (PySem.W.fnOf x qual params body scope .none kV doc pm an cdv ct) ⟨[] ++ rest, []⟩ = (newTuple rest >>= fun t => pure ([] ++ [(pv, t)])))
    (hb : ∀ (cdv : Value) (A : Around) (outer : List Env) (s : Shared) (H : Hp) (E : XK), Room k (A.deeper (envOfC qual scope s.heap.objs.size f cdv)) → DSs (cxOf CX0 P w K mg base N qual scope f cdv A outer s H E).nox C body dt)
    (hp : ∀ ds r, R3 ds r → ds.length = 1 → dt { nx := fun _ => r = .non, rt := fun d => d = r } (startE N.length [false] ds))
    (hfl : allSh fl = true) (hlen : fl.length ≤ sizeLine) (hR : ∀ ds r, R ds r → R3 [.tup ds] r) (hm : mg x = some (.ref f)) : Fn P w K mg base C x (k + 1) fl R := by
  obtain ⟨oc, od, dV, kV, doc, pm, an, cdv, ct, osl, rfl, lk, hcd, hD, hK⟩ := F.ex
  rcases hD with ⟨_, rfl⟩ | ⟨e, _⟩
  · refine ⟨f, hm, F.kp, (StX.fn_star (k := k) (sp := spD K C [false] R3) (ps := []) (pv := pv) lk hcd S StX.cxUp_none (fun us rest h => ?_) (fun A outer s H vs Q E hr h => ?_)).imp fun vs H Q E q => ?_⟩
    · cases us with
      | nil => exact hbind kV doc pm an cdv ct rest
      | cons _ _ => cases h
    · obtain ⟨P0, ds, r, hf, ha, hR', hk⟩ := h
      obtain ⟨t, pt, kt⟩ := hb cdv A outer s H E hr
      refine ⟨t, PSs.nox pt, kt H H P0 _ { nx := fun _ => r = .non, rt := fun d => d = r } _ H _ ⟨fun σ' H' env' s' q => ?_, fun v H' d e rs q => ?_, fun _ _ _ _ q => q, fun _ _ _ _ q => q⟩ (start_ok ha (by
        cases ha with
        | sh _ t =>
          cases t
          exact trivial) hn hf) (hp ds r hR' ha.len.2)⟩
      · subst q
        obtain ⟨_, _, _, _, e, _⟩ := s'
        exact hk _ H' e .non
      · subst q
        exact hk v H' e rs
    · obtain ⟨P0, ds, r, hf, ha, hR', hk⟩ := q
      refine ⟨[], vs, rfl, rfl, by rw [ha.len.1]; exact hlen, fun p hp' => ?_⟩
      refine ⟨P0, [.tup ds], r, fun b hb' => hf b ((Ex.new hp').back hb'), .sh (.tup (hf p hp') upd_same ((ha.sh_ hfl).ex (Ex.new hp'))) .nil, hR ds r hR', fun v H' e rs => hk v H' ((Ex.new hp').trans e) rs⟩
  · exact absurd rfl e
end CM
set_option Elab.async false
set_option linter.all false
set_option maxRecDepth 100000
/-! Plain: subsets of the numbers below n, closures, tables. -/
namespace CM
abbrev Op := Nat → Nat → Nat
open Classical in
/-- the numbers below n with p, ascending -/
noncomputable def mem (n : Nat) (p : Nat → Prop) : List Nat := (List.range n).filter fun x => decide (p x)
theorem mem_iff {n : Nat} {p : Nat → Prop} {x : Nat} : x ∈ mem n p ↔ x < n ∧ p x := by
  unfold mem
  rw [List.mem_filter, List.mem_range, @decide_eq_true_eq _ (Classical.propDecidable _)]
theorem mem_asc (n : Nat) (p : Nat → Prop) : (mem n p).Pairwise (· < ·) := List.Pairwise.filter _ List.pairwise_lt_range
theorem asc_eq {l k : List Nat} (h1 : l.Pairwise (· < ·)) (h2 : k.Pairwise (· < ·)) (h : ∀ x, x ∈ l ↔ x ∈ k) : l = k := by
  have n1 : l.Nodup := h1.imp fun h => Nat.ne_of_lt h
  have n2 : k.Nodup := h2.imp fun h => Nat.ne_of_lt h
  have p : l.Perm k := (List.perm_ext_iff_of_nodup n1 n2).mpr h
  exact p.eq_of_pairwise (fun a b _ _ x y => absurd (Nat.lt_trans x y) (Nat.lt_irrefl _)) h1 h2
theorem mem_uniq {n : Nat} {p : Nat → Prop} {l : List Nat} (h1 : l.Pairwise (· < ·)) (h : ∀ x, x ∈ l ↔ x < n ∧ p x) : l = mem n p := asc_eq h1 (mem_asc n p) fun x => by rw [h, mem_iff]
theorem mem_congr {n : Nat} {p q : Nat → Prop} (h : ∀ x, x < n → (p x ↔ q x)) : mem n p = mem n q := mem_uniq (mem_asc n p) fun x => by
  rw [mem_iff]
  exact ⟨fun ⟨a, b⟩ => ⟨a, (h x a).mp b⟩, fun ⟨a, b⟩ => ⟨a, (h x a).mpr b⟩⟩
theorem mem_eq_iff {n : Nat} {p q : Nat → Prop} : mem n p = mem n q ↔ ∀ x, x < n → (p x ↔ q x) := by
  refine ⟨fun h x hx => ?_, mem_congr⟩
  have : x ∈ mem n p ↔ x ∈ mem n q := by rw [h]
  rw [mem_iff, mem_iff] at this
  exact ⟨fun a => (this.mp ⟨hx, a⟩).2, fun a => (this.mpr ⟨hx, a⟩).2⟩
theorem mem_len_le (n : Nat) (p : Nat → Prop) : (mem n p).length ≤ n := by
  have := List.length_filter_le (p := fun x => @decide (p x) (Classical.propDecidable _)) (l := List.range n)
  rw [List.length_range] at this
  exact this
theorem mem_lt {n : Nat} {p : Nat → Prop} {x : Nat} (h : x ∈ mem n p) : x < n := (mem_iff.mp h).1
theorem nodup_len {l : List Nat} {n : Nat} (h : l.Nodup) (b : ∀ x ∈ l, x < n) : l.length ≤ n := by
  have := List.Nodup.length_le_of_subset (l₁ := l) (l₂ := List.range n) h (fun x hx => List.mem_range.mpr (b x hx))
  rw [List.length_range] at this
  exact this
/-! ### closures -/
inductive Rch (m : Op) (M : List Nat) : Nat → Prop
  | zero : Rch m M 0
  | step {x g : Nat} : Rch m M x → g ∈ M → Rch m M (m x g)
noncomputable def clo (n : Nat) (m : Op) (M : List Nat) : List Nat := mem n (Rch m M)
theorem Rch.lt {n : Nat} {m : Op} {M : List Nat} (hn : 0 < n) (hc : ∀ a b, a < n → b < n → m a b < n) (hM : ∀ x ∈ M, x < n) : ∀ {x : Nat}, Rch m M x → x < n
  | _, .zero => hn
  | _, .step r h => hc _ _ (r.lt hn hc hM) (hM _ h)
/-- what the loops of reached and _law_closed keep: found, those before at done, the row of at done with the members before k -/
structure Cls (n : Nat) (m : Op) (M : List Nat) (ins : List Bool) (found : List Nat) (at_ k : Nat) : Prop where
  len : ins.length = n
  nd : found.Nodup
  ok : ∀ x ∈ found, Rch m M x
  z : 0 ∈ found
  ins : ∀ x, x < n → (ins[x]? = some true ↔ x ∈ found)
  le : at_ ≤ found.length
  done : ∀ i x, i < at_ → found[i]? = some x → ∀ g ∈ M, m x g ∈ found
  part : ∀ x, found[at_]? = some x → ∀ j g, j < k → M[j]? = some g → m x g ∈ found
section
variable {n : Nat} {m : Op} {M : List Nat} {ins : List Bool} {found : List Nat} {at_ k : Nat}
theorem Cls.start (hn : 0 < n) : Cls n m M ((List.replicate n false).set 0 true) [0] 0 0 where
  len := by simp
  nd := by simp
  ok := fun x h => by
    rw [List.mem_singleton] at h
    subst h
    exact .zero
  z := by simp
  ins := fun x h => by
    cases x with
    | zero => simp [List.getElem?_set, hn]
    | succ x => simp [List.getElem?_set, List.getElem?_replicate, h]
  le := by simp
  done := fun i x h => by omega
  part := fun x _ j g h => by omega
theorem Cls.found_lt (hn : 0 < n) (hc : ∀ a b, a < n → b < n → m a b < n) (hM : ∀ x ∈ M, x < n) (c : Cls n m M ins found at_ k) : ∀ x ∈ found, x < n := fun x h => (c.ok x h).lt hn hc hM
theorem Cls.room (hn : 0 < n) (hc : ∀ a b, a < n → b < n → m a b < n) (hM : ∀ x ∈ M, x < n) (c : Cls n m M ins found at_ k) : found.length ≤ n := nodup_len c.nd (c.found_lt hn hc hM)
/-- the next member of the row gives a known one -/
theorem Cls.known {x g : Nat} (c : Cls n m M ins found at_ k) (hx : found[at_]? = some x) (hg : M[k]? = some g) (h : m x g ∈ found) : Cls n m M ins found at_ (k + 1) :=
  ⟨c.len, c.nd, c.ok, c.z, c.ins, c.le, c.done, fun y hy j g' hj hg' => by
    rw [hx] at hy
    cases hy
    by_cases e : j = k
    · subst e
      rw [hg] at hg'
      cases hg'
      exact h
    · exact c.part x hx j g' (by omega) hg'⟩
theorem Cls.fresh {x g : Nat} (c : Cls n m M ins found at_ k) (hx : found[at_]? = some x) (hg : M[k]? = some g) (h : m x g ∉ found) (hl : m x g < n) : Cls n m M (ins.set (m x g) true) (found ++ [m x g]) at_ (k + 1) where
  len := by simp [c.len]
  nd := by
    rw [List.nodup_append]
    refine ⟨c.nd, by simp, fun a ha b hb => ?_⟩
    rw [List.mem_singleton] at hb
    subst hb
    exact fun e => h (e ▸ ha)
  ok := fun y hy => by
    rcases List.mem_append.mp hy with hy | hy
    · exact c.ok y hy
    · rw [List.mem_singleton] at hy
      subst hy
      exact .step (c.ok x (List.mem_of_getElem? hx)) (List.mem_of_getElem? hg)
  z := List.mem_append_left _ c.z
  ins := fun y hy => by
    rw [List.getElem?_set]
    by_cases e : m x g = y
    · subst e
      simp [c.len, hy]
    · rw [if_neg e, c.ins y hy, List.mem_append, List.mem_singleton]
      exact ⟨Or.inl, fun q => q.elim id fun q => absurd q.symm e⟩
  le := by
    rw [List.length_append]
    exact Nat.le_trans c.le (Nat.le_add_right _ _)
  done := fun i y hi hy g' hg' => by
    have := c.le
    rw [List.getElem?_append_left (by omega)] at hy
    exact List.mem_append_left _ (c.done i y hi hy g' hg')
  part := fun y hy j g' hj hg' => by
    have hlt := (List.getElem?_eq_some_iff.mp hx).1
    rw [List.getElem?_append_left hlt, hx] at hy
    cases hy
    by_cases e : j = k
    · subst e
      rw [hg] at hg'
      cases hg'
      simp
    · exact List.mem_append_left _ (c.part x hx j g' (by omega) hg')
/-- a row is done -/
theorem Cls.next (c : Cls n m M ins found at_ M.length) (h : at_ < found.length) : Cls n m M ins found (at_ + 1) 0 :=
  ⟨c.len, c.nd, c.ok, c.z, c.ins, h, fun i y hi hy g hg => by
    by_cases e : i = at_
    · subst e
      obtain ⟨j, hj⟩ := List.mem_iff_getElem?.mp hg
      exact c.part y hy j g (List.getElem?_eq_some_iff.mp hj).1 hj
    · exact c.done i y (by omega) hy g hg, fun y _ j g hj => by omega⟩
theorem Cls.ends (c : Cls n m M ins found at_ k) (h : found.length ≤ at_) {x : Nat} : x ∈ found ↔ Rch m M x := by
  refine ⟨c.ok x, fun r => ?_⟩
  induction r with
  | zero => exact c.z
  | step r hg ih =>
    obtain ⟨i, hi⟩ := List.mem_iff_getElem?.mp ih
    exact c.done i _ (by have := (List.getElem?_eq_some_iff.mp hi).1; omega) hi _ hg
theorem Cls.answer (hn : 0 < n) (hc : ∀ a b, a < n → b < n → m a b < n) (hM : ∀ x ∈ M, x < n) (c : Cls n m M ins found at_ k) (h : found.length ≤ at_) {l : List Nat} (hp : l.Perm found) (hs : l.Pairwise (· ≤ ·)) : l = clo n m M := by
  have nd : l.Nodup := hp.nodup_iff.mpr c.nd
  refine mem_uniq ?_ fun x => ?_
  · exact List.Pairwise.imp (fun ⟨a, b⟩ => Nat.lt_of_le_of_ne a b) (List.pairwise_and_iff.mpr ⟨hs, nd⟩)
  · rw [hp.mem_iff, c.ends h]
    exact ⟨fun r => ⟨r.lt hn hc hM, r⟩, fun r => r.2⟩
end
theorem clo_mem {n : Nat} {m : Op} {M : List Nat} {x : Nat} : x ∈ clo n m M ↔ x < n ∧ Rch m M x := mem_iff
theorem clo_nil {n : Nat} {m : Op} (hn : 0 < n) : clo n m [] = [0] := by
  symm
  refine mem_uniq (by simp) fun x => ?_
  rw [List.mem_singleton]
  refine ⟨fun e => e ▸ ⟨hn, .zero⟩, fun ⟨_, r⟩ => ?_⟩
  cases r with
  | zero => rfl
  | step _ h => simp at h
theorem clo_ne {n : Nat} {m : Op} {M : List Nat} (hn : 0 < n) : 0 ∈ clo n m M := clo_mem.mpr ⟨hn, .zero⟩
/-! ### a table of a group -/
structure Tb (n : Nat) (m : Op) : Prop where
  pos : 0 < n
  cl : ∀ a b, a < n → b < n → m a b < n
  idl : ∀ a, a < n → m 0 a = a
  idr : ∀ a, a < n → m a 0 = a
  assoc : ∀ a b c, a < n → b < n → c < n → m (m a b) c = m a (m b c)
  lc : ∀ a b c, a < n → b < n → c < n → m a b = m a c → b = c
  rc : ∀ a b c, a < n → b < n → c < n → m b a = m c a → b = c
noncomputable def genStep (n : Nat) (m : Op) (ch : List Nat) (x : Nat) : List Nat := if x ∈ clo n m ch then ch else ch ++ [x]
noncomputable def gensTo (n : Nat) (m : Op) (k : Nat) : List Nat := (List.range k).foldl (genStep n m) []
noncomputable def gens (n : Nat) (m : Op) : List Nat := gensTo n m n
theorem gensTo_succ {n k : Nat} {m : Op} : gensTo n m (k + 1) = genStep n m (gensTo n m k) k := by
  unfold gensTo
  rw [List.range_succ, List.foldl_append]
  rfl
theorem gensTo_lt {n : Nat} {m : Op} : ∀ k, (∀ x ∈ gensTo n m k, x < k) ∧ (gensTo n m k).length ≤ k
  | 0 => by simp [gensTo]
  | k + 1 => by
    have ⟨h1, h2⟩ := gensTo_lt (n := n) (m := m) k
    rw [gensTo_succ]
    unfold genStep
    split
    · exact ⟨fun x h => Nat.lt_succ_of_lt (h1 x h), by omega⟩
    · refine ⟨fun x h => ?_, by simp; omega⟩
      rcases List.mem_append.mp h with h | h
      · exact Nat.lt_succ_of_lt (h1 x h)
      · simp at h
        omega
/-- an order of m that answers to a number z: where z stands first in l -/
def idx (z : Nat) (l : List Nat) : Nat := l.findIdx fun y => decide (y = z)
theorem idx_at {z : Nat} {l : List Nat} (h : z ∈ l) : l[idx z l]? = some z ∧ (∀ m, m < idx z l → l[m]? ≠ some z) ∧ idx z l < l.length := by
  have hlt : idx z l < l.length := List.findIdx_lt_length_of_exists ⟨z, h, by simp⟩
  have h1 := List.findIdx_getElem (w := hlt)
  refine ⟨?_, fun m hm e => ?_, hlt⟩
  · rw [List.getElem?_eq_getElem hlt]
    exact congrArg some (of_decide_eq_true h1)
  · have h2 := List.not_of_lt_findIdx hm
    obtain ⟨hl, e⟩ := List.getElem?_eq_some_iff.mp e
    simp [e] at h2
theorem idx_uniq {z j : Nat} {l : List Nat} (h : l[j]? = some z) (nd : l.Nodup) : idx z l = j := by
  have ⟨h1, h2, h3⟩ := idx_at (List.mem_of_getElem? h)
  exact (List.getElem?_inj h3 nd).mp (h1.trans h.symm)
/-! ### inverses, commutators, conjugates -/
def iv (n : Nat) (m : Op) (a : Nat) : Nat := idx 0 ((List.range n).map (m a))
def cm (n : Nat) (m : Op) (a b : Nat) : Nat := m (iv n m (m b a)) (m a b)
def cj (n : Nat) (m : Op) (a b : Nat) : Nat := m (m (iv n m b) a) b
/-- an injection of the numbers below n into themselves meets each -/
theorem inj_onto {n : Nat} {f : Nat → Nat} (hf : ∀ a, a < n → f a < n) (hi : ∀ a b, a < n → b < n → f a = f b → a = b) {y : Nat} (hy : y < n) : ∃ x, x < n ∧ f x = y := by
  have nd : ((List.range n).map f).Nodup := by
    rw [List.nodup_iff_pairwise_ne, List.pairwise_map]
    exact List.Pairwise.imp_of_mem (fun {x y} hx hy h e => h (hi x y (List.mem_range.mp hx) (List.mem_range.mp hy) e)) (List.nodup_iff_pairwise_ne.mp List.nodup_range)
  have sub : ∀ x ∈ (List.range n).map f, x ∈ List.range n := fun x h => by
    obtain ⟨a, ha, rfl⟩ := List.mem_map.mp h
    exact List.mem_range.mpr (hf a (List.mem_range.mp ha))
  by_cases h : y ∈ (List.range n).map f
  · obtain ⟨x, hx, e⟩ := List.mem_map.mp h
    exact ⟨x, List.mem_range.mp hx, e⟩
  · have := nodup_len (l := y :: (List.range n).map f) (n := n) (List.nodup_cons.mpr ⟨h, nd⟩) (fun x hx => by
      rcases List.mem_cons.mp hx with rfl | hx
      · exact hy
      · exact List.mem_range.mp (sub x hx))
    simp at this
    omega
section
variable {n : Nat} {m : Op}
theorem Tb.iv_row (t : Tb n m) {a : Nat} (ha : a < n) : 0 ∈ (List.range n).map (m a) := by
  obtain ⟨x, hx, e⟩ := inj_onto (f := m a) (fun b hb => t.cl a b ha hb) (fun b c hb hc e => t.lc a b c ha hb hc e) t.pos
  exact List.mem_map.mpr ⟨x, List.mem_range.mpr hx, e⟩
theorem Tb.iv_lt (t : Tb n m) {a : Nat} (ha : a < n) : iv n m a < n := by
  have := (idx_at (t.iv_row ha)).2.2
  rw [List.length_map, List.length_range] at this
  exact this
theorem Tb.mul_iv (t : Tb n m) {a : Nat} (ha : a < n) : m a (iv n m a) = 0 := by
  have h := (idx_at (t.iv_row ha)).1
  have hl := t.iv_lt ha
  have e : ((List.range n).map (m a))[iv n m a]? = some (m a (iv n m a)) := by simp [hl]
  rw [show idx 0 ((List.range n).map (m a)) = iv n m a from rfl, e] at h
  exact Option.some.inj h
theorem Tb.iv_mul (t : Tb n m) {a : Nat} (ha : a < n) : m (iv n m a) a = 0 := by
  have hl := t.iv_lt ha
  refine t.lc a _ _ ha (t.cl _ _ hl ha) t.pos ?_
  rw [← t.assoc a _ a ha hl ha, t.mul_iv ha, t.idl a ha, t.idr a ha]
theorem Tb.cm_lt (t : Tb n m) {a b : Nat} (ha : a < n) (hb : b < n) : cm n m a b < n := t.cl _ _ (t.iv_lt (t.cl _ _ hb ha)) (t.cl _ _ ha hb)
theorem Tb.cj_lt (t : Tb n m) {a b : Nat} (ha : a < n) (hb : b < n) : cj n m a b < n := t.cl _ _ (t.cl _ _ (t.iv_lt hb) ha) hb
end
/-! ### marks -/
structure Mks (n : Nat) (p : Nat → Prop) (fl : List Bool) : Prop where
  len : fl.length = n
  ok : ∀ x, x < n → (fl[x]? = some true ↔ p x)
theorem Mks.start (n : Nat) : Mks n (fun _ => False) (List.replicate n false) := ⟨by simp, fun x h => by simp [List.getElem?_replicate, h]⟩
theorem Mks.congr {n : Nat} {p q : Nat → Prop} {fl : List Bool} (h : Mks n p fl) (e : ∀ x, x < n → (p x ↔ q x)) : Mks n q fl := ⟨h.len, fun x hx => (h.ok x hx).trans (e x hx)⟩
theorem Mks.set {n : Nat} {p : Nat → Prop} {fl : List Bool} (h : Mks n p fl) (y : Nat) : Mks n (fun x => p x ∨ x = y) (fl.set y true) := ⟨by simp [h.len], fun x hx => by
  rw [List.getElem?_set]
  by_cases e : y = x
  · subst e
    simp [h.len, hx]
  · rw [if_neg e, h.ok x hx]
    exact ⟨Or.inl, fun q => q.elim id fun q => absurd q.symm e⟩⟩
theorem Mks.get {n : Nat} {p : Nat → Prop} {fl : List Bool} (h : Mks n p fl) {x : Nat} (hx : x < n) : ∃ b : Bool, fl[x]? = some b ∧ (b = true ↔ p x) := by
  have hl : x < fl.length := by rw [h.len]; exact hx
  refine ⟨fl[x], List.getElem?_eq_getElem hl, ?_⟩
  rw [← h.ok x hx, List.getElem?_eq_getElem hl]
  exact ⟨fun e => by rw [e], fun e => Option.some.inj e⟩
theorem Mks.filter {n : Nat} {p : Nat → Prop} {fl : List Bool} (h : Mks n p fl) : (List.range n).filter (fun k => fl[k]?.getD false) = mem n p := by
  refine mem_uniq (List.Pairwise.filter _ List.pairwise_lt_range) fun x => ?_
  rw [List.mem_filter, List.mem_range]
  refine ⟨fun ⟨a, b⟩ => ⟨a, ?_⟩, fun ⟨a, b⟩ => ⟨a, ?_⟩⟩
  · obtain ⟨c, h1, h2⟩ := h.get a
    rw [h1] at b
    exact h2.mp b
  · obtain ⟨c, h1, h2⟩ := h.get a
    rw [h1]
    exact h2.mpr b
theorem sorted_mem {l ms : List Nat} {n : Nat} {p : Nat → Prop} (hp : ms.Perm l) (hs : ms.Pairwise (· ≤ ·)) (nd : l.Nodup) (h : ∀ x, x ∈ l ↔ x < n ∧ p x) : ms = mem n p := by
  have nd' : ms.Nodup := hp.nodup_iff.mpr nd
  refine mem_uniq ?_ fun x => by rw [hp.mem_iff, h]
  exact List.Pairwise.imp (fun ⟨a, b⟩ => Nat.lt_of_le_of_ne a b) (List.pairwise_and_iff.mpr ⟨hs, nd'⟩)
theorem mem_perm {l : List Nat} {n : Nat} {p : Nat → Prop} (nd : l.Nodup) (h : ∀ x, x ∈ l ↔ x < n ∧ p x) : (mem n p).Perm l := by
  refine (List.perm_ext_iff_of_nodup ?_ nd).mpr fun x => by rw [h, mem_iff]
  exact (mem_asc n p).imp fun h => Nat.ne_of_lt h
theorem mem_le (n : Nat) (p : Nat → Prop) : (mem n p).Pairwise (· ≤ ·) := (mem_asc n p).imp fun h => Nat.le_of_lt h
/-! ### lists by place -/
theorem map_place {α β : Type} (l : List α) (d : α) (f : α → β) : l.map f = (List.range l.length).map fun i => f (l.getD i d) := by
  apply List.ext_getElem (by simp)
  intro i h1 h2
  have h3 : i < l.length := by simpa using h1
  simp [h3]
theorem flat_place {β : Type} (a b : Nat) (f : Nat → Nat → β) : ((List.range a).flatMap fun r => (List.range b).map (f r)) = (List.range (a * b)).map fun x => f (x / b) (x % b) := by
  induction a with
  | zero => simp
  | succ a ih =>
    rw [List.range_succ, List.flatMap_append, ih, Nat.succ_mul, List.range_add, List.map_append]
    congr 1
    simp only [List.flatMap_cons, List.flatMap_nil, List.append_nil, List.map_map]
    refine List.map_congr_left fun x hx => ?_
    have hb : x < b := List.mem_range.mp hx
    have hb0 : 0 < b := by omega
    show f a x = f ((a * b + x) / b) ((a * b + x) % b)
    have e1 : (a * b + x) / b = a := by
      rw [Nat.mul_comm, Nat.mul_add_div hb0, Nat.div_eq_of_lt hb]
      omega
    have e2 : (a * b + x) % b = x := by
      rw [Nat.mul_comm, Nat.mul_add_mod, Nat.mod_eq_of_lt hb]
    rw [e1, e2]
/-! ### what the defs compute -/
noncomputable def comL (n : Nat) (m : Op) (A B : List Nat) : List Nat := mem n fun x => ∃ a ∈ A, ∃ b ∈ B, cm n m a b = x
/-- the table of a subset's members by their places -/
def sb (m : Op) (S : List Nat) : Op := fun i j => idx (m (S.getD i 0) (S.getD j 0)) S
/-- the product's table -/
def pm (n2 : Nat) (m1 m2 : Op) : Op := fun x y => m1 (x / n2) (y / n2) * n2 + m2 (x % n2) (y % n2)
noncomputable def coset (n : Nat) (m : Op) (S : List Nat) (x : Nat) : List Nat := mem n fun y => ∃ s ∈ S, m s x = y
noncomputable def cosStep (n : Nat) (m : Op) (S : List Nat) (acc : List (List Nat)) (x : Nat) : List (List Nat) := if x ∈ acc.flatten then acc else acc ++ [coset n m S x]
noncomputable def cosTo (n : Nat) (m : Op) (S : List Nat) (k : Nat) : List (List Nat) := (List.range k).foldl (cosStep n m S) []
theorem cosTo_succ {n k : Nat} {m : Op} {S : List Nat} : cosTo n m S (k + 1) = cosStep n m S (cosTo n m S k) k := by
  unfold cosTo
  rw [List.range_succ, List.foldl_append]
  rfl
theorem cosTo_len {n : Nat} {m : Op} {S : List Nat} : ∀ k, (cosTo n m S k).length ≤ k
  | 0 => by simp [cosTo]
  | k + 1 => by
    have h := cosTo_len (n := n) (m := m) (S := S) k
    rw [cosTo_succ]
    unfold cosStep
    split
    · omega
    · simp
      omega
noncomputable def cosL (n : Nat) (m : Op) (S : List Nat) : List (List Nat) := cosTo n m S n
def picIn (p : List Nat) (k : Nat) (c : List Nat) : List Nat := c.foldl (fun p x => p.set x k) p
def picTo (n : Nat) (cs : List (List Nat)) : Nat → List Nat
  | 0 => List.replicate n 0
  | k + 1 => picIn (picTo n cs k) k (cs.getD k [])
def picL (n : Nat) (cs : List (List Nat)) : List Nat := picTo n cs cs.length
theorem picIn_len (p : List Nat) (k : Nat) : ∀ c : List Nat, (picIn p k c).length = p.length := by
  intro c
  unfold picIn
  induction c generalizing p with
  | nil => rfl
  | cons x c ih =>
    rw [List.foldl_cons, ih]
    simp
theorem picTo_len (n : Nat) (cs : List (List Nat)) : ∀ k, (picTo n cs k).length = n
  | 0 => by simp [picTo]
  | k + 1 => by rw [picTo, picIn_len, picTo_len n cs k]
/-- the table of the parts -/
def qt (m : Op) (P : List Nat) (cs : List (List Nat)) : Op := fun i j => P.getD (m ((cs.getD i []).headD 0) ((cs.getD j []).headD 0)) 0
/-! ### rows of a series -/
structure IsRow (F : List Nat → List Nat) (x0 : List Nat) (rw : List (List Nat)) : Prop where
  z : rw[0]? = some x0
  nx : ∀ k a b, rw[k]? = some a → rw[k + 1]? = some b → F a = b ∧ b ≠ a
  st : ∀ a, rw[rw.length - 1]? = some a → F a = a
noncomputable def dF (n : Nat) (m : Op) (a : List Nat) : List Nat := clo n m (comL n m a a)
noncomputable def lF (n : Nat) (m : Op) (a : List Nat) : List Nat := clo n m (comL n m (List.range n) a)
noncomputable def cenL (n : Nat) (m : Op) (S : List Nat) : List Nat := mem n fun a => ∀ b, b < n → cm n m a b ∈ S
theorem IsRow.pos {F : List Nat → List Nat} {x0 : List Nat} {rw : List (List Nat)} (h : IsRow F x0 rw) : 0 < rw.length := (List.getElem?_eq_some_iff.mp h.z).1
theorem IsRow.all {F : List Nat → List Nat} {x0 : List Nat} {rw : List (List Nat)} (h : IsRow F x0 rw) {q : List Nat → Prop} (h0 : q x0) (hF : ∀ a, q (F a)) : ∀ (k : Nat) (a : List Nat), rw[k]? = some a → q a
  | 0, a, e => by
    rw [h.z] at e
    cases e
    exact h0
  | k + 1, b, e => by
    have hk : k < rw.length := by have := (List.getElem?_eq_some_iff.mp e).1; omega
    rw [← (h.nx k _ b (List.getElem?_eq_getElem hk) e).1]
    exact hF _
theorem rng_lt {n : Nat} : ∀ x ∈ List.range n, x < n := fun x h => List.mem_range.mp h
theorem IsRow.lt {n : Nat} {p : List Nat → Nat → Prop} {x0 : List Nat} {rw : List (List Nat)} (h : IsRow (fun a => mem n (p a)) x0 rw) (h0 : ∀ x ∈ x0, x < n) (hl : x0.length ≤ n) {a : List Nat} (ha : a ∈ rw) : (∀ x ∈ a, x < n) ∧ a.length ≤ n := by
  obtain ⟨k, e⟩ := List.mem_iff_getElem?.mp ha
  exact h.all (q := fun a => (∀ x ∈ a, x < n) ∧ a.length ≤ n) ⟨h0, hl⟩ (fun a => ⟨fun x hx => mem_lt hx, mem_len_le _ _⟩) k a e
noncomputable def conL (n : Nat) (m : Op) (M : List Nat) : List Nat := mem n fun x => ∃ a ∈ M, ∃ b, b < n ∧ cj n m a b = x
noncomputable def sF (n : Nat) (m : Op) (d : Bool) (a : List Nat) : List Nat := clo n m (comL n m (if d = true then a else List.range n) a)
def endF (rw : List (List Nat)) (k : Nat) : List Nat := rw.getD (min k (rw.length - 1)) []
def pairF (n2 : Nat) (a b : List Nat) : List Nat := a.flatMap fun x => b.map fun y => x * n2 + y
def pairsF (r1 r2 : List (List Nat)) (n2 : Nat) : List (List Nat) := (List.range (max r1.length r2.length)).map fun k => pairF n2 (endF r1 k) (endF r2 k)
def cutTo (rs : List (List Nat)) : Nat → List (List Nat)
  | 0 => [rs.getD 0 []]
  | k + 1 => if rs.getD (k + 1) [] = (cutTo rs k).getLastD [] then cutTo rs k else cutTo rs k ++ [rs.getD (k + 1) []]
def cutF (rs : List (List Nat)) : List (List Nat) := cutTo rs (rs.length - 1)
theorem cutTo_len (rs : List (List Nat)) : ∀ k, 0 < (cutTo rs k).length ∧ (cutTo rs k).length ≤ k + 1
  | 0 => by simp [cutTo]
  | k + 1 => by
    have := cutTo_len rs k
    rw [cutTo]
    split
    · omega
    · simp
      omega
noncomputable def pictF (P : List Nat) (c : List Nat) : List Nat := mem P.length fun k => k ∈ c.map fun x => P.getD x 0
theorem endF_at {rw : List (List Nat)} (h : 0 < rw.length) (k : Nat) : rw[min k (rw.length - 1)]? = some (endF rw k) := by
  unfold endF
  rw [List.getD_eq_getElem?_getD, List.getElem?_eq_getElem (by omega)]
  rfl
theorem endF_mem {rw : List (List Nat)} (h : 0 < rw.length) (k : Nat) : endF rw k ∈ rw := List.mem_of_getElem? (endF_at h k)
end CM
set_option Elab.async false
set_option linter.all false
set_option maxRecDepth 100000
set_option maxHeartbeats 1000000
/-! Walks: tables. -/
namespace CM
open PySem PySem.Spec PyProof.Rows L2
theorem rawFree : ∀ (fl : List Bool) (ds : List Dt), (fl.all fun b => !b) = true → RawI fl ds
  | [], [], _ => trivial
  | [], _ :: _, _ => trivial
  | false :: fl, [], _ => trivial
  | false :: fl, _ :: ds, h => rawFree fl ds (by simpa using h)
  | true :: fl, ds, h => by simp at h
def rowL (n : Nat) (m : Op) (a : Nat) : List Nat := (List.range n).map (m a)
def IsTab (d : Dt) (n : Nat) (m : Op) : Prop := ∃ ts, d.sq = some ts ∧ ts.length = n ∧ ∀ a, a < n → ∃ r, ts[a]? = some r ∧ r.sq = some (nD (rowL n m a))
theorem rowL_get {n : Nat} {m : Op} {a b : Nat} (h : b < n) : (rowL n m a)[b]? = some (m a b) := by simp [rowL, h]
theorem row_at {n : Nat} {m : Op} {a b : Nat} (h : b < n) : atI (nD (rowL n m a)) (b : Int) = some (.int ((m a b : Nat) : Int)) := nD_at (rowL_get h)
def R_reached : List Dt → Dt → Prop := fun ds r => ∃ rows mm n m M, ds = [rows, mm] ∧ IsTab rows n m ∧ 0 < n ∧ n ≤ 1000 ∧ (∀ a b, a < n → b < n → m a b < n) ∧ mm.sq = some (nD M) ∧ (∀ x ∈ M, x < n) ∧ r = lN (clo n m M)
theorem hraw_reached : ∀ ds r, R_reached ds r → RawI [false, true] ds := by
  rintro ds r ⟨rows, mm, n, m, M, rfl, -, -, -, -, h, -⟩
  exact ⟨⟨_, by rw [h, nD_ints]⟩, trivial⟩
theorem bD_true {n : Nat} {ins : List Bool} (h : ins.length = n) {x : Nat} (hx : x < n) : ∃ b, ins[x]? = some b := by
  subst h
  exact ⟨_, List.getElem?_eq_getElem hx⟩
theorem sc_reached : FnScope ["rows", "members", "inside", "found", "at", "row", "member"] ["rows", "members"] (defScope s_reached) := ⟨rfl, rfl, rfl, by decide +kernel, rfl, by decide +kernel, by decide +kernel⟩
theorem w_reached {P : Program} {w : World} {K : PySem.W.Frag} {mg : Str → Option Value} {base : Heap} {C : Addr} (T : Tx K mg C) (D : FnS K mg "reached" s_reached) : Fn P w K mg base C "reached" 1 [false, true] R_reached := by
  obtain ⟨f, fd, F, hm⟩ := D
  have S := sc_reached
  obtain ⟨tM, hM⟩ := T.most
  refine Fn.of F (fn_ok (k := 0) (fl := [false, true]) (R := R_reached) F S rfl (by decide) hraw_reached (fun cdv A outer s H E hr => have hu := hu_of hr; dss_cons (ds_own 2 S.nd (df_rep (((df_lst (da_sh de_bl da_nil)).tree).r) (de_len T.len ((dv 0).r))))
      (dss_cons (ds_setI 2 de_bl de_int (fun po pi => pg_sub po pi set_list))
      (dss_cons (ds_own 3 S.nd (df_lst (da_sh de_int da_nil)))
      (dss_cons (ds_set 4 S.nd de_int)
      (dss_cons (ds_while PassesOwn.never (db_lt (dv 4) (de_len T.len (dvo 3))) (dss_cons (ds_set 5 S.nd (de_ix ((dv 0).r) (de_ix (dvo 3) (dv 4))))
      (dss_cons (ds_for PassesOwn.never rfl (di_raw 1) (dg_name 6 S.nd) (dss_one (ds_if (db_not (db_val (de_ix (dvo 2) (de_ix ((dv 5).r) (dv 6))))) (dss_cons (ds_setI 2 de_bl (de_ix ((dv 5).r) (dv 6)) (fun po pi => pg_sub po pi set_list))
      (dss_one (ds_app 3 (de_ix ((dv 5).r) (dv 6))))) dss_nil)))
      (dss_one (ds_aug 4 S.nd ip_addI de_int)))))
      (dss_one (ds_ret ((df_sortedN T.sorted (dvo 3)).tree)))))))) ?hp) (F.bindsN fun _ _ _ _ _ _ us hl => match us, hl with | [_, _], _ => rfl) hm
  case hp =>
    rintro ds r ⟨rows, mm, n, m, M, rfl, ⟨ts, ht, hl, hrow⟩, hn, hn2, hc, hmm, hM, rfl⟩ -
    refine ⟨_, ⟨_, _, ⟨_, ⟨⟨_, _, rfl, rfl, rfl⟩, (by first | (simp; done) | omega | (simp; omega))⟩, rfl⟩, ⟨_, _, rfl, (by first | rfl | assumption), rfl⟩, (by first | omega | (simp at *; omega) | (simp; omega)), (by first | omega | (simp at *; omega) | (simp; omega)), rfl⟩, ?_⟩
    refine ⟨_, _, _, _, rfl, rfl, rfl, (ixN_nat (k := 0) (by simp; omega)), ?_⟩
    refine ⟨_, ⟨⟨_, _, rfl, rfl, rfl⟩, (by first | (simp; done) | omega | (simp; omega))⟩, ?_⟩
    refine ⟨_, rfl, ?_⟩
    refine ⟨fun w env => ∃ ins found at_ s5 s6, env = [.sh rows, .raw mm, .own (bD ins), .own (nD found), .sh (.int ((at_ : Nat) : Int)), s5, s6] ∧ Cls n m M ins found at_ 0 ∧ w = n - at_ , ⟨ n, ?_⟩, fun k env' hw => ?_⟩
    · refine ⟨(List.replicate n false).set 0 true, [0], 0, .un, .un, ?_, Cls.start hn, rfl⟩
      have e : List.set (List.replicate ((ts.length : Int)).toNat (Dt.bl false)) 0 (Dt.bl true) = bD ((List.replicate n false).set 0 true) := by
        rw [bD, List.map_set, List.map_replicate, hl]
        rfl
      rw [← e]
      rfl
    · obtain ⟨ins, found, at_, s5, s6, rfl, c, hk⟩ := hw
      have room := c.room hn hc hM
      refine ⟨_, ⟨_, _, rfl, ⟨_, _, (Or.inl ⟨_, rfl, rfl⟩), (by first | rfl | assumption), rfl⟩, rfl⟩, fun hb => ?_, fun hb => ?_⟩
      · have hat : at_ < found.length := by simpa [nD_len] using hb
        have hx := List.getElem?_eq_getElem hat
        have hxn : found[at_] < n := c.found_lt hn hc hM _ (List.getElem_mem hat)
        obtain ⟨row, hr1, hr2⟩ := hrow _ hxn
        generalize found[at_] = x at hx hxn hr1 hr2
        refine ⟨_, ⟨_, _, _, rfl, (by first | rfl | assumption), ⟨_, _, _, (Or.inl ⟨_, rfl, rfl⟩), (by first | rfl | assumption), rfl, (by first | assumption | exact nD_at ‹_› | exact atI_nat ‹_› | exact bD_at ‹_›)⟩, (by first | assumption | exact nD_at ‹_› | exact atI_nat ‹_› | exact bD_at ‹_›)⟩, ?_⟩
        refine ⟨_, ⟨_, rfl, (by first | rfl | assumption)⟩, fun j env => ∃ ins found s6, env = [.sh rows, .raw mm, .own (bD ins), .own (nD found), .sh (.int ((at_ : Nat) : Int)), .sh row, s6] ∧ Cls n m M ins found at_ j ∧ found[at_]? = some x, ?_, fun k t env' hk hw => ?_, fun env' hw => ?_⟩
        · exact ⟨ins, found, s6, rfl, c, hx⟩
        · obtain ⟨ins, found, s6, rfl, c, hx⟩ := hw
          obtain ⟨g, hg, rfl⟩ := nD_at' hk
          have hgn : g < n := hM _ (List.mem_of_getElem? hg)
          have hmn := hc _ _ hxn hgn
          obtain ⟨b, hbb⟩ := bD_true c.len hmn
          have ha := row_at (m := m) (a := x) hgn
          have room := c.room hn hc hM
          refine ⟨_, rfl, ?_⟩
          refine ⟨_, ⟨_, ⟨_, _, _, (Or.inl ⟨_, rfl, rfl⟩), (by first | rfl | assumption), ⟨_, _, _, rfl, (by first | rfl | assumption), rfl, (by first | assumption | exact nD_at ‹_› | exact atI_nat ‹_› | exact bD_at ‹_›)⟩, (by first | assumption | exact nD_at ‹_› | exact atI_nat ‹_› | exact bD_at ‹_›)⟩, rfl⟩, fun hb => ?_, fun hb => ?_⟩
          · have hb' : b = false := by simpa using hb
            subst hb'
            have hnf : m x g ∉ found := fun z => by
              rw [(c.ins _ hmn).mpr z] at hbb
              cases hbb
            refine ⟨_, _, _, _, rfl, ⟨_, _, _, rfl, (by first | rfl | assumption), rfl, (by first | assumption | exact nD_at ‹_› | exact atI_nat ‹_› | exact bD_at ‹_›)⟩, rfl, (ixN_nat (by rw [bD_len, c.len]; exact hmn)), ?_⟩
            refine ⟨_, _, rfl, ⟨_, _, _, rfl, (by first | rfl | assumption), rfl, (by first | assumption | exact nD_at ‹_› | exact atI_nat ‹_› | exact bD_at ‹_›)⟩, ((by rw [nD_len]; omega)), ?_⟩
            refine ⟨ins.set (m x g) true, found ++ [m x g], .sh (.int (g : Int)), by rw [bD_set, nD_snoc]; rfl, c.fresh hx hg hnf hmn, ?_⟩
            rw [List.getElem?_append_left (List.getElem?_eq_some_iff.mp hx).1, hx]
          · have hb' : b = true := by simpa using hb
            subst hb'
            exact ⟨_, _, _, rfl, c.known hx hg ((c.ins _ hmn).mp hbb), hx⟩
        · obtain ⟨ins, found, s6, rfl, c, hx⟩ := hw
          refine ⟨_, _, rfl, rfl, trivial, ?_⟩
          have room := c.room hn hc hM
          have hat := (List.getElem?_eq_some_iff.mp hx).1
          rw [nD_len] at c
          refine ⟨n - (at_ + 1), by omega, ins, found, (at_ + 1), _, _, rfl, c.next hat, rfl⟩
      · have hat : found.length ≤ at_ := by simpa [nD_len] using hb
        obtain ⟨l, hp, hs⟩ := sort_ex found
        refine ⟨_, ⟨_, ⟨_, _, (Or.inl ⟨_, rfl, rfl⟩), (by assumption), (by assumption), (by first | rfl | assumption)⟩, rfl⟩, ?_⟩
        exact congrArg Dt.lst (by rw [c.answer hn hc hM hat hp hs])
def R_generating_members : List Dt → Dt → Prop := fun ds r => ∃ rows n m, ds = [rows] ∧ IsTab rows n m ∧ 0 < n ∧ n ≤ 1000 ∧ (∀ a b, a < n → b < n → m a b < n) ∧ r = lN (gens n m)
theorem sc_generating_members : FnScope ["rows", "chosen", "found", "member"] ["rows"] (defScope s_generating_members) := ⟨rfl, rfl, rfl, by decide +kernel, rfl, by decide +kernel, by decide +kernel⟩
theorem w_generating_members {P : Program} {w : World} {K : PySem.W.Frag} {mg : Str → Option Value} {base : Heap} {C : Addr} (T : Tx K mg C) (D : FnS K mg "generating_members" s_generating_members) (F_reached : Fn P w K mg base C "reached" 1 [false, true] R_reached) : Fn P w K mg base C "generating_members" 2 [false] R_generating_members := by
  obtain ⟨f, fd, F, hm⟩ := D
  have S := sc_generating_members
  obtain ⟨tM, hM⟩ := T.most
  refine Fn.of F (fn_ok (k := 1) (fl := [false]) (R := R_generating_members) F S rfl (by decide) (fun ds r h => rawFree _ _ (by decide)) (fun cdv A outer s H E hr => have hu := hu_of hr; dss_cons (ds_own 1 S.nd (df_lst da_nil))
      (dss_cons (ds_set 2 S.nd ((df_lst (da_sh de_int da_nil)).tree))
      (dss_cons (ds_for PassesOwn.never rfl (di_rng1 T.range (de_len T.len ((dv 0).r))) (dg_name 3 S.nd) (dss_one (ds_if (db_notInN (dv 3) ((dv 2).r)) (dss_cons (ds_app 1 (dv 3))
      (dss_one (ds_set 2 S.nd (de_call F_reached (hr.mono (by decide)) (da_sh (dv 0) (da_raw (dvo 1) da_nil)))))) dss_nil)))
      (dss_one (ds_retO 1))))) ?hp) (F.bindsN fun _ _ _ _ _ _ us hl => match us, hl with | [_], _ => rfl) hm
  case hp =>
    rintro ds r ⟨rows, n, m, rfl, hT, hn, hn2, hc, rfl⟩ -
    have hT' := hT
    obtain ⟨ts, ht, hl, hrow⟩ := hT'
    refine ⟨_, ⟨rfl, (by first | (simp; done) | omega | (simp; omega))⟩, ?_⟩
    refine ⟨_, ⟨_, ⟨⟨_, _, rfl, rfl, rfl⟩, (by first | (simp; done) | omega | (simp; omega))⟩, rfl⟩, ?_⟩
    refine ⟨_, ⟨_, ⟨_, _, rfl, (by first | rfl | assumption), rfl⟩, (by first | omega | (simp at *; omega) | (simp; omega)), (by first | omega | (simp at *; omega) | (simp; omega)), rfl⟩, fun k env => ∃ s3, env = [.sh rows, .own (nD (gensTo n m k)), .sh (lN (clo n m (gensTo n m k))), s3], ?_, fun k t env' hk hw => ?_, fun env' hw => ?_⟩
    · exact ⟨.un, by rw [show gensTo n m 0 = [] from rfl, clo_nil hn]; rfl⟩
    · obtain ⟨s3, rfl⟩ := hw
      rw [hl, nD_rng] at hk
      obtain ⟨g, hg, rfl⟩ := nD_at' hk
      obtain ⟨hkn, e⟩ := List.getElem?_eq_some_iff.mp hg
      rw [List.getElem_range] at e
      subst e
      rw [List.length_range] at hkn
      have hlt := gensTo_lt (n := n) (m := m) k
      refine ⟨_, rfl, ?_⟩
      refine ⟨_, ⟨_, _, _, rfl, rfl, (by first | rfl | assumption), rfl⟩, fun hb => ?_, fun hb => ?_⟩
      · have hb' : k ∉ clo n m (gensTo n m k) := by simpa using hb
        have e : gensTo n m (k + 1) = gensTo n m k ++ [k] := by rw [gensTo_succ, genStep, if_neg hb']
        refine ⟨_, _, rfl, rfl, ((by rw [nD_len]; omega)), ?_⟩
        have hR : R_reached [rows, lN (gensTo n m (k + 1))] (lN (clo n m (gensTo n m (k + 1)))) := ⟨rows, _, n, m, _, rfl, hT, hn, hn2, hc, rfl, fun x hx => by have := (gensTo_lt (n := n) (m := m) (k + 1)).1 x hx; omega, rfl⟩
        rw [e] at hR
        unfold lN at hR
        rw [nD_snoc] at hR
        refine ⟨_, ⟨_, ⟨_, _, rfl, ⟨_, _, (Or.inl ⟨_, rfl, rfl⟩), rfl, rfl⟩, rfl⟩, (hR)⟩, ?_⟩
        exact ⟨_, by rw [e, nD_snoc]; rfl⟩
      · have hb' : k ∈ clo n m (gensTo n m k) := by simpa using hb
        have e : gensTo n m (k + 1) = gensTo n m k := by rw [gensTo_succ, genStep, if_pos hb']
        exact ⟨_, by rw [e]; rfl⟩
    · obtain ⟨s3, rfl⟩ := hw
      refine ⟨_, rfl, ?_⟩
      rw [hl, nD_rng, nD_len, List.length_range]
      rfl
def R_is_associative : List Dt → Dt → Prop := fun ds r => ∃ rows n m, ds = [rows] ∧ IsTab rows n m ∧ n ≤ 1000 ∧ Tb n m ∧ r = .bl true
theorem sc_is_associative : FnScope ["rows", "middle", "a", "m"] ["rows"] (defScope s_is_associative) := ⟨rfl, rfl, rfl, by decide +kernel, rfl, by decide +kernel, by decide +kernel⟩
theorem w_is_associative {P : Program} {w : World} {K : PySem.W.Frag} {mg : Str → Option Value} {base : Heap} {C : Addr} (T : Tx K mg C) (D : FnS K mg "is_associative" s_is_associative) (F_generating_members : Fn P w K mg base C "generating_members" 2 [false] R_generating_members) : Fn P w K mg base C "is_associative" 3 [false] R_is_associative := by
  obtain ⟨f, fd, F, hm⟩ := D
  have S := sc_is_associative
  obtain ⟨tM, hM⟩ := T.most
  refine Fn.of F (fn_ok (k := 2) (fl := [false]) (R := R_is_associative) F S rfl (by decide) (fun ds r h => rawFree _ _ (by decide)) (fun cdv A outer s H E hr => have hu := hu_of hr; dss_cons (ds_for PassesOwn.never rfl (di_seq (de_call F_generating_members (hr.mono (by decide)) (da_sh (dv 0) da_nil))) (dg_name 1 S.nd) (dss_one (ds_for PassesOwn.never rfl (di_rng1 T.range (de_len T.len ((dv 0).r))) (dg_name 2 S.nd) (dss_one (ds_if (db_neD hr.units (((df_list T.list ((de_ix ((dv 0).r) (de_ix ((de_ix ((dv 0).r) (dv 2)).r) (dv 1))).r)).tree).r) (((df_lc rfl S.nd [("m", 3)] 3 (di_seqR ((de_ix ((dv 0).r) (dv 1)).r)) (blkOk_by (by rfl)) (by decide) (fun _ => pg_name (i := 3) S.nd rfl (by first | exact Or.inl rfl | exact Or.inr rfl)) dts_nil (fun _ => de_ix ((de_ix ((dv 0).r) (dv 2)).r) (dv 3))).tree).r)) (dss_one (ds_ret de_bl)) dss_nil)))))
      (dss_one (ds_ret de_bl))) ?hp) (F.bindsN fun _ _ _ _ _ _ us hl => match us, hl with | [_], _ => rfl) hm
  case hp =>
    rintro ds r ⟨rows, n, m, rfl, hT, hn2, tb, rfl⟩ -
    have hT' := hT
    obtain ⟨ts, ht, hl, hrow⟩ := hT'
    have hR : R_generating_members [rows] (lN (gens n m)) := ⟨rows, n, m, rfl, hT, tb.pos, hn2, tb.cl, rfl⟩
    refine ⟨_, ⟨_, ⟨_, ⟨_, _, rfl, rfl, rfl⟩, (by assumption)⟩, (by first | rfl | assumption)⟩, fun k env => ∃ s1 s2 s3, env = [.sh rows, s1, s2, s3], ?_, fun k t env' hk hw => ?_, fun env' hw => ?_⟩
    · exact ⟨_, _, _, rfl⟩
    · obtain ⟨s1, s2, s3, rfl⟩ := hw
      obtain ⟨g, hg, rfl⟩ := nD_at' hk
      have hgn : g < n := (gensTo_lt (n := n) (m := m) n).1 g (List.mem_of_getElem? hg)
      refine ⟨_, rfl, ?_⟩
      refine ⟨_, ⟨_, ⟨_, _, rfl, (by first | rfl | assumption), rfl⟩, (by first | omega | (simp at *; omega) | (simp; omega)), (by first | omega | (simp at *; omega) | (simp; omega)), rfl⟩, fun k env => ∃ s2 s3, env = [.sh rows, .sh (.int (g : Int)), s2, s3], ?_, fun k t env' hk hw => ?_, fun env' hw => ?_⟩
      · exact ⟨_, _, rfl⟩
      · obtain ⟨s2, s3, rfl⟩ := hw
        rw [hl, nD_rng] at hk
        obtain ⟨a, ha, rfl⟩ := nD_at' hk
        have han : a < n := List.mem_range.mp (List.mem_of_getElem? ha)
        refine ⟨_, rfl, ?_⟩
        obtain ⟨ra, ra1, ra2⟩ := hrow _ han
        obtain ⟨rg, rg1, rg2⟩ := hrow _ hgn
        have hag := tb.cl _ _ han hgn
        obtain ⟨rr, rr1, rr2⟩ := hrow _ hag
        have h1 := row_at (m := m) (a := a) hgn
        have e : (rowL n m g).map (fun j => m a j) = rowL n m (m a g) := by
          simp only [rowL, List.map_map]
          exact List.map_congr_left fun b hb => (tb.assoc a g b han hgn (List.mem_range.mp hb)).symm
        have hq : EqD (lN (rowL n m (m a g))) (.lst ((rowL n m g).map fun j => .int ((m a j : Nat) : Int))) true := by
          have h := eqD_lN (rowL n m (m a g)) ((rowL n m g).map fun j => m a j)
          have e2 : nD ((rowL n m g).map fun j => m a j) = (rowL n m g).map fun j => Dt.int ((m a j : Nat) : Int) := by simp [nD]
          rw [decide_eq_true e.symm] at h
          unfold lN at h ⊢
          rw [e2] at h
          exact h
        have hel : ∀ j ∈ rowL n m g, atI (nD (rowL n m a)) (j : Int) = some (.int ((m a j : Nat) : Int)) := fun j hj => by
          obtain ⟨b, hb, rfl⟩ := List.mem_map.mp hj
          exact row_at (tb.cl _ _ hgn (List.mem_range.mp hb))
        refine ⟨_, ⟨_, ⟨_, _, ⟨_, ⟨_, ⟨_, _, _, rfl, (by first | rfl | assumption), ⟨_, _, _, ⟨_, _, _, rfl, (by first | rfl | assumption), rfl, (by first | assumption | exact nD_at ‹_› | exact atI_nat ‹_› | exact bD_at ‹_›)⟩, (by first | rfl | assumption), rfl, (by first | assumption | exact nD_at ‹_› | exact atI_nat ‹_› | exact bD_at ‹_›)⟩, (by first | assumption | exact nD_at ‹_› | exact atI_nat ‹_› | exact bD_at ‹_›)⟩, (by first | rfl | assumption)⟩, rfl⟩, ⟨_, (fLc_a ⟨_, ⟨_, _, _, rfl, (by first | rfl | assumption), rfl, (by first | assumption | exact nD_at ‹_› | exact atI_nat ‹_› | exact bD_at ‹_›)⟩, (by first | rfl | assumption)⟩ (fun j => .int ((m a j : Nat) : Int)) (fun j hj => by have := hel j hj; exact ⟨_, _, _, ⟨_, _, _, rfl, (by first | rfl | assumption), rfl, (by first | assumption | exact nD_at ‹_› | exact atI_nat ‹_› | exact bD_at ‹_›)⟩, (by first | rfl | assumption), rfl, (by first | assumption | exact nD_at ‹_› | exact atI_nat ‹_› | exact bD_at ‹_›)⟩) (by simp [rowL]; omega)), rfl⟩, (hq)⟩, rfl⟩, fun hb => ?_, fun hb => ?_⟩
        · cases hb
        · exact ⟨_, _, rfl⟩
      · obtain ⟨s2, s3, rfl⟩ := hw
        exact ⟨_, _, _, rfl⟩
    · obtain ⟨s1, s2, s3, rfl⟩ := hw
      refine ⟨_, rfl, ?_⟩
      rfl
def tabL (n : Nat) (m : Op) : List Dt := (List.range n).map fun a => lN (rowL n m a)
abbrev tabD (n : Nat) (m : Op) : Dt := .lst (tabL n m)
theorem tabL_len (n : Nat) (m : Op) : (tabL n m).length = n := by simp [tabL]
theorem tabL_get {n : Nat} {m : Op} {a : Nat} (h : a < n) : (tabL n m)[a]? = some (lN (rowL n m a)) := by simp [tabL, h]
theorem tabD_is (n : Nat) (m : Op) : IsTab (tabD n m) n m := ⟨_, rfl, tabL_len n m, fun a h => ⟨_, tabL_get h, rfl⟩⟩
theorem rowL_len (n : Nat) (m : Op) (a : Nat) : (rowL n m a).length = n := by simp [rowL]
theorem nD_inj {M N : List Nat} (h : nD M = nD N) : M = N := by
  have := (List.map_inj_right (fun (a b : Nat) (e : Dt.int (a : Int) = Dt.int (b : Int)) => by
    injection e with e
    omega)).mp h
  exact this
theorem row_inj {n : Nat} {m : Op} (tb : Tb n m) {a b : Nat} (ha : a < n) (hb : b < n) (h : lN (rowL n m a) = lN (rowL n m b)) : a = b := by
  injection h with h
  have h := nD_inj h
  have e : (rowL n m a)[0]? = (rowL n m b)[0]? := by rw [h]
  rw [rowL_get tb.pos, rowL_get tb.pos, tb.idr a ha, tb.idr b hb] at e
  exact Option.some.inj e
theorem rowL_nodup {n : Nat} {m : Op} (tb : Tb n m) {a : Nat} (ha : a < n) : (rowL n m a).Nodup := by
  unfold rowL
  rw [List.nodup_iff_pairwise_ne, List.pairwise_map]
  exact List.Pairwise.imp_of_mem (fun {x y} hx hy h e => h (tb.lc a x y ha (List.mem_range.mp hx) (List.mem_range.mp hy) e)) (List.nodup_iff_pairwise_ne.mp List.nodup_range)
def colL (n : Nat) (m : Op) (b : Nat) : List Nat := (List.range n).map fun a => m a b
theorem colL_nodup {n : Nat} {m : Op} (tb : Tb n m) {a : Nat} (ha : a < n) : (colL n m a).Nodup := by
  unfold colL
  rw [List.nodup_iff_pairwise_ne, List.pairwise_map]
  exact List.Pairwise.imp_of_mem (fun {x y} hx hy h e => h (tb.rc a x y ha (List.mem_range.mp hx) (List.mem_range.mp hy) e)) (List.nodup_iff_pairwise_ne.mp List.nodup_range)
def R_table_fault : List Dt → Dt → Prop := fun ds r => ∃ n m, ds = [tabD n m] ∧ n ≤ 60 ∧ Tb n m ∧ r = .str ""
theorem sc_table_fault : FnScope ["rows", "size", "columns", "at", "row", "entry", "line"] ["rows"] (defScope s_table_fault) := ⟨rfl, rfl, rfl, by decide +kernel, rfl, by decide +kernel, by decide +kernel⟩
theorem w_table_fault {P : Program} {w : World} {K : PySem.W.Frag} {mg : Str → Option Value} {base : Heap} {C : Addr} (T : Tx K mg C) (D : FnS K mg "table_fault" s_table_fault) (F_is_associative : Fn P w K mg base C "is_associative" 3 [false] R_is_associative) : Fn P w K mg base C "table_fault" 4 [false] R_table_fault := by
  obtain ⟨f, fd, F, hm⟩ := D
  have S := sc_table_fault
  obtain ⟨tM, hM⟩ := T.most
  refine Fn.of F (fn_ok (k := 3) (fl := [false]) (R := R_table_fault) F S rfl (by decide) (fun ds r h => rawFree _ _ (by decide)) (fun cdv A outer s H E hr => have hu := hu_of hr; dss_cons (ds_set 1 S.nd (de_len T.len ((dv 0).r)))
      (dss_cons (ds_if ((dw_or (db_eqS (dv 1) de_int) (dw_or1 (db_not (db_val (de_allB rfl T.all (((df_lc rfl S.nd [("row", 4)] 4 (di_seqR ((dv 0).r)) (blkOk_by (by rfl)) (by decide) (fun _ => pg_name (i := 4) S.nd rfl (by first | exact Or.inl rfl | exact Or.inr rfl)) dts_nil (fun _ => de_eqS (de_len T.len ((dv 4).r)) (dv 1))).tree).r)))))).test) (dss_one (ds_ret de_str)) dss_nil)
      (dss_cons (ds_if (db_not (db_val (de_allB rfl T.all (((df_lc2 rfl S.nd [("row", 4), ("entry", 5)] [5] 4 5 (di_seqR ((dv 0).r)) (blkOk_by (by rfl)) (by decide) (by decide) (by decide) (fun _ => pg_name (i := 4) S.nd rfl (by first | exact Or.inl rfl | exact Or.inr rfl)) (fun _ => di_seq (dv 4)) (fun _ => pg_name (i := 5) S.nd rfl (by first | exact Or.inl rfl | exact Or.inr rfl)) (fun _ => de_chain op_le op_lt de_int (dv 5) (dv 1))).tree).r)))) (dss_one (ds_ret de_str)) dss_nil)
      (dss_cons (ds_if ((dw_or (db_neD hr.units (((df_list T.list ((de_ix ((dv 0).r) de_int).r)).tree).r) (((df_listRg rfl T.list T.range (dv 1)).tree).r)) (dw_or1 (db_neD hr.units (((df_lc rfl S.nd [("row", 4)] 4 (di_seqR ((dv 0).r)) (blkOk_by (by rfl)) (by decide) (fun _ => pg_name (i := 4) S.nd rfl (by first | exact Or.inl rfl | exact Or.inr rfl)) dts_nil (fun _ => de_ix ((dv 4).r) de_int)).tree).r) (((df_listRg rfl T.list T.range (dv 1)).tree).r)))).test) (dss_one (ds_ret de_str)) dss_nil)
      (dss_cons (ds_lcSh (dl_lc 2 rfl S.nd [("at", 3)] 3 rfl rfl (sw_true rfl rfl rfl (by decide +kernel)) (di_rng1 T.range (dv 1)) (blkOk_by (by rfl)) (by decide) (fun _ => pg_name (i := 3) S.nd rfl (by first | exact Or.inl rfl | exact Or.inr rfl)) dts_nil (fun _ => (df_lc rfl S.nd [("row", 4)] 4 (di_seqR ((dv 0).r)) (blkOk_by (by rfl)) (by decide) (fun _ => pg_name (i := 4) S.nd rfl (by first | exact Or.inl rfl | exact Or.inr rfl)) dts_nil (fun _ => de_ix ((dv 4).r) (dv 3))).tree)))
      (dss_cons (ds_if (db_not (db_val (de_allB rfl T.all (((df_lc rfl S.nd [("line", 6)] 6 (di_seqR (((df_cat (((df_list T.list ((dv 0).r)).tree).r) ((dv 2).r)).tree).r)) (blkOk_by (by rfl)) (by decide) (fun _ => pg_name (i := 6) S.nd rfl (by first | exact Or.inl rfl | exact Or.inr rfl)) dts_nil (fun _ => de_eqS (de_lenSetN rfl T.len T.set (dv 6)) (dv 1))).tree).r)))) (dss_one (ds_ret de_str)) dss_nil)
      (dss_cons (ds_if (db_not (db_val (de_call F_is_associative (hr.mono (by decide)) (da_sh (dv 0) da_nil)))) (dss_one (ds_ret de_str)) dss_nil)
      (dss_one (ds_ret de_str))))))))) ?hp) (F.bindsN fun _ _ _ _ _ _ us hl => match us, hl with | [_], _ => rfl) hm
  case hp =>
    rintro ds r ⟨n, m, rfl, hn, tb, rfl⟩ -
    have hpos := tb.pos
    have ht : (tabD n m).sq = some (tabL n m) := rfl
    have hl := tabL_len n m
    have hr : ∀ t ∈ tabL n m, ∃ a, a < n ∧ t = lN (rowL n m a) := fun t h => by
      obtain ⟨a, ha, rfl⟩ := List.mem_map.mp h
      exact ⟨a, List.mem_range.mp ha, rfl⟩
    have hlen : ∀ t ∈ (tabL n m).map (fun _ => Dt.bl true), t = .bl true := fun t h => by
      obtain ⟨_, _, rfl⟩ := List.mem_map.mp h
      rfl
    have hR : R_is_associative [tabD n m] (.bl true) := ⟨_, n, m, rfl, tabD_is n m, by omega, tb, rfl⟩
    have htab : ∀ a < n, (nD (rowL n m a)).length = n := fun a _ => by rw [nD_len, rowL_len]
    have r0 : (tabL n m)[0]? = some (lN (rowL n m 0)) := tabL_get hpos
    have e0 : rowL n m 0 = List.range n := by
      have e : rowL n m 0 = (List.range n).map id := List.map_congr_left fun b hb => tb.idl b (List.mem_range.mp hb)
      rw [e, List.map_id]
    have hq1 : EqD (lN (rowL n m 0)) (.lst (rngD (n : Int))) true := by
      have h := eqD_lN (rowL n m 0) (List.range n)
      rw [decide_eq_true e0] at h
      rw [nD_rng]
      exact h
    have hq2 : EqD (.lst ((List.range n).map fun a => .int ((m a 0 : Nat) : Int))) (.lst (rngD (n : Int))) true := by
      have h := eqD_lN ((List.range n).map fun a => m a 0) (List.range n)
      have e : ((List.range n).map fun a => m a 0) = List.range n := by
        have e : ((List.range n).map fun a => m a 0) = (List.range n).map id := List.map_congr_left fun b hb => tb.idr b (List.mem_range.mp hb)
        rw [e, List.map_id]
      have e2 : nD ((List.range n).map fun a => m a 0) = (List.range n).map fun a => Dt.int ((m a 0 : Nat) : Int) := by simp [nD]
      rw [decide_eq_true e] at h
      unfold lN at h
      rw [e2] at h
      rw [nD_rng]
      exact h
    have hinj : ∀ a ∈ List.range n, ∀ b ∈ List.range n, lN (rowL n m a) = lN (rowL n m b) → a = b := fun a ha b hb h => row_inj tb (List.mem_range.mp ha) (List.mem_range.mp hb) h
    have hlen2 : ((List.range n).flatMap fun a => (rowL n m a).map fun _ => Dt.bl true).length ≤ 100000 := by
      rw [List.length_flatMap]
      have e : (List.range n).map (fun a => ((rowL n m a).map fun _ => Dt.bl true).length) = List.replicate n n := by
        rw [List.eq_replicate_iff]
        refine ⟨by simp, fun x hx => ?_⟩
        obtain ⟨a, _, rfl⟩ := List.mem_map.mp hx
        rw [List.length_map, rowL_len]
      rw [e, List.sum_replicate_nat]
      have := Nat.mul_le_mul hn hn
      omega
    have hall2 : ∀ t ∈ ((List.range n).flatMap fun a => (rowL n m a).map fun _ => Dt.bl true), t = .bl true := fun t h => by
      obtain ⟨a, _, h⟩ := List.mem_flatMap.mp h
      obtain ⟨_, _, rfl⟩ := List.mem_map.mp h
      rfl
    refine ⟨_, ⟨_, _, rfl, (by first | rfl | assumption), rfl⟩, ?_⟩
    rw [hl]
    refine ⟨_, (fOr_i ⟨_, _, rfl, rfl, (by first | exact scal_it (by omega) | exact .int _ _)⟩ (fun hc => ⟨_, ⟨_, _, ⟨_, (fLc_g ⟨_, rfl, (by first | rfl | assumption)⟩ (fun _ => .bl true) (fun t ht => by obtain ⟨a, ha, rfl⟩ := hr t ht; have e := htab a ha; exact ⟨_, ⟨_, _, ⟨_, _, rfl, (by first | rfl | assumption), rfl⟩, rfl, (by first | exact scal_it (by omega) | exact .int _ _)⟩, rfl⟩) (by omega)), rfl⟩, (allB_true hlen), rfl⟩, rfl⟩)), fun hb => ?_, fun hb => ?_⟩
    · have : n = 0 := by simpa using hb
      omega
    refine ⟨_, ⟨_, ⟨_, _, ⟨_, (fLc2_i (M := List.range n) (gg := fun a => lN (rowL n m a)) (N := fun a => rowL n m a) (hh := fun a b => .int (b : Int)) ⟨_, rfl, (by first | rfl | assumption)⟩ (fun _ _ => .bl true) hinj (fun _ _ _ _ _ _ _ => rfl) (fun a ha => ⟨_, rfl, (by first | rfl | assumption)⟩) (fun a ha b hb => by have hb' : b < n := (by obtain ⟨c, hc, rfl⟩ := List.mem_map.mp hb; exact tb.cl _ _ (List.mem_range.mp ha) (List.mem_range.mp hc)); have eb : (decide ((0 : Int) ≤ b) && decide ((b : Int) < n)) = true := (by simp; omega); exact (by rw [← eb]; exact ⟨_, _, _, rfl, rfl, rfl, rfl⟩)) hlen2), rfl⟩, (allB_true hall2), rfl⟩, rfl⟩, fun hb => ?_, fun hb => ?_⟩
    · cases hb
    refine ⟨_, (fOr_i ⟨_, ⟨_, _, ⟨_, ⟨_, ⟨_, _, _, rfl, (by first | rfl | assumption), rfl, (by first | exact atI_zero r0 | exact h0)⟩, (by first | rfl | assumption)⟩, rfl⟩, ⟨_, ⟨_, rfl, (by first | omega | (simp at *; omega) | (simp; omega)), (by first | omega | (simp at *; omega) | (simp; omega)), rfl⟩, rfl⟩, (by first | assumption | exact eqD_tN _ _ | exact eqD_lN _ _)⟩, rfl⟩ (fun hc => ⟨_, ⟨_, _, ⟨_, (fLc_i (M := List.range n) (gg := fun a => lN (rowL n m a)) ⟨_, rfl, (by first | rfl | assumption)⟩ (fun a => .int ((m a 0 : Nat) : Int)) (fun a ha b hb h => by rw [hinj a ha b hb h]) (fun a ha => by have h0 := row_at (m := m) (a := a) hpos; exact ⟨_, _, _, rfl, (by first | rfl | assumption), rfl, (by first | exact atI_zero r0 | exact h0)⟩) (by simp; omega)), rfl⟩, ⟨_, ⟨_, rfl, (by first | omega | (simp at *; omega) | (simp; omega)), (by first | omega | (simp at *; omega) | (simp; omega)), rfl⟩, rfl⟩, (by first | assumption | exact eqD_tN _ _ | exact eqD_lN _ _)⟩, rfl⟩)), fun hb => ?_, fun hb => ?_⟩
    · cases hb
    refine ⟨_, ⟨_, (fLc_a (M := List.range n) ⟨_, rfl, (by first | omega | (simp at *; omega) | (simp; omega)), (by first | omega | (simp at *; omega) | (simp; omega)), rfl⟩ (fun b => .lst ((List.range n).map fun a => .int ((m a b : Nat) : Int))) (fun b hb => ⟨_, (fLc_i (M := List.range n) (gg := fun a => lN (rowL n m a)) ⟨_, rfl, (by first | rfl | assumption)⟩ (fun a => .int ((m a b : Nat) : Int)) (fun a ha b hb h => by rw [hinj a ha b hb h]) (fun a ha => by have h0 := row_at (m := m) (a := a) (List.mem_range.mp hb); exact ⟨_, _, _, rfl, (by first | rfl | assumption), rfl, (by exact h0)⟩) (by simp; omega)), rfl⟩) (by simp; omega)), rfl⟩, ?_⟩
    have ecol : ∀ b, (List.range n).map (fun a => Dt.int ((m a b : Nat) : Int)) = nD (colL n m b) := fun b => by simp [nD, colL]
    have hlines : ∀ t ∈ tabL n m ++ (List.range n).map fun b => Dt.lst ((List.range n).map fun a => .int ((m a b : Nat) : Int)), ∃ l : List Nat, t = lN l ∧ l.length = n ∧ l.Nodup := fun t h => by
      rcases List.mem_append.mp h with h | h
      · obtain ⟨a, ha, rfl⟩ := hr t h
        exact ⟨_, rfl, rowL_len n m a, rowL_nodup tb ha⟩
      · obtain ⟨b, hb, rfl⟩ := List.mem_map.mp h
        exact ⟨colL n m b, by rw [ecol], by simp [colL], colL_nodup tb (List.mem_range.mp hb)⟩
    refine ⟨_, ⟨_, ⟨_, _, ⟨_, (fLc_g ⟨_, ⟨_, ⟨_, _, ⟨_, ⟨_, rfl, (by first | rfl | assumption)⟩, rfl⟩, rfl, (by simp [tabL_len]; omega), rfl⟩, rfl⟩, (by first | rfl | assumption)⟩ (fun _ => .bl true) (fun t ht => by obtain ⟨l, rfl, e, nd⟩ := hlines t ht; exact ⟨_, ⟨_, _, ⟨_, rfl, (by first | omega | (simp at *; omega) | (simp; omega)), (by assumption), rfl⟩, rfl, (by exact scal_it (by omega))⟩, rfl⟩) (by simp [tabL_len]; omega)), rfl⟩, (allB_map _ (fun _ => true)), rfl⟩, rfl⟩, fun hb => ?_, fun hb => ?_⟩
    · simp at hb
    refine ⟨_, ⟨_, ⟨_, ⟨_, _, rfl, rfl, rfl⟩, (by assumption)⟩, rfl⟩, fun hb => ?_, fun hb => ?_⟩
    · cases hb
    refine ⟨_, rfl, ?_⟩
    rfl
end CM
set_option Elab.async false
set_option linter.all false
set_option maxRecDepth 100000
set_option maxHeartbeats 1000000
/-! Walks: groups. -/
namespace CM
open PySem PySem.Spec PyProof.Rows L2
def xrows (n : Nat) (m : Op) : List Dt := (List.range n).map fun a => .xtp (nD (rowL n m a))
def invL (n : Nat) (m : Op) : List Nat := (List.range n).map (iv n m)
abbrev grpD (n : Nat) (m : Op) : Dt := .grp (.tup (xrows n m)) (.int (n : Int)) (.tup (nD (invL n m)))
theorem xrows_get {n : Nat} {m : Op} {a : Nat} (h : a < n) : (xrows n m)[a]? = some (.xtp (nD (rowL n m a))) := by simp [xrows, h]
theorem xrows_len (n : Nat) (m : Op) : (xrows n m).length = n := by simp [xrows]
theorem xtab_is (n : Nat) (m : Op) : IsTab (.tup (xrows n m)) n m := ⟨_, rfl, xrows_len n m, fun a h => ⟨_, xrows_get h, rfl⟩⟩
theorem inv_at {n : Nat} {m : Op} {a : Nat} (h : a < n) : atI (nD (invL n m)) (a : Int) = some (.int ((iv n m a : Nat) : Int)) := nD_at (by simp [invL, h])
theorem xrow_at {n : Nat} {m : Op} {a : Nat} (h : a < n) : atI (xrows n m) (a : Int) = some (.xtp (nD (rowL n m a))) := atI_nat (xrows_get h)
def R_init_m : List Dt → Dt → Prop := fun ds r => ∃ n m, ds = [tabD n m] ∧ n ≤ 60 ∧ Tb n m ∧ r = grpD n m
theorem sc_init_m : FnScope ["self", "rows", "fault", "row"] ["self", "rows"] (defScope s_init_m) := ⟨rfl, rfl, rfl, by decide +kernel, rfl, by decide +kernel, by decide +kernel⟩
theorem w_init_m {P : Program} {w : World} {K : PySem.W.Frag} {mg : Str → Option Value} {base : Heap} {C : Addr} (T : Tx K mg C) (D : ∃ (f : Addr) (fd : FuncData), FunD K "__init__" "Group.__init__" (defArgs s_init_m) (defBody s_init_m) (defScope s_init_m) [] [] f fd ∧ Mk K C f) (hG : mg "Group" = some (.ref C)) (F_table_fault : Fn P w K mg base C "table_fault" 4 [false] R_table_fault) : Made P w K mg base C 5 R_init_m := by
  obtain ⟨f, fd, F, M⟩ := D
  have S := sc_init_m
  obtain ⟨tM, hM⟩ := T.most
  refine Made.of F (init_ok (k := 4) (R := R_init_m) F S rfl (by decide) (fun cdv A outer s H E hr => have hu := hu_of hr; dss_cons (ds_if (db_gt (de_len T.len ((dv 1).r)) (de_glob (by rfl) hM)) (dss_one ds_never) dss_nil)
      (dss_cons (ds_set 2 S.nd (de_call F_table_fault (hr.mono (by decide)) (da_sh (dv 1) da_nil)))
      (dss_cons (ds_if (db_neS (dv 2) de_str) (dss_one ds_never) dss_nil)
      (dss_cons (ds_fld 0 T.cl T.nR (de_tupL T.tuple (((df_lc rfl S.nd [("row", 3)] 3 (di_seqR ((dv 1).r)) (blkOk_by (by rfl)) (by decide) (fun _ => pg_name (i := 3) S.nd rfl (by first | exact Or.inl rfl | exact Or.inr rfl)) dts_nil (fun _ => de_tupX T.tuple ((dv 3).r))).tree).r)))
      (dss_cons (ds_fld 0 T.cl T.nS (de_len T.len ((dv 1).r)))
      (dss_one (ds_fld 0 T.cl T.nI (de_tupL T.tuple (((df_lc rfl S.nd [("row", 3)] 3 (di_seqR ((de_fldG2 (nm2 := "size") 0 T.cl T.nR).r)) (blkOk_by (by rfl)) (by decide) (fun _ => pg_name (i := 3) S.nd rfl (by first | exact Or.inl rfl | exact Or.inr rfl)) dts_nil (fun _ => de_tupIndexN (dv 3) de_int)).tree).r))))))))) ?hp) (F.bindsN fun _ _ _ _ _ _ us hl => match us, hl with | [_, _], _ => rfl) M hG
  case hp =>
    rintro a d r s i ⟨n, m, e, hn, tb, eg⟩
    cases e
    cases eg
    have hR : R_table_fault [tabD n m] (.str "") := ⟨n, m, rfl, hn, tb, rfl⟩
    have hl := tabL_len n m
    refine ⟨_, ⟨_, _, ⟨_, _, rfl, (by first | rfl | assumption), rfl⟩, rfl, rfl⟩, fun hb => ?_, fun hb => ?_⟩
    · have : (60 : Int) < (n : Int) := by simpa [hl] using hb
      omega
    refine ⟨_, ⟨_, ⟨_, _, rfl, rfl, rfl⟩, (by assumption)⟩, ?_⟩
    refine ⟨_, ⟨_, _, _, rfl, rfl, (by first | exact .int _ _ | exact .bl _ _ | exact .str _ _ | exact scal_it (by first | rfl | omega | (simp [nD]; done)) | exact scal_if (by omega)), rfl⟩, fun hb => ?_, fun hb => ?_⟩
    · cases hb
    have hinj : ∀ a ∈ List.range n, ∀ b ∈ List.range n, lN (rowL n m a) = lN (rowL n m b) → a = b := fun a ha b hb h => row_inj tb (List.mem_range.mp ha) (List.mem_range.mp hb) h
    have hinj2 : ∀ a ∈ List.range n, ∀ b ∈ List.range n, Dt.xtp (nD (rowL n m a)) = .xtp (nD (rowL n m b)) → a = b := fun a ha b hb h => row_inj tb (List.mem_range.mp ha) (List.mem_range.mp hb) (by injection h with h; rw [lN, h])
    refine ⟨_, _, _, rfl, ⟨_, ⟨_, (fLc_i (M := List.range n) (gg := fun a => lN (rowL n m a)) ⟨_, rfl, (by first | rfl | assumption)⟩ (fun a => .xtp (nD (rowL n m a))) (fun a ha b hb h => by rw [hinj a ha b hb h]) (fun a ha => ⟨_, rfl, rfl⟩) (by simp; omega)), rfl⟩, rfl⟩, (by simp only [List.nil_append, List.map_append, List.map_cons, List.map_nil, List.cons_append]; decide), (by simp), ?_⟩
    refine ⟨_, _, _, rfl, ⟨_, _, rfl, (by first | rfl | assumption), rfl⟩, (by simp only [List.nil_append, List.map_append, List.map_cons, List.map_nil, List.cons_append]; decide), (by simp), ?_⟩
    rw [hl]
    refine ⟨_, _, _, rfl, ⟨_, ⟨_, (fLc_i (M := List.range n) (gg := fun a => .xtp (nD (rowL n m a))) ⟨_, ⟨_, _, rfl⟩, (by first | rfl | assumption)⟩ (fun a => .int ((iv n m a : Nat) : Int)) (fun a ha b hb h => by rw [hinj2 a ha b hb h]) (fun a ha => by have hi := idx_at (tb.iv_row (List.mem_range.mp ha)); have i1 : (rowL n m a)[iv n m a]? = some 0 := hi.1; have i2 : ∀ k, k < iv n m a → (rowL n m a)[k]? ≠ some 0 := hi.2.1; exact ⟨_, _, _, rfl, rfl, (by assumption), (by assumption), rfl⟩) (by simp; omega)), rfl⟩, rfl⟩, (by simp only [List.nil_append, List.map_append, List.map_cons, List.map_nil, List.cons_append]; decide), (by simp), ?_⟩
    have e : (List.range n).map (fun a => Dt.int ((iv n m a : Nat) : Int)) = nD (invL n m) := by simp [nD, invL]
    rw [e]
    rfl
def R_check_m : List Dt → Dt → Prop := fun ds r => ∃ n m x, ds = [grpD n m, .int ((x : Nat) : Int)] ∧ x < n ∧ r = .non
theorem sc_check_m : FnScope ["self", "member"] ["self", "member"] (defScope s_check_m) := ⟨rfl, rfl, rfl, by decide +kernel, rfl, by decide +kernel, by decide +kernel⟩
theorem w_check_m {P : Program} {w : World} {K : PySem.W.Frag} {mg : Str → Option Value} {base : Heap} {C : Addr} (T : Tx K mg C) (D : MnS K C "check" "Group.check" s_check_m) : Mn P w K mg base C "check" 1 [false, false] R_check_m := by
  obtain ⟨f, fd, F, hm⟩ := D
  have S := sc_check_m
  obtain ⟨tM, hM⟩ := T.most
  refine Mn.of F (fn_ok (k := 0) (fl := [false, false]) (R := R_check_m) F S rfl (by decide) (fun ds r h => rawFree _ _ (by decide)) (fun cdv A outer s H E hr => have hu := hu_of hr; dss_one (ds_if (db_not (db_chain op_le op_lt de_int (dv 1) (de_size T.cl T.nS (dv 0)))) (dss_one ds_never) dss_nil)) ?hp) (F.bindsN fun _ _ _ _ _ _ us hl => match us, hl with | [_, _], _ => rfl) hm
  case hp =>
    rintro ds r ⟨n, m, x, rfl, hx, rfl⟩ -
    refine ⟨_, ⟨_, ⟨_, _, _, rfl, rfl, ⟨_, _, rfl⟩, rfl⟩, rfl⟩, fun hb => ?_, fun hb => ?_⟩
    · simp at hb
      omega
    · rfl
def R_conjugated_m : List Dt → Dt → Prop := fun ds r => ∃ n m a b, ds = [grpD n m, .int ((a : Nat) : Int), .int ((b : Nat) : Int)] ∧ Tb n m ∧ a < n ∧ b < n ∧ r = .int ((cj n m a b : Nat) : Int)
theorem sc_conjugated_m : FnScope ["self", "a", "b"] ["self", "a", "b"] (defScope s_conjugated_m) := ⟨rfl, rfl, rfl, by decide +kernel, rfl, by decide +kernel, by decide +kernel⟩
theorem w_conjugated_m {P : Program} {w : World} {K : PySem.W.Frag} {mg : Str → Option Value} {base : Heap} {C : Addr} (T : Tx K mg C) (D : MnS K C "conjugated" "Group.conjugated" s_conjugated_m) (M_check : Mn P w K mg base C "check" 1 [false, false] R_check_m) (M_check : Mn P w K mg base C "check" 1 [false, false] R_check_m) : Mn P w K mg base C "conjugated" 2 [false, false, false] R_conjugated_m := by
  obtain ⟨f, fd, F, hm⟩ := D
  have S := sc_conjugated_m
  obtain ⟨tM, hM⟩ := T.most
  refine Mn.of F (fn_ok (k := 1) (fl := [false, false, false]) (R := R_conjugated_m) F S rfl (by decide) (fun ds r h => rawFree _ _ (by decide)) (fun cdv A outer s H E hr => have hu := hu_of hr; dss_cons (ds_expr (de_meth T.cl M_check (hr.mono (by decide)) (dv 0) (da_sh (dv 1) da_nil)))
      (dss_cons (ds_expr (de_meth T.cl M_check (hr.mono (by decide)) (dv 0) (da_sh (dv 2) da_nil)))
      (dss_one (ds_ret (de_ix ((de_ix ((de_rows T.cl T.nR (dv 0)).r) (de_ix ((de_ix ((de_rows T.cl T.nR (dv 0)).r) (de_ix ((de_invs T.cl T.nI (dv 0)).r) (dv 2))).r) (dv 1))).r) (dv 2)))))) ?hp) (F.bindsN fun _ _ _ _ _ _ us hl => match us, hl with | [_, _, _], _ => rfl) hm
  case hp =>
    rintro ds r ⟨n, m, a, b, rfl, tb, ha, hb, rfl⟩ -
    have c1 : R_check_m [grpD n m, .int (a : Int)] .non := ⟨n, m, a, rfl, ha, rfl⟩
    have c2 : R_check_m [grpD n m, .int (b : Int)] .non := ⟨n, m, b, rfl, hb, rfl⟩
    have hi := tb.iv_lt hb
    have h1 := inv_at (m := m) hb
    have h2 := xrow_at (m := m) hi
    have h3 := row_at (m := m) (a := iv n m b) ha
    have h4 := tb.cl _ _ hi ha
    have h5 := xrow_at (m := m) h4
    have h6 := row_at (m := m) (a := m (iv n m b) a) hb
    refine ⟨⟨_, ⟨_, _, _, _, rfl, ⟨_, _, rfl, rfl, rfl⟩, (by assumption)⟩⟩, ?_⟩
    refine ⟨⟨_, ⟨_, _, _, _, rfl, ⟨_, _, rfl, rfl, rfl⟩, (by assumption)⟩⟩, ?_⟩
    refine ⟨_, ⟨_, _, _, ⟨_, _, _, ⟨_, _, rfl⟩, (by first | rfl | assumption), ⟨_, _, _, ⟨_, _, _, ⟨_, _, rfl⟩, (by first | rfl | assumption), ⟨_, _, _, ⟨_, _, rfl⟩, (by first | rfl | assumption), rfl, (by first | assumption | exact nD_at ‹_› | exact atI_nat ‹_› | exact bD_at ‹_›)⟩, (by first | assumption | exact nD_at ‹_› | exact atI_nat ‹_› | exact bD_at ‹_›)⟩, (by first | rfl | assumption), rfl, (by first | assumption | exact nD_at ‹_› | exact atI_nat ‹_› | exact bD_at ‹_›)⟩, (by first | assumption | exact nD_at ‹_› | exact atI_nat ‹_› | exact bD_at ‹_›)⟩, (by first | rfl | assumption), rfl, (by first | assumption | exact nD_at ‹_› | exact atI_nat ‹_› | exact bD_at ‹_›)⟩, ?_⟩
    rfl
def R_commutator_m : List Dt → Dt → Prop := fun ds r => ∃ n m a b, ds = [grpD n m, .int ((a : Nat) : Int), .int ((b : Nat) : Int)] ∧ Tb n m ∧ a < n ∧ b < n ∧ r = .int ((cm n m a b : Nat) : Int)
theorem sc_commutator_m : FnScope ["self", "a", "b"] ["self", "a", "b"] (defScope s_commutator_m) := ⟨rfl, rfl, rfl, by decide +kernel, rfl, by decide +kernel, by decide +kernel⟩
theorem w_commutator_m {P : Program} {w : World} {K : PySem.W.Frag} {mg : Str → Option Value} {base : Heap} {C : Addr} (T : Tx K mg C) (D : MnS K C "commutator" "Group.commutator" s_commutator_m) (M_check : Mn P w K mg base C "check" 1 [false, false] R_check_m) (M_check : Mn P w K mg base C "check" 1 [false, false] R_check_m) : Mn P w K mg base C "commutator" 2 [false, false, false] R_commutator_m := by
  obtain ⟨f, fd, F, hm⟩ := D
  have S := sc_commutator_m
  obtain ⟨tM, hM⟩ := T.most
  refine Mn.of F (fn_ok (k := 1) (fl := [false, false, false]) (R := R_commutator_m) F S rfl (by decide) (fun ds r h => rawFree _ _ (by decide)) (fun cdv A outer s H E hr => have hu := hu_of hr; dss_cons (ds_expr (de_meth T.cl M_check (hr.mono (by decide)) (dv 0) (da_sh (dv 1) da_nil)))
      (dss_cons (ds_expr (de_meth T.cl M_check (hr.mono (by decide)) (dv 0) (da_sh (dv 2) da_nil)))
      (dss_one (ds_ret (de_ix ((de_ix ((de_rows T.cl T.nR (dv 0)).r) (de_ix ((de_invs T.cl T.nI (dv 0)).r) (de_ix ((de_ix ((de_rows T.cl T.nR (dv 0)).r) (dv 2)).r) (dv 1)))).r) (de_ix ((de_ix ((de_rows T.cl T.nR (dv 0)).r) (dv 1)).r) (dv 2))))))) ?hp) (F.bindsN fun _ _ _ _ _ _ us hl => match us, hl with | [_, _, _], _ => rfl) hm
  case hp =>
    rintro ds r ⟨n, m, a, b, rfl, tb, ha, hb, rfl⟩ -
    have c1 : R_check_m [grpD n m, .int (a : Int)] .non := ⟨n, m, a, rfl, ha, rfl⟩
    have c2 : R_check_m [grpD n m, .int (b : Int)] .non := ⟨n, m, b, rfl, hb, rfl⟩
    have hba := tb.cl _ _ hb ha
    have hab := tb.cl _ _ ha hb
    have hi := tb.iv_lt hba
    have h1 := xrow_at (m := m) hb
    have h2 := row_at (m := m) (a := b) ha
    have h3 := inv_at (m := m) hba
    have h4 := xrow_at (m := m) hi
    have h5 := xrow_at (m := m) ha
    have h6 := row_at (m := m) (a := a) hb
    have h7 := row_at (m := m) (a := iv n m (m b a)) hab
    refine ⟨⟨_, ⟨_, _, _, _, rfl, ⟨_, _, rfl, rfl, rfl⟩, (by assumption)⟩⟩, ?_⟩
    refine ⟨⟨_, ⟨_, _, _, _, rfl, ⟨_, _, rfl, rfl, rfl⟩, (by assumption)⟩⟩, ?_⟩
    refine ⟨_, ⟨_, _, _, ⟨_, _, _, ⟨_, _, rfl⟩, (by first | rfl | assumption), ⟨_, _, _, ⟨_, _, rfl⟩, (by first | rfl | assumption), ⟨_, _, _, ⟨_, _, _, ⟨_, _, rfl⟩, (by first | rfl | assumption), rfl, (by first | assumption | exact nD_at ‹_› | exact atI_nat ‹_› | exact bD_at ‹_›)⟩, (by first | rfl | assumption), rfl, (by first | assumption | exact nD_at ‹_› | exact atI_nat ‹_› | exact bD_at ‹_›)⟩, (by first | assumption | exact nD_at ‹_› | exact atI_nat ‹_› | exact bD_at ‹_›)⟩, (by first | assumption | exact nD_at ‹_› | exact atI_nat ‹_› | exact bD_at ‹_›)⟩, (by first | rfl | assumption), ⟨_, _, _, ⟨_, _, _, ⟨_, _, rfl⟩, (by first | rfl | assumption), rfl, (by first | assumption | exact nD_at ‹_› | exact atI_nat ‹_› | exact bD_at ‹_›)⟩, (by first | rfl | assumption), rfl, (by first | assumption | exact nD_at ‹_› | exact atI_nat ‹_› | exact bD_at ‹_›)⟩, (by first | assumption | exact nD_at ‹_› | exact atI_nat ‹_› | exact bD_at ‹_›)⟩, ?_⟩
    rfl
end CM
set_option Elab.async false
set_option linter.all false
set_option maxRecDepth 100000
set_option maxHeartbeats 1000000
/-! Walks: subgroups. -/
namespace CM
open PySem PySem.Spec PyProof.Rows L2
def R_generated : List Dt → Dt → Prop := fun ds r => ∃ n m s M, ds = [grpD n m, s] ∧ Tb n m ∧ n ≤ 60 ∧ s.sq = some (nD M) ∧ (∀ x ∈ M, x < n) ∧ r = tN (clo n m M)
theorem sc_generated : FnScope ["group", "members", "member"] ["group", "members"] (defScope s_generated) := ⟨rfl, rfl, rfl, by decide +kernel, rfl, by decide +kernel, by decide +kernel⟩
theorem w_generated {P : Program} {w : World} {K : PySem.W.Frag} {mg : Str → Option Value} {base : Heap} {C : Addr} (T : Tx K mg C) (D : FnS K mg "generated" s_generated) (M_check : Mn P w K mg base C "check" 1 [false, false] R_check_m) (F_reached : Fn P w K mg base C "reached" 1 [false, true] R_reached) : Fn P w K mg base C "generated" 2 [false, false] R_generated := by
  obtain ⟨f, fd, F, hm⟩ := D
  have S := sc_generated
  obtain ⟨tM, hM⟩ := T.most
  refine Fn.of F (fn_ok (k := 1) (fl := [false, false]) (R := R_generated) F S rfl (by decide) (fun ds r h => rawFree _ _ (by decide)) (fun cdv A outer s H E hr => have hu := hu_of hr; dss_cons (ds_for PassesOwn.never rfl (di_seq (dv 1)) (dg_name 2 S.nd) (dss_one (ds_expr (de_meth T.cl M_check (hr.mono (by decide)) (dv 0) (da_sh (dv 2) da_nil)))))
      (dss_one (ds_ret (de_tupL T.tuple ((de_call F_reached (hr.mono (by decide)) (da_sh (de_rows T.cl T.nR (dv 0)) (da_raw ((dv 1).r) da_nil))).r))))) ?hp) (F.bindsN fun _ _ _ _ _ _ us hl => match us, hl with | [_, _], _ => rfl) hm
  case hp =>
    rintro ds r ⟨n, m, s, M, rfl, tb, hn, hs, hM, rfl⟩ -
    have hR : R_reached [.tup (xrows n m), s] (lN (clo n m M)) := ⟨_, s, n, m, M, rfl, xtab_is n m, tb.pos, by omega, tb.cl, hs, hM, rfl⟩
    refine ⟨_, ⟨_, rfl, (by first | rfl | assumption)⟩, fun k env => ∃ s2, env = [.sh (grpD n m), .sh s, s2], ?_, fun k t env' hk hw => ?_, fun env' hw => ?_⟩
    · exact ⟨_, rfl⟩
    · obtain ⟨s2, rfl⟩ := hw
      obtain ⟨g, hg, rfl⟩ := nD_at' hk
      have c1 : R_check_m [grpD n m, .int (g : Int)] .non := ⟨n, m, g, rfl, hM _ (List.mem_of_getElem? hg), rfl⟩
      refine ⟨_, rfl, ?_⟩
      refine ⟨⟨_, ⟨_, _, _, _, rfl, ⟨_, _, rfl, rfl, rfl⟩, (by assumption)⟩⟩, ?_⟩
      exact ⟨_, rfl⟩
    · obtain ⟨s2, rfl⟩ := hw
      refine ⟨_, ⟨_, ⟨_, ⟨_, _, ⟨_, _, rfl⟩, ⟨_, _, rfl, rfl, rfl⟩, rfl⟩, (by assumption)⟩, rfl⟩, ?_⟩
      rfl
def IsTup (s : Dt) (S : List Nat) : Prop := s = tN S ∨ s = .xtp (nD S)
theorem IsTup.sq {s : Dt} {S : List Nat} (h : IsTup s S) : s.sq = some (nD S) := by
  rcases h with rfl | rfl <;> rfl
theorem IsTup.eq {s : Dt} {S : List Nat} (h : IsTup s S) (M : List Nat) : EqD (tN M) s (decide (M = S)) := by
  rcases h with rfl | rfl
  · exact eqD_tN M S
  · exact eqD_tx M S
theorem IsTup.tup {s : Dt} {S : List Nat} (h : IsTup s S) : s = .tup (nD S) ∨ s = .xtp (nD S) := h
structure Sub (n : Nat) (m : Op) (S : List Nat) : Prop where
  lt : ∀ x ∈ S, x < n
  cl : clo n m S = S
def R_check_subgroup : List Dt → Dt → Prop := fun ds r => ∃ n m s S, ds = [grpD n m, s] ∧ Tb n m ∧ n ≤ 60 ∧ IsTup s S ∧ Sub n m S ∧ r = .non
theorem sc_check_subgroup : FnScope ["group", "subgroup"] ["group", "subgroup"] (defScope s_check_subgroup) := ⟨rfl, rfl, rfl, by decide +kernel, rfl, by decide +kernel, by decide +kernel⟩
theorem w_check_subgroup {P : Program} {w : World} {K : PySem.W.Frag} {mg : Str → Option Value} {base : Heap} {C : Addr} (T : Tx K mg C) (D : FnS K mg "check_subgroup" s_check_subgroup) (F_generated : Fn P w K mg base C "generated" 2 [false, false] R_generated) : Fn P w K mg base C "check_subgroup" 3 [false, false] R_check_subgroup := by
  obtain ⟨f, fd, F, hm⟩ := D
  have S := sc_check_subgroup
  obtain ⟨tM, hM⟩ := T.most
  refine Fn.of F (fn_ok (k := 2) (fl := [false, false]) (R := R_check_subgroup) F S rfl (by decide) (fun ds r h => rawFree _ _ (by decide)) (fun cdv A outer s H E hr => have hu := hu_of hr; dss_one (ds_if (db_neD hr.units ((de_call F_generated (hr.mono (by decide)) (da_sh (dv 0) (da_sh (dv 1) da_nil))).r) ((de_tupXX T.tuple (dv 1)).r)) (dss_one ds_never) dss_nil)) ?hp) (F.bindsN fun _ _ _ _ _ _ us hl => match us, hl with | [_, _], _ => rfl) hm
  case hp =>
    rintro ds r ⟨n, m, s, S, rfl, tb, hn, hs, sub, rfl⟩ -
    have hR : R_generated [grpD n m, s] (tN (clo n m S)) := ⟨n, m, s, S, rfl, tb, hn, hs.sq, sub.lt, rfl⟩
    have hq := hs.eq (clo n m S)
    rw [decide_eq_true sub.cl] at hq
    refine ⟨_, ⟨_, ⟨_, _, ⟨_, ⟨_, _, rfl, ⟨_, _, rfl, rfl, rfl⟩, rfl⟩, (by assumption)⟩, ⟨_, rfl, (hs.tup)⟩, (by first | assumption | exact eqD_tN _ _ | exact eqD_lN _ _)⟩, rfl⟩, fun hb => ?_, fun hb => ?_⟩
    · cases hb
    · rfl
def R_commutator_subgroup : List Dt → Dt → Prop := fun ds r => ∃ n m f s A B, ds = [grpD n m, f, s] ∧ Tb n m ∧ n ≤ 60 ∧ f.sq = some (nD A) ∧ s.sq = some (nD B) ∧ A.length ≤ 1000 ∧ B.length ≤ 1000 ∧ (∀ x ∈ A, x < n) ∧ (∀ x ∈ B, x < n) ∧ r = tN (clo n m (comL n m A B))
theorem sc_commutator_subgroup : FnScope ["group", "first", "second", "member", "found", "a", "b"] ["group", "first", "second"] (defScope s_commutator_subgroup) := ⟨rfl, rfl, rfl, by decide +kernel, rfl, by decide +kernel, by decide +kernel⟩
theorem w_commutator_subgroup {P : Program} {w : World} {K : PySem.W.Frag} {mg : Str → Option Value} {base : Heap} {C : Addr} (T : Tx K mg C) (D : FnS K mg "commutator_subgroup" s_commutator_subgroup) (M_check : Mn P w K mg base C "check" 1 [false, false] R_check_m) (M_commutator : Mn P w K mg base C "commutator" 2 [false, false, false] R_commutator_m) (F_generated : Fn P w K mg base C "generated" 2 [false, false] R_generated) : Fn P w K mg base C "commutator_subgroup" 3 [false, false, false] R_commutator_subgroup := by
  obtain ⟨f, fd, F, hm⟩ := D
  have S := sc_commutator_subgroup
  obtain ⟨tM, hM⟩ := T.most
  refine Fn.of F (fn_ok (k := 2) (fl := [false, false, false]) (R := R_commutator_subgroup) F S rfl (by decide) (fun ds r h => rawFree _ _ (by decide)) (fun cdv A outer s H E hr => have hu := hu_of hr; dss_cons (ds_for PassesOwn.never rfl (di_seq ((df_cat (((df_list T.list ((dv 1).r)).tree).r) (((df_list T.list ((dv 2).r)).tree).r)).tree)) (dg_name 3 S.nd) (dss_one (ds_expr (de_meth T.cl M_check (hr.mono (by decide)) (dv 0) (da_sh (dv 3) da_nil)))))
      (dss_cons (ds_own 4 S.nd (df_rep (((df_lst (da_sh de_bl da_nil)).tree).r) (de_size T.cl T.nS (dv 0))))
      (dss_cons (ds_for PassesOwn.never rfl (di_seq (dv 1)) (dg_name 5 S.nd) (dss_one (ds_for PassesOwn.never rfl (di_seq (dv 2)) (dg_name 6 S.nd) (dss_one (ds_setI 4 de_bl (de_meth T.cl M_commutator (hr.mono (by decide)) (dv 0) (da_sh (dv 5) (da_sh (dv 6) da_nil))) (fun po pi => pg_sub po pi set_list))))))
      (dss_one (ds_ret (de_call F_generated (hr.mono (by decide)) (da_sh (dv 0) (da_sh ((df_lc rfl S.nd [("member", 3)] 3 (di_rng1 T.range (de_size T.cl T.nS (dv 0))) (blkOk_by (by rfl)) (by decide) (fun _ => pg_name (i := 3) S.nd rfl (by first | exact Or.inl rfl | exact Or.inr rfl)) (dts_one fun _ => db_val (de_ix (dvo 4) (dv 3))) (fun _ => dv 3)).tree) da_nil)))))))) ?hp) (F.bindsN fun _ _ _ _ _ _ us hl => match us, hl with | [_, _, _], _ => rfl) hm
  case hp =>
    rintro ds r ⟨n, m, f, s, A, B, rfl, tb, hn, hf, hs, hlA, hlB, hA, hB, rfl⟩ -
    refine ⟨_, ⟨_, ⟨_, ⟨_, _, ⟨_, ⟨_, rfl, (by first | rfl | assumption)⟩, rfl⟩, ⟨_, ⟨_, rfl, (by first | rfl | assumption)⟩, rfl⟩, (by rw [nD_len, nD_len]; omega), rfl⟩, rfl⟩, (by first | rfl | assumption)⟩, fun k env => ∃ s3, env = [.sh (grpD n m), .sh f, .sh s, s3, .un, .un, .un], ?_, fun k t env' hk hw => ?_, fun env' hw => ?_⟩
    · exact ⟨_, rfl⟩
    · obtain ⟨s3, rfl⟩ := hw
      rw [← nD_app] at hk
      obtain ⟨g, hg, rfl⟩ := nD_at' hk
      have hgn : g < n := by
        rcases List.mem_append.mp (List.mem_of_getElem? hg) with h | h
        · exact hA _ h
        · exact hB _ h
      have c1 : R_check_m [grpD n m, .int (g : Int)] .non := ⟨n, m, g, rfl, hgn, rfl⟩
      refine ⟨_, rfl, ?_⟩
      refine ⟨⟨_, ⟨_, _, _, _, rfl, ⟨_, _, rfl, rfl, rfl⟩, (by assumption)⟩⟩, ?_⟩
      exact ⟨_, rfl⟩
    obtain ⟨s3, rfl⟩ := hw
    refine ⟨_, ⟨_, _, ⟨_, ⟨⟨_, _, rfl, rfl, rfl⟩, (by first | (simp; done) | omega | (simp; omega))⟩, rfl⟩, ⟨_, _, rfl⟩, (by first | omega | (simp at *; omega) | (simp; omega)), (by first | omega | (simp at *; omega) | (simp; omega)), rfl⟩, ?_⟩
    rw [show List.replicate ((n : Int)).toNat (Dt.bl false) = bD (List.replicate n false) from (bD_rep n false).symm]
    refine ⟨_, ⟨_, rfl, (by first | rfl | assumption)⟩, fun k env => ∃ fl s3 s5 s6, env = [.sh (grpD n m), .sh f, .sh s, s3, .own (bD fl), s5, s6] ∧ Mks n (fun x => ∃ i a, i < k ∧ A[i]? = some a ∧ ∃ b ∈ B, cm n m a b = x) fl, ?_, fun k t env' hk hw => ?_, fun env' hw => ?_⟩
    · exact ⟨_, _, _, _, rfl, (Mks.start n).congr fun x _ => ⟨False.elim, fun ⟨i, a, h, _⟩ => absurd h (Nat.not_lt_zero _)⟩⟩
    · obtain ⟨fl, s3, s5, s6, rfl, mk⟩ := hw
      obtain ⟨a, ha, rfl⟩ := nD_at' hk
      have han := hA _ (List.mem_of_getElem? ha)
      refine ⟨_, rfl, ?_⟩
      refine ⟨_, ⟨_, rfl, (by first | rfl | assumption)⟩, fun j env => ∃ fl s3 s6, env = [.sh (grpD n m), .sh f, .sh s, s3, .own (bD fl), .sh (.int (a : Int)), s6] ∧ Mks n (fun x => (∃ i a, i < k ∧ A[i]? = some a ∧ ∃ b ∈ B, cm n m a b = x) ∨ ∃ i b, i < j ∧ B[i]? = some b ∧ cm n m a b = x) fl, ?_, fun k t env' hk hw => ?_, fun env' hw => ?_⟩
      · exact ⟨_, _, _, rfl, mk.congr fun x _ => ⟨Or.inl, fun q => q.elim id fun ⟨i, b, h, _⟩ => absurd h (Nat.not_lt_zero _)⟩⟩
      · rename_i k2
        obtain ⟨fl, s3, s6, rfl, mk⟩ := hw
        obtain ⟨b, hb, rfl⟩ := nD_at' hk
        have hbn := hB _ (List.mem_of_getElem? hb)
        have hcn := tb.cm_lt han hbn
        have c1 : R_commutator_m [grpD n m, .int (a : Int), .int (b : Int)] (.int ((cm n m a b : Nat) : Int)) := ⟨n, m, a, b, rfl, tb, han, hbn, rfl⟩
        refine ⟨_, rfl, ?_⟩
        refine ⟨_, _, _, _, rfl, ⟨_, _, _, _, rfl, ⟨_, _, rfl, ⟨_, _, rfl, rfl, rfl⟩, rfl⟩, (by assumption)⟩, rfl, (ixN_nat (by rw [bD_len, mk.len]; exact hcn)), ?_⟩
        rw [show List.set (bD fl) (cm n m a b) (Dt.bl true) = bD (fl.set (cm n m a b) true) from (bD_set _ _ _).symm]
        refine ⟨_, _, _, rfl, (mk.set _).congr fun x hx => ⟨fun q => ?_, fun q => ?_⟩⟩
        · rcases q with (q | ⟨i, b', h1, h2, h3⟩) | q
          · exact Or.inl q
          · exact Or.inr ⟨i, b', by omega, h2, h3⟩
          · exact Or.inr ⟨_, b, Nat.lt_succ_self _, hb, q.symm⟩
        · rcases q with q | ⟨i, b', h1, h2, h3⟩
          · exact Or.inl (Or.inl q)
          · by_cases e : i < k
            · exact Or.inl (Or.inr ⟨i, b', e, h2, h3⟩)
            · have : i = k := by omega
              subst this
              rw [hb] at h2
              cases h2
              exact Or.inr h3.symm
      · obtain ⟨fl, s3, s6, rfl, mk⟩ := hw
        rw [nD_len] at mk
        refine ⟨_, _, _, _, rfl, mk.congr fun x hx => ⟨fun q => ?_, fun q => ?_⟩⟩
        · rcases q with ⟨i, a', h1, h2, h3⟩ | ⟨i, b, h1, h2, h3⟩
          · exact ⟨i, a', by omega, h2, h3⟩
          · exact ⟨_, a, Nat.lt_succ_self _, ha, b, List.mem_of_getElem? h2, h3⟩
        · obtain ⟨i, a', h1, h2, b, h3, h4⟩ := q
          by_cases e : i < k
          · exact Or.inl ⟨i, a', e, h2, b, h3, h4⟩
          · have : i = k := by omega
            subst this
            rw [ha] at h2
            cases h2
            obtain ⟨j, hj⟩ := List.mem_iff_getElem?.mp h3
            exact Or.inr ⟨j, b, (List.getElem?_eq_some_iff.mp hj).1, hj, h4⟩
    · obtain ⟨fl, s3, s5, s6, rfl, mk⟩ := hw
      rw [nD_len] at mk
      have ef : (List.range n).filter (fun k => fl[k]?.getD false) = comL n m A B := by
        rw [mk.filter]
        refine mem_congr fun x hx => ⟨fun ⟨i, a, _, h, b, h2, h3⟩ => ⟨a, List.mem_of_getElem? h, b, h2, h3⟩, fun ⟨a, h, b, h2, h3⟩ => ?_⟩
        obtain ⟨i, hi⟩ := List.mem_iff_getElem?.mp h
        exact ⟨i, a, (List.getElem?_eq_some_iff.mp hi).1, hi, b, h2, h3⟩
      have hR : R_generated [grpD n m, lN ((List.range n).filter (fun k => fl[k]?.getD false))] (tN (clo n m (comL n m A B))) := ⟨n, m, _, comL n m A B, rfl, tb, hn, by rw [ef]; rfl, fun x h => (mem_iff.mp h).1, rfl⟩
      refine ⟨_, ⟨_, ⟨_, _, rfl, ⟨_, _, ⟨_, (fLc_f (M := List.range n) ⟨_, ⟨_, _, rfl⟩, (by first | omega | (simp at *; omega) | (simp; omega)), (by first | omega | (simp at *; omega) | (simp; omega)), rfl⟩ (fun k => fl[k]?.getD false) (fun j hj => by have hj' : (fl[j]?) = some (fl[j]?.getD false) := (by obtain ⟨c, h1, _⟩ := mk.get (List.mem_range.mp hj); rw [h1]; rfl); exact ⟨_, _, _, (Or.inl ⟨_, rfl, rfl⟩), (by first | rfl | assumption), rfl, (by first | assumption | exact nD_at ‹_› | exact atI_nat ‹_› | exact bD_at ‹_›)⟩) (fun j hj => rfl) (by simp; omega)), rfl⟩, rfl, rfl⟩, rfl⟩, (by assumption)⟩, ?_⟩
      rfl
end CM
set_option Elab.async false
set_option linter.all false
set_option maxRecDepth 100000
set_option maxHeartbeats 1000000
/-! Walks: quotients. -/
namespace CM
open PySem PySem.Spec PyProof.Rows L2
theorem sub_len {n : Nat} {m : Op} {S : List Nat} (s : Sub n m S) : S.length ≤ n := by
  rw [← s.cl]
  exact mem_len_le _ _
theorem sub_asc {n : Nat} {m : Op} {S : List Nat} (s : Sub n m S) : S.Pairwise (· < ·) := by
  rw [← s.cl]
  exact mem_asc _ _
theorem sub_nodup {n : Nat} {m : Op} {S : List Nat} (s : Sub n m S) : S.Nodup := (sub_asc s).imp fun h => Nat.ne_of_lt h
def R_is_normal : List Dt → Dt → Prop := fun ds r => ∃ n m s S, ds = [grpD n m, s] ∧ Tb n m ∧ n ≤ 60 ∧ IsTup s S ∧ Sub n m S ∧ (∀ a ∈ S, ∀ b, b < n → cj n m a b ∈ S) ∧ r = .bl true
theorem sc_is_normal : FnScope ["group", "subgroup", "inside", "member", "a", "b"] ["group", "subgroup"] (defScope s_is_normal) := ⟨rfl, rfl, rfl, by decide +kernel, rfl, by decide +kernel, by decide +kernel⟩
theorem w_is_normal {P : Program} {w : World} {K : PySem.W.Frag} {mg : Str → Option Value} {base : Heap} {C : Addr} (T : Tx K mg C) (D : FnS K mg "is_normal" s_is_normal) (F_check_subgroup : Fn P w K mg base C "check_subgroup" 3 [false, false] R_check_subgroup) (M_conjugated : Mn P w K mg base C "conjugated" 2 [false, false, false] R_conjugated_m) (M_conjugated : Mn P w K mg base C "conjugated" 2 [false, false, false] R_conjugated_m) : Fn P w K mg base C "is_normal" 4 [false, false] R_is_normal := by
  obtain ⟨f, fd, F, hm⟩ := D
  have S := sc_is_normal
  obtain ⟨tM, hM⟩ := T.most
  refine Fn.of F (fn_ok (k := 3) (fl := [false, false]) (R := R_is_normal) F S rfl (by decide) (fun ds r h => rawFree _ _ (by decide)) (fun cdv A outer s H E hr => have hu := hu_of hr; dss_cons (ds_expr (de_call F_check_subgroup (hr.mono (by decide)) (da_sh (dv 0) (da_sh (dv 1) da_nil))))
      (dss_cons (ds_set 2 S.nd ((df_lc rfl S.nd [("member", 3)] 3 (di_rng1 T.range (de_size T.cl T.nS (dv 0))) (blkOk_by (by rfl)) (by decide) (fun _ => pg_name (i := 3) S.nd rfl (by first | exact Or.inl rfl | exact Or.inr rfl)) dts_nil (fun _ => de_inN (dv 3) ((dv 1).r))).tree))
      (dss_one (ds_ret (de_allB rfl T.all (((df_lc2 rfl S.nd [("a", 4), ("b", 5)] [5] 4 5 (di_seqR ((dv 1).r)) (blkOk_by (by rfl)) (by decide) (by decide) (by decide) (fun _ => pg_name (i := 4) S.nd rfl (by first | exact Or.inl rfl | exact Or.inr rfl)) (fun _ => di_rng1 T.range (de_size T.cl T.nS (dv 0))) (fun _ => pg_name (i := 5) S.nd rfl (by first | exact Or.inl rfl | exact Or.inr rfl)) (fun _ => de_ix ((dv 2).r) (de_meth T.cl M_conjugated (hr.mono (by decide)) (dv 0) (da_sh (dv 4) (da_sh (dv 5) da_nil))))).tree).r)))))) ?hp) (F.bindsN fun _ _ _ _ _ _ us hl => match us, hl with | [_, _], _ => rfl) hm
  case hp =>
    rintro ds r ⟨n, m, s, S, rfl, tb, hn, hs, sub, nor, rfl⟩ -
    have hR : R_check_subgroup [grpD n m, s] .non := ⟨n, m, s, S, rfl, tb, hn, hs, sub, rfl⟩
    have hsq := hs.sq
    have hl := sub_len sub
    refine ⟨⟨_, ⟨_, ⟨_, _, rfl, ⟨_, _, rfl, rfl, rfl⟩, rfl⟩, (by assumption)⟩⟩, ?_⟩
    refine ⟨_, ⟨_, (fLc_a (M := List.range n) ⟨_, ⟨_, _, rfl⟩, (by first | omega | (simp at *; omega) | (simp; omega)), (by first | omega | (simp at *; omega) | (simp; omega)), rfl⟩ (fun k => .bl (decide (k ∈ S))) (fun k hk => ⟨_, _, _, rfl, rfl, (by first | rfl | assumption), rfl⟩) (by simp; omega)), rfl⟩, ?_⟩
    have hin : ∀ a ∈ S, ∀ b ∈ List.range n, atI ((List.range n).map fun k => Dt.bl (decide (k ∈ S))) ((cj n m a b : Nat) : Int) = some (.bl true) := fun a ha b hb => by
      have hb' := List.mem_range.mp hb
      have h1 := tb.cj_lt (sub.lt a ha) hb'
      refine atI_nat ?_
      simp [h1, nor a ha b hb']
    have hcj : ∀ a ∈ S, ∀ b ∈ List.range n, R_conjugated_m [grpD n m, .int (a : Int), .int (b : Int)] (.int ((cj n m a b : Nat) : Int)) := fun a ha b hb => ⟨n, m, a, b, rfl, tb, sub.lt a ha, List.mem_range.mp hb, rfl⟩
    have hall2 : ∀ t ∈ (S.flatMap fun _ => (List.range n).map fun _ => Dt.bl true), t = .bl true := fun t h => by
      obtain ⟨a, _, h⟩ := List.mem_flatMap.mp h
      obtain ⟨_, _, rfl⟩ := List.mem_map.mp h
      rfl
    have hlen2 : (S.flatMap fun _ => (List.range n).map fun _ => Dt.bl true).length ≤ 100000 := by
      rw [List.length_flatMap]
      have e : S.map (fun _ => ((List.range n).map fun _ => Dt.bl true).length) = List.replicate S.length n := by
        rw [List.eq_replicate_iff]
        refine ⟨by simp, fun x hx => ?_⟩
        obtain ⟨a, _, rfl⟩ := List.mem_map.mp hx
        simp
      rw [e, List.sum_replicate_nat]
      have := Nat.mul_le_mul (Nat.le_trans hl hn) hn
      omega
    refine ⟨_, ⟨_, _, ⟨_, (fLc2_i (M := S) (gg := fun a => .int (a : Int)) (N := fun _ => List.range n) (hh := fun _ b => .int (b : Int)) ⟨_, rfl, (by first | rfl | assumption)⟩ (fun _ _ => .bl true) (fun a _ b _ h => by injection h with h; omega) (fun _ _ _ _ _ _ _ => rfl) (fun a ha => ⟨_, ⟨_, _, rfl⟩, (by first | omega | (simp at *; omega) | (simp; omega)), (by first | omega | (simp at *; omega) | (simp; omega)), rfl⟩) (fun a ha b hb => by have h1 := hin a ha b hb; have h2 := hcj a ha b hb; exact ⟨_, _, _, rfl, (by first | rfl | assumption), ⟨_, _, _, _, rfl, ⟨_, _, rfl, ⟨_, _, rfl, rfl, rfl⟩, rfl⟩, (by assumption)⟩, (by first | assumption | exact nD_at ‹_› | exact atI_nat ‹_› | exact bD_at ‹_›)⟩) hlen2), rfl⟩, (allB_true hall2), rfl⟩, ?_⟩
    rfl
theorem coset_map {n : Nat} {m : Op} {S : List Nat} (tb : Tb n m) (sub : Sub n m S) {x : Nat} (hx : x < n) : (coset n m S x).Perm (S.map fun s => m s x) := by
  refine mem_perm ?_ fun y => ?_
  · rw [List.nodup_iff_pairwise_ne, List.pairwise_map]
    exact List.Pairwise.imp_of_mem (fun {a b} ha hb h e => h (tb.rc x a b hx (sub.lt a ha) (sub.lt b hb) e)) (List.nodup_iff_pairwise_ne.mp (sub_nodup sub))
  · rw [List.mem_map]
    exact ⟨fun ⟨s, h, e⟩ => ⟨by rw [← e]; exact tb.cl _ _ (sub.lt s h) hx, s, h, e⟩, fun ⟨_, s, h, e⟩ => ⟨s, h, e⟩⟩
def R_cosets : List Dt → Dt → Prop := fun ds r => ∃ n m s S, ds = [grpD n m, s] ∧ Tb n m ∧ n ≤ 60 ∧ IsTup s S ∧ Sub n m S ∧ r = .lst ((cosL n m S).map fun c => tN c)
def R3_cosets : List Dt → Dt → Prop := fun ds r => ∃ n m s S, ds = [grpD n m, s, .bl false] ∧ Tb n m ∧ n ≤ 60 ∧ IsTup s S ∧ Sub n m S ∧ r = .lst ((cosL n m S).map fun c => tN c)
theorem h3_cosets : ∀ ds r, R_cosets ds r → R3_cosets (ds ++ [.bl false]) r := by
  rintro ds r ⟨n, m, s, S, rfl, h⟩
  exact ⟨n, m, s, S, rfl, h⟩
theorem sc_cosets : FnScope ["group", "subgroup", "left", "found", "seen", "member", "other", "part", "s"] ["group", "subgroup", "left"] (defScope s_cosets) := ⟨rfl, rfl, rfl, by decide +kernel, rfl, by decide +kernel, by decide +kernel⟩
theorem w_cosets {P : Program} {w : World} {K : PySem.W.Frag} {mg : Str → Option Value} {base : Heap} {C : Addr} (T : Tx K mg C) (D : ∃ (f : Addr) (fd : FuncData), FunD K "cosets" "cosets" (defArgs s_cosets) (defBody s_cosets) (defScope s_cosets) [] [("left", .bl false)] f fd ∧ mg "cosets" = some (.ref f)) (F_check_subgroup : Fn P w K mg base C "check_subgroup" 3 [false, false] R_check_subgroup) : Fn P w K mg base C "cosets" 4 [false, false] R_cosets := by
  obtain ⟨f, fd, F, hm⟩ := D
  have S := sc_cosets
  obtain ⟨tM, hM⟩ := T.most
  refine Fn.ofK (fl := [false, false]) F (fn_ok (k := 3) (fl := [false, false, false]) (R := R3_cosets) F S rfl (by decide) (fun ds r h => rawFree _ _ (by decide)) (fun cdv A outer s H E hr => have hu := hu_of hr; dss_cons (ds_expr (de_call F_check_subgroup (hr.mono (by decide)) (da_sh (dv 0) (da_sh (dv 1) da_nil))))
      (dss_cons (ds_own 3 S.nd (df_lst da_nil))
      (dss_cons (ds_own 4 S.nd (df_rep (((df_lst (da_sh de_bl da_nil)).tree).r) (de_size T.cl T.nS (dv 0))))
      (dss_cons (ds_for PassesOwn.never rfl (di_rng1 T.range (de_size T.cl T.nS (dv 0))) (dg_name 5 S.nd) (dss_one (ds_if (db_not (db_val (de_ix (dvo 4) (dv 5)))) (dss_cons (ds_if (db_val (dv 2)) (dss_one (ds_set 7 S.nd ((df_sortedN T.sorted (((df_lc rfl S.nd [("s", 8)] 8 (di_seqR ((dv 1).r)) (blkOk_by (by rfl)) (by decide) (fun _ => pg_name (i := 8) S.nd rfl (by first | exact Or.inl rfl | exact Or.inr rfl)) dts_nil (fun _ => de_ix ((de_ix ((de_rows T.cl T.nR (dv 0)).r) (dv 5)).r) (dv 8))).tree).r)).tree))) (dss_one (ds_set 7 S.nd ((df_sortedN T.sorted (((df_lc rfl S.nd [("s", 8)] 8 (di_seqR ((dv 1).r)) (blkOk_by (by rfl)) (by decide) (fun _ => pg_name (i := 8) S.nd rfl (by first | exact Or.inl rfl | exact Or.inr rfl)) dts_nil (fun _ => de_ix ((de_ix ((de_rows T.cl T.nR (dv 0)).r) (dv 8)).r) (dv 5))).tree).r)).tree))))
      (dss_cons (ds_for PassesOwn.never rfl (di_seq (dv 7)) (dg_name 6 S.nd) (dss_one (ds_setI 4 de_bl (dv 6) (fun po pi => pg_sub po pi set_list))))
      (dss_one (ds_app 3 (de_tupL T.tuple ((dv 7).r)))))) dss_nil)))
      (dss_one (ds_retO 3)))))) ?hp) (F.binds0 2 (by decide) rfl (fun D doc pm an cdv ct us ks hl hk => match us, ks, hl, hk with | [_, _], [_], _, _ => ⟨_, _, _, _, _, _, rfl, rfl, rfl⟩)) (fun ds r h => h3_cosets ds r h) hm
  case hp =>
    rintro ds r ⟨n, m, s, S, rfl, tb, hn, hs, sub, rfl⟩ -
    have hR : R_check_subgroup [grpD n m, s] .non := ⟨n, m, s, S, rfl, tb, hn, hs, sub, rfl⟩
    have hsq := hs.sq
    have hl := sub_len sub
    refine ⟨⟨_, ⟨_, ⟨_, _, rfl, ⟨_, _, rfl, rfl, rfl⟩, rfl⟩, (by assumption)⟩⟩, ?_⟩
    refine ⟨_, ⟨rfl, (by first | (simp; done) | omega | (simp; omega))⟩, ?_⟩
    refine ⟨_, ⟨_, _, ⟨_, ⟨⟨_, _, rfl, rfl, rfl⟩, (by first | (simp; done) | omega | (simp; omega))⟩, rfl⟩, ⟨_, _, rfl⟩, (by first | omega | (simp at *; omega) | (simp; omega)), (by first | omega | (simp at *; omega) | (simp; omega)), rfl⟩, ?_⟩
    rw [show List.replicate ((n : Int)).toNat (Dt.bl false) = bD (List.replicate n false) from (bD_rep n false).symm]
    refine ⟨_, ⟨_, ⟨_, _, rfl⟩, (by first | omega | (simp at *; omega) | (simp; omega)), (by first | omega | (simp at *; omega) | (simp; omega)), rfl⟩, fun k env => ∃ fl s5 s6 s7 s8, env = [.sh (grpD n m), .sh s, .sh (.bl false), .own ((cosTo n m S k).map fun c => tN c), .own (bD fl), s5, s6, s7, s8] ∧ Mks n (fun x => x ∈ (cosTo n m S k).flatten) fl, ?_, fun k t env' hk hw => ?_, fun env' hw => ?_⟩
    · exact ⟨_, _, _, _, _, rfl, (Mks.start n).congr fun x _ => by simp [cosTo]⟩
    · obtain ⟨fl, s5, s6, s7, s8, rfl, mk⟩ := hw
      rw [nD_rng] at hk
      obtain ⟨x, hx, rfl⟩ := nD_at' hk
      obtain ⟨hkn, e⟩ := List.getElem?_eq_some_iff.mp hx
      rw [List.getElem_range] at e
      subst e
      rw [List.length_range] at hkn
      obtain ⟨b, hb1, hb2⟩ := mk.get hkn
      refine ⟨_, rfl, ?_⟩
      refine ⟨_, ⟨_, ⟨_, _, _, (Or.inl ⟨_, rfl, rfl⟩), (by first | rfl | assumption), rfl, (by first | assumption | exact nD_at ‹_› | exact atI_nat ‹_› | exact bD_at ‹_›)⟩, rfl⟩, fun hb => ?_, fun hb => ?_⟩
      · have hb' : b = false := by simpa using hb
        subst hb'
        have hnot : ¬ k ∈ (cosTo n m S k).flatten := fun z => by simpa using hb2.mpr z
        have e : cosTo n m S (k + 1) = cosTo n m S k ++ [coset n m S k] := by rw [cosTo_succ, cosStep, if_neg hnot]
        refine ⟨_, rfl, fun hb => ?_, fun hb => ?_⟩
        · cases hb
        · have hp := coset_map tb sub hkn
          have hso : (coset n m S k).Pairwise (· ≤ ·) := mem_le _ _
          have hrow : ∀ a ∈ S, atI (xrows n m) (a : Int) = some (.xtp (nD (rowL n m a))) := fun a ha => xrow_at (sub.lt a ha)
          have hent : ∀ a, atI (nD (rowL n m a)) (k : Int) = some (.int ((m a k : Nat) : Int)) := fun a => row_at hkn
          refine ⟨_, ⟨_, ⟨_, _, ⟨_, (fLc_aN (M := S) ⟨_, rfl, (by first | rfl | assumption)⟩ (fun a => m a k) (fun a ha => by have h1 := hrow a ha; have h2 := hent a; exact ⟨_, _, _, ⟨_, _, _, ⟨_, _, rfl⟩, (by first | rfl | assumption), rfl, (by first | assumption | exact nD_at ‹_› | exact atI_nat ‹_› | exact bD_at ‹_›)⟩, (by first | rfl | assumption), rfl, (by first | assumption | exact nD_at ‹_› | exact atI_nat ‹_› | exact bD_at ‹_›)⟩) (by omega)), rfl⟩, (by assumption), (by assumption), (by first | rfl | assumption)⟩, rfl⟩, ?_⟩
          have hcl := mem_len_le n (fun y => ∃ s ∈ S, m s k = y)
          refine ⟨_, ⟨_, rfl, (by first | rfl | assumption)⟩, fun j env => ∃ fl s6 s8, env = [.sh (grpD n m), .sh s, .sh (.bl false), .own ((cosTo n m S k).map fun c => tN c), .own (bD fl), .sh (.int (k : Int)), s6, .sh (lN (coset n m S k)), s8] ∧ Mks n (fun x => x ∈ (cosTo n m S k).flatten ∨ x ∈ (coset n m S k).take j) fl, ?_, fun k t env' hk hw => ?_, fun env' hw => ?_⟩
          · exact ⟨_, _, _, rfl, mk.congr fun x _ => by simp⟩
          · rename_i j t env'
            obtain ⟨fl, s6, s8, rfl, mk⟩ := hw
            obtain ⟨y, hy, rfl⟩ := nD_at' hk
            have hyn : y < n := mem_lt (List.mem_of_getElem? hy)
            refine ⟨_, rfl, ?_⟩
            refine ⟨_, _, _, _, rfl, rfl, rfl, (ixN_nat (by rw [bD_len, mk.len]; exact hyn)), ?_⟩
            rw [show List.set (bD fl) y (Dt.bl true) = bD (fl.set y true) from (bD_set _ _ _).symm]
            refine ⟨_, _, _, rfl, (mk.set y).congr fun x hx => ?_⟩
            rw [List.take_add_one, hy]
            simp [or_assoc]
          · obtain ⟨fl, s6, s8, rfl, mk⟩ := hw
            rw [nD_len, List.take_length] at mk
            refine ⟨_, _, rfl, ⟨_, rfl, rfl⟩, (by have := cosTo_len (n := n) (m := m) (S := S) k; simp; omega), ?_⟩
            exact ⟨fl, .sh (.int (k : Int)), s6, .sh (lN (coset n m S k)), s8, by rw [e, List.map_append]; rfl, mk.congr fun x hx => by rw [e]; simp⟩
      · have hb' : b = true := by simpa using hb
        have hin : k ∈ (cosTo n m S k).flatten := hb2.mp hb'
        have e : cosTo n m S (k + 1) = cosTo n m S k := by rw [cosTo_succ, cosStep, if_pos hin]
        exact ⟨fl, _, _, _, _, by rw [e]; rfl, by rw [e]; exact mk⟩
    · obtain ⟨fl, s5, s6, s7, s8, rfl, mk⟩ := hw
      rw [nD_rng, nD_len, List.length_range]
      refine ⟨_, rfl, ?_⟩
      rfl
end CM
set_option Elab.async false
set_option linter.all false
set_option maxRecDepth 100000
set_option maxHeartbeats 1000000
/-! Walks: building. -/
namespace CM
open PySem PySem.Spec PyProof.Rows L2
theorem pm_row (n1 n2 : Nat) (m1 m2 : Op) (r l : Nat) : ((rowL n1 m1 r).flatMap fun a => (rowL n2 m2 l).map fun b => a * n2 + b) = (List.range (n1 * n2)).map fun y => m1 r (y / n2) * n2 + m2 l (y % n2) := by
  rw [← flat_place n1 n2 (fun c d => m1 r c * n2 + m2 l d)]
  simp only [rowL, List.flatMap_map, List.map_map]
  rfl
theorem pm_tab (n1 n2 : Nat) (m1 m2 : Op) : ((List.range n1).flatMap fun r => (List.range n2).map fun l => lN ((rowL n1 m1 r).flatMap fun a => (rowL n2 m2 l).map fun b => a * n2 + b)) = tabL (n1 * n2) (pm n2 m1 m2) := by
  simp only [pm_row]
  rw [flat_place n1 n2 (fun r l => lN ((List.range (n1 * n2)).map fun y => m1 r (y / n2) * n2 + m2 l (y % n2)))]
  rfl
def R_paired_rows : List Dt → Dt → Prop := fun ds r => ∃ n1 m1 n2 m2, ds = [tabD n1 m1, .tup (xrows n2 m2)] ∧ Tb n1 m1 ∧ Tb n2 m2 ∧ n1 * n2 ≤ 60 ∧ r = tabD (n1 * n2) (pm n2 m1 m2)
theorem sc_paired_rows : FnScope ["first", "second", "many", "row", "line", "a", "b"] ["first", "second"] (defScope s_paired_rows) := ⟨rfl, rfl, rfl, by decide +kernel, rfl, by decide +kernel, by decide +kernel⟩
theorem w_paired_rows {P : Program} {w : World} {K : PySem.W.Frag} {mg : Str → Option Value} {base : Heap} {C : Addr} (T : Tx K mg C) (D : FnS K mg "paired_rows" s_paired_rows) : Fn P w K mg base C "paired_rows" 1 [false, false] R_paired_rows := by
  obtain ⟨f, fd, F, hm⟩ := D
  have S := sc_paired_rows
  obtain ⟨tM, hM⟩ := T.most
  refine Fn.of F (fn_ok (k := 0) (fl := [false, false]) (R := R_paired_rows) F S rfl (by decide) (fun ds r h => rawFree _ _ (by decide)) (fun cdv A outer s H E hr => have hu := hu_of hr; dss_cons (ds_set 2 S.nd (de_len T.len ((dv 1).r)))
      (dss_one (ds_ret ((df_lc2 rfl S.nd [("row", 3), ("line", 4)] [4] 3 4 (di_seqR ((dv 0).r)) (blkOk_by (by rfl)) (by decide) (by decide) (by decide) (fun _ => pg_name (i := 3) S.nd rfl (by first | exact Or.inl rfl | exact Or.inr rfl)) (fun _ => di_seq (dv 1)) (fun _ => pg_name (i := 4) S.nd rfl (by first | exact Or.inl rfl | exact Or.inr rfl)) (fun _ => (df_lc2 rfl S.nd [("a", 5), ("b", 6)] [6] 5 6 (di_seqR ((dv 3).r)) (blkOk_by (by rfl)) (by decide) (by decide) (by decide) (fun _ => pg_name (i := 5) S.nd rfl (by first | exact Or.inl rfl | exact Or.inr rfl)) (fun _ => di_seq (dv 4)) (fun _ => pg_name (i := 6) S.nd rfl (by first | exact Or.inl rfl | exact Or.inr rfl)) (fun _ => de_add (de_mul (dv 5) (dv 2)) (dv 6))).tree)).tree)))) ?hp) (F.bindsN fun _ _ _ _ _ _ us hl => match us, hl with | [_, _], _ => rfl) hm
  case hp =>
    rintro ds r ⟨n1, m1, n2, m2, rfl, t1, t2, hn, rfl⟩ -
    have p1 := t1.pos
    have p2 := t2.pos
    have hle1 : n1 ≤ 60 := Nat.le_trans (Nat.le_mul_of_pos_right n1 p2) hn
    have hle2 : n2 ≤ 60 := Nat.le_trans (Nat.le_mul_of_pos_left n2 p1) hn
    have hinj : ∀ a ∈ List.range n1, ∀ b ∈ List.range n1, lN (rowL n1 m1 a) = lN (rowL n1 m1 b) → a = b := fun a ha b hb h => row_inj t1 (List.mem_range.mp ha) (List.mem_range.mp hb) h
    have hinj2 : ∀ a ∈ List.range n2, ∀ b ∈ List.range n2, Dt.xtp (nD (rowL n2 m2 a)) = .xtp (nD (rowL n2 m2 b)) → a = b := fun a ha b hb h => row_inj t2 (List.mem_range.mp ha) (List.mem_range.mp hb) (by injection h with h; rw [lN, h])
    have hfl : ∀ r l, ((rowL n1 m1 r).flatMap fun a => (rowL n2 m2 l).map fun b => a * n2 + b).length ≤ 100000 := fun r l => by
      rw [pm_row, List.length_map, List.length_range]
      omega
    have hlen : ((List.range n1).flatMap fun r => (List.range n2).map fun l => lN ((rowL n1 m1 r).flatMap fun a => (rowL n2 m2 l).map fun b => a * n2 + b)).length ≤ 100000 := by
      rw [pm_tab, tabL_len]
      omega
    refine ⟨_, ⟨_, _, rfl, (by first | rfl | assumption), rfl⟩, ?_⟩
    rw [xrows_len]
    refine ⟨_, ⟨_, (fLc2_i (M := List.range n1) (gg := fun r => lN (rowL n1 m1 r)) (N := fun _ => List.range n2) (hh := fun _ l => .xtp (nD (rowL n2 m2 l))) ⟨_, rfl, (by first | rfl | assumption)⟩ (fun r l => lN ((rowL n1 m1 r).flatMap fun a => (rowL n2 m2 l).map fun b => a * n2 + b)) hinj (fun _ _ x hx y hy h => by rw [hinj2 x hx y hy h]) (fun a ha => ⟨_, rfl, (by first | rfl | assumption)⟩) (fun r hr l hl => ⟨_, (fLc2_nN (M := rowL n1 m1 r) (N := fun _ => rowL n2 m2 l) ⟨_, rfl, (by first | rfl | assumption)⟩ (fun a b => a * n2 + b) (fun a ha => ⟨_, rfl, (by first | rfl | assumption)⟩) (fun a ha b hb => by rw [show (((a * n2 + b : Nat)) : Int) = (a : Int) * (n2 : Int) + (b : Int) by rw [Int.natCast_add, Int.natCast_mul]]; exact ⟨_, _, ⟨_, _, rfl, rfl, (by first | (refine Or.inr ⟨?_, ?_⟩ <;> omega) | (refine Or.inl ⟨?_, ?_⟩ <;> omega)), rfl⟩, rfl, rfl⟩) (hfl r l)), rfl⟩) hlen), rfl⟩, ?_⟩
    rw [pm_tab]
theorem tb_one : Tb 1 (fun _ _ => 0) := ⟨by decide, fun _ _ _ _ => by decide, fun a h => by omega, fun a h => by omega, fun _ _ _ _ _ _ => rfl, fun a b c _ h1 h2 _ => by omega, fun a b c _ h1 h2 _ => by omega⟩
theorem tabD_one : tabD 1 (fun _ _ => 0) = .lst [lN [0]] := rfl
theorem tabL_congr {n : Nat} {m m' : Op} (h : ∀ a b, a < n → b < n → m a b = m' a b) : tabL n m = tabL n m' := List.map_congr_left fun a ha => congrArg lN (List.map_congr_left fun b hb => h a b (List.mem_range.mp ha) (List.mem_range.mp hb))
def R_product_group : List Dt → Dt → Prop := fun ds r => ∃ n1 m1 n2 m2, ds = [grpD n1 m1, grpD n2 m2] ∧ Tb n1 m1 ∧ Tb n2 m2 ∧ n1 * n2 ≤ 60 ∧ Tb (n1 * n2) (pm n2 m1 m2) ∧ r = grpD (n1 * n2) (pm n2 m1 m2)
def R3_product_group : List Dt → Dt → Prop := fun ds r => ∃ n1 m1 n2 m2, ds = [.tup [grpD n1 m1, grpD n2 m2]] ∧ Tb n1 m1 ∧ Tb n2 m2 ∧ n1 * n2 ≤ 60 ∧ Tb (n1 * n2) (pm n2 m1 m2) ∧ r = grpD (n1 * n2) (pm n2 m1 m2)
theorem h3_product_group : ∀ ds r, R_product_group ds r → R3_product_group [.tup ds] r := by
  rintro ds r ⟨n1, m1, n2, m2, rfl, h⟩
  exact ⟨n1, m1, n2, m2, rfl, h⟩
theorem sc_product_group : FnScope ["groups", "size", "group", "rows"] ["groups"] (defScope s_product_group) := ⟨rfl, rfl, rfl, by decide +kernel, rfl, by decide +kernel, by decide +kernel⟩
theorem w_product_group {P : Program} {w : World} {K : PySem.W.Frag} {mg : Str → Option Value} {base : Heap} {C : Addr} (T : Tx K mg C) (D : FnS K mg "product_group" s_product_group) (F_paired_rows : Fn P w K mg base C "paired_rows" 1 [false, false] R_paired_rows) (GM : Made P w K mg base C 5 R_init_m) : Fn P w K mg base C "product_group" 7 [false, false] R_product_group := by
  obtain ⟨f, fd, F, hm⟩ := D
  have S := sc_product_group
  obtain ⟨tM, hM⟩ := T.most
  refine Fn.star (k := 6) (fl := [false, false]) (R3 := R3_product_group) F S (by decide) (fun kV doc pm an cdv ct rest => by cases rest <;> rfl) (fun cdv A outer s H E hr => have hu := hu_of hr; dss_cons (ds_set 1 S.nd de_int)
      (dss_cons (ds_for PassesOwn.never rfl (di_seq (dv 0)) (dg_name 2 S.nd) (dss_one (ds_aug 1 S.nd ip_mulI (de_size T.cl T.nS (dv 2)))))
      (dss_cons (ds_if (db_gt (dv 1) (de_glob (by rfl) hM)) (dss_one ds_never) dss_nil)
      (dss_cons (ds_set 3 S.nd ((df_lst (da_sh ((df_lst (da_sh de_int da_nil)).tree) da_nil)).tree))
      (dss_cons (ds_for PassesOwn.never rfl (di_seq (dv 0)) (dg_name 2 S.nd) (dss_one (ds_set 3 S.nd (de_call F_paired_rows (hr.mono (by decide)) (da_sh (dv 3) (da_sh (de_rows T.cl T.nR (dv 2)) da_nil))))))
      (dss_one (ds_ret (de_group GM (hr.mono (by decide)) (dv 3))))))))) ?hp rfl (by decide) (fun ds r h => h3_product_group ds r h) hm
  case hp =>
    rintro ds r ⟨n1, m1, n2, m2, rfl, t1, t2, hn, t12, rfl⟩ -
    have p1 := t1.pos
    have p2 := t2.pos
    have hle1 : n1 ≤ 60 := Nat.le_trans (Nat.le_mul_of_pos_right n1 p2) hn
    have hle2 : n2 ≤ 60 := Nat.le_trans (Nat.le_mul_of_pos_left n2 p1) hn
    have e1 : tabL (1 * n1) (pm n1 (fun _ _ => 0) m1) = tabL n1 m1 := by
      rw [Nat.one_mul]
      refine tabL_congr fun a b ha hb => ?_
      show 0 * n1 + m1 (a % n1) (b % n1) = m1 a b
      rw [Nat.mod_eq_of_lt ha, Nat.mod_eq_of_lt hb, Nat.zero_mul, Nat.zero_add]
    have c1 : R_paired_rows [.lst [lN [0]], .tup (xrows n1 m1)] (tabD n1 m1) := ⟨1, fun _ _ => 0, n1, m1, rfl, tb_one, t1, by omega, congrArg Dt.lst e1.symm⟩
    have c2 : R_paired_rows [tabD n1 m1, .tup (xrows n2 m2)] (tabD (n1 * n2) (pm n2 m1 m2)) := ⟨n1, m1, n2, m2, rfl, t1, t2, hn, rfl⟩
    have c3 : R_init_m [tabD (n1 * n2) (pm n2 m1 m2)] (grpD (n1 * n2) (pm n2 m1 m2)) := ⟨_, _, rfl, hn, t12, rfl⟩
    refine ⟨_, rfl, ?_⟩
    refine ⟨_, ⟨_, rfl, (by first | rfl | assumption)⟩, fun k env => ∃ s2 : Sl, ∃ z : Int, env = [.sh (.tup [grpD n1 m1, grpD n2 m2]), .sh (.int z), s2, .un] ∧ ((k = 0 ∧ z = 1) ∨ (k = 1 ∧ z = n1) ∨ (k = 2 ∧ z = (n1 : Int) * n2)), ?_, fun k t env' hk hw => ?_, fun env' hw => ?_⟩
    · exact ⟨_, _, rfl, .inl ⟨rfl, rfl⟩⟩
    · obtain ⟨s2, z, rfl, h⟩ := hw
      rcases h with ⟨rfl, rfl⟩ | ⟨rfl, rfl⟩ | ⟨rfl, rfl⟩
      · have e := Option.some.inj hk
        subst e
        refine ⟨_, rfl, ?_⟩
        refine ⟨_, _, rfl, ⟨_, _, rfl⟩, (by first | (refine Or.inr ⟨?_, ?_⟩ <;> omega) | (refine Or.inl ⟨?_, ?_⟩ <;> omega)), ?_⟩
        exact ⟨_, _, rfl, .inr (.inl ⟨rfl, by omega⟩)⟩
      · have e := Option.some.inj hk
        subst e
        refine ⟨_, rfl, ?_⟩
        refine ⟨_, _, rfl, ⟨_, _, rfl⟩, (by first | (refine Or.inr ⟨?_, ?_⟩ <;> omega) | (refine Or.inl ⟨?_, ?_⟩ <;> omega)), ?_⟩
        exact ⟨_, _, rfl, .inr (.inr ⟨rfl, rfl⟩)⟩
      · cases hk
    obtain ⟨s2, z, rfl, h⟩ := hw
    have ez : z = (n1 : Int) * n2 := by
      rcases h with ⟨h, _⟩ | ⟨h, _⟩ | ⟨_, h⟩
      · cases h
      · cases h
      · exact h
    have hz : z ≤ 60 := by
      rw [ez, ← Int.natCast_mul]
      omega
    refine ⟨_, ⟨_, _, rfl, rfl, rfl⟩, fun hb => ?_, fun hb => ?_⟩
    · have : (60 : Int) < z := by simpa using hb
      omega
    refine ⟨_, ⟨_, ⟨⟨_, _, ⟨_, ⟨⟨_, _, rfl, rfl, rfl⟩, (by first | (simp; done) | omega | (simp; omega))⟩, rfl⟩, rfl, rfl⟩, (by first | (simp; done) | omega | (simp; omega))⟩, rfl⟩, ?_⟩
    refine ⟨_, ⟨_, rfl, (by first | rfl | assumption)⟩, fun k env => ∃ s2 : Sl, ∃ d : Dt, env = [.sh (.tup [grpD n1 m1, grpD n2 m2]), .sh (.int z), s2, .sh d] ∧ ((k = 0 ∧ d = .lst [lN [0]]) ∨ (k = 1 ∧ d = tabD n1 m1) ∨ (k = 2 ∧ d = tabD (n1 * n2) (pm n2 m1 m2))), ?_, fun k t env' hk hw => ?_, fun env' hw => ?_⟩
    · exact ⟨_, _, rfl, .inl ⟨rfl, rfl⟩⟩
    · obtain ⟨s2, d, rfl, h⟩ := hw
      rcases h with ⟨rfl, rfl⟩ | ⟨rfl, rfl⟩ | ⟨rfl, rfl⟩
      · have e := Option.some.inj hk
        subst e
        refine ⟨_, rfl, ?_⟩
        refine ⟨_, ⟨_, ⟨_, _, rfl, ⟨_, _, ⟨_, _, rfl⟩, rfl, rfl⟩, rfl⟩, (by assumption)⟩, ?_⟩
        exact ⟨_, _, rfl, .inr (.inl ⟨rfl, rfl⟩)⟩
      · have e := Option.some.inj hk
        subst e
        refine ⟨_, rfl, ?_⟩
        refine ⟨_, ⟨_, ⟨_, _, rfl, ⟨_, _, ⟨_, _, rfl⟩, rfl, rfl⟩, rfl⟩, (by assumption)⟩, ?_⟩
        exact ⟨_, _, rfl, .inr (.inr ⟨rfl, rfl⟩)⟩
      · cases hk
    obtain ⟨s2, d, rfl, h⟩ := hw
    have ed : d = tabD (n1 * n2) (pm n2 m1 m2) := by
      rcases h with ⟨h, _⟩ | ⟨h, _⟩ | ⟨_, h⟩
      · cases h
      · cases h
      · exact h
    subst ed
    refine ⟨_, ⟨_, _, _, _, rfl, (by assumption), rfl⟩, ?_⟩
    rfl
def enumKV : Nat → List Nat → List (Int × Dt)
  | _, [] => []
  | n, x :: r => ((x : Int), .int (n : Int)) :: enumKV (n + 1) r
def kfE : Dt → Int
  | .tup [_, .int x] => x
  | _ => 0
def vfE : Dt → Dt
  | .tup [a, _] => a
  | _ => .non
theorem enumKV_eq : ∀ (S : List Nat) (n : Nat), ((enumD n (nD S)).map fun t => (kfE t, vfE t)) = enumKV n S
  | [], _ => rfl
  | x :: r, n => congrArg (((x : Int), Dt.int (n : Int)) :: ·) (enumKV_eq r (n + 1))
theorem enumKf : ∀ (S : List Nat) (n : Nat), (enumD n (nD S)).map kfE = S.map fun x : Nat => (x : Int)
  | [], _ => rfl
  | x :: r, n => congrArg ((x : Int) :: ·) (enumKf r (n + 1))
theorem enum_mem : ∀ (S : List Nat) (n : Nat) (t : Dt), t ∈ enumD n (nD S) → ∃ (i x : Nat), t = .tup [.int (i : Int), .int (x : Int)]
  | [], _, t, h => by cases h
  | x :: r, n, t, h => by
    rcases List.mem_cons.mp h with rfl | h
    · exact ⟨n, x, rfl⟩
    · exact enum_mem r (n + 1) t h
theorem look_enum : ∀ (S : List Nat) (n x : Nat), x ∈ S → lookI (enumKV n S) (x : Int) = some (.int ((n + idx x S : Nat) : Int))
  | [], _, x, h => by cases h
  | y :: r, n, x, h => by
    unfold lookI
    by_cases e : y = x
    · subst e
      simp [enumKV, idx, List.findIdx_cons]
    · have h' : x ∈ r := (List.mem_cons.mp h).resolve_left fun q => e q.symm
      have ih := look_enum r (n + 1) x h'
      unfold lookI at ih
      have e2 : ¬ (y : Int) = (x : Int) := by omega
      have e3 : idx x (y :: r) = idx x r + 1 := by simp [idx, List.findIdx_cons, e]
      rw [enumKV, List.find?_cons_of_neg (by simpa using e2), ih, e3]
      congr 3
      omega
theorem sb_tab (m : Op) (S : List Nat) : (S.map fun a => lN (S.map fun b => idx (m a b) S)) = tabL S.length (sb m S) := by
  rw [map_place S 0]
  refine List.map_congr_left fun i hi => ?_
  show lN _ = lN _
  rw [map_place S 0 (fun b => idx (m (S.getD i 0) b) S)]
  rfl
def R_subgroup_group : List Dt → Dt → Prop := fun ds r => ∃ n m S, ds = [grpD n m, .xtp (nD S)] ∧ Tb n m ∧ n ≤ 60 ∧ Sub n m S ∧ (∀ a ∈ S, ∀ b ∈ S, m a b ∈ S) ∧ Tb S.length (sb m S) ∧ r = grpD S.length (sb m S)
theorem sc_subgroup_group : FnScope ["group", "subgroup", "number", "at", "member", "a", "b"] ["group", "subgroup"] (defScope s_subgroup_group) := ⟨rfl, rfl, rfl, by decide +kernel, rfl, by decide +kernel, by decide +kernel⟩
theorem w_subgroup_group {P : Program} {w : World} {K : PySem.W.Frag} {mg : Str → Option Value} {base : Heap} {C : Addr} (T : Tx K mg C) (D : FnS K mg "subgroup_group" s_subgroup_group) (F_check_subgroup : Fn P w K mg base C "check_subgroup" 3 [false, false] R_check_subgroup) (GM : Made P w K mg base C 5 R_init_m) : Fn P w K mg base C "subgroup_group" 7 [false, false] R_subgroup_group := by
  obtain ⟨f, fd, F, hm⟩ := D
  have S := sc_subgroup_group
  obtain ⟨tM, hM⟩ := T.most
  refine Fn.of F (fn_ok (k := 6) (fl := [false, false]) (R := R_subgroup_group) F S rfl (by decide) (fun ds r h => rawFree _ _ (by decide)) (fun cdv A outer s H E hr => have hu := hu_of hr; dss_cons (ds_expr (de_call F_check_subgroup (hr.mono (by decide)) (da_sh (dv 0) (da_sh (dv 1) da_nil))))
      (dss_cons (ds_new 2 S.nd (dn_dc rfl S.nd [("at", 3), ("member", 4)] 3 4 (di_enumT T.enumerate (dv 1)) (blkOk_by (by rfl)) (by decide) (by decide) (fun _ => pg_tup rfl (pgs_cons (pg_name (i := 3) S.nd rfl (Or.inl rfl)) (pgs_cons (pg_name (i := 4) S.nd rfl (Or.inl rfl)) pgs_nil))) (fun _ => dv 4) (fun _ => dv 3)))
      (dss_one (ds_ret (de_group GM (hr.mono (by decide)) ((df_lc rfl S.nd [("a", 5)] 5 (di_seqR ((dv 1).r)) (blkOk_by (by rfl)) (by decide) (fun _ => pg_name (i := 5) S.nd rfl (by first | exact Or.inl rfl | exact Or.inr rfl)) dts_nil (fun _ => (df_lc rfl S.nd [("b", 6)] 6 (di_seqR ((dv 1).r)) (blkOk_by (by rfl)) (by decide) (fun _ => pg_name (i := 6) S.nd rfl (by first | exact Or.inl rfl | exact Or.inr rfl)) dts_nil (fun _ => de_dgetI 2 hu (de_ix ((de_ix ((de_rows T.cl T.nR (dv 0)).r) (dv 5)).r) (dv 6)))).tree)).tree)))))) ?hp) (F.bindsN fun _ _ _ _ _ _ us hl => match us, hl with | [_, _], _ => rfl) hm
  case hp =>
    rintro ds r ⟨n, m, S, rfl, tb, hn, sub, cl, tS, rfl⟩ -
    have hR : R_check_subgroup [grpD n m, .xtp (nD S)] .non := ⟨n, m, _, S, rfl, tb, hn, .inr rfl, sub, rfl⟩
    have hl := sub_len sub
    refine ⟨⟨_, ⟨_, ⟨_, _, rfl, ⟨_, _, rfl, rfl, rfl⟩, rfl⟩, (by assumption)⟩⟩, ?_⟩
    refine ⟨_, ⟨enumD 0 (nD S), kfE, vfE, ⟨_, rfl, rfl⟩, fun t ht => (by obtain ⟨i, x, rfl⟩ := enum_mem S 0 t ht; exact ⟨_, _, rfl, rfl, rfl, rfl⟩), by rw [enumKf]; exact nd_int (sub_nodup sub), by rw [enumD_len, nD_len]; omega, rfl⟩, ?_⟩
    rw [enumKV_eq]
    have hrow : ∀ a ∈ S, atI (xrows n m) (a : Int) = some (.xtp (nD (rowL n m a))) := fun a ha => xrow_at (sub.lt a ha)
    have hent : ∀ a, ∀ b ∈ S, atI (nD (rowL n m a)) (b : Int) = some (.int ((m a b : Nat) : Int)) := fun a b hb => row_at (sub.lt b hb)
    have hlk : ∀ a ∈ S, ∀ b ∈ S, lookI (enumKV 0 S) ((m a b : Nat) : Int) = some (.int ((idx (m a b) S : Nat) : Int)) := fun a ha b hb => by
      have := look_enum S 0 (m a b) (cl a ha b hb)
      rw [Nat.zero_add] at this
      exact this
    have c3 : R_init_m [.lst (S.map fun a => lN (S.map fun b => idx (m a b) S))] (grpD S.length (sb m S)) := ⟨_, _, by rw [sb_tab], by omega, tS, rfl⟩
    refine ⟨_, ⟨_, _, _, _, ⟨_, (fLc_a (M := S) ⟨_, rfl, (by first | rfl | assumption)⟩ (fun a => lN (S.map fun b => idx (m a b) S)) (fun a ha => ⟨_, (fLc_aN (M := S) ⟨_, rfl, (by first | rfl | assumption)⟩ (fun b => idx (m a b) S) (fun b hb => by have h1 := hrow a ha; have h2 := hent a b hb; have h3 := hlk a ha b hb; exact ⟨_, _, rfl, ⟨_, _, _, ⟨_, _, _, ⟨_, _, rfl⟩, (by first | rfl | assumption), rfl, (by first | assumption | exact nD_at ‹_› | exact atI_nat ‹_› | exact bD_at ‹_›)⟩, (by first | rfl | assumption), rfl, (by first | assumption | exact nD_at ‹_› | exact atI_nat ‹_› | exact bD_at ‹_›)⟩, (by assumption)⟩) (by omega)), rfl⟩) (by omega)), rfl⟩, (by assumption), rfl⟩, ?_⟩
    rfl
theorem qt_tab (m : Op) (P : List Nat) (cs : List (List Nat)) : (cs.map fun a => lN (cs.map fun b => P.getD (m (a.headD 0) (b.headD 0)) 0)) = tabL cs.length (qt m P cs) := by
  rw [map_place cs []]
  refine List.map_congr_left fun i hi => ?_
  show lN _ = lN _
  rw [map_place cs [] (fun b => P.getD (m ((cs.getD i []).headD 0) (b.headD 0)) 0)]
  rfl
theorem tN_inj {a b : List Nat} (h : tN a = tN b) : a = b := by
  injection h with h
  exact nD_inj h
theorem cos_mem {n : Nat} {m : Op} {S : List Nat} (tb : Tb n m) (sub : Sub n m S) : ∀ k, k ≤ n → ∀ c ∈ cosTo n m S k, ∃ h t, c = h :: t ∧ ∀ x ∈ c, x < n
  | 0, _, c, hc => by cases hc
  | k + 1, hk, c, hc => by
    have ih := cos_mem tb sub k (by omega)
    rw [cosTo_succ] at hc
    unfold cosStep at hc
    split at hc
    · exact ih c hc
    · rcases List.mem_append.mp hc with hc | hc
      · exact ih c hc
      · rw [List.mem_singleton] at hc
        subst hc
        have hz : 0 ∈ S := by
          rw [← sub.cl]
          exact clo_ne tb.pos
        have hkc : k ∈ coset n m S k := mem_iff.mpr ⟨by omega, 0, hz, tb.idl k (by omega)⟩
        cases q : coset n m S k with
        | nil =>
          rw [q] at hkc
          cases hkc
        | cons h t => exact ⟨h, t, rfl, fun x hx => mem_lt (by rw [← q] at hx; exact hx)⟩
def R_quotient_group : List Dt → Dt → Prop := fun ds r => ∃ n m s S, ds = [grpD n m, s] ∧ Tb n m ∧ n ≤ 60 ∧ IsTup s S ∧ Sub n m S ∧ (∀ a ∈ S, ∀ b, b < n → cj n m a b ∈ S) ∧ Tb (cosL n m S).length (qt m (picL n (cosL n m S)) (cosL n m S)) ∧
  r = .tup [grpD (cosL n m S).length (qt m (picL n (cosL n m S)) (cosL n m S)), tN (picL n (cosL n m S))]
theorem sc_quotient_group : FnScope ["group", "subgroup", "parts", "picture", "rows", "at", "part", "member", "a", "b"] ["group", "subgroup"] (defScope s_quotient_group) := ⟨rfl, rfl, rfl, by decide +kernel, rfl, by decide +kernel, by decide +kernel⟩
theorem w_quotient_group {P : Program} {w : World} {K : PySem.W.Frag} {mg : Str → Option Value} {base : Heap} {C : Addr} (T : Tx K mg C) (D : FnS K mg "quotient_group" s_quotient_group) (F_is_normal : Fn P w K mg base C "is_normal" 4 [false, false] R_is_normal) (F_cosets : Fn P w K mg base C "cosets" 4 [false, false] R_cosets) (GM : Made P w K mg base C 5 R_init_m) : Fn P w K mg base C "quotient_group" 7 [false, false] R_quotient_group := by
  obtain ⟨f, fd, F, hm⟩ := D
  have S := sc_quotient_group
  obtain ⟨tM, hM⟩ := T.most
  refine Fn.of F (fn_ok (k := 6) (fl := [false, false]) (R := R_quotient_group) F S rfl (by decide) (fun ds r h => rawFree _ _ (by decide)) (fun cdv A outer s H E hr => have hu := hu_of hr; dss_cons (ds_if (db_not (db_val (de_call F_is_normal (hr.mono (by decide)) (da_sh (dv 0) (da_sh (dv 1) da_nil))))) (dss_one ds_never) dss_nil)
      (dss_cons (ds_set 2 S.nd (de_call F_cosets (hr.mono (by decide)) (da_sh (dv 0) (da_sh (dv 1) da_nil))))
      (dss_cons (ds_own 3 S.nd (df_rep (((df_lst (da_sh de_int da_nil)).tree).r) (de_size T.cl T.nS (dv 0))))
      (dss_cons (ds_for PassesOwn.never rfl (di_enum T.enumerate (dv 2)) (dg_pair 5 6 (pg_tup rfl (pgs_cons (pg_name (i := 5) S.nd rfl (by first | exact Or.inl rfl | exact Or.inr rfl)) (pgs_cons (pg_name (i := 6) S.nd rfl (by first | exact Or.inl rfl | exact Or.inr rfl)) pgs_nil)))) (dss_one (ds_for PassesOwn.never rfl (di_seq (dv 6)) (dg_name 7 S.nd) (dss_one (ds_setI 3 (dv 5) (dv 7) (fun po pi => pg_sub po pi set_list))))))
      (dss_cons (ds_lcSh (dl_lc 4 rfl S.nd [("a", 8)] 8 rfl rfl (sw_true rfl rfl rfl (by decide +kernel)) (di_seqR ((dv 2).r)) (blkOk_by (by rfl)) (by decide) (fun _ => pg_name (i := 8) S.nd rfl (by first | exact Or.inl rfl | exact Or.inr rfl)) dts_nil (fun _ => (df_lc rfl S.nd [("b", 9)] 9 (di_seqR ((dv 2).r)) (blkOk_by (by rfl)) (by decide) (fun _ => pg_name (i := 9) S.nd rfl (by first | exact Or.inl rfl | exact Or.inr rfl)) dts_nil (fun _ => de_ix (dvo 3) (de_ix ((de_ix ((de_rows T.cl T.nR (dv 0)).r) (de_ix ((dv 8).r) de_int)).r) (de_ix ((dv 9).r) de_int)))).tree)))
      (dss_one (ds_ret (de_tup (da_sh (de_group GM (hr.mono (by decide)) (dv 4)) (da_sh (de_tupL T.tuple (dvo 3)) da_nil)))))))))) ?hp) (F.bindsN fun _ _ _ _ _ _ us hl => match us, hl with | [_, _], _ => rfl) hm
  case hp =>
    rintro ds r ⟨n, m, s, S, rfl, tb, hn, hs, sub, nor, tq, rfl⟩ -
    have c1 : R_is_normal [grpD n m, s] (.bl true) := ⟨n, m, s, S, rfl, tb, hn, hs, sub, nor, rfl⟩
    have c2 : R_cosets [grpD n m, s] (.lst ((cosL n m S).map fun c => tN c)) := ⟨n, m, s, S, rfl, tb, hn, hs, sub, rfl⟩
    have hcm : ∀ c ∈ cosL n m S, ∃ h t, c = h :: t ∧ ∀ x ∈ c, x < n := cos_mem tb sub n (Nat.le_refl _)
    have hql : (cosL n m S).length ≤ n := cosTo_len n
    generalize cosL n m S = cs at c2 hcm tq hql ⊢
    refine ⟨_, ⟨_, ⟨_, ⟨_, _, rfl, ⟨_, _, rfl, rfl, rfl⟩, rfl⟩, (by assumption)⟩, rfl⟩, fun hb => ?_, fun hb => ?_⟩
    · cases hb
    refine ⟨_, ⟨_, ⟨_, _, rfl, ⟨_, _, rfl, rfl, rfl⟩, rfl⟩, (by assumption)⟩, ?_⟩
    refine ⟨_, ⟨_, _, ⟨_, ⟨⟨_, _, rfl, rfl, rfl⟩, (by first | (simp; done) | omega | (simp; omega))⟩, rfl⟩, ⟨_, _, rfl⟩, (by first | omega | (simp at *; omega) | (simp; omega)), (by first | omega | (simp at *; omega) | (simp; omega)), rfl⟩, ?_⟩
    rw [show List.replicate ((n : Int)).toNat (Dt.int 0) = nD (picTo n cs 0) from (nD_rep n 0).symm]
    refine ⟨_, ⟨_, rfl, rfl⟩, fun k env => ∃ s4 s5 s6 s7, env = [.sh (grpD n m), .sh s, .sh (.lst (cs.map fun c => tN c)), .own (nD (picTo n cs k)), s4, s5, s6, s7, .un, .un], ?_, fun k t env' hk hw => ?_, fun env' hw => ?_⟩
    · exact ⟨_, _, _, _, rfl⟩
    · obtain ⟨s4, s5, s6, s7, rfl⟩ := hw
      obtain ⟨u, hu, rfl⟩ := enumD_get _ _ _ _ hk
      rw [List.getElem?_map] at hu
      obtain ⟨c, hc, rfl⟩ := Option.map_eq_some_iff.mp hu
      obtain ⟨_, _, _, hcn⟩ := hcm c (List.mem_of_getElem? hc)
      refine ⟨_, ⟨_, _, rfl, rfl⟩, ?_⟩
      rw [Nat.zero_add]
      refine ⟨_, ⟨_, rfl, (by first | rfl | assumption)⟩, fun j env => ∃ s7, env = [.sh (grpD n m), .sh s, .sh (.lst (cs.map fun c => tN c)), .own (nD (picIn (picTo n cs k) k (c.take j))), s4, .sh (.int (k : Int)), .sh (tN c), s7, .un, .un], ?_, fun j t env' hk hw => ?_, fun env' hw => ?_⟩
      · exact ⟨_, rfl⟩
      · obtain ⟨s7, rfl⟩ := hw
        obtain ⟨x, hx, rfl⟩ := nD_at' hk
        have hxn := hcn x (List.mem_of_getElem? hx)
        refine ⟨_, rfl, ?_⟩
        refine ⟨_, _, _, _, rfl, rfl, rfl, (ixN_nat (by rw [nD_len, picIn_len, picTo_len]; exact hxn)), ?_⟩
        refine ⟨.sh (.int (x : Int)), ?_⟩
        have e : picIn (picTo n cs k) k (c.take (j + 1)) = (picIn (picTo n cs k) k (c.take j)).set x k := by
          rw [List.take_add_one, hx]
          unfold picIn
          rw [List.foldl_append]
          rfl
        rw [e, nD_set]
        rfl
      · obtain ⟨s7, rfl⟩ := hw
        have e : picTo n cs (k + 1) = picIn (picTo n cs k) k c := by
          show picIn (picTo n cs k) k (cs.getD k []) = _
          rw [List.getD_eq_getElem?_getD, hc]
          rfl
        rw [nD_len, List.take_length, ← e]
        exact ⟨_, _, _, _, rfl⟩
    obtain ⟨s4, s5, s6, s7, rfl⟩ := hw
    rw [enumD_len, List.length_map, show picTo n cs cs.length = picL n cs from rfl]
    have hpl : (picL n cs).length = n := picTo_len n cs _
    have hhd : ∀ c ∈ cs, atI (nD c) 0 = some (.int ((c.headD 0 : Nat) : Int)) ∧ c.headD 0 < n := fun c hc => by
      obtain ⟨h, t, rfl, hb⟩ := hcm c hc
      exact ⟨atI_zero rfl, hb h (List.mem_cons_self ..)⟩
    have hpa : ∀ x, x < n → atI (nD (picL n cs)) (x : Int) = some (.int (((picL n cs).getD x 0 : Nat) : Int)) := fun x hx => by
      refine nD_at ?_
      rw [List.getD_eq_getElem?_getD, List.getElem?_eq_getElem (by omega)]
      rfl
    have hinj : ∀ a ∈ cs, ∀ b ∈ cs, tN a = tN b → a = b := fun a _ b _ h => tN_inj h
    refine ⟨_, ⟨_, (fLc_i (M := cs) (gg := fun c => tN c) ⟨_, rfl, (by first | rfl | assumption)⟩ (fun a => lN (cs.map fun b => (picL n cs).getD (m (a.headD 0) (b.headD 0)) 0)) (fun a ha b hb h => by rw [hinj a ha b hb h]) (fun a ha => ⟨_, (fLc_iN (M := cs) (gg := fun c => tN c) ⟨_, rfl, (by first | rfl | assumption)⟩ (fun b => (picL n cs).getD (m (a.headD 0) (b.headD 0)) 0) (fun a ha b hb h => by rw [hinj a ha b hb h]) (fun b hb => by obtain ⟨h1, h2⟩ := hhd a ha; obtain ⟨h3, h4⟩ := hhd b hb; have h5 := xrow_at (m := m) h2; have h6 := row_at (m := m) (a := a.headD 0) h4; have h7 := hpa _ (tb.cl _ _ h2 h4); exact ⟨_, _, _, (Or.inl ⟨_, rfl, rfl⟩), (by first | rfl | assumption), ⟨_, _, _, ⟨_, _, _, ⟨_, _, rfl⟩, (by first | rfl | assumption), ⟨_, _, _, rfl, (by first | rfl | assumption), rfl, (by first | assumption | exact nD_at ‹_› | exact atI_nat ‹_› | exact bD_at ‹_›)⟩, (by first | assumption | exact nD_at ‹_› | exact atI_nat ‹_› | exact bD_at ‹_›)⟩, (by first | rfl | assumption), ⟨_, _, _, rfl, (by first | rfl | assumption), rfl, (by first | assumption | exact nD_at ‹_› | exact atI_nat ‹_› | exact bD_at ‹_›)⟩, (by first | assumption | exact nD_at ‹_› | exact atI_nat ‹_› | exact bD_at ‹_›)⟩, (by first | assumption | exact nD_at ‹_› | exact atI_nat ‹_› | exact bD_at ‹_›)⟩) (by omega)), rfl⟩) (by omega)), rfl⟩, ?_⟩
    have c3 : R_init_m [.lst (cs.map fun a => lN (cs.map fun b => (picL n cs).getD (m (a.headD 0) (b.headD 0)) 0))] (grpD cs.length (qt m (picL n cs) cs)) := ⟨_, _, by rw [qt_tab], by omega, tq, rfl⟩
    refine ⟨_, ⟨_, ⟨_, _, ⟨_, _, _, _, rfl, (by assumption), rfl⟩, ⟨_, _, ⟨_, (Or.inl ⟨_, rfl, rfl⟩), rfl⟩, rfl, rfl⟩, rfl⟩, (by first | (simp; done) | omega | (simp; omega)), rfl⟩, ?_⟩
    rfl
end CM
set_option Elab.async false
set_option linter.all false
set_option maxRecDepth 100000
set_option maxHeartbeats 1000000
/-! Walks: series. -/
namespace CM
open PySem PySem.Spec PyProof.Rows L2
abbrev rowD (rw : List (List Nat)) : List Dt := rw.map fun c => tN c
theorem row_last {rw : List (List Nat)} {k : Nat} {a : List Nat} (h : rw[k]? = some a) : atI (rowD (rw.take (k + 1))) (-1) = some (tN a) := by
  refine atI_last ?_
  rw [List.getLast?_map, List.take_add_one, h]
  simp
theorem row_next {rw : List (List Nat)} {k : Nat} {a : List Nat} (h : rw[k]? = some a) : rowD (rw.take (k + 1)) = rowD (rw.take k) ++ [tN a] := by
  rw [List.take_add_one, h]
  simp [rowD]
theorem row_full {rw : List (List Nat)} {k : Nat} (h : rw.length ≤ k) : rowD (rw.take k) = rowD rw := by rw [List.take_of_length_le h]
def R_derived_row : List Dt → Dt → Prop := fun ds r => ∃ n m rw, ds = [grpD n m] ∧ Tb n m ∧ n ≤ 60 ∧ IsRow (dF n m) (List.range n) rw ∧ rw.length ≤ 1000 ∧ r = .lst (rowD rw)
theorem sc_derived_row : FnScope ["group", "row", "following"] ["group"] (defScope s_derived_row) := ⟨rfl, rfl, rfl, by decide +kernel, rfl, by decide +kernel, by decide +kernel⟩
theorem w_derived_row {P : Program} {w : World} {K : PySem.W.Frag} {mg : Str → Option Value} {base : Heap} {C : Addr} (T : Tx K mg C) (D : FnS K mg "derived_row" s_derived_row) (F_commutator_subgroup : Fn P w K mg base C "commutator_subgroup" 3 [false, false, false] R_commutator_subgroup) : Fn P w K mg base C "derived_row" 4 [false] R_derived_row := by
  obtain ⟨f, fd, F, hm⟩ := D
  have S := sc_derived_row
  obtain ⟨tM, hM⟩ := T.most
  refine Fn.of F (fn_ok (k := 3) (fl := [false]) (R := R_derived_row) F S rfl (by decide) (fun ds r h => rawFree _ _ (by decide)) (fun cdv A outer s H E hr => have hu := hu_of hr; dss_cons (ds_own 1 S.nd (df_lst (da_sh (de_tupRg rfl T.tuple T.range (de_size T.cl T.nS (dv 0))) da_nil)))
      (dss_one (ds_while PassesOwn.never (db_val de_bl) (dss_cons (ds_set 2 S.nd (de_call F_commutator_subgroup (hr.mono (by decide)) (da_sh (dv 0) (da_sh (de_ix (dvo 1) (de_neg de_int)) (da_sh (de_ix (dvo 1) (de_neg de_int)) da_nil)))))
      (dss_cons (ds_if (db_eqD hr.units ((dv 2).r) ((de_ix (dvo 1) (de_neg de_int)).r)) (dss_one (ds_retO 1)) dss_nil)
      (dss_one (ds_app 1 (dv 2)))))))) ?hp) (F.bindsN fun _ _ _ _ _ _ us hl => match us, hl with | [_], _ => rfl) hm
  case hp =>
    rintro ds r ⟨n, m, rw_, rfl, tb, hn, hrow, hrl, rfl⟩ -
    have hpos := hrow.pos
    have hlt : ∀ a ∈ rw_, (∀ x ∈ a, x < n) ∧ a.length ≤ n := fun a ha => IsRow.lt (p := fun a => Rch m (comL n m a a)) hrow rng_lt (by simp) ha
    have e0 : rowD (rw_.take (0 + 1)) = [Dt.tup (nD (List.range n))] := by rw [row_next hrow.z]; rfl
    refine ⟨_, ⟨⟨_, _, ⟨_, ⟨_, _, rfl⟩, (by first | omega | (simp at *; omega) | (simp; omega)), (by first | omega | (simp at *; omega) | (simp; omega)), rfl⟩, rfl, rfl⟩, (by first | (simp; done) | omega | (simp; omega))⟩, ?_⟩
    rw [nD_rng, ← e0]
    refine ⟨fun w env => ∃ k s2, env = [.sh (grpD n m), .own (rowD (rw_.take (k + 1))), s2] ∧ k < rw_.length ∧ w = rw_.length - k , ⟨ rw_.length, ?_⟩, fun k env' hw => ?_⟩
    · exact ⟨0, _, rfl, hpos, rfl⟩
    · obtain ⟨k, s2, rfl, hk, hm⟩ := hw
      have ha := List.getElem?_eq_getElem hk
      generalize hga : rw_[k] = a at ha
      have hla := row_last ha
      obtain ⟨h1, h2⟩ := hlt a (List.mem_of_getElem? ha)
      have hc : R_commutator_subgroup [grpD n m, tN a, tN a] (tN (dF n m a)) := ⟨n, m, _, _, a, a, rfl, tb, hn, rfl, rfl, by omega, by omega, h1, h1, rfl⟩
      refine ⟨_, rfl, fun hb => ?_, fun hb => ?_⟩
      · refine ⟨_, ⟨_, ⟨_, _, rfl, ⟨_, _, ⟨_, _, _, (Or.inl ⟨_, rfl, rfl⟩), (by first | rfl | assumption), ⟨_, rfl, rfl⟩, (by first | assumption | exact nD_at ‹_› | exact atI_nat ‹_› | exact bD_at ‹_›)⟩, ⟨_, _, ⟨_, _, _, (Or.inl ⟨_, rfl, rfl⟩), (by first | rfl | assumption), ⟨_, rfl, rfl⟩, (by first | assumption | exact nD_at ‹_› | exact atI_nat ‹_› | exact bD_at ‹_›)⟩, rfl, rfl⟩, rfl⟩, rfl⟩, (by assumption)⟩, ?_⟩
        refine ⟨_, ⟨_, _, rfl, ⟨_, _, _, (Or.inl ⟨_, rfl, rfl⟩), (by first | rfl | assumption), ⟨_, rfl, rfl⟩, (by first | assumption | exact nD_at ‹_› | exact atI_nat ‹_› | exact bD_at ‹_›)⟩, (by first | assumption | exact eqD_tN _ _ | exact eqD_lN _ _)⟩, fun hb => ?_, fun hb => ?_⟩
        · have e : dF n m a = a := by simpa using hb
          have hk1 : k + 1 = rw_.length := by
            by_cases q : k + 1 < rw_.length
            · have := hrow.nx k a _ ha (List.getElem?_eq_getElem q)
              exact absurd (this.1.symm.trans e) this.2
            · omega
          refine ⟨_, rfl, ?_⟩
          rw [row_full (by omega)]
        · have e : dF n m a ≠ a := by simpa using hb
          have hk1 : k + 1 < rw_.length := by
            by_cases q : k + 1 < rw_.length
            · exact q
            · refine absurd (hrow.st a ?_) e
              rw [show rw_.length - 1 = k by omega]
              exact ha
          have hb1 := List.getElem?_eq_getElem hk1
          have hnx := (hrow.nx k a _ ha hb1).1
          rw [← hnx] at hb1
          refine ⟨_, _, rfl, rfl, (by simp; omega), ?_⟩
          exact ⟨rw_.length - (k + 1), by omega, k + 1, _, by rw [row_next hb1]; rfl, hk1, rfl⟩
      · cases hb
def R_perfect_subgroup : List Dt → Dt → Prop := fun ds r => ∃ n m rw a, ds = [grpD n m] ∧ Tb n m ∧ n ≤ 60 ∧ IsRow (dF n m) (List.range n) rw ∧ rw.length ≤ 1000 ∧ rw[rw.length - 1]? = some a ∧ r = tN a
theorem sc_perfect_subgroup : FnScope ["group"] ["group"] (defScope s_perfect_subgroup) := ⟨rfl, rfl, rfl, by decide +kernel, rfl, by decide +kernel, by decide +kernel⟩
theorem w_perfect_subgroup {P : Program} {w : World} {K : PySem.W.Frag} {mg : Str → Option Value} {base : Heap} {C : Addr} (T : Tx K mg C) (D : FnS K mg "perfect_subgroup" s_perfect_subgroup) (F_derived_row : Fn P w K mg base C "derived_row" 4 [false] R_derived_row) : Fn P w K mg base C "perfect_subgroup" 5 [false] R_perfect_subgroup := by
  obtain ⟨f, fd, F, hm⟩ := D
  have S := sc_perfect_subgroup
  obtain ⟨tM, hM⟩ := T.most
  refine Fn.of F (fn_ok (k := 4) (fl := [false]) (R := R_perfect_subgroup) F S rfl (by decide) (fun ds r h => rawFree _ _ (by decide)) (fun cdv A outer s H E hr => have hu := hu_of hr; dss_one (ds_ret (de_ix ((de_call F_derived_row (hr.mono (by decide)) (da_sh (dv 0) da_nil)).r) (de_neg de_int)))) ?hp) (F.bindsN fun _ _ _ _ _ _ us hl => match us, hl with | [_], _ => rfl) hm
  case hp =>
    rintro ds r ⟨n, m, rw_, a, rfl, tb, hn, hrow, hrl, ha, rfl⟩ -
    have hR : R_derived_row [grpD n m] (.lst (rowD rw_)) := ⟨n, m, rw_, rfl, tb, hn, hrow, hrl, rfl⟩
    have hla := row_last ha
    rw [row_full (by omega)] at hla
    refine ⟨_, ⟨_, _, _, ⟨_, ⟨_, _, rfl, rfl, rfl⟩, (by assumption)⟩, (by first | rfl | assumption), ⟨_, rfl, rfl⟩, (by first | assumption | exact nD_at ‹_› | exact atI_nat ‹_› | exact bD_at ‹_›)⟩, ?_⟩
    rfl
def R_lower_row : List Dt → Dt → Prop := fun ds r => ∃ n m rw, ds = [grpD n m] ∧ Tb n m ∧ n ≤ 60 ∧ IsRow (lF n m) (List.range n) rw ∧ rw.length ≤ 1000 ∧ r = .lst (rowD rw)
theorem sc_lower_row : FnScope ["group", "everything", "row", "following"] ["group"] (defScope s_lower_row) := ⟨rfl, rfl, rfl, by decide +kernel, rfl, by decide +kernel, by decide +kernel⟩
theorem w_lower_row {P : Program} {w : World} {K : PySem.W.Frag} {mg : Str → Option Value} {base : Heap} {C : Addr} (T : Tx K mg C) (D : FnS K mg "lower_row" s_lower_row) (F_commutator_subgroup : Fn P w K mg base C "commutator_subgroup" 3 [false, false, false] R_commutator_subgroup) : Fn P w K mg base C "lower_row" 4 [false] R_lower_row := by
  obtain ⟨f, fd, F, hm⟩ := D
  have S := sc_lower_row
  obtain ⟨tM, hM⟩ := T.most
  refine Fn.of F (fn_ok (k := 3) (fl := [false]) (R := R_lower_row) F S rfl (by decide) (fun ds r h => rawFree _ _ (by decide)) (fun cdv A outer s H E hr => have hu := hu_of hr; dss_cons (ds_set 1 S.nd (de_tupRg rfl T.tuple T.range (de_size T.cl T.nS (dv 0))))
      (dss_cons (ds_own 2 S.nd (df_lst (da_sh (dv 1) da_nil)))
      (dss_one (ds_while PassesOwn.never (db_val de_bl) (dss_cons (ds_set 3 S.nd (de_call F_commutator_subgroup (hr.mono (by decide)) (da_sh (dv 0) (da_sh (dv 1) (da_sh (de_ix (dvo 2) (de_neg de_int)) da_nil)))))
      (dss_cons (ds_if (db_eqD hr.units ((dv 3).r) ((de_ix (dvo 2) (de_neg de_int)).r)) (dss_one (ds_retO 2)) dss_nil)
      (dss_one (ds_app 2 (dv 3))))))))) ?hp) (F.bindsN fun _ _ _ _ _ _ us hl => match us, hl with | [_], _ => rfl) hm
  case hp =>
    rintro ds r ⟨n, m, rw_, rfl, tb, hn, hrow, hrl, rfl⟩ -
    have hpos := hrow.pos
    have hlt : ∀ a ∈ rw_, (∀ x ∈ a, x < n) ∧ a.length ≤ n := fun a ha => IsRow.lt (p := fun a => Rch m (comL n m (List.range n) a)) hrow rng_lt (by simp) ha
    have e0 : rowD (rw_.take (0 + 1)) = [Dt.tup (nD (List.range n))] := by rw [row_next hrow.z]; rfl
    refine ⟨_, ⟨_, ⟨_, _, rfl⟩, (by first | omega | (simp at *; omega) | (simp; omega)), (by first | omega | (simp at *; omega) | (simp; omega)), rfl⟩, ?_⟩
    rw [nD_rng]
    refine ⟨_, ⟨⟨_, _, rfl, rfl, rfl⟩, (by first | (simp; done) | omega | (simp; omega))⟩, ?_⟩
    rw [← e0]
    refine ⟨fun w env => ∃ k s2, env = [.sh (grpD n m), .sh (tN (List.range n)), .own (rowD (rw_.take (k + 1))), s2] ∧ k < rw_.length ∧ w = rw_.length - k , ⟨ rw_.length, ?_⟩, fun k env' hw => ?_⟩
    · exact ⟨0, _, rfl, hpos, rfl⟩
    · obtain ⟨k, s2, rfl, hk, hm⟩ := hw
      have ha := List.getElem?_eq_getElem hk
      generalize hga : rw_[k] = a at ha
      have hla := row_last ha
      obtain ⟨h1, h2⟩ := hlt a (List.mem_of_getElem? ha)
      have hc : R_commutator_subgroup [grpD n m, tN (List.range n), tN a] (tN (lF n m a)) := ⟨n, m, _, _, _, a, rfl, tb, hn, rfl, rfl, by simp; omega, by omega, rng_lt, h1, rfl⟩
      refine ⟨_, rfl, fun hb => ?_, fun hb => ?_⟩
      · refine ⟨_, ⟨_, ⟨_, _, rfl, ⟨_, _, rfl, ⟨_, _, ⟨_, _, _, (Or.inl ⟨_, rfl, rfl⟩), (by first | rfl | assumption), ⟨_, rfl, rfl⟩, (by first | assumption | exact nD_at ‹_› | exact atI_nat ‹_› | exact bD_at ‹_›)⟩, rfl, rfl⟩, rfl⟩, rfl⟩, (by assumption)⟩, ?_⟩
        refine ⟨_, ⟨_, _, rfl, ⟨_, _, _, (Or.inl ⟨_, rfl, rfl⟩), (by first | rfl | assumption), ⟨_, rfl, rfl⟩, (by first | assumption | exact nD_at ‹_› | exact atI_nat ‹_› | exact bD_at ‹_›)⟩, (by first | assumption | exact eqD_tN _ _ | exact eqD_lN _ _)⟩, fun hb => ?_, fun hb => ?_⟩
        · have e : lF n m a = a := by simpa using hb
          have hk1 : k + 1 = rw_.length := by
            by_cases q : k + 1 < rw_.length
            · have := hrow.nx k a _ ha (List.getElem?_eq_getElem q)
              exact absurd (this.1.symm.trans e) this.2
            · omega
          refine ⟨_, rfl, ?_⟩
          rw [row_full (by omega)]
        · have e : lF n m a ≠ a := by simpa using hb
          have hk1 : k + 1 < rw_.length := by
            by_cases q : k + 1 < rw_.length
            · exact q
            · refine absurd (hrow.st a ?_) e
              rw [show rw_.length - 1 = k by omega]
              exact ha
          have hb1 := List.getElem?_eq_getElem hk1
          have hnx := (hrow.nx k a _ ha hb1).1
          rw [← hnx] at hb1
          refine ⟨_, _, rfl, rfl, (by simp; omega), ?_⟩
          exact ⟨rw_.length - (k + 1), by omega, k + 1, _, by rw [row_next hb1]; rfl, hk1, rfl⟩
      · cases hb
def R_subgroup_at : List Dt → Dt → Prop := fun ds r => ∃ rw k a, ds = [.lst (rowD rw), .int ((k : Nat) : Int)] ∧ rw[min (max k 1) rw.length - 1]? = some a ∧ r = tN a
theorem sc_subgroup_at : FnScope ["row", "k"] ["row", "k"] (defScope s_subgroup_at) := ⟨rfl, rfl, rfl, by decide +kernel, rfl, by decide +kernel, by decide +kernel⟩
theorem w_subgroup_at {P : Program} {w : World} {K : PySem.W.Frag} {mg : Str → Option Value} {base : Heap} {C : Addr} (T : Tx K mg C) (D : FnS K mg "subgroup_at" s_subgroup_at) : Fn P w K mg base C "subgroup_at" 1 [false, false] R_subgroup_at := by
  obtain ⟨f, fd, F, hm⟩ := D
  have S := sc_subgroup_at
  obtain ⟨tM, hM⟩ := T.most
  refine Fn.of F (fn_ok (k := 0) (fl := [false, false]) (R := R_subgroup_at) F S rfl (by decide) (fun ds r h => rawFree _ _ (by decide)) (fun cdv A outer s H E hr => have hu := hu_of hr; dss_one (ds_ret (de_ix ((dv 0).r) (de_sub (de_min rfl T.min (de_max rfl T.max (dv 1) de_int) (de_len T.len ((dv 0).r))) de_int)))) ?hp) (F.bindsN fun _ _ _ _ _ _ us hl => match us, hl with | [_, _], _ => rfl) hm
  case hp =>
    rintro ds r ⟨rw_, k, a, rfl, ha, rfl⟩ -
    have hl := (List.getElem?_eq_some_iff.mp ha).1
    have hix : ((if (((rowD rw_).length : Nat) : Int) < (if (1 : Int) > (k : Int) then (1 : Int) else (k : Int)) then (((rowD rw_).length : Nat) : Int) else (if (1 : Int) > (k : Int) then (1 : Int) else (k : Int))) - 1) = ((min (max k 1) rw_.length - 1 : Nat) : Int) := by
      rw [List.length_map]
      split <;> split at * <;> omega
    refine ⟨_, ⟨_, _, _, rfl, (by first | rfl | assumption), ⟨_, _, ⟨_, _, ⟨_, _, rfl, rfl, rfl⟩, ⟨_, _, rfl, (by first | rfl | assumption), rfl⟩, rfl⟩, rfl, rfl⟩, (by rw [hix]; exact atI_nat (by rw [List.getElem?_map, ha]; rfl))⟩, ?_⟩
    rfl
def R_lower : List Dt → Dt → Prop := fun ds r => ∃ n m rw k a, ds = [grpD n m, .int ((k : Nat) : Int)] ∧ Tb n m ∧ n ≤ 60 ∧ IsRow (lF n m) (List.range n) rw ∧ rw.length ≤ 1000 ∧ rw[min (max k 1) rw.length - 1]? = some a ∧ r = tN a
theorem sc_lower : FnScope ["group", "k"] ["group", "k"] (defScope s_lower) := ⟨rfl, rfl, rfl, by decide +kernel, rfl, by decide +kernel, by decide +kernel⟩
theorem w_lower {P : Program} {w : World} {K : PySem.W.Frag} {mg : Str → Option Value} {base : Heap} {C : Addr} (T : Tx K mg C) (D : FnS K mg "lower" s_lower) (F_subgroup_at : Fn P w K mg base C "subgroup_at" 1 [false, false] R_subgroup_at) (F_lower_row : Fn P w K mg base C "lower_row" 4 [false] R_lower_row) : Fn P w K mg base C "lower" 5 [false, false] R_lower := by
  obtain ⟨f, fd, F, hm⟩ := D
  have S := sc_lower
  obtain ⟨tM, hM⟩ := T.most
  refine Fn.of F (fn_ok (k := 4) (fl := [false, false]) (R := R_lower) F S rfl (by decide) (fun ds r h => rawFree _ _ (by decide)) (fun cdv A outer s H E hr => have hu := hu_of hr; dss_one (ds_ret (de_call F_subgroup_at (hr.mono (by decide)) (da_sh (de_call F_lower_row (hr.mono (by decide)) (da_sh (dv 0) da_nil)) (da_sh (dv 1) da_nil))))) ?hp) (F.bindsN fun _ _ _ _ _ _ us hl => match us, hl with | [_, _], _ => rfl) hm
  case hp =>
    rintro ds r ⟨n, m, rw_, k, a, rfl, tb, hn, hrow, hrl, ha, rfl⟩ -
    have hR : R_lower_row [grpD n m] (.lst (rowD rw_)) := ⟨n, m, rw_, rfl, tb, hn, hrow, hrl, rfl⟩
    have hR2 : R_subgroup_at [.lst (rowD rw_), .int (k : Int)] (tN a) := ⟨rw_, k, a, rfl, ha, rfl⟩
    refine ⟨_, ⟨_, ⟨_, _, ⟨_, ⟨_, _, rfl, rfl, rfl⟩, (by assumption)⟩, ⟨_, _, rfl, rfl, rfl⟩, rfl⟩, (by assumption)⟩, ?_⟩
    rfl
def R_class_of : List Dt → Dt → Prop := fun ds r => ∃ n m rw a, ds = [grpD n m] ∧ Tb n m ∧ n ≤ 60 ∧ IsRow (lF n m) (List.range n) rw ∧ rw.length ≤ 1000 ∧ rw[rw.length - 1]? = some a ∧ r = if a = [0] then .int ((rw.length : Int) - 1) else .non
theorem sc_class_of : FnScope ["group", "row"] ["group"] (defScope s_class_of) := ⟨rfl, rfl, rfl, by decide +kernel, rfl, by decide +kernel, by decide +kernel⟩
theorem w_class_of {P : Program} {w : World} {K : PySem.W.Frag} {mg : Str → Option Value} {base : Heap} {C : Addr} (T : Tx K mg C) (D : FnS K mg "class_of" s_class_of) (F_lower_row : Fn P w K mg base C "lower_row" 4 [false] R_lower_row) : Fn P w K mg base C "class_of" 5 [false] R_class_of := by
  obtain ⟨f, fd, F, hm⟩ := D
  have S := sc_class_of
  obtain ⟨tM, hM⟩ := T.most
  refine Fn.of F (fn_ok (k := 4) (fl := [false]) (R := R_class_of) F S rfl (by decide) (fun ds r h => rawFree _ _ (by decide)) (fun cdv A outer s H E hr => have hu := hu_of hr; dss_cons (ds_set 1 S.nd (de_call F_lower_row (hr.mono (by decide)) (da_sh (dv 0) da_nil)))
      (dss_cons (ds_if (db_eqD hr.units ((de_ix ((dv 1).r) (de_neg de_int)).r) ((de_tup (da_sh de_int da_nil)).r)) (dss_one (ds_ret (de_sub (de_len T.len ((dv 1).r)) de_int))) dss_nil)
      (dss_one (ds_ret de_non)))) ?hp) (F.bindsN fun _ _ _ _ _ _ us hl => match us, hl with | [_], _ => rfl) hm
  case hp =>
    rintro ds r ⟨n, m, rw_, a, rfl, tb, hn, hrow, hrl, ha, rfl⟩ -
    have hR : R_lower_row [grpD n m] (.lst (rowD rw_)) := ⟨n, m, rw_, rfl, tb, hn, hrow, hrl, rfl⟩
    have hla := row_last ha
    rw [row_full (by omega)] at hla
    have hq : EqD (tN a) (.tup [.int 0]) (decide (a = [0])) := eqD_tN a [0]
    refine ⟨_, ⟨_, ⟨_, _, rfl, rfl, rfl⟩, (by assumption)⟩, ?_⟩
    refine ⟨_, ⟨_, _, ⟨_, _, _, rfl, (by first | rfl | assumption), ⟨_, rfl, rfl⟩, (by first | assumption | exact nD_at ‹_› | exact atI_nat ‹_› | exact bD_at ‹_›)⟩, ⟨_, ⟨_, _, rfl, rfl, rfl⟩, (by first | (simp; done) | omega | (simp; omega)), rfl⟩, (by first | assumption | exact eqD_tN _ _ | exact eqD_lN _ _)⟩, fun hb => ?_, fun hb => ?_⟩
    · have e : a = [0] := by simpa using hb
      refine ⟨_, ⟨_, _, ⟨_, _, rfl, (by first | rfl | assumption), rfl⟩, rfl, rfl⟩, ?_⟩
      rw [if_pos e, List.length_map]
    · have e : ¬ a = [0] := by simpa using hb
      refine ⟨_, rfl, ?_⟩
      rw [if_neg e]
def R_central_members : List Dt → Dt → Prop := fun ds r => ∃ n m s S, ds = [grpD n m, s] ∧ Tb n m ∧ n ≤ 60 ∧ s.sq = some (nD S) ∧ r = tN (cenL n m S)
theorem sc_central_members : FnScope ["group", "subgroup", "inside", "everything", "member", "a", "b"] ["group", "subgroup"] (defScope s_central_members) := ⟨rfl, rfl, rfl, by decide +kernel, rfl, by decide +kernel, by decide +kernel⟩
theorem w_central_members {P : Program} {w : World} {K : PySem.W.Frag} {mg : Str → Option Value} {base : Heap} {C : Addr} (T : Tx K mg C) (D : FnS K mg "central_members" s_central_members) (M_commutator : Mn P w K mg base C "commutator" 2 [false, false, false] R_commutator_m) (M_commutator : Mn P w K mg base C "commutator" 2 [false, false, false] R_commutator_m) (M_commutator : Mn P w K mg base C "commutator" 2 [false, false, false] R_commutator_m) : Fn P w K mg base C "central_members" 3 [false, false] R_central_members := by
  obtain ⟨f, fd, F, hm⟩ := D
  have S := sc_central_members
  obtain ⟨tM, hM⟩ := T.most
  refine Fn.of F (fn_ok (k := 2) (fl := [false, false]) (R := R_central_members) F S rfl (by decide) (fun ds r h => rawFree _ _ (by decide)) (fun cdv A outer s H E hr => have hu := hu_of hr; dss_cons (ds_set 2 S.nd ((df_lc rfl S.nd [("member", 4)] 4 (di_rng1 T.range (de_size T.cl T.nS (dv 0))) (blkOk_by (by rfl)) (by decide) (fun _ => pg_name (i := 4) S.nd rfl (by first | exact Or.inl rfl | exact Or.inr rfl)) dts_nil (fun _ => de_inN (dv 4) ((dv 1).r))).tree))
      (dss_cons (ds_set 3 S.nd ((df_listRg rfl T.list T.range (de_size T.cl T.nS (dv 0))).tree))
      (dss_one (ds_ret (de_tupL T.tuple (((df_lc rfl S.nd [("a", 5)] 5 (di_seqR ((dv 3).r)) (blkOk_by (by rfl)) (by decide) (fun _ => pg_name (i := 5) S.nd rfl (by first | exact Or.inl rfl | exact Or.inr rfl)) (dts_one fun _ => db_val (de_allB rfl T.all (((df_lc rfl S.nd [("b", 6)] 6 (di_seqR ((dv 3).r)) (blkOk_by (by rfl)) (by decide) (fun _ => pg_name (i := 6) S.nd rfl (by first | exact Or.inl rfl | exact Or.inr rfl)) dts_nil (fun _ => de_ix ((dv 2).r) (de_meth T.cl M_commutator (hr.mono (by decide)) (dv 0) (da_sh (dv 5) (da_sh (dv 6) da_nil))))).tree).r))) (fun _ => dv 5)).tree).r)))))) ?hp) (F.bindsN fun _ _ _ _ _ _ us hl => match us, hl with | [_, _], _ => rfl) hm
  case hp =>
    rintro ds r ⟨n, m, s, S, rfl, tb, hn, hsq, rfl⟩ -
    refine ⟨_, ⟨_, (fLc_a (M := List.range n) ⟨_, ⟨_, _, rfl⟩, (by first | omega | (simp at *; omega) | (simp; omega)), (by first | omega | (simp at *; omega) | (simp; omega)), rfl⟩ (fun k => .bl (decide (k ∈ S))) (fun k hk => ⟨_, _, _, rfl, rfl, (by first | rfl | assumption), rfl⟩) (by simp; omega)), rfl⟩, ?_⟩
    refine ⟨_, ⟨_, ⟨_, ⟨_, _, rfl⟩, (by first | omega | (simp at *; omega) | (simp; omega)), (by first | omega | (simp at *; omega) | (simp; omega)), rfl⟩, rfl⟩, ?_⟩
    rw [nD_rng]
    have hin : ∀ x, x < n → atI ((List.range n).map fun k => Dt.bl (decide (k ∈ S))) (x : Int) = some (.bl (decide (x ∈ S))) := fun x hx => atI_nat (by simp [hx])
    have hcm : ∀ a b, a < n → b < n → R_commutator_m [grpD n m, .int (a : Int), .int (b : Int)] (.int ((cm n m a b : Nat) : Int)) := fun a b ha hb => ⟨n, m, a, b, rfl, tb, ha, hb, rfl⟩
    refine ⟨_, ⟨_, ⟨_, (fLc_f (M := List.range n) ⟨_, rfl, (by first | rfl | assumption)⟩ (fun a => (List.range n).all fun b => decide (cm n m a b ∈ S)) (fun a ha => by have ha' := List.mem_range.mp ha; exact ⟨_, _, ⟨_, (fLc_a (M := List.range n) ⟨_, rfl, (by first | rfl | assumption)⟩ (fun b => .bl (decide (cm n m a b ∈ S))) (fun b hb => by have h1 := hcm a b ha' (List.mem_range.mp hb); have h2 := hin _ (tb.cm_lt ha' (List.mem_range.mp hb)); exact ⟨_, _, _, rfl, (by first | rfl | assumption), ⟨_, _, _, _, rfl, ⟨_, _, rfl, ⟨_, _, rfl, rfl, rfl⟩, rfl⟩, (by assumption)⟩, (by first | assumption | exact nD_at ‹_› | exact atI_nat ‹_› | exact bD_at ‹_›)⟩) (by simp; omega)), rfl⟩, (by first | assumption | exact allB_map _ _), rfl⟩) (fun j hj => rfl) (by simp; omega)), rfl⟩, rfl⟩, ?_⟩
    refine congrArg Dt.tup (congrArg nD ?_)
    refine mem_uniq (List.Pairwise.filter _ List.pairwise_lt_range) fun x => ?_
    rw [List.mem_filter, List.mem_range, List.all_eq_true]
    exact ⟨fun ⟨a, h⟩ => ⟨a, fun b hb => by simpa using h b (List.mem_range.mpr hb)⟩, fun ⟨a, h⟩ => ⟨a, fun b hb => by simpa using h b (List.mem_range.mp hb)⟩⟩
def R_centre : List Dt → Dt → Prop := fun ds r => ∃ n m, ds = [grpD n m] ∧ Tb n m ∧ n ≤ 60 ∧ r = tN (cenL n m [0])
theorem sc_centre : FnScope ["group"] ["group"] (defScope s_centre) := ⟨rfl, rfl, rfl, by decide +kernel, rfl, by decide +kernel, by decide +kernel⟩
theorem w_centre {P : Program} {w : World} {K : PySem.W.Frag} {mg : Str → Option Value} {base : Heap} {C : Addr} (T : Tx K mg C) (D : FnS K mg "centre" s_centre) (F_central_members : Fn P w K mg base C "central_members" 3 [false, false] R_central_members) : Fn P w K mg base C "centre" 4 [false] R_centre := by
  obtain ⟨f, fd, F, hm⟩ := D
  have S := sc_centre
  obtain ⟨tM, hM⟩ := T.most
  refine Fn.of F (fn_ok (k := 3) (fl := [false]) (R := R_centre) F S rfl (by decide) (fun ds r h => rawFree _ _ (by decide)) (fun cdv A outer s H E hr => have hu := hu_of hr; dss_one (ds_ret (de_call F_central_members (hr.mono (by decide)) (da_sh (dv 0) (da_sh (de_tup (da_sh de_int da_nil)) da_nil))))) ?hp) (F.bindsN fun _ _ _ _ _ _ us hl => match us, hl with | [_], _ => rfl) hm
  case hp =>
    rintro ds r ⟨n, m, rfl, tb, hn, rfl⟩ -
    have hR : R_central_members [grpD n m, .tup [.int 0]] (tN (cenL n m [0])) := ⟨n, m, _, [0], rfl, tb, hn, rfl, rfl⟩
    refine ⟨_, ⟨_, ⟨_, _, rfl, ⟨_, _, ⟨_, ⟨_, _, rfl, rfl, rfl⟩, (by first | (simp; done) | omega | (simp; omega)), rfl⟩, rfl, rfl⟩, rfl⟩, (by assumption)⟩, ?_⟩
    rfl
def R_upper_row : List Dt → Dt → Prop := fun ds r => ∃ n m rw, ds = [grpD n m] ∧ Tb n m ∧ n ≤ 60 ∧ IsRow (cenL n m) [0] rw ∧ rw.length ≤ 1000 ∧ r = .lst (rowD rw)
theorem sc_upper_row : FnScope ["group", "row", "following"] ["group"] (defScope s_upper_row) := ⟨rfl, rfl, rfl, by decide +kernel, rfl, by decide +kernel, by decide +kernel⟩
theorem w_upper_row {P : Program} {w : World} {K : PySem.W.Frag} {mg : Str → Option Value} {base : Heap} {C : Addr} (T : Tx K mg C) (D : FnS K mg "upper_row" s_upper_row) (F_central_members : Fn P w K mg base C "central_members" 3 [false, false] R_central_members) : Fn P w K mg base C "upper_row" 4 [false] R_upper_row := by
  obtain ⟨f, fd, F, hm⟩ := D
  have S := sc_upper_row
  obtain ⟨tM, hM⟩ := T.most
  refine Fn.of F (fn_ok (k := 3) (fl := [false]) (R := R_upper_row) F S rfl (by decide) (fun ds r h => rawFree _ _ (by decide)) (fun cdv A outer s H E hr => have hu := hu_of hr; dss_cons (ds_own 1 S.nd (df_lst (da_sh (de_tup (da_sh de_int da_nil)) da_nil)))
      (dss_one (ds_while PassesOwn.never (db_val de_bl) (dss_cons (ds_set 2 S.nd (de_call F_central_members (hr.mono (by decide)) (da_sh (dv 0) (da_sh (de_ix (dvo 1) (de_neg de_int)) da_nil))))
      (dss_cons (ds_if (db_eqD hr.units ((dv 2).r) ((de_ix (dvo 1) (de_neg de_int)).r)) (dss_one (ds_retO 1)) dss_nil)
      (dss_one (ds_app 1 (dv 2)))))))) ?hp) (F.bindsN fun _ _ _ _ _ _ us hl => match us, hl with | [_], _ => rfl) hm
  case hp =>
    rintro ds r ⟨n, m, rw_, rfl, tb, hn, hrow, hrl, rfl⟩ -
    have hpos := hrow.pos
    have e0 : rowD (rw_.take (0 + 1)) = [Dt.tup [.int 0]] := by rw [row_next hrow.z]; rfl
    refine ⟨_, ⟨⟨_, _, ⟨_, ⟨_, _, rfl, rfl, rfl⟩, (by first | (simp; done) | omega | (simp; omega)), rfl⟩, rfl, rfl⟩, (by first | (simp; done) | omega | (simp; omega))⟩, ?_⟩
    rw [← e0]
    refine ⟨fun w env => ∃ k s2, env = [.sh (grpD n m), .own (rowD (rw_.take (k + 1))), s2] ∧ k < rw_.length ∧ w = rw_.length - k , ⟨ rw_.length, ?_⟩, fun k env' hw => ?_⟩
    · exact ⟨0, _, rfl, hpos, rfl⟩
    · obtain ⟨k, s2, rfl, hk, hm⟩ := hw
      have ha := List.getElem?_eq_getElem hk
      generalize hga : rw_[k] = a at ha
      have hla := row_last ha
      have hc : R_central_members [grpD n m, tN a] (tN (cenL n m a)) := ⟨n, m, _, a, rfl, tb, hn, rfl, rfl⟩
      refine ⟨_, rfl, fun hb => ?_, fun hb => ?_⟩
      · refine ⟨_, ⟨_, ⟨_, _, rfl, ⟨_, _, ⟨_, _, _, (Or.inl ⟨_, rfl, rfl⟩), (by first | rfl | assumption), ⟨_, rfl, rfl⟩, (by first | assumption | exact nD_at ‹_› | exact atI_nat ‹_› | exact bD_at ‹_›)⟩, rfl, rfl⟩, rfl⟩, (by assumption)⟩, ?_⟩
        refine ⟨_, ⟨_, _, rfl, ⟨_, _, _, (Or.inl ⟨_, rfl, rfl⟩), (by first | rfl | assumption), ⟨_, rfl, rfl⟩, (by first | assumption | exact nD_at ‹_› | exact atI_nat ‹_› | exact bD_at ‹_›)⟩, (by first | assumption | exact eqD_tN _ _ | exact eqD_lN _ _)⟩, fun hb => ?_, fun hb => ?_⟩
        · have e : cenL n m a = a := by simpa using hb
          have hk1 : k + 1 = rw_.length := by
            by_cases q : k + 1 < rw_.length
            · have := hrow.nx k a _ ha (List.getElem?_eq_getElem q)
              exact absurd (this.1.symm.trans e) this.2
            · omega
          refine ⟨_, rfl, ?_⟩
          rw [row_full (by omega)]
        · have e : cenL n m a ≠ a := by simpa using hb
          have hk1 : k + 1 < rw_.length := by
            by_cases q : k + 1 < rw_.length
            · exact q
            · refine absurd (hrow.st a ?_) e
              rw [show rw_.length - 1 = k by omega]
              exact ha
          have hb1 := List.getElem?_eq_getElem hk1
          have hnx := (hrow.nx k a _ ha hb1).1
          rw [← hnx] at hb1
          refine ⟨_, _, rfl, rfl, (by simp; omega), ?_⟩
          exact ⟨rw_.length - (k + 1), by omega, k + 1, _, by rw [row_next hb1]; rfl, hk1, rfl⟩
      · cases hb
end CM
set_option Elab.async false
set_option linter.all false
set_option maxRecDepth 100000
set_option maxHeartbeats 1000000
/-! What the helper's defs compute, in plain Lean. -/
namespace CM
open PySem PySem.Spec PyProof.Rows L2
def zL (M : List Nat) : List Int := List.map (fun k : Nat => (k : Int)) M
theorem zL_inj : ∀ {M N : List Nat}, zL M = zL N → M = N
  | [], [], _ => rfl
  | [], _ :: _, h => by cases h
  | _ :: _, [], h => by cases h
  | a :: r, b :: t, h => by
    have h' : (a : Int) :: zL r = (b : Int) :: zL t := h
    injection h' with h1 h2
    rw [zL_inj h2, show a = b by omega]
theorem tN_tI (M : List Nat) : tN M = tI (zL M) := tI_eq M
/-! ### numbers -/
def cellF (ns : List Int) (k : Nat) : Int := match ns[k]? with
  | some z => if z < 0 then -z else z
  | none => 0
def mix1 (c : Int) (k : Nat) : Int := (c * 48271 + ((k : Int) + 1) * 69621) % 2147483647
def mix2 (c : Int) (k : Nat) : Int := (mix1 c k * mix1 c k + ((k : Int) + 3) * 40692) % 2147483399
def mix3 (c : Int) (k : Nat) : Int := (mix2 c k * 16807 + c + (k : Int)) % 2147483647
def numStep (c : Int) (st : Int × List Int) (k : Nat) : Int × List Int := if 0 < st.1 then (st.1 / 1000, st.2 ++ [st.1 % 1000]) else (st.1, st.2 ++ [mix3 c k / 5])
def numTo (c : Int) (k : Nat) : Int × List Int := (List.range k).foldl (numStep c) (if (10 : Int) ^ 18 ≤ c then c - 10 ^ 18 else 0, [])
def numF (c : Int) (n : Nat) : List Int := (numTo c n).2
theorem numTo_succ (c : Int) (k : Nat) : numTo c (k + 1) = numStep c (numTo c k) k := by
  unfold numTo
  rw [List.range_succ, List.foldl_append]
  rfl
theorem numTo_len (c : Int) : ∀ k, (numTo c k).2.length = k
  | 0 => rfl
  | k + 1 => by
    rw [numTo_succ]
    unfold numStep
    split <;> simp [numTo_len c k]
theorem numF_len (c : Int) (n : Nat) : (numF c n).length = n := numTo_len c n
/-! ### moves -/
def moveL (g x : List Nat) : List Nat := x.map fun y => g.getD y 0
def addNew (fd : List (List Nat)) (x : List Nat) : List (List Nat) := if x ∈ fd then fd else fd ++ [x]
def closeIn (gs : List (List Nat)) (fd : List (List Nat)) (x : List Nat) : List (List Nat) := gs.foldl (fun fd mv => addNew fd (moveL mv x)) fd
def closeTo (gs : List (List Nat)) : Nat → List (List Nat)
  | 0 => [List.range (gs.getD 0 []).length]
  | k + 1 => if k < (closeTo gs k).length then closeIn gs (closeTo gs k) ((closeTo gs k).getD k []) else closeTo gs k
def closeF (gs : List (List Nat)) : List (List Nat) := closeTo gs 60
def knownOf (fd : List (List Nat)) : List (List Int × Dt) := fd.map fun x => (zL x, .bl true)
theorem look_known {fd : List (List Nat)} {x : List Nat} : (lookT (knownOf fd) (zL x)).isSome = decide (x ∈ fd) := by
  unfold lookT knownOf
  rw [Option.isSome_map, List.isSome_find?, List.any_map]
  induction fd with
  | nil => rfl
  | cons y t ih =>
    rw [List.any_cons, ih]
    by_cases h : y = x
    · subst h
      simp
    · have h2 : ¬ zL y = zL x := fun e => h (zL_inj e)
      simp [h2, Ne.symm h]
theorem put_known {fd : List (List Nat)} {x : List Nat} (h : x ∉ fd) : putT (knownOf fd) (zL x) (.bl true) = knownOf (fd ++ [x]) := by
  have e : ((knownOf fd).any fun p => decide (p.1 = zL x)) = false := by
    rw [List.any_eq_false]
    intro p hp
    obtain ⟨y, hy, rfl⟩ := List.mem_map.mp hp
    simp only [decide_eq_true_eq]
    exact fun e => h (zL_inj e ▸ hy)
  unfold putT
  rw [e]
  simp [knownOf]
def idxL (z : List Nat) (l : List (List Nat)) : Nat := l.findIdx fun y => decide (y = z)
theorem idxL_at {z : List Nat} {l : List (List Nat)} (h : z ∈ l) : l[idxL z l]? = some z ∧ idxL z l < l.length := by
  have hlt : idxL z l < l.length := List.findIdx_lt_length_of_exists ⟨z, h, by simp⟩
  have h1 := List.findIdx_getElem (w := hlt)
  refine ⟨?_, hlt⟩
  rw [List.getElem?_eq_getElem hlt]
  exact congrArg some (of_decide_eq_true h1)
theorem idxL_uniq {z : List Nat} {j : Nat} {l : List (List Nat)} (h : l[j]? = some z) (nd : l.Nodup) : idxL z l = j := by
  have ⟨h1, h3⟩ := idxL_at (List.mem_of_getElem? h)
  exact (List.getElem?_inj h3 nd).mp (h1.trans h.symm)
def placeKV : Nat → List (List Nat) → List (List Int × Dt)
  | _, [] => []
  | n, x :: r => (zL x, .int (n : Int)) :: placeKV (n + 1) r
theorem placeKV_len : ∀ (n : Nat) (l : List (List Nat)), (placeKV n l).length = l.length
  | _, [] => rfl
  | n, x :: r => congrArg Nat.succ (placeKV_len (n + 1) r)
theorem placeKV_app : ∀ (n : Nat) (l : List (List Nat)) (x : List Nat), placeKV n (l ++ [x]) = placeKV n l ++ [(zL x, .int ((n + l.length : Nat) : Int))]
  | n, [], x => rfl
  | n, y :: r, x => by
    show (zL y, Dt.int (n : Int)) :: placeKV (n + 1) (r ++ [x]) = _
    rw [placeKV_app (n + 1) r x, List.length_cons, show n + 1 + r.length = n + (r.length + 1) by omega]
    rfl
theorem placeKV_key : ∀ (n : Nat) (l : List (List Nat)) (p : List Int × Dt), p ∈ placeKV n l → ∃ x ∈ l, p.1 = zL x
  | _, [], _, h => by cases h
  | n, y :: r, p, h => by
    rcases List.mem_cons.mp h with rfl | h
    · exact ⟨y, List.mem_cons_self .., rfl⟩
    · obtain ⟨x, h1, h2⟩ := placeKV_key (n + 1) r p h
      exact ⟨x, List.mem_cons_of_mem _ h1, h2⟩
theorem put_place {l : List (List Nat)} {x : List Nat} (h : x ∉ l) : putT (placeKV 0 l) (zL x) (.int (l.length : Int)) = placeKV 0 (l ++ [x]) := by
  have e : ((placeKV 0 l).any fun p => decide (p.1 = zL x)) = false := by
    rw [List.any_eq_false]
    intro p hp
    obtain ⟨y, hy, e⟩ := placeKV_key 0 l p hp
    simp only [decide_eq_true_eq, e]
    exact fun e => h (zL_inj e ▸ hy)
  unfold putT
  rw [e, placeKV_app, Nat.zero_add]
  simp
theorem look_place : ∀ (l : List (List Nat)) (n : Nat) (x : List Nat), x ∈ l → lookT (placeKV n l) (zL x) = some (.int ((n + idxL x l : Nat) : Int))
  | [], _, x, h => by cases h
  | y :: r, n, x, h => by
    unfold lookT
    by_cases e : y = x
    · subst e
      simp [placeKV, idxL, List.findIdx_cons]
    · have h' : x ∈ r := (List.mem_cons.mp h).resolve_left fun q => e q.symm
      have ih := look_place r (n + 1) x h'
      unfold lookT at ih
      have e2 : ¬ zL y = zL x := fun q => e (zL_inj q)
      have e3 : idxL x (y :: r) = idxL x r + 1 := by simp [idxL, List.findIdx_cons, e]
      rw [placeKV, List.find?_cons_of_neg (by simpa using e2), ih, e3]
      congr 3
      omega
/-- the table of a list of moves -/
def pt (L : List (List Nat)) : Op := fun i j => idxL (moveL (L.getD j []) (L.getD i [])) L
/-- moves of p points -/
def MvOk (p : Nat) (x : List Nat) : Prop := x.length = p ∧ ∀ y ∈ x, y < p
theorem MvOk.move {p : Nat} {g x : List Nat} (hg : MvOk p g) (hx : MvOk p x) : MvOk p (moveL g x) := by
  refine ⟨by rw [moveL, List.length_map]; exact hx.1, fun y hy => ?_⟩
  obtain ⟨z, hz, rfl⟩ := List.mem_map.mp hy
  have hzl : z < g.length := by rw [hg.1]; exact hx.2 z hz
  rw [List.getD_eq_getElem?_getD, List.getElem?_eq_getElem hzl]
  exact hg.2 _ (List.getElem_mem hzl)
theorem addNew_ok {p : Nat} {fd : List (List Nat)} {x : List Nat} (h : ∀ y ∈ fd, MvOk p y) (hx : MvOk p x) : ∀ y ∈ addNew fd x, MvOk p y := by
  unfold addNew
  split
  · exact h
  · intro y hy
    rcases List.mem_append.mp hy with hy | hy
    · exact h y hy
    · rw [List.mem_singleton] at hy
      exact hy ▸ hx
theorem addNew_nd {fd : List (List Nat)} {x : List Nat} (h : fd.Nodup) : (addNew fd x).Nodup := by
  unfold addNew
  split
  · exact h
  · rename_i hx
    rw [List.nodup_append]
    refine ⟨h, by simp, fun a ha b hb e => ?_⟩
    rw [List.mem_singleton] at hb
    subst hb
    exact hx (e ▸ ha)
theorem addNew_pre (fd : List (List Nat)) (x : List Nat) : ∃ t, addNew fd x = fd ++ t := by
  unfold addNew
  split
  · exact ⟨[], by simp⟩
  · exact ⟨[x], rfl⟩
theorem closeIn_pre (gs : List (List Nat)) (x : List Nat) : ∀ fd : List (List Nat), ∃ t, closeIn gs fd x = fd ++ t := by
  induction gs with
  | nil => exact fun fd => ⟨[], by simp [closeIn]⟩
  | cons g gs ih =>
    intro fd
    obtain ⟨t1, e1⟩ := addNew_pre fd (moveL g x)
    obtain ⟨t2, e2⟩ := ih (addNew fd (moveL g x))
    refine ⟨t1 ++ t2, ?_⟩
    show closeIn gs (addNew fd (moveL g x)) x = _
    rw [e2, e1, List.append_assoc]
theorem closeIn_ok {p : Nat} {x : List Nat} (hx : MvOk p x) : ∀ {gs fd : List (List Nat)}, (∀ g ∈ gs, MvOk p g) → (∀ y ∈ fd, MvOk p y) → fd.Nodup → (∀ y ∈ closeIn gs fd x, MvOk p y) ∧ (closeIn gs fd x).Nodup
  | [], fd, _, h, nd => ⟨h, nd⟩
  | g :: gs, fd, hg, h, nd => closeIn_ok hx (gs := gs) (fd := addNew fd (moveL g x)) (fun g' h' => hg g' (List.mem_cons_of_mem _ h')) (addNew_ok h ((hg g (List.mem_cons_self ..)).move hx)) (addNew_nd nd)
theorem closeTo_ok {p : Nat} {gs : List (List Nat)} (hp : (gs.getD 0 []).length = p) (hg : ∀ g ∈ gs, MvOk p g) : ∀ k, (∀ y ∈ closeTo gs k, MvOk p y) ∧ (closeTo gs k).Nodup
  | 0 => by
    refine ⟨fun y hy => ?_, by simp [closeTo]⟩
    rw [closeTo, List.mem_singleton] at hy
    subst hy
    rw [hp]
    exact ⟨List.length_range, fun y h => List.mem_range.mp h⟩
  | k + 1 => by
    obtain ⟨h1, h2⟩ := closeTo_ok hp hg k
    rw [closeTo]
    split
    · rename_i hk
      have hx : MvOk p ((closeTo gs k).getD k []) := by
        rw [List.getD_eq_getElem?_getD, List.getElem?_eq_getElem hk]
        exact h1 _ (List.getElem_mem hk)
      exact closeIn_ok hx hg h1 h2
    · exact ⟨h1, h2⟩
theorem closeTo_pre (gs : List (List Nat)) (k : Nat) : ∃ t, closeTo gs (k + 1) = closeTo gs k ++ t := by
  rw [closeTo]
  split
  · exact closeIn_pre _ _ _
  · exact ⟨[], by simp⟩
theorem closeTo_len (gs : List (List Nat)) (k : Nat) : ∀ j, (closeTo gs k).length ≤ (closeTo gs (k + j)).length
  | 0 => Nat.le_refl _
  | j + 1 => by
    obtain ⟨t, e⟩ := closeTo_pre gs (k + j)
    have := closeTo_len gs k j
    rw [← Nat.add_assoc, e, List.length_append]
    omega
/-- sorted, by what sorted() asks -/
def leC (B : Int) (x y : List Nat) : Prop := TS.code B (zL x) ≤ TS.code B (zL y)
theorem sortC_ex (B : Int) (l : List (List Nat)) : ∃ k : List (List Nat), k.Perm l ∧ k.Pairwise (leC B) := by
  refine ⟨l.mergeSort (fun a b => decide (TS.code B (zL a) ≤ TS.code B (zL b))), List.mergeSort_perm l _, ?_⟩
  have := List.pairwise_mergeSort (le := fun a b : List Nat => decide (TS.code B (zL a) ≤ TS.code B (zL b))) (fun a b c h1 h2 => by simp at *; omega) (fun a b => by simp; omega) l
  exact this.imp fun h => by unfold leC; simpa using h
noncomputable def closeS (gs : List (List Nat)) : List (List Nat) := (sortC_ex ((gs.getD 0 []).length : Int) (closeF gs)).choose
theorem closeS_perm (gs : List (List Nat)) : (closeS gs).Perm (closeF gs) := (sortC_ex _ (closeF gs)).choose_spec.1
theorem closeS_srt (gs : List (List Nat)) : (closeS gs).Pairwise (leC ((gs.getD 0 []).length : Int)) := (sortC_ex _ (closeF gs)).choose_spec.2
/-! ### renumbering -/
def rkStep (ns : List Int) (l : List Nat) (k : Nat) : List Nat :=
  let o := 1 + ((ns.getD (k % ns.length) 0) % (k : Int)).toNat
  (l.set k (l.getD o 0)).set o (l.getD k 0)
def rkTo (ns : List Int) (n : Nat) (k : Nat) : List Nat := (List.range k).foldl (fun l i => rkStep ns l (i + 1)) (List.range n)
def rkF (ns : List Int) (n : Nat) : List Nat := rkTo ns n (n - 1)
def plTo (rk : List Nat) (n : Nat) : Nat → List Nat
  | 0 => List.replicate n 0
  | k + 1 => (plTo rk n k).set (rk.getD k 0) k
def rnm (ns : List Int) (n : Nat) (m : Op) : Op := fun i j => (plTo (rkF ns n) n n).getD (m ((rkF ns n).getD i 0) ((rkF ns n).getD j 0)) 0
theorem rkStep_ok {ns : List Int} {n k : Nat} {l : List Nat} (hk1 : 1 ≤ k) (hk : k < n) (h : l.length = n ∧ ∀ x ∈ l, x < n) : (rkStep ns l k).length = n ∧ ∀ x ∈ rkStep ns l k, x < n := by
  have hg : ∀ i, i < n → l.getD i 0 < n := fun i hi => by
    rw [List.getD_eq_getElem?_getD, List.getElem?_eq_getElem (by omega)]
    exact h.2 _ (List.getElem_mem _)
  refine ⟨by simp [rkStep, h.1], fun x hx => ?_⟩
  have ho : 1 + ((ns.getD (k % ns.length) 0) % (k : Int)).toNat < n := by
    have h1 := Int.emod_nonneg (ns.getD (k % ns.length) 0) (show (k : Int) ≠ 0 by omega)
    have h2 := Int.emod_lt_of_pos (ns.getD (k % ns.length) 0) (show (0 : Int) < (k : Int) by omega)
    omega
  rcases List.mem_or_eq_of_mem_set hx with hx | hx
  · rcases List.mem_or_eq_of_mem_set hx with hx | hx
    · exact h.2 x hx
    · rw [hx]
      exact hg _ ho
  · rw [hx]
    exact hg _ hk
theorem rkTo_succ (ns : List Int) (n k : Nat) : rkTo ns n (k + 1) = rkStep ns (rkTo ns n k) (k + 1) := by
  unfold rkTo
  rw [List.range_succ, List.foldl_append]
  rfl
theorem rkTo_ok (ns : List Int) (n : Nat) : ∀ k, k ≤ n - 1 → (rkTo ns n k).length = n ∧ ∀ x ∈ rkTo ns n k, x < n
  | 0, _ => by simp [rkTo]
  | k + 1, hk => by
    rw [rkTo_succ]
    exact rkStep_ok (by omega) (by omega) (rkTo_ok ns n k (by omega))
theorem plTo_len (rk : List Nat) (n : Nat) : ∀ k, (plTo rk n k).length = n
  | 0 => by simp [plTo]
  | k + 1 => by rw [plTo, List.length_set, plTo_len rk n k]
theorem closeIn_split (gs : List (List Nat)) (j : Nat) (fd : List (List Nat)) (x : List Nat) : closeIn gs fd x = closeIn (gs.drop j) (closeIn (gs.take j) fd x) x := by
  unfold closeIn
  rw [← List.foldl_append, List.take_append_drop]
theorem closeIn_next {gs : List (List Nat)} {j : Nat} {g : List Nat} (h : gs[j]? = some g) (fd : List (List Nat)) (x : List Nat) : closeIn (gs.take (j + 1)) fd x = addNew (closeIn (gs.take j) fd x) (moveL g x) := by
  rw [List.take_add_one, h]
  unfold closeIn
  rw [List.foldl_append]
  rfl
theorem closeIn_len (gs : List (List Nat)) (j : Nat) (fd : List (List Nat)) (x : List Nat) : (closeIn (gs.take j) fd x).length ≤ (closeIn gs fd x).length := by
  obtain ⟨t, e⟩ := closeIn_pre (gs.drop j) x (closeIn (gs.take j) fd x)
  rw [closeIn_split gs j fd x, e, List.length_append]
  omega
theorem closeF_len (gs : List (List Nat)) (k : Nat) (h : k ≤ 60) : (closeTo gs k).length ≤ (closeF gs).length := by
  have := closeTo_len gs k (60 - k)
  rw [show k + (60 - k) = 60 by omega] at this
  exact this
theorem pt_row (L : List (List Nat)) (a : List Nat) : (L.map fun b => idxL (moveL b a) L) = (List.range L.length).map fun j => idxL (moveL (L.getD j []) a) L := map_place L [] (fun b => idxL (moveL b a) L)
/-! ### rules over numbers' tuples -/
section
variable {X : Cx} {C : Addr} {a e k v i : Expr} {es : List Expr} {pos p p2 : Pos} {f g : En → Dt → Prop}
theorem dn_dispT1N (hu : X.A.units + 1 < cLine) (hk : DE X C k f) (hv : DE X C v g) : DN X C (.Dict [some k] [v] pos) (fun env s => ∃ (M : List Nat) (d : Dt), f env (tN M) ∧ g env d ∧ scalT d = true ∧ s = .oT [(zL M, d)]) := by
  obtain ⟨t, p, h⟩ := dn_dispT1 (pos := pos) hu hk hv
  exact ⟨t, p, fun env s ⟨M, d, h1, h2, h3, h4⟩ => h env s ⟨zL M, d, by rw [← tN_tI]; exact h1, h2, h3, h4⟩⟩
theorem de_dgetTN (di : Nat) {x : Str} {px : Pos} (hu : X.A.units + 1 < cLine) (hi : DE X C i g) (hN : X.N[di]? = some x := by rfl) (hv : Vis X.env.scope x := by first | exact Or.inl rfl | exact Or.inr (Or.inl rfl) | exact Or.inr (Or.inr rfl)) (hd : (x == ("__debug__" : Str)) = false := by decide)
    (hcd : (x == ("__classdict__" : Str)) = false := by decide) (hs : NoSl i := by exact fun _ _ => rfl) : DE X C (.Subscript (.Name x px) i pos) (fun env d => ∃ kvs M, env[di]? = some (.oT kvs) ∧ g env (tN M) ∧ lookT kvs (zL M) = some d) :=
  (de_dgetT di hu hi hN hv hd hcd hs).imp fun env d ⟨kvs, M, h1, h2, h3⟩ => ⟨kvs, zL M, h1, by rw [← tN_tI]; exact h2, h3⟩
theorem db_notInTN (di : Nat) {x : Str} {px : Pos} (hu : X.A.units + 1 < cLine) (hi : DE X C i g) (hN : X.N[di]? = some x := by rfl) (hv : Vis X.env.scope x := by first | exact Or.inl rfl | exact Or.inr (Or.inl rfl) | exact Or.inr (Or.inr rfl)) (hd : (x == ("__debug__" : Str)) = false := by decide)
    (hcd : (x == ("__classdict__" : Str)) = false := by decide) (hm : behindInMarks .NotIn (.Name x px) = false := by rfl) : DB X C (.Compare i [.NotIn] [.Name x px] pos) (fun env r => ∃ kvs M, env[di]? = some (.oT kvs) ∧ g env (tN M) ∧ r = !(lookT kvs (zL M)).isSome) :=
  db_imp (db_notInT di hu hi hN hv hd hcd hm) fun env d ⟨kvs, M, h1, h2, h3⟩ => ⟨kvs, zL M, h1, by rw [← tN_tI]; exact h2, h3⟩
theorem DS.imp {st : Stmt} {d1 d2 : DT} (h : DS X C st d1) (i : ∀ E env, d2 E env → d1 E env) : DS X C st d2 := by
  obtain ⟨t, p, k⟩ := h
  exact ⟨t, p, fun HE H0 P0 D E σ H env F s q => k HE H0 P0 D E σ H env F s (i E env q)⟩
abbrev dPutTN (i : Nat) (fk f : En → Dt → Prop) : DT := fun E env => ∃ kvs M d, env[i]? = some (.oT kvs) ∧ fk env (tN M) ∧ f env d ∧ scalT d = true ∧ kvs.length < 100000 ∧ E.nx (env.set i (.oT (putT kvs (zL M) d)))
theorem dput_imp {i : Nat} {fk f : En → Dt → Prop} {E : Ed} {env : En} (h : dPutTN i fk f E env) : dPutT i fk f E env := by
  obtain ⟨kvs, M, d, h1, h2, h3⟩ := h
  exact ⟨kvs, zL M, d, h1, by rw [← tN_tI]; exact h2, h3⟩
theorem df_sortedTN (hm : X.mg "sorted" = none) (ha : DR X C a f) (hg : Gl X "sorted" := by rfl) (hs : starEach [a] X.env = (false, eval a X.env) :: starEach [] X.env := by rfl) :
    DF X C (.Call (.Name "sorted" p) [a] [] pos) (fun env r => ∃ (d : Nat) (ns ms : List (List Nat)), 1 ≤ d ∧ f env (.lst (ns.map fun c => tN c)) ∧ ns.length < 64 ∧ (∀ x ∈ ns, MvOk d x) ∧ ms.Perm ns ∧ ms.Pairwise (leC (d : Int)) ∧ r = ms.map fun c => tN c) :=
  (df_sortedT hm ha hg hs).imp fun env r ⟨d, ns, ms, h1, h2, h3, h4, h5, h6, h7⟩ => by
    have e : ∀ l : List (List Nat), (l.map fun c => tN c) = (l.map zL).map tI := fun l => by
      rw [List.map_map]
      exact List.map_congr_left fun x _ => tN_tI x
    refine ⟨d, d, ns.map zL, ms.map zL, h1, by rw [← e]; exact h2, by rw [List.length_map]; exact h3, fun n hn => ?_, h5.map _, by rw [List.pairwise_map]; exact h6, by rw [h7, e]⟩
    obtain ⟨x, hx, rfl⟩ := List.mem_map.mp hn
    obtain ⟨q1, q2⟩ := h4 x hx
    refine ⟨by rw [zL, List.length_map]; exact q1, fun z hz => ?_⟩
    obtain ⟨y, hy, rfl⟩ := List.mem_map.mp hz
    have := q2 y hy
    omega
end
/-! ### the groups the helper makes -/
def tlN (gs : List (List Nat)) : Nat := (closeF gs).length
noncomputable def tlM (gs : List (List Nat)) : Op := pt (closeS gs)
theorem closeS_len (gs : List (List Nat)) : (closeS gs).length = tlN gs := (closeS_perm gs).length_eq
def selG (z : Int) (ch : List Nat) : Nat := ch.getD (z % (ch.length : Int)).toNat 0
def mulL (p f : Nat) : List Nat := (List.range p).map fun x => (f * x) % p
def permB (p f : Nat) : Bool := decide ((mulL p f).Nodup)
def facF (p f : Nat) : Nat := if permB p f = true then f else p - 1
def powTo (p f : Nat) : Nat → Nat × Nat
  | 0 => (f, 1)
  | k + 1 => if (powTo p f k).1 ≠ 1 then (((powTo p f k).1 * f) % p, (powTo p f k).2 + 1) else powTo p f k
def affF (p f : Nat) : Nat := if 32 < p * (powTo p (facF p f) p).2 then 1 else facF p f
def affG (p f : Nat) : List (List Nat) := [(List.range p).map fun x => (x + 1) % p, mulL p (affF p f)]
theorem sorted_rng {p f : Nat} {ms : List Nat} (hp : 0 < p) (h : ms.Perm (mulL p f)) (hs : ms.Pairwise (· ≤ ·)) : decide (ms = List.range p) = permB p f := by
  have e : ms = List.range p ↔ permB p f = true := by
    unfold permB
    rw [decide_eq_true_eq]
    constructor
    · intro e
      rw [← h.nodup_iff, e]
      exact List.nodup_range
    · intro nd
      have hlt : ∀ x ∈ mulL p f, x < p := fun x hx => by
        obtain ⟨y, _, rfl⟩ := List.mem_map.mp hx
        exact Nat.mod_lt _ hp
      have nd' : ms.Nodup := h.nodup_iff.mpr nd
      have asc : ms.Pairwise (· < ·) := List.Pairwise.imp (fun ⟨a, b⟩ => Nat.lt_of_le_of_ne a b) (List.pairwise_and_iff.mpr ⟨hs, nd'⟩)
      refine asc_eq asc List.pairwise_lt_range fun x => ?_
      rw [h.mem_iff, List.mem_range]
      refine ⟨fun hx => hlt x hx, fun hx => ?_⟩
      by_cases q : x ∈ mulL p f
      · exact q
      · have := nodup_len (l := x :: mulL p f) (n := p) (List.nodup_cons.mpr ⟨q, nd⟩) (fun y hy => by
          rcases List.mem_cons.mp hy with rfl | hy
          · exact hx
          · exact hlt y hy)
        have l1 : (mulL p f).length = p := by simp [mulL]
        rw [List.length_cons, l1] at this
        omega
  by_cases q : permB p f = true
  · rw [q, decide_eq_true (e.mpr q)]
  · rw [Bool.eq_false_iff.mpr q, decide_eq_false fun z => q (e.mp z)]
theorem int_at {ns : List Int} {k : Nat} (h : k < ns.length) : atI (ns.map Dt.int) (k : Int) = some (.int (ns.getD k 0)) := atI_nat (by rw [List.getElem?_map, List.getD_eq_getElem?_getD, List.getElem?_eq_getElem h]; rfl)
theorem cut_drop {α : Type} {xs : List α} {z : Int} {k : Nat} (h : k ≤ xs.length) (hz : z = (k : Int)) : cutT xs (some z) none = xs.drop k := by
  subst hz
  unfold cutT
  rw [HT.sIx_nat, HT.sIx_none, Nat.min_eq_left h]
  rw [List.take_of_length_le (by rw [List.length_drop]; omega)]
theorem cut_mid {α : Type} {xs : List α} {y z : Int} {j k : Nat} (h : j ≤ xs.length) (h2 : k ≤ xs.length) (hy : y = (j : Int)) (hz : z = (k : Int)) : cutT xs (some y) (some z) = (xs.drop j).take (k - j) := by
  subst hy
  subst hz
  unfold cutT
  rw [HT.sIx_nat, HT.sIx_nat, Nat.min_eq_left h, Nat.min_eq_left h2]
theorem cut_head {α : Type} {xs : List α} {z : Int} {k : Nat} (h : k ≤ xs.length) (hz : z = (k : Int)) : cutT xs none (some z) = xs.take k := by
  subst hz
  unfold cutT
  rw [HT.sIx_nat, HT.sIx_none, Nat.min_eq_left h]
  rfl
theorem sel_at {z : Int} {ch : List Nat} (h : 0 < ch.length) : atI (nD ch) (z % (ch.length : Int)) = some (.int ((selG z ch : Nat) : Int)) ∧ selG z ch ∈ ch := by
  have h1 := Int.emod_nonneg z (show (ch.length : Int) ≠ 0 by omega)
  have h2 := Int.emod_lt_of_pos z (show (0 : Int) < (ch.length : Int) by omega)
  have e : z % (ch.length : Int) = (((z % (ch.length : Int)).toNat : Nat) : Int) := by omega
  have hl : (z % (ch.length : Int)).toNat < ch.length := by omega
  constructor
  · rw [e]
    refine nD_at ?_
    unfold selG
    rw [List.getD_eq_getElem?_getD, List.getElem?_eq_getElem hl]
    rfl
  · unfold selG
    rw [List.getD_eq_getElem?_getD, List.getElem?_eq_getElem hl]
    exact List.getElem_mem hl
end CM
set_option Elab.async false
set_option linter.all false
set_option maxRecDepth 100000
set_option maxHeartbeats 1000000
/-! Walks: the helper's numbers and tables. -/
namespace CM
open PySem PySem.Spec PyProof.Rows L2
def R_law_cell : List Dt → Dt → Prop := fun ds r => ∃ ns k, ds = [.scr ns, .int ((k : Nat) : Int)] ∧ r = .int (cellF ns k)
theorem sc_law_cell : FnScope ["_law_script", "_law_k"] ["_law_script", "_law_k"] (defScope s_law_cell) := ⟨rfl, rfl, rfl, by decide +kernel, rfl, by decide +kernel, by decide +kernel⟩
theorem w_law_cell {P : Program} {w : World} {K : PySem.W.Frag} {mg : Str → Option Value} {base : Heap} {C : Addr} (T : Tx K mg C) (D : FnS K mg "_law_cell" s_law_cell) : Fn P w K mg base C "_law_cell" 1 [false, false] R_law_cell := by
  obtain ⟨f, fd, F, hm⟩ := D
  have S := sc_law_cell
  obtain ⟨tM, hM⟩ := T.most
  refine Fn.of F (fn_ok (k := 0) (fl := [false, false]) (R := R_law_cell) F S rfl (by decide) (fun ds r h => rawFree _ _ (by decide)) (fun cdv A outer s H E hr => have hu := hu_of hr; dss_cons (ds_if (db_lt (dv 1) (de_lenScr T.len (dv 0))) (dss_one (ds_ret (de_abs T.abs (de_ixScr (dv 0) (dv 1))))) dss_nil)
      (dss_one (ds_ret de_int))) ?hp) (F.bindsN fun _ _ _ _ _ _ us hl => match us, hl with | [_, _], _ => rfl) hm
  case hp =>
    rintro ds r ⟨ns, k, rfl, rfl⟩ -
    refine ⟨_, ⟨_, _, rfl, ⟨_, rfl, rfl⟩, rfl⟩, fun hb => ?_, fun hb => ?_⟩
    · have hk : k < ns.length := by simpa using hb
      have hat : atI ns (k : Int) = some ns[k] := atI_nat (List.getElem?_eq_getElem hk)
      refine ⟨_, ⟨_, ⟨_, _, _, rfl, rfl, (by first | assumption | exact nD_at ‹_› | exact atI_nat ‹_› | exact bD_at ‹_›), rfl⟩, rfl⟩, ?_⟩
      simp [cellF, List.getElem?_eq_getElem hk]
    · have hk : ns.length ≤ k := by simpa using hb
      refine ⟨_, rfl, ?_⟩
      simp [cellF, List.getElem?_eq_none hk]
def R_law_numbers : List Dt → Dt → Prop := fun ds r => ∃ c n, ds = [.int c, .int ((n : Nat) : Int)] ∧ n ≤ 1000 ∧ r = lI (numF c n)
theorem sc_law_numbers : FnScope ["_law_cell_here", "_law_count", "_law_rest", "_law_numbers_here", "_law_k", "_law_mixed"] ["_law_cell_here", "_law_count"] (defScope s_law_numbers) := ⟨rfl, rfl, rfl, by decide +kernel, rfl, by decide +kernel, by decide +kernel⟩
theorem w_law_numbers {P : Program} {w : World} {K : PySem.W.Frag} {mg : Str → Option Value} {base : Heap} {C : Addr} (T : Tx K mg C) (D : FnS K mg "_law_numbers" s_law_numbers) : Fn P w K mg base C "_law_numbers" 1 [false, false] R_law_numbers := by
  obtain ⟨f, fd, F, hm⟩ := D
  have S := sc_law_numbers
  obtain ⟨tM, hM⟩ := T.most
  refine Fn.of F (fn_ok (k := 0) (fl := [false, false]) (R := R_law_numbers) F S rfl (by decide) (fun ds r h => rawFree _ _ (by decide)) (fun cdv A outer s H E hr => have hu := hu_of hr; dss_cons (ds_set 2 S.nd de_int)
      (dss_cons (ds_if (db_ge (dv 0) (de_pow de_int de_int)) (dss_one (ds_set 2 S.nd (de_sub (dv 0) (de_pow de_int de_int)))) dss_nil)
      (dss_cons (ds_own 3 S.nd (df_lst da_nil))
      (dss_cons (ds_for PassesOwn.never rfl (di_rng1 T.range (dv 1)) (dg_name 4 S.nd) (dss_one (ds_if (db_gt (dv 2) de_int) (dss_cons (ds_app 3 (de_mod (de_toInt T.int (dv 2)) de_int))
      (dss_one (ds_set 2 S.nd (de_fdiv (dv 2) de_int)))) (dss_cons (ds_set 5 S.nd (de_mod (de_toInt T.int (de_add (de_mul (dv 0) de_int) (de_mul (de_add (dv 4) de_int) de_int))) de_int))
      (dss_cons (ds_set 5 S.nd (de_mod (de_toInt T.int (de_add (de_mul (dv 5) (dv 5)) (de_mul (de_add (dv 4) de_int) de_int))) de_int))
      (dss_cons (ds_set 5 S.nd (de_mod (de_toInt T.int (de_add (de_add (de_mul (dv 5) de_int) (dv 0)) (dv 4))) de_int))
      (dss_one (ds_app 3 (de_fdiv (dv 5) de_int)))))))))
      (dss_one (ds_retO 3)))))) ?hp) (F.bindsN fun _ _ _ _ _ _ us hl => match us, hl with | [_, _], _ => rfl) hm
  case hp =>
    rintro ds r ⟨c, n, rfl, hn, rfl⟩ -
    have key : ∀ rest, rest = (if (10 : Int) ^ 18 ≤ c then c - 10 ^ 18 else 0) → dOwn 3 (fun env ts => (fun x ds => ds = []) env ts ∧ ts.length ≤ 1000) = dOwn 3 (fun env ts => (fun x ds => ds = []) env ts ∧ ts.length ≤ 1000) := fun _ _ => rfl
    refine ⟨_, rfl, ?_⟩
    refine ⟨_, ⟨_, _, rfl, ⟨_, _, rfl, rfl, (by exact ⟨by omega, by omega, by omega⟩), rfl⟩, rfl⟩, fun hb => ?_, fun hb => ?_⟩
    · have hb' : (10 : Int) ^ 18 ≤ c := of_decide_eq_true hb
      refine ⟨_, ⟨_, _, rfl, ⟨_, _, rfl, rfl, (by exact ⟨by omega, by omega, by omega⟩), rfl⟩, rfl⟩, ?_⟩
      have e0 : numTo c 0 = (c - 10 ^ 18, []) := by simp only [numTo, List.range_zero, List.foldl_nil]; rw [if_pos hb']
      refine ⟨_, ⟨rfl, (by first | (simp; done) | omega | (simp; omega))⟩, ?_⟩
      refine ⟨_, ⟨_, rfl, (by first | omega | (simp at *; omega) | (simp; omega)), (by first | omega | (simp at *; omega) | (simp; omega)), rfl⟩, fun k env => ∃ s4 s5, env = [.sh (.int c), .sh (.int (n : Int)), .sh (.int (numTo c k).1), .own ((numTo c k).2.map .int), s4, s5], ?_, fun k t env' hk hw => ?_, fun env' hw => ?_⟩
      · exact ⟨_, _, by rw [e0]; rfl⟩
      · obtain ⟨s4, s5, rfl⟩ := hw
        rw [nD_rng] at hk
        obtain ⟨k', hk', rfl⟩ := nD_at' hk
        obtain ⟨hkn, e⟩ := List.getElem?_eq_some_iff.mp hk'
        rw [List.getElem_range] at e
        subst e
        rw [List.length_range] at hkn
        have hll := numTo_len c k
        refine ⟨_, rfl, ?_⟩
        refine ⟨_, ⟨_, _, rfl, rfl, rfl⟩, fun hb => ?_, fun hb => ?_⟩
        · have hb2 : 0 < (numTo c k).1 := of_decide_eq_true hb
          refine ⟨_, _, rfl, ⟨_, _, ⟨_, rfl, rfl⟩, rfl, (by first | omega | (simp at *; omega) | (simp; omega)), rfl⟩, (by simp; omega), ?_⟩
          refine ⟨_, ⟨_, _, rfl, rfl, (by exact ⟨by omega, by omega⟩), rfl⟩, ?_⟩
          refine ⟨.sh (.int (k : Int)), s5, ?_⟩
          have e1 : numTo c (k + 1) = ((numTo c k).1 / 1000, (numTo c k).2 ++ [(numTo c k).1 % 1000]) := by rw [numTo_succ, numStep, if_pos hb2]
          rw [e1]
          simp
        · have hb2 : ¬ 0 < (numTo c k).1 := of_decide_eq_false hb
          refine ⟨_, ⟨_, _, ⟨_, ⟨_, _, ⟨_, _, rfl, rfl, (by first | (refine Or.inr ⟨?_, ?_⟩ <;> omega) | (refine Or.inl ⟨?_, ?_⟩ <;> omega)), rfl⟩, ⟨_, _, ⟨_, _, rfl, rfl, rfl⟩, rfl, (by first | (refine Or.inr ⟨?_, ?_⟩ <;> omega) | (refine Or.inl ⟨?_, ?_⟩ <;> omega)), rfl⟩, rfl⟩, rfl⟩, rfl, (by first | omega | (simp at *; omega) | (simp; omega)), rfl⟩, ?_⟩
          refine ⟨_, ⟨_, _, ⟨_, ⟨_, _, ⟨_, _, rfl, rfl, (by first | (refine Or.inr ⟨?_, ?_⟩ <;> omega) | (refine Or.inl ⟨?_, ?_⟩ <;> omega)), rfl⟩, ⟨_, _, ⟨_, _, rfl, rfl, rfl⟩, rfl, (by first | (refine Or.inr ⟨?_, ?_⟩ <;> omega) | (refine Or.inl ⟨?_, ?_⟩ <;> omega)), rfl⟩, rfl⟩, rfl⟩, rfl, (by first | omega | (simp at *; omega) | (simp; omega)), rfl⟩, ?_⟩
          refine ⟨_, ⟨_, _, ⟨_, ⟨_, _, ⟨_, _, ⟨_, _, rfl, rfl, (by first | (refine Or.inr ⟨?_, ?_⟩ <;> omega) | (refine Or.inl ⟨?_, ?_⟩ <;> omega)), rfl⟩, rfl, rfl⟩, rfl, rfl⟩, rfl⟩, rfl, (by first | omega | (simp at *; omega) | (simp; omega)), rfl⟩, ?_⟩
          refine ⟨_, _, rfl, ⟨_, _, rfl, rfl, (by exact ⟨by omega, by omega⟩), rfl⟩, (by simp; omega), ?_⟩
          refine ⟨.sh (.int (k : Int)), .sh (.int (mix3 c k)), ?_⟩
          have e1 : numTo c (k + 1) = ((numTo c k).1, (numTo c k).2 ++ [mix3 c k / 5]) := by rw [numTo_succ, numStep, if_neg hb2]
          rw [e1, List.map_append]
          rfl
      · obtain ⟨s4, s5, rfl⟩ := hw
        refine ⟨_, rfl, ?_⟩
        rw [nD_rng, nD_len, List.length_range]
        rfl
    · have hb' : ¬ (10 : Int) ^ 18 ≤ c := of_decide_eq_false hb
      have e0 : numTo c 0 = (0, []) := by simp only [numTo, List.range_zero, List.foldl_nil]; rw [if_neg hb']
      refine ⟨_, ⟨rfl, (by first | (simp; done) | omega | (simp; omega))⟩, ?_⟩
      refine ⟨_, ⟨_, rfl, (by first | omega | (simp at *; omega) | (simp; omega)), (by first | omega | (simp at *; omega) | (simp; omega)), rfl⟩, fun k env => ∃ s4 s5, env = [.sh (.int c), .sh (.int (n : Int)), .sh (.int (numTo c k).1), .own ((numTo c k).2.map .int), s4, s5], ?_, fun k t env' hk hw => ?_, fun env' hw => ?_⟩
      · exact ⟨_, _, by rw [e0]; rfl⟩
      · obtain ⟨s4, s5, rfl⟩ := hw
        rw [nD_rng] at hk
        obtain ⟨k', hk', rfl⟩ := nD_at' hk
        obtain ⟨hkn, e⟩ := List.getElem?_eq_some_iff.mp hk'
        rw [List.getElem_range] at e
        subst e
        rw [List.length_range] at hkn
        have hll := numTo_len c k
        refine ⟨_, rfl, ?_⟩
        refine ⟨_, ⟨_, _, rfl, rfl, rfl⟩, fun hb => ?_, fun hb => ?_⟩
        · have hb2 : 0 < (numTo c k).1 := of_decide_eq_true hb
          refine ⟨_, _, rfl, ⟨_, _, ⟨_, rfl, rfl⟩, rfl, (by first | omega | (simp at *; omega) | (simp; omega)), rfl⟩, (by simp; omega), ?_⟩
          refine ⟨_, ⟨_, _, rfl, rfl, (by exact ⟨by omega, by omega⟩), rfl⟩, ?_⟩
          refine ⟨.sh (.int (k : Int)), s5, ?_⟩
          have e1 : numTo c (k + 1) = ((numTo c k).1 / 1000, (numTo c k).2 ++ [(numTo c k).1 % 1000]) := by rw [numTo_succ, numStep, if_pos hb2]
          rw [e1]
          simp
        · have hb2 : ¬ 0 < (numTo c k).1 := of_decide_eq_false hb
          refine ⟨_, ⟨_, _, ⟨_, ⟨_, _, ⟨_, _, rfl, rfl, (by first | (refine Or.inr ⟨?_, ?_⟩ <;> omega) | (refine Or.inl ⟨?_, ?_⟩ <;> omega)), rfl⟩, ⟨_, _, ⟨_, _, rfl, rfl, rfl⟩, rfl, (by first | (refine Or.inr ⟨?_, ?_⟩ <;> omega) | (refine Or.inl ⟨?_, ?_⟩ <;> omega)), rfl⟩, rfl⟩, rfl⟩, rfl, (by first | omega | (simp at *; omega) | (simp; omega)), rfl⟩, ?_⟩
          refine ⟨_, ⟨_, _, ⟨_, ⟨_, _, ⟨_, _, rfl, rfl, (by first | (refine Or.inr ⟨?_, ?_⟩ <;> omega) | (refine Or.inl ⟨?_, ?_⟩ <;> omega)), rfl⟩, ⟨_, _, ⟨_, _, rfl, rfl, rfl⟩, rfl, (by first | (refine Or.inr ⟨?_, ?_⟩ <;> omega) | (refine Or.inl ⟨?_, ?_⟩ <;> omega)), rfl⟩, rfl⟩, rfl⟩, rfl, (by first | omega | (simp at *; omega) | (simp; omega)), rfl⟩, ?_⟩
          refine ⟨_, ⟨_, _, ⟨_, ⟨_, _, ⟨_, _, ⟨_, _, rfl, rfl, (by first | (refine Or.inr ⟨?_, ?_⟩ <;> omega) | (refine Or.inl ⟨?_, ?_⟩ <;> omega)), rfl⟩, rfl, rfl⟩, rfl, rfl⟩, rfl⟩, rfl, (by first | omega | (simp at *; omega) | (simp; omega)), rfl⟩, ?_⟩
          refine ⟨_, _, rfl, ⟨_, _, rfl, rfl, (by exact ⟨by omega, by omega⟩), rfl⟩, (by simp; omega), ?_⟩
          refine ⟨.sh (.int (k : Int)), .sh (.int (mix3 c k)), ?_⟩
          have e1 : numTo c (k + 1) = ((numTo c k).1, (numTo c k).2 ++ [mix3 c k / 5]) := by rw [numTo_succ, numStep, if_neg hb2]
          rw [e1, List.map_append]
          rfl
      · obtain ⟨s4, s5, rfl⟩ := hw
        refine ⟨_, rfl, ?_⟩
        rw [nD_rng, nD_len, List.length_range]
        rfl
end CM
set_option Elab.async false
set_option linter.all false
set_option maxRecDepth 100000
set_option maxHeartbeats 1000000
/-! Walks: the helper's tables. -/
namespace CM
open PySem PySem.Spec PyProof.Rows L2
abbrev movD (gs : List (List Nat)) : List Dt := gs.map fun g => lN g
def menuN : List (List (List Nat)) := [[[0]], [[1, 0]], [[1, 2, 0]], [[1, 2, 3, 0]], [[1, 0, 2, 3], [0, 1, 3, 2]], [[1, 2, 3, 4, 0]],
  [[1, 2, 0], [1, 0, 2]], [[1, 2, 0, 3, 4], [0, 1, 2, 4, 3]], [[1, 2, 3, 0], [0, 3, 2, 1]], [[2, 3, 1, 0, 7, 6, 4, 5], [4, 5, 6, 7, 1, 0, 3, 2]], [[1, 2, 3, 0, 4, 5], [0, 1, 2, 3, 5, 4]],
  [[1, 0, 2, 3, 4, 5], [0, 1, 3, 2, 4, 5], [0, 1, 2, 3, 5, 4]], [[1, 2, 3, 4, 5, 6, 7, 0]], [[1, 2, 0, 3, 4, 5], [0, 1, 2, 4, 5, 3]], [[1, 2, 3, 4, 0], [0, 4, 3, 2, 1]],
  [[1, 2, 0, 3], [1, 0, 3, 2]], [[1, 2, 0, 3, 4, 5, 6], [0, 2, 1, 4, 5, 6, 3]], [[1, 2, 0, 3, 4], [1, 0, 2, 3, 4], [0, 1, 2, 4, 3]], [[1, 2, 3, 4, 5, 6, 7, 0], [0, 7, 6, 5, 4, 3, 2, 1]],
  [[1, 2, 3, 4, 0], [0, 2, 4, 1, 3]], [[1, 2, 3, 4, 5, 6, 0], [0, 2, 4, 6, 1, 3, 5]], [[1, 2, 3, 0], [1, 0, 2, 3]]]
def menuG (z : Int) : List (List Nat) := menuN.getD (z % 22).toNat []
abbrev menuD (l : List (List (List Nat))) : List Dt := l.map fun g => Dt.lst (movD g)
def R_law_generators : List Dt → Dt → Prop := fun ds r => ∃ z : Int, ds = [.int z] ∧ r = .lst (movD (menuG z))
theorem sc_law_generators : FnScope ["_law_choice", "_law_menu"] ["_law_choice"] (defScope s_law_generators) := ⟨rfl, rfl, rfl, by decide +kernel, rfl, by decide +kernel, by decide +kernel⟩
theorem w_law_generators {P : Program} {w : World} {K : PySem.W.Frag} {mg : Str → Option Value} {base : Heap} {C : Addr} (T : Tx K mg C) (D : FnS K mg "_law_generators" s_law_generators) : Fn P w K mg base C "_law_generators" 1 [false] R_law_generators := by
  obtain ⟨f, fd, F, hm⟩ := D
  have S := sc_law_generators
  obtain ⟨tM, hM⟩ := T.most
  refine Fn.of F (fn_ok (k := 0) (fl := [false]) (R := R_law_generators) F S rfl (by decide) (fun ds r h => rawFree _ _ (by decide)) (fun cdv A outer s H E hr => have hu := hu_of hr; dss_cons (ds_set 1 S.nd ((df_lst (da_sh ((df_lst (da_sh ((df_lst (da_sh de_int da_nil)).tree) da_nil)).tree) (da_sh ((df_lst (da_sh ((df_lst (da_sh de_int (da_sh de_int da_nil))).tree) da_nil)).tree) (da_sh ((df_lst (da_sh ((df_lst (da_sh de_int (da_sh de_int (da_sh de_int da_nil)))).tree) da_nil)).tree) (da_sh ((df_lst (da_sh ((df_lst (da_sh de_int (da_sh de_int (da_sh de_int (da_sh de_int da_nil))))).tree) da_nil)).tree) (da_sh ((df_lst (da_sh ((df_lst (da_sh de_int (da_sh de_int (da_sh de_int (da_sh de_int da_nil))))).tree) (da_sh ((df_lst (da_sh de_int (da_sh de_int (da_sh de_int (da_sh de_int da_nil))))).tree) da_nil))).tree) (da_sh ((df_lst (da_sh ((df_lst (da_sh de_int (da_sh de_int (da_sh de_int (da_sh de_int (da_sh de_int da_nil)))))).tree) da_nil)).tree) da_nil))))))).tree))
      (dss_cons (ds_set 1 S.nd ((df_cat ((dv 1).r) (((df_lst (da_sh ((df_lst (da_sh ((df_lst (da_sh de_int (da_sh de_int (da_sh de_int da_nil)))).tree) (da_sh ((df_lst (da_sh de_int (da_sh de_int (da_sh de_int da_nil)))).tree) da_nil))).tree) (da_sh ((df_lst (da_sh ((df_lst (da_sh de_int (da_sh de_int (da_sh de_int (da_sh de_int (da_sh de_int da_nil)))))).tree) (da_sh ((df_lst (da_sh de_int (da_sh de_int (da_sh de_int (da_sh de_int (da_sh de_int da_nil)))))).tree) da_nil))).tree) (da_sh ((df_lst (da_sh ((df_lst (da_sh de_int (da_sh de_int (da_sh de_int (da_sh de_int da_nil))))).tree) (da_sh ((df_lst (da_sh de_int (da_sh de_int (da_sh de_int (da_sh de_int da_nil))))).tree) da_nil))).tree) da_nil)))).tree).r)).tree))
      (dss_cons (ds_set 1 S.nd ((df_cat ((dv 1).r) (((df_lst (da_sh ((df_lst (da_sh ((df_lst (da_sh de_int (da_sh de_int (da_sh de_int (da_sh de_int (da_sh de_int (da_sh de_int (da_sh de_int (da_sh de_int da_nil))))))))).tree) (da_sh ((df_lst (da_sh de_int (da_sh de_int (da_sh de_int (da_sh de_int (da_sh de_int (da_sh de_int (da_sh de_int (da_sh de_int da_nil))))))))).tree) da_nil))).tree) (da_sh ((df_lst (da_sh ((df_lst (da_sh de_int (da_sh de_int (da_sh de_int (da_sh de_int (da_sh de_int (da_sh de_int da_nil))))))).tree) (da_sh ((df_lst (da_sh de_int (da_sh de_int (da_sh de_int (da_sh de_int (da_sh de_int (da_sh de_int da_nil))))))).tree) da_nil))).tree) da_nil))).tree).r)).tree))
      (dss_cons (ds_set 1 S.nd ((df_cat ((dv 1).r) (((df_lst (da_sh ((df_lst (da_sh ((df_lst (da_sh de_int (da_sh de_int (da_sh de_int (da_sh de_int (da_sh de_int (da_sh de_int da_nil))))))).tree) (da_sh ((df_lst (da_sh de_int (da_sh de_int (da_sh de_int (da_sh de_int (da_sh de_int (da_sh de_int da_nil))))))).tree) (da_sh ((df_lst (da_sh de_int (da_sh de_int (da_sh de_int (da_sh de_int (da_sh de_int (da_sh de_int da_nil))))))).tree) da_nil)))).tree) (da_sh ((df_lst (da_sh ((df_lst (da_sh de_int (da_sh de_int (da_sh de_int (da_sh de_int (da_sh de_int (da_sh de_int (da_sh de_int (da_sh de_int da_nil))))))))).tree) da_nil)).tree) da_nil))).tree).r)).tree))
      (dss_cons (ds_set 1 S.nd ((df_cat ((dv 1).r) (((df_lst (da_sh ((df_lst (da_sh ((df_lst (da_sh de_int (da_sh de_int (da_sh de_int (da_sh de_int (da_sh de_int (da_sh de_int da_nil))))))).tree) (da_sh ((df_lst (da_sh de_int (da_sh de_int (da_sh de_int (da_sh de_int (da_sh de_int (da_sh de_int da_nil))))))).tree) da_nil))).tree) (da_sh ((df_lst (da_sh ((df_lst (da_sh de_int (da_sh de_int (da_sh de_int (da_sh de_int (da_sh de_int da_nil)))))).tree) (da_sh ((df_lst (da_sh de_int (da_sh de_int (da_sh de_int (da_sh de_int (da_sh de_int da_nil)))))).tree) da_nil))).tree) da_nil))).tree).r)).tree))
      (dss_cons (ds_set 1 S.nd ((df_cat ((dv 1).r) (((df_lst (da_sh ((df_lst (da_sh ((df_lst (da_sh de_int (da_sh de_int (da_sh de_int (da_sh de_int da_nil))))).tree) (da_sh ((df_lst (da_sh de_int (da_sh de_int (da_sh de_int (da_sh de_int da_nil))))).tree) da_nil))).tree) (da_sh ((df_lst (da_sh ((df_lst (da_sh de_int (da_sh de_int (da_sh de_int (da_sh de_int (da_sh de_int (da_sh de_int (da_sh de_int da_nil)))))))).tree) (da_sh ((df_lst (da_sh de_int (da_sh de_int (da_sh de_int (da_sh de_int (da_sh de_int (da_sh de_int (da_sh de_int da_nil)))))))).tree) da_nil))).tree) da_nil))).tree).r)).tree))
      (dss_cons (ds_set 1 S.nd ((df_cat ((dv 1).r) (((df_lst (da_sh ((df_lst (da_sh ((df_lst (da_sh de_int (da_sh de_int (da_sh de_int (da_sh de_int (da_sh de_int da_nil)))))).tree) (da_sh ((df_lst (da_sh de_int (da_sh de_int (da_sh de_int (da_sh de_int (da_sh de_int da_nil)))))).tree) (da_sh ((df_lst (da_sh de_int (da_sh de_int (da_sh de_int (da_sh de_int (da_sh de_int da_nil)))))).tree) da_nil)))).tree) (da_sh ((df_lst (da_sh ((df_lst (da_sh de_int (da_sh de_int (da_sh de_int (da_sh de_int (da_sh de_int (da_sh de_int (da_sh de_int (da_sh de_int da_nil))))))))).tree) (da_sh ((df_lst (da_sh de_int (da_sh de_int (da_sh de_int (da_sh de_int (da_sh de_int (da_sh de_int (da_sh de_int (da_sh de_int da_nil))))))))).tree) da_nil))).tree) da_nil))).tree).r)).tree))
      (dss_cons (ds_set 1 S.nd ((df_cat ((dv 1).r) (((df_lst (da_sh ((df_lst (da_sh ((df_lst (da_sh de_int (da_sh de_int (da_sh de_int (da_sh de_int (da_sh de_int da_nil)))))).tree) (da_sh ((df_lst (da_sh de_int (da_sh de_int (da_sh de_int (da_sh de_int (da_sh de_int da_nil)))))).tree) da_nil))).tree) (da_sh ((df_lst (da_sh ((df_lst (da_sh de_int (da_sh de_int (da_sh de_int (da_sh de_int (da_sh de_int (da_sh de_int (da_sh de_int da_nil)))))))).tree) (da_sh ((df_lst (da_sh de_int (da_sh de_int (da_sh de_int (da_sh de_int (da_sh de_int (da_sh de_int (da_sh de_int da_nil)))))))).tree) da_nil))).tree) da_nil))).tree).r)).tree))
      (dss_cons (ds_set 1 S.nd ((df_cat ((dv 1).r) (((df_lst (da_sh ((df_lst (da_sh ((df_lst (da_sh de_int (da_sh de_int (da_sh de_int (da_sh de_int da_nil))))).tree) (da_sh ((df_lst (da_sh de_int (da_sh de_int (da_sh de_int (da_sh de_int da_nil))))).tree) da_nil))).tree) da_nil)).tree).r)).tree))
      (dss_one (ds_ret (de_ix ((dv 1).r) (de_mod (de_toInt T.int (dv 0)) (de_len T.len ((dv 1).r))))))))))))))) ?hp) (F.bindsN fun _ _ _ _ _ _ us hl => match us, hl with | [_], _ => rfl) hm
  case hp =>
    rintro ds r ⟨z, rfl, rfl⟩ -
    have hat : ∀ l : List Dt, l = menuD menuN → atI l (z % (l.length : Int)) = some (.lst (movD (menuG z))) := by
      rintro l rfl
      have hl : (menuD menuN).length = 22 := rfl
      have h1 := Int.emod_nonneg z (show (22 : Int) ≠ 0 by decide)
      have h2 := Int.emod_lt_of_pos z (show (0 : Int) < 22 by decide)
      rw [hl]
      have e : z % ((22 : Nat) : Int) = (((z % 22).toNat : Nat) : Int) := by
        show z % 22 = _
        omega
      rw [e]
      refine atI_nat ?_
      have h3 : (z % 22).toNat < menuN.length := by
        show _ < 22
        omega
      rw [List.getElem?_map, List.getElem?_eq_getElem h3]
      show some (Dt.lst (movD menuN[(z % 22).toNat])) = _
      unfold menuG
      rw [List.getD_eq_getElem?_getD, List.getElem?_eq_getElem h3]
      rfl
    refine ⟨_, ⟨_, ⟨⟨_, _, ⟨_, ⟨⟨_, _, ⟨_, ⟨⟨_, _, rfl, rfl, rfl⟩, (by first | (simp; done) | omega | (simp; omega))⟩, rfl⟩, rfl, rfl⟩, (by first | (simp; done) | omega | (simp; omega))⟩, rfl⟩, ⟨_, _, ⟨_, ⟨⟨_, _, ⟨_, ⟨⟨_, _, rfl, ⟨_, _, rfl, rfl, rfl⟩, rfl⟩, (by first | (simp; done) | omega | (simp; omega))⟩, rfl⟩, rfl, rfl⟩, (by first | (simp; done) | omega | (simp; omega))⟩, rfl⟩, ⟨_, _, ⟨_, ⟨⟨_, _, ⟨_, ⟨⟨_, _, rfl, ⟨_, _, rfl, ⟨_, _, rfl, rfl, rfl⟩, rfl⟩, rfl⟩, (by first | (simp; done) | omega | (simp; omega))⟩, rfl⟩, rfl, rfl⟩, (by first | (simp; done) | omega | (simp; omega))⟩, rfl⟩, ⟨_, _, ⟨_, ⟨⟨_, _, ⟨_, ⟨⟨_, _, rfl, ⟨_, _, rfl, ⟨_, _, rfl, ⟨_, _, rfl, rfl, rfl⟩, rfl⟩, rfl⟩, rfl⟩, (by first | (simp; done) | omega | (simp; omega))⟩, rfl⟩, rfl, rfl⟩, (by first | (simp; done) | omega | (simp; omega))⟩, rfl⟩, ⟨_, _, ⟨_, ⟨⟨_, _, ⟨_, ⟨⟨_, _, rfl, ⟨_, _, rfl, ⟨_, _, rfl, ⟨_, _, rfl, rfl, rfl⟩, rfl⟩, rfl⟩, rfl⟩, (by first | (simp; done) | omega | (simp; omega))⟩, rfl⟩, ⟨_, _, ⟨_, ⟨⟨_, _, rfl, ⟨_, _, rfl, ⟨_, _, rfl, ⟨_, _, rfl, rfl, rfl⟩, rfl⟩, rfl⟩, rfl⟩, (by first | (simp; done) | omega | (simp; omega))⟩, rfl⟩, rfl, rfl⟩, rfl⟩, (by first | (simp; done) | omega | (simp; omega))⟩, rfl⟩, ⟨_, _, ⟨_, ⟨⟨_, _, ⟨_, ⟨⟨_, _, rfl, ⟨_, _, rfl, ⟨_, _, rfl, ⟨_, _, rfl, ⟨_, _, rfl, rfl, rfl⟩, rfl⟩, rfl⟩, rfl⟩, rfl⟩, (by first | (simp; done) | omega | (simp; omega))⟩, rfl⟩, rfl, rfl⟩, (by first | (simp; done) | omega | (simp; omega))⟩, rfl⟩, rfl, rfl⟩, rfl⟩, rfl⟩, rfl⟩, rfl⟩, rfl⟩, (by first | (simp; done) | omega | (simp; omega))⟩, rfl⟩, ?_⟩
    refine ⟨_, ⟨_, ⟨_, _, rfl, ⟨_, ⟨⟨_, _, ⟨_, ⟨⟨_, _, ⟨_, ⟨⟨_, _, rfl, ⟨_, _, rfl, ⟨_, _, rfl, rfl, rfl⟩, rfl⟩, rfl⟩, (by first | (simp; done) | omega | (simp; omega))⟩, rfl⟩, ⟨_, _, ⟨_, ⟨⟨_, _, rfl, ⟨_, _, rfl, ⟨_, _, rfl, rfl, rfl⟩, rfl⟩, rfl⟩, (by first | (simp; done) | omega | (simp; omega))⟩, rfl⟩, rfl, rfl⟩, rfl⟩, (by first | (simp; done) | omega | (simp; omega))⟩, rfl⟩, ⟨_, _, ⟨_, ⟨⟨_, _, ⟨_, ⟨⟨_, _, rfl, ⟨_, _, rfl, ⟨_, _, rfl, ⟨_, _, rfl, ⟨_, _, rfl, rfl, rfl⟩, rfl⟩, rfl⟩, rfl⟩, rfl⟩, (by first | (simp; done) | omega | (simp; omega))⟩, rfl⟩, ⟨_, _, ⟨_, ⟨⟨_, _, rfl, ⟨_, _, rfl, ⟨_, _, rfl, ⟨_, _, rfl, ⟨_, _, rfl, rfl, rfl⟩, rfl⟩, rfl⟩, rfl⟩, rfl⟩, (by first | (simp; done) | omega | (simp; omega))⟩, rfl⟩, rfl, rfl⟩, rfl⟩, (by first | (simp; done) | omega | (simp; omega))⟩, rfl⟩, ⟨_, _, ⟨_, ⟨⟨_, _, ⟨_, ⟨⟨_, _, rfl, ⟨_, _, rfl, ⟨_, _, rfl, ⟨_, _, rfl, rfl, rfl⟩, rfl⟩, rfl⟩, rfl⟩, (by first | (simp; done) | omega | (simp; omega))⟩, rfl⟩, ⟨_, _, ⟨_, ⟨⟨_, _, rfl, ⟨_, _, rfl, ⟨_, _, rfl, ⟨_, _, rfl, rfl, rfl⟩, rfl⟩, rfl⟩, rfl⟩, (by first | (simp; done) | omega | (simp; omega))⟩, rfl⟩, rfl, rfl⟩, rfl⟩, (by first | (simp; done) | omega | (simp; omega))⟩, rfl⟩, rfl, rfl⟩, rfl⟩, rfl⟩, (by first | (simp; done) | omega | (simp; omega))⟩, rfl⟩, (by first | (simp; done) | omega | (simp; omega)), rfl⟩, rfl⟩, ?_⟩
    refine ⟨_, ⟨_, ⟨_, _, rfl, ⟨_, ⟨⟨_, _, ⟨_, ⟨⟨_, _, ⟨_, ⟨⟨_, _, rfl, ⟨_, _, rfl, ⟨_, _, rfl, ⟨_, _, rfl, ⟨_, _, rfl, ⟨_, _, rfl, ⟨_, _, rfl, ⟨_, _, rfl, rfl, rfl⟩, rfl⟩, rfl⟩, rfl⟩, rfl⟩, rfl⟩, rfl⟩, rfl⟩, (by first | (simp; done) | omega | (simp; omega))⟩, rfl⟩, ⟨_, _, ⟨_, ⟨⟨_, _, rfl, ⟨_, _, rfl, ⟨_, _, rfl, ⟨_, _, rfl, ⟨_, _, rfl, ⟨_, _, rfl, ⟨_, _, rfl, ⟨_, _, rfl, rfl, rfl⟩, rfl⟩, rfl⟩, rfl⟩, rfl⟩, rfl⟩, rfl⟩, rfl⟩, (by first | (simp; done) | omega | (simp; omega))⟩, rfl⟩, rfl, rfl⟩, rfl⟩, (by first | (simp; done) | omega | (simp; omega))⟩, rfl⟩, ⟨_, _, ⟨_, ⟨⟨_, _, ⟨_, ⟨⟨_, _, rfl, ⟨_, _, rfl, ⟨_, _, rfl, ⟨_, _, rfl, ⟨_, _, rfl, ⟨_, _, rfl, rfl, rfl⟩, rfl⟩, rfl⟩, rfl⟩, rfl⟩, rfl⟩, (by first | (simp; done) | omega | (simp; omega))⟩, rfl⟩, ⟨_, _, ⟨_, ⟨⟨_, _, rfl, ⟨_, _, rfl, ⟨_, _, rfl, ⟨_, _, rfl, ⟨_, _, rfl, ⟨_, _, rfl, rfl, rfl⟩, rfl⟩, rfl⟩, rfl⟩, rfl⟩, rfl⟩, (by first | (simp; done) | omega | (simp; omega))⟩, rfl⟩, rfl, rfl⟩, rfl⟩, (by first | (simp; done) | omega | (simp; omega))⟩, rfl⟩, rfl, rfl⟩, rfl⟩, (by first | (simp; done) | omega | (simp; omega))⟩, rfl⟩, (by first | (simp; done) | omega | (simp; omega)), rfl⟩, rfl⟩, ?_⟩
    refine ⟨_, ⟨_, ⟨_, _, rfl, ⟨_, ⟨⟨_, _, ⟨_, ⟨⟨_, _, ⟨_, ⟨⟨_, _, rfl, ⟨_, _, rfl, ⟨_, _, rfl, ⟨_, _, rfl, ⟨_, _, rfl, ⟨_, _, rfl, rfl, rfl⟩, rfl⟩, rfl⟩, rfl⟩, rfl⟩, rfl⟩, (by first | (simp; done) | omega | (simp; omega))⟩, rfl⟩, ⟨_, _, ⟨_, ⟨⟨_, _, rfl, ⟨_, _, rfl, ⟨_, _, rfl, ⟨_, _, rfl, ⟨_, _, rfl, ⟨_, _, rfl, rfl, rfl⟩, rfl⟩, rfl⟩, rfl⟩, rfl⟩, rfl⟩, (by first | (simp; done) | omega | (simp; omega))⟩, rfl⟩, ⟨_, _, ⟨_, ⟨⟨_, _, rfl, ⟨_, _, rfl, ⟨_, _, rfl, ⟨_, _, rfl, ⟨_, _, rfl, ⟨_, _, rfl, rfl, rfl⟩, rfl⟩, rfl⟩, rfl⟩, rfl⟩, rfl⟩, (by first | (simp; done) | omega | (simp; omega))⟩, rfl⟩, rfl, rfl⟩, rfl⟩, rfl⟩, (by first | (simp; done) | omega | (simp; omega))⟩, rfl⟩, ⟨_, _, ⟨_, ⟨⟨_, _, ⟨_, ⟨⟨_, _, rfl, ⟨_, _, rfl, ⟨_, _, rfl, ⟨_, _, rfl, ⟨_, _, rfl, ⟨_, _, rfl, ⟨_, _, rfl, ⟨_, _, rfl, rfl, rfl⟩, rfl⟩, rfl⟩, rfl⟩, rfl⟩, rfl⟩, rfl⟩, rfl⟩, (by first | (simp; done) | omega | (simp; omega))⟩, rfl⟩, rfl, rfl⟩, (by first | (simp; done) | omega | (simp; omega))⟩, rfl⟩, rfl, rfl⟩, rfl⟩, (by first | (simp; done) | omega | (simp; omega))⟩, rfl⟩, (by first | (simp; done) | omega | (simp; omega)), rfl⟩, rfl⟩, ?_⟩
    refine ⟨_, ⟨_, ⟨_, _, rfl, ⟨_, ⟨⟨_, _, ⟨_, ⟨⟨_, _, ⟨_, ⟨⟨_, _, rfl, ⟨_, _, rfl, ⟨_, _, rfl, ⟨_, _, rfl, ⟨_, _, rfl, ⟨_, _, rfl, rfl, rfl⟩, rfl⟩, rfl⟩, rfl⟩, rfl⟩, rfl⟩, (by first | (simp; done) | omega | (simp; omega))⟩, rfl⟩, ⟨_, _, ⟨_, ⟨⟨_, _, rfl, ⟨_, _, rfl, ⟨_, _, rfl, ⟨_, _, rfl, ⟨_, _, rfl, ⟨_, _, rfl, rfl, rfl⟩, rfl⟩, rfl⟩, rfl⟩, rfl⟩, rfl⟩, (by first | (simp; done) | omega | (simp; omega))⟩, rfl⟩, rfl, rfl⟩, rfl⟩, (by first | (simp; done) | omega | (simp; omega))⟩, rfl⟩, ⟨_, _, ⟨_, ⟨⟨_, _, ⟨_, ⟨⟨_, _, rfl, ⟨_, _, rfl, ⟨_, _, rfl, ⟨_, _, rfl, ⟨_, _, rfl, rfl, rfl⟩, rfl⟩, rfl⟩, rfl⟩, rfl⟩, (by first | (simp; done) | omega | (simp; omega))⟩, rfl⟩, ⟨_, _, ⟨_, ⟨⟨_, _, rfl, ⟨_, _, rfl, ⟨_, _, rfl, ⟨_, _, rfl, ⟨_, _, rfl, rfl, rfl⟩, rfl⟩, rfl⟩, rfl⟩, rfl⟩, (by first | (simp; done) | omega | (simp; omega))⟩, rfl⟩, rfl, rfl⟩, rfl⟩, (by first | (simp; done) | omega | (simp; omega))⟩, rfl⟩, rfl, rfl⟩, rfl⟩, (by first | (simp; done) | omega | (simp; omega))⟩, rfl⟩, (by first | (simp; done) | omega | (simp; omega)), rfl⟩, rfl⟩, ?_⟩
    refine ⟨_, ⟨_, ⟨_, _, rfl, ⟨_, ⟨⟨_, _, ⟨_, ⟨⟨_, _, ⟨_, ⟨⟨_, _, rfl, ⟨_, _, rfl, ⟨_, _, rfl, ⟨_, _, rfl, rfl, rfl⟩, rfl⟩, rfl⟩, rfl⟩, (by first | (simp; done) | omega | (simp; omega))⟩, rfl⟩, ⟨_, _, ⟨_, ⟨⟨_, _, rfl, ⟨_, _, rfl, ⟨_, _, rfl, ⟨_, _, rfl, rfl, rfl⟩, rfl⟩, rfl⟩, rfl⟩, (by first | (simp; done) | omega | (simp; omega))⟩, rfl⟩, rfl, rfl⟩, rfl⟩, (by first | (simp; done) | omega | (simp; omega))⟩, rfl⟩, ⟨_, _, ⟨_, ⟨⟨_, _, ⟨_, ⟨⟨_, _, rfl, ⟨_, _, rfl, ⟨_, _, rfl, ⟨_, _, rfl, ⟨_, _, rfl, ⟨_, _, rfl, ⟨_, _, rfl, rfl, rfl⟩, rfl⟩, rfl⟩, rfl⟩, rfl⟩, rfl⟩, rfl⟩, (by first | (simp; done) | omega | (simp; omega))⟩, rfl⟩, ⟨_, _, ⟨_, ⟨⟨_, _, rfl, ⟨_, _, rfl, ⟨_, _, rfl, ⟨_, _, rfl, ⟨_, _, rfl, ⟨_, _, rfl, ⟨_, _, rfl, rfl, rfl⟩, rfl⟩, rfl⟩, rfl⟩, rfl⟩, rfl⟩, rfl⟩, (by first | (simp; done) | omega | (simp; omega))⟩, rfl⟩, rfl, rfl⟩, rfl⟩, (by first | (simp; done) | omega | (simp; omega))⟩, rfl⟩, rfl, rfl⟩, rfl⟩, (by first | (simp; done) | omega | (simp; omega))⟩, rfl⟩, (by first | (simp; done) | omega | (simp; omega)), rfl⟩, rfl⟩, ?_⟩
    refine ⟨_, ⟨_, ⟨_, _, rfl, ⟨_, ⟨⟨_, _, ⟨_, ⟨⟨_, _, ⟨_, ⟨⟨_, _, rfl, ⟨_, _, rfl, ⟨_, _, rfl, ⟨_, _, rfl, ⟨_, _, rfl, rfl, rfl⟩, rfl⟩, rfl⟩, rfl⟩, rfl⟩, (by first | (simp; done) | omega | (simp; omega))⟩, rfl⟩, ⟨_, _, ⟨_, ⟨⟨_, _, rfl, ⟨_, _, rfl, ⟨_, _, rfl, ⟨_, _, rfl, ⟨_, _, rfl, rfl, rfl⟩, rfl⟩, rfl⟩, rfl⟩, rfl⟩, (by first | (simp; done) | omega | (simp; omega))⟩, rfl⟩, ⟨_, _, ⟨_, ⟨⟨_, _, rfl, ⟨_, _, rfl, ⟨_, _, rfl, ⟨_, _, rfl, ⟨_, _, rfl, rfl, rfl⟩, rfl⟩, rfl⟩, rfl⟩, rfl⟩, (by first | (simp; done) | omega | (simp; omega))⟩, rfl⟩, rfl, rfl⟩, rfl⟩, rfl⟩, (by first | (simp; done) | omega | (simp; omega))⟩, rfl⟩, ⟨_, _, ⟨_, ⟨⟨_, _, ⟨_, ⟨⟨_, _, rfl, ⟨_, _, rfl, ⟨_, _, rfl, ⟨_, _, rfl, ⟨_, _, rfl, ⟨_, _, rfl, ⟨_, _, rfl, ⟨_, _, rfl, rfl, rfl⟩, rfl⟩, rfl⟩, rfl⟩, rfl⟩, rfl⟩, rfl⟩, rfl⟩, (by first | (simp; done) | omega | (simp; omega))⟩, rfl⟩, ⟨_, _, ⟨_, ⟨⟨_, _, rfl, ⟨_, _, rfl, ⟨_, _, rfl, ⟨_, _, rfl, ⟨_, _, rfl, ⟨_, _, rfl, ⟨_, _, rfl, ⟨_, _, rfl, rfl, rfl⟩, rfl⟩, rfl⟩, rfl⟩, rfl⟩, rfl⟩, rfl⟩, rfl⟩, (by first | (simp; done) | omega | (simp; omega))⟩, rfl⟩, rfl, rfl⟩, rfl⟩, (by first | (simp; done) | omega | (simp; omega))⟩, rfl⟩, rfl, rfl⟩, rfl⟩, (by first | (simp; done) | omega | (simp; omega))⟩, rfl⟩, (by first | (simp; done) | omega | (simp; omega)), rfl⟩, rfl⟩, ?_⟩
    refine ⟨_, ⟨_, ⟨_, _, rfl, ⟨_, ⟨⟨_, _, ⟨_, ⟨⟨_, _, ⟨_, ⟨⟨_, _, rfl, ⟨_, _, rfl, ⟨_, _, rfl, ⟨_, _, rfl, ⟨_, _, rfl, rfl, rfl⟩, rfl⟩, rfl⟩, rfl⟩, rfl⟩, (by first | (simp; done) | omega | (simp; omega))⟩, rfl⟩, ⟨_, _, ⟨_, ⟨⟨_, _, rfl, ⟨_, _, rfl, ⟨_, _, rfl, ⟨_, _, rfl, ⟨_, _, rfl, rfl, rfl⟩, rfl⟩, rfl⟩, rfl⟩, rfl⟩, (by first | (simp; done) | omega | (simp; omega))⟩, rfl⟩, rfl, rfl⟩, rfl⟩, (by first | (simp; done) | omega | (simp; omega))⟩, rfl⟩, ⟨_, _, ⟨_, ⟨⟨_, _, ⟨_, ⟨⟨_, _, rfl, ⟨_, _, rfl, ⟨_, _, rfl, ⟨_, _, rfl, ⟨_, _, rfl, ⟨_, _, rfl, ⟨_, _, rfl, rfl, rfl⟩, rfl⟩, rfl⟩, rfl⟩, rfl⟩, rfl⟩, rfl⟩, (by first | (simp; done) | omega | (simp; omega))⟩, rfl⟩, ⟨_, _, ⟨_, ⟨⟨_, _, rfl, ⟨_, _, rfl, ⟨_, _, rfl, ⟨_, _, rfl, ⟨_, _, rfl, ⟨_, _, rfl, ⟨_, _, rfl, rfl, rfl⟩, rfl⟩, rfl⟩, rfl⟩, rfl⟩, rfl⟩, rfl⟩, (by first | (simp; done) | omega | (simp; omega))⟩, rfl⟩, rfl, rfl⟩, rfl⟩, (by first | (simp; done) | omega | (simp; omega))⟩, rfl⟩, rfl, rfl⟩, rfl⟩, (by first | (simp; done) | omega | (simp; omega))⟩, rfl⟩, (by first | (simp; done) | omega | (simp; omega)), rfl⟩, rfl⟩, ?_⟩
    refine ⟨_, ⟨_, ⟨_, _, rfl, ⟨_, ⟨⟨_, _, ⟨_, ⟨⟨_, _, ⟨_, ⟨⟨_, _, rfl, ⟨_, _, rfl, ⟨_, _, rfl, ⟨_, _, rfl, rfl, rfl⟩, rfl⟩, rfl⟩, rfl⟩, (by first | (simp; done) | omega | (simp; omega))⟩, rfl⟩, ⟨_, _, ⟨_, ⟨⟨_, _, rfl, ⟨_, _, rfl, ⟨_, _, rfl, ⟨_, _, rfl, rfl, rfl⟩, rfl⟩, rfl⟩, rfl⟩, (by first | (simp; done) | omega | (simp; omega))⟩, rfl⟩, rfl, rfl⟩, rfl⟩, (by first | (simp; done) | omega | (simp; omega))⟩, rfl⟩, rfl, rfl⟩, (by first | (simp; done) | omega | (simp; omega))⟩, rfl⟩, (by first | (simp; done) | omega | (simp; omega)), rfl⟩, rfl⟩, ?_⟩
    refine ⟨_, ⟨_, _, _, rfl, (by first | rfl | assumption), ⟨_, _, ⟨_, rfl, rfl⟩, ⟨_, _, rfl, (by first | rfl | assumption), rfl⟩, (by decide), rfl⟩, (by exact hat _ rfl)⟩, ?_⟩
    rfl
end CM
set_option Elab.async false
set_option linter.all false
set_option maxRecDepth 100000
set_option maxHeartbeats 1000000
/-! Walks: the helper's tables. -/
namespace CM
open PySem PySem.Spec PyProof.Rows L2
structure GensOk (p : Nat) (gs : List (List Nat)) : Prop where
  pos : 1 ≤ p
  ne : gs.getD 0 [] ∈ gs
  len : (gs.getD 0 []).length = p
  ok : ∀ g ∈ gs, MvOk p g
  few : (closeF gs).length ≤ 60
def R_law_close : List Dt → Dt → Prop := fun ds r => ∃ p gs, ds = [.lst (movD gs)] ∧ GensOk p gs ∧ gs.length ≤ 1000 ∧ p ≤ 1000 ∧ r = .lst (rowD (closeS gs))
theorem sc_law_close : FnScope ["_law_generators_here", "_law_one", "_law_found", "_law_known", "_law_k", "_law_move", "_law_made", "_law_x"] ["_law_generators_here"] (defScope s_law_close) := ⟨rfl, rfl, rfl, by decide +kernel, rfl, by decide +kernel, by decide +kernel⟩
theorem w_law_close {P : Program} {w : World} {K : PySem.W.Frag} {mg : Str → Option Value} {base : Heap} {C : Addr} (T : Tx K mg C) (D : FnS K mg "_law_close" s_law_close) : Fn P w K mg base C "_law_close" 1 [false] R_law_close := by
  obtain ⟨f, fd, F, hm⟩ := D
  have S := sc_law_close
  obtain ⟨tM, hM⟩ := T.most
  refine Fn.of F (fn_ok (k := 0) (fl := [false]) (R := R_law_close) F S rfl (by decide) (fun ds r h => rawFree _ _ (by decide)) (fun cdv A outer s H E hr => have hu := hu_of hr; dss_cons (ds_set 1 S.nd (de_tupRg rfl T.tuple T.range (de_len T.len ((de_ix ((dv 0).r) de_int).r))))
      (dss_cons (ds_own 2 S.nd (df_lst (da_sh (dv 1) da_nil)))
      (dss_cons (ds_new 3 S.nd (dn_dispT1N hu (dv 1) de_bl))
      (dss_cons (ds_for PassesOwn.never rfl (di_rng1 T.range de_int) (dg_name 4 S.nd) (dss_one (ds_if (db_lt (dv 4) (de_len T.len (dvo 2))) (dss_one (ds_for PassesOwn.never rfl (di_seq (dv 0)) (dg_name 5 S.nd) (dss_cons (ds_set 6 S.nd (de_tupL T.tuple (((df_lc rfl S.nd [("_law_x", 7)] 7 (di_seqR ((de_ix (dvo 2) (dv 4)).r)) (blkOk_by (by rfl)) (by decide) (fun _ => pg_name (i := 7) S.nd rfl (by first | exact Or.inl rfl | exact Or.inr rfl)) dts_nil (fun _ => de_ix ((dv 5).r) (dv 7))).tree).r)))
      (dss_one (ds_if (db_notInTN 3 hu (dv 6)) (dss_cons (DS.imp (ds_putT 3 hu de_bl (dv 6)) (fun _ _ h => dput_imp h))
      (dss_one (ds_app 2 (dv 6)))) dss_nil))))) dss_nil)))
      (dss_one (ds_ret ((df_sortedTN T.sorted (dvo 2)).tree))))))) ?hp) (F.bindsN fun _ _ _ _ _ _ us hl => match us, hl with | [_], _ => rfl) hm
  case hp =>
    rintro ds r ⟨p, gs, rfl, G, hgl, hp, rfl⟩ -
    have hg0 : gs[0]? = some (gs.getD 0 []) := by
      rw [List.getD_eq_getElem?_getD]
      cases q : gs[0]? with
      | none =>
        have := G.ne
        have e : gs = [] := by
          cases gs with
          | nil => rfl
          | cons a t => cases q
        subst e
        cases this
      | some g => rfl
    have h0 : atI (movD gs) 0 = some (lN (gs.getD 0 [])) := atI_zero (by rw [List.getElem?_map, hg0]; rfl)
    have hok := closeTo_ok G.len G.ok
    refine ⟨_, ⟨_, ⟨_, _, ⟨_, _, _, rfl, (by first | rfl | assumption), rfl, (by first | assumption | exact nD_at ‹_› | exact atI_nat ‹_› | exact bD_at ‹_›)⟩, (by first | rfl | assumption), rfl⟩, (by first | omega | (rw [nD_len, G.len]; omega)), (by first | omega | (rw [nD_len, G.len]; omega)), rfl⟩, ?_⟩
    rw [nD_len, nD_rng]
    have e0 : closeTo gs 0 = [List.range (gs.getD 0 []).length] := rfl
    refine ⟨_, ⟨⟨_, _, rfl, rfl, rfl⟩, (by first | (simp; done) | omega | (simp; omega))⟩, ?_⟩
    refine ⟨_, ⟨_, _, rfl, rfl, rfl, rfl⟩, ?_⟩
    refine ⟨_, ⟨_, rfl, (by first | omega | (simp at *; omega) | (simp; omega)), (by first | omega | (simp at *; omega) | (simp; omega)), rfl⟩, fun k env => ∃ s4 s5 s6, env = [.sh (.lst (movD gs)), .sh (tN (List.range (gs.getD 0 []).length)), .own (rowD (closeTo gs k)), .oT (knownOf (closeTo gs k)), s4, s5, s6, .un], ?_, fun k t env' hk hw => ?_, fun env' hw => ?_⟩
    · exact ⟨_, _, _, rfl⟩
    · obtain ⟨s4, s5, s6, rfl⟩ := hw
      have hkz : (nD (List.range 60))[k]? = some t := by
        rw [← nD_rng]
        exact hk
      obtain ⟨k', hk', rfl⟩ := nD_at' hkz
      obtain ⟨hkn, e⟩ := List.getElem?_eq_some_iff.mp hk'
      rw [List.getElem_range] at e
      subst e
      rw [List.length_range] at hkn
      refine ⟨_, rfl, ?_⟩
      refine ⟨_, ⟨_, _, rfl, ⟨_, _, (Or.inl ⟨_, rfl, rfl⟩), (by first | rfl | assumption), rfl⟩, rfl⟩, fun hb => ?_, fun hb => ?_⟩
      · have hkl : k < (closeTo gs k).length := by simpa using hb
        have e1 : closeTo gs (k + 1) = closeIn gs (closeTo gs k) ((closeTo gs k).getD k []) := by rw [closeTo, if_pos hkl]
        have hx : (closeTo gs k)[k]? = some ((closeTo gs k).getD k []) := by
          rw [List.getD_eq_getElem?_getD, List.getElem?_eq_getElem hkl]
          rfl
        have hxok : MvOk p ((closeTo gs k).getD k []) := (hok k).1 _ (List.mem_of_getElem? hx)
        generalize (closeTo gs k).getD k [] = x at e1 hx hxok
        refine ⟨_, ⟨_, rfl, (by first | rfl | assumption)⟩, fun j env => ∃ s5 s6, env = [.sh (.lst (movD gs)), .sh (tN (List.range (gs.getD 0 []).length)), .own (rowD (closeIn (gs.take j) (closeTo gs k) x)), .oT (knownOf (closeIn (gs.take j) (closeTo gs k) x)), .sh (.int (k : Int)), s5, s6, .un], ?_, fun j t env' hk hw => ?_, fun env' hw => ?_⟩
        · exact ⟨_, _, rfl⟩
        · obtain ⟨s5, s6, rfl⟩ := hw
          rw [List.getElem?_map] at hk
          obtain ⟨g, hg, rfl⟩ := Option.map_eq_some_iff.mp hk
          have hgok := G.ok g (List.mem_of_getElem? hg)
          refine ⟨_, rfl, ?_⟩
          obtain ⟨tl, etl⟩ := closeIn_pre (gs.take j) x (closeTo gs k)
          have hx2 : (closeIn (gs.take j) (closeTo gs k) x)[k]? = some x := by
            rw [etl, List.getElem?_append_left hkl]
            exact hx
          have hat : atI (rowD (closeIn (gs.take j) (closeTo gs k) x)) (k : Int) = some (tN x) := atI_nat (by rw [List.getElem?_map, hx2]; rfl)
          have hnext := closeIn_next hg (closeTo gs k) x
          have hlen1 := closeIn_len gs (j + 1) (closeTo gs k) x
          have hlen2 := closeF_len gs (k + 1) (by omega)
          have hfew := G.few
          have hge : ∀ y ∈ x, atI (nD g) (y : Int) = some (.int ((g.getD y 0 : Nat) : Int)) := fun y hy => by
            have hyl : y < g.length := by rw [hgok.1]; exact hxok.2 y hy
            refine nD_at ?_
            rw [List.getD_eq_getElem?_getD, List.getElem?_eq_getElem hyl]
            rfl
          have hxl : x.length ≤ 100000 := by rw [hxok.1]; omega
          generalize closeIn (gs.take j) (closeTo gs k) x = fd at etl hx2 hat hnext ⊢
          refine ⟨_, ⟨_, ⟨_, (fLc_aN (M := x) ⟨_, ⟨_, _, _, (Or.inl ⟨_, rfl, rfl⟩), (by first | rfl | assumption), rfl, (by first | assumption | exact nD_at ‹_› | exact atI_nat ‹_› | exact bD_at ‹_›)⟩, (by first | rfl | assumption)⟩ (fun y => g.getD y 0) (fun y hy => by have h1 := hge y hy; exact ⟨_, _, _, rfl, (by first | rfl | assumption), rfl, (by first | assumption | exact nD_at ‹_› | exact atI_nat ‹_› | exact bD_at ‹_›)⟩) hxl), rfl⟩, rfl⟩, ?_⟩
          rw [show x.map (fun y => g.getD y 0) = moveL g x from rfl]
          refine ⟨_, ⟨_, _, rfl, rfl, rfl⟩, fun hb => ?_, fun hb => ?_⟩
          · have hnin : moveL g x ∉ fd := by
              rw [look_known] at hb
              simpa using hb
            rw [addNew, if_neg hnin] at hnext
            rw [hnext, List.length_append, List.length_singleton] at hlen1
            rw [e1] at hlen2
            have hfl : fd.length < 100000 := by omega
            refine ⟨_, _, _, rfl, rfl, rfl, rfl, (by rw [knownOf, List.length_map]; exact hfl), ?_⟩
            refine ⟨_, _, rfl, rfl, (by rw [List.length_map]; exact hfl), ?_⟩
            refine ⟨.sh (lN g), .sh (tN (moveL g x)), ?_⟩
            rw [put_known hnin, hnext, rowD, rowD, List.map_append]
            rfl
          · have hin : moveL g x ∈ fd := by
              rw [look_known] at hb
              simpa using hb
            rw [addNew, if_pos hin] at hnext
            exact ⟨.sh (lN g), .sh (tN (moveL g x)), by rw [hnext]; rfl⟩
        · obtain ⟨s5, s6, rfl⟩ := hw
          rw [List.length_map, List.take_length, ← e1]
          exact ⟨_, _, _, rfl⟩
      · have hkl : ¬ k < (closeTo gs k).length := by simpa using hb
        have e1 : closeTo gs (k + 1) = closeTo gs k := by rw [closeTo, if_neg hkl]
        exact ⟨_, _, _, by rw [e1]; rfl⟩
    · obtain ⟨s4, s5, s6, rfl⟩ := hw
      have e60 : (rngD 60).length = 60 := by simp [rngD]
      rw [e60, show closeTo gs 60 = closeF gs from rfl]
      have h1 := closeS_perm gs
      have h2 := closeS_srt gs
      rw [G.len] at h2
      have h3 := (hok 60).1
      have h4 := G.pos
      have h5 := G.few
      refine ⟨_, ⟨_, ⟨_, _, _, (h4), (Or.inl ⟨_, rfl, rfl⟩), (by omega), (h3), (h1), (h2), (rfl)⟩, rfl⟩, ?_⟩
      rfl
def R_law_table : List Dt → Dt → Prop := fun ds r => ∃ p L, ds = [.lst (rowD L)] ∧ L.Nodup ∧ (∀ x ∈ L, MvOk p x) ∧ (∀ a ∈ L, ∀ b ∈ L, moveL b a ∈ L) ∧ L.length ≤ 1000 ∧ p ≤ 1000 ∧ r = tabD L.length (pt L)
theorem pt_tab (L : List (List Nat)) : (L.map fun a => lN (L.map fun b => idxL (moveL b a) L)) = tabL L.length (pt L) := by
  rw [map_place L []]
  refine List.map_congr_left fun i hi => ?_
  show lN _ = lN _
  rw [pt_row]
  rfl
theorem sc_law_table : FnScope ["_law_moves", "_law_place", "_law_k", "_law_a", "_law_b", "_law_x"] ["_law_moves"] (defScope s_law_table) := ⟨rfl, rfl, rfl, by decide +kernel, rfl, by decide +kernel, by decide +kernel⟩
theorem w_law_table {P : Program} {w : World} {K : PySem.W.Frag} {mg : Str → Option Value} {base : Heap} {C : Addr} (T : Tx K mg C) (D : FnS K mg "_law_table" s_law_table) : Fn P w K mg base C "_law_table" 1 [false] R_law_table := by
  obtain ⟨f, fd, F, hm⟩ := D
  have S := sc_law_table
  obtain ⟨tM, hM⟩ := T.most
  refine Fn.of F (fn_ok (k := 0) (fl := [false]) (R := R_law_table) F S rfl (by decide) (fun ds r h => rawFree _ _ (by decide)) (fun cdv A outer s H E hr => have hu := hu_of hr; dss_cons (ds_new 1 S.nd dn_empT)
      (dss_cons (ds_for PassesOwn.never rfl (di_rng1 T.range (de_len T.len ((dv 0).r))) (dg_name 2 S.nd) (dss_one (DS.imp (ds_putT 1 hu (dv 2) (de_ix ((dv 0).r) (dv 2))) (fun _ _ h => dput_imp h))))
      (dss_one (ds_ret ((df_lc rfl S.nd [("_law_a", 3)] 3 (di_seqR ((dv 0).r)) (blkOk_by (by rfl)) (by decide) (fun _ => pg_name (i := 3) S.nd rfl (by first | exact Or.inl rfl | exact Or.inr rfl)) dts_nil (fun _ => (df_lc rfl S.nd [("_law_b", 4)] 4 (di_seqR ((dv 0).r)) (blkOk_by (by rfl)) (by decide) (fun _ => pg_name (i := 4) S.nd rfl (by first | exact Or.inl rfl | exact Or.inr rfl)) dts_nil (fun _ => de_dgetTN 1 hu (de_tupL T.tuple (((df_lc rfl S.nd [("_law_x", 5)] 5 (di_seqR ((dv 3).r)) (blkOk_by (by rfl)) (by decide) (fun _ => pg_name (i := 5) S.nd rfl (by first | exact Or.inl rfl | exact Or.inr rfl)) dts_nil (fun _ => de_ix ((dv 4).r) (dv 5))).tree).r)))).tree)).tree))))) ?hp) (F.bindsN fun _ _ _ _ _ _ us hl => match us, hl with | [_], _ => rfl) hm
  case hp =>
    rintro ds r ⟨p, L, rfl, nd, hok, hcl, hl, hp, rfl⟩ -
    refine ⟨_, rfl, ?_⟩
    refine ⟨_, ⟨_, ⟨_, _, rfl, (by first | rfl | assumption), rfl⟩, (by first | omega | (rw [List.length_map]; omega)), (by first | omega | (rw [List.length_map]; omega)), rfl⟩, fun k env => ∃ s2, env = [.sh (.lst (rowD L)), .oT (placeKV 0 (L.take k)), s2, .un, .un, .un], ?_, fun k t env' hk hw => ?_, fun env' hw => ?_⟩
    · exact ⟨_, rfl⟩
    · obtain ⟨s2, rfl⟩ := hw
      rw [List.length_map, nD_rng] at hk
      obtain ⟨k', hk', rfl⟩ := nD_at' hk
      obtain ⟨hkn, e⟩ := List.getElem?_eq_some_iff.mp hk'
      rw [List.getElem_range] at e
      subst e
      rw [List.length_range] at hkn
      refine ⟨_, rfl, ?_⟩
      have hx := List.getElem?_eq_getElem hkn
      have hat : atI (rowD L) (k : Int) = some (tN L[k]) := atI_nat (by rw [List.getElem?_map, hx]; rfl)
      refine ⟨_, _, _, rfl, ⟨_, _, _, rfl, (by first | rfl | assumption), rfl, (by first | assumption | exact nD_at ‹_› | exact atI_nat ‹_› | exact bD_at ‹_›)⟩, rfl, rfl, (by rw [placeKV_len, List.length_take]; omega), ?_⟩
      have hnin : L[k] ∉ L.take k := fun h => by
        obtain ⟨i, hi⟩ := List.mem_iff_getElem?.mp h
        have hil := (List.getElem?_eq_some_iff.mp hi).1
        rw [List.length_take] at hil
        rw [List.getElem?_take_of_lt (by omega)] at hi
        have := (List.getElem?_inj (by omega) nd).mp (hi.trans hx.symm)
        omega
      have hlt : (L.take k).length = k := by rw [List.length_take]; omega
      have hput := put_place hnin
      rw [hlt] at hput
      refine ⟨.sh (.int (k : Int)), ?_⟩
      rw [hput, List.take_add_one, hx]
      rfl
    · obtain ⟨s2, rfl⟩ := hw
      have el : L.take (rngD ((rowD L).length : Int)).length = L := by
        rw [List.length_map, nD_rng, nD_len, List.length_range, List.take_length]
      rw [el]
      have hinj : ∀ a ∈ L, ∀ b ∈ L, tN a = tN b → a = b := fun a _ b _ h => tN_inj h
      have hlk : ∀ a ∈ L, ∀ b ∈ L, lookT (placeKV 0 L) (zL (a.map fun y => b.getD y 0)) = some (.int ((idxL (moveL b a) L : Nat) : Int)) := fun a ha b hb => by
        have := look_place L 0 (moveL b a) (hcl a ha b hb)
        rw [Nat.zero_add] at this
        exact this
      have hge : ∀ a ∈ L, ∀ b ∈ L, ∀ y ∈ a, atI (nD b) (y : Int) = some (.int ((b.getD y 0 : Nat) : Int)) := fun a ha b hb y hy => by
        have hyl : y < b.length := by rw [(hok b hb).1]; exact (hok a ha).2 y hy
        refine nD_at ?_
        rw [List.getD_eq_getElem?_getD, List.getElem?_eq_getElem hyl]
        rfl
      have hal : ∀ a ∈ L, a.length ≤ 100000 := fun a ha => by rw [(hok a ha).1]; omega
      refine ⟨_, ⟨_, (fLc_i (M := L) (gg := fun c => tN c) ⟨_, rfl, (by first | rfl | assumption)⟩ (fun a => lN (L.map fun b => idxL (moveL b a) L)) (fun a ha b hb h => by rw [hinj a ha b hb h]) (fun a ha => ⟨_, (fLc_iN (M := L) (gg := fun c => tN c) ⟨_, rfl, (by first | rfl | assumption)⟩ (fun b => idxL (moveL b a) L) (fun c hc b hb h => by rw [hinj c hc b hb h]) (fun b hb => by have h1 := hlk a ha b hb; exact ⟨_, _, rfl, ⟨_, ⟨_, (fLc_aN (M := a) ⟨_, rfl, (by first | rfl | assumption)⟩ (fun y => b.getD y 0) (fun y hy => by have h2 := hge a ha b hb y hy; exact ⟨_, _, _, rfl, (by first | rfl | assumption), rfl, (by first | assumption | exact nD_at ‹_› | exact atI_nat ‹_› | exact bD_at ‹_›)⟩) (hal a ha)), rfl⟩, rfl⟩, (by assumption)⟩) (by omega)), rfl⟩) (by omega)), rfl⟩, ?_⟩
      exact congrArg Dt.lst (pt_tab L)
def R_law_renumbered : List Dt → Dt → Prop := fun ds r => ∃ n m ns, ds = [tabD n m, lI ns] ∧ 0 < n ∧ n ≤ 1000 ∧ (∀ a b, a < n → b < n → m a b < n) ∧ 0 < ns.length ∧ (∀ a ∈ List.range n, ∀ b ∈ List.range n, lN (rowL n m a) = lN (rowL n m b) → a = b) ∧ r = tabD n (rnm ns n m)
theorem rn_tab (ns : List Int) (n : Nat) (m : Op) (h : (rkF ns n).length = n) : ((rkF ns n).map fun a => lN ((rkF ns n).map fun b => (plTo (rkF ns n) n n).getD (m a b) 0)) = tabL n (rnm ns n m) := by
  rw [map_place (rkF ns n) 0]
  rw [h]
  refine List.map_congr_left fun i hi => ?_
  show lN _ = lN _
  rw [map_place (rkF ns n) 0 (fun b => (plTo (rkF ns n) n n).getD (m ((rkF ns n).getD i 0) b) 0), h]
  rfl
theorem nat_at {M : List Nat} {k : Nat} (h : k < M.length) : atI (nD M) (k : Int) = some (.int ((M.getD k 0 : Nat) : Int)) := nD_at (by rw [List.getD_eq_getElem?_getD, List.getElem?_eq_getElem h]; rfl)
theorem sc_law_renumbered : FnScope ["_law_table_here", "_law_numbers_here", "_law_ranked", "_law_k", "_law_place", "_law_other", "_law_held", "_law_a", "_law_b"] ["_law_table_here", "_law_numbers_here"] (defScope s_law_renumbered) := ⟨rfl, rfl, rfl, by decide +kernel, rfl, by decide +kernel, by decide +kernel⟩
theorem w_law_renumbered {P : Program} {w : World} {K : PySem.W.Frag} {mg : Str → Option Value} {base : Heap} {C : Addr} (T : Tx K mg C) (D : FnS K mg "_law_renumbered" s_law_renumbered) : Fn P w K mg base C "_law_renumbered" 1 [false, false] R_law_renumbered := by
  obtain ⟨f, fd, F, hm⟩ := D
  have S := sc_law_renumbered
  obtain ⟨tM, hM⟩ := T.most
  refine Fn.of F (fn_ok (k := 0) (fl := [false, false]) (R := R_law_renumbered) F S rfl (by decide) (fun ds r h => rawFree _ _ (by decide)) (fun cdv A outer s H E hr => have hu := hu_of hr; dss_cons (ds_own 2 S.nd (df_listRg rfl T.list T.range (de_len T.len ((dv 0).r))))
      (dss_cons (ds_for PassesOwn.never rfl (di_rng2 T.range de_int (de_len T.len (dvo 2))) (dg_name 3 S.nd) (dss_cons (ds_set 5 S.nd (de_add de_int (de_mod (de_toInt T.int (de_ix ((dv 1).r) (de_mod (dv 3) (de_len T.len ((dv 1).r))))) (dv 3))))
      (dss_cons (ds_set 6 S.nd (de_ix (dvo 2) (dv 3)))
      (dss_cons (ds_setI 2 (de_ix (dvo 2) (dv 5)) (dv 3) (fun po pi => pg_sub po pi set_list))
      (dss_one (ds_setI 2 (dv 6) (dv 5) (fun po pi => pg_sub po pi set_list)))))))
      (dss_cons (ds_own 4 S.nd (df_lc rfl S.nd [("_law_k", 3)] 3 (di_seqR (dvo 2)) (blkOk_by (by rfl)) (by decide) (fun _ => pg_name (i := 3) S.nd rfl (by first | exact Or.inl rfl | exact Or.inr rfl)) dts_nil (fun _ => de_int)))
      (dss_cons (ds_for PassesOwn.never rfl (di_rng1 T.range (de_len T.len (dvo 2))) (dg_name 3 S.nd) (dss_one (ds_setI 4 (dv 3) (de_ix (dvo 2) (dv 3)) (fun po pi => pg_sub po pi set_list))))
      (dss_one (ds_ret ((df_lc rfl S.nd [("_law_a", 7)] 7 (di_seqR (dvo 2)) (blkOk_by (by rfl)) (by decide) (fun _ => pg_name (i := 7) S.nd rfl (by first | exact Or.inl rfl | exact Or.inr rfl)) dts_nil (fun _ => (df_lc rfl S.nd [("_law_b", 8)] 8 (di_seqR (dvo 2)) (blkOk_by (by rfl)) (by decide) (fun _ => pg_name (i := 8) S.nd rfl (by first | exact Or.inl rfl | exact Or.inr rfl)) dts_nil (fun _ => de_ix (dvo 4) (de_ix ((de_ix ((dv 0).r) (dv 7)).r) (dv 8)))).tree)).tree))))))) ?hp) (F.bindsN fun _ _ _ _ _ _ us hl => match us, hl with | [_, _], _ => rfl) hm
  case hp =>
    rintro ds r ⟨n, m, ns, rfl, hn, hn2, hc, hns, hinj, rfl⟩ -
    have hl := tabL_len n m
    refine ⟨_, ⟨_, ⟨_, _, rfl, (by first | rfl | assumption), rfl⟩, (by omega), (by omega), rfl⟩, ?_⟩
    rw [hl, nD_rng]
    refine ⟨_, ⟨_, _, rfl, ⟨_, _, (Or.inl ⟨_, rfl, rfl⟩), (by first | rfl | assumption), rfl⟩, (by first | decide | omega | (rw [nD_len, List.length_range]; omega)), (by first | decide | omega | (rw [nD_len, List.length_range]; omega)), (by first | decide | omega | (rw [nD_len, List.length_range]; omega)), (by first | decide | omega | (rw [nD_len, List.length_range]; omega)), rfl⟩, fun k env => ∃ s3 s5 s6, env = [.sh (tabD n m), .sh (lI ns), .own (nD (rkTo ns n k)), s3, .un, s5, s6, .un, .un], ?_, fun k t env' hk hw => ?_, fun env' hw => ?_⟩
    · exact ⟨_, _, _, rfl⟩
    · obtain ⟨s3, s5, s6, rfl⟩ := hw
      rw [nD_len, List.length_range] at hk
      have ht : k < n - 1 ∧ t = .int ((k + 1 : Nat) : Int) := by
        unfold rgD2 at hk
        rw [List.getElem?_map] at hk
        obtain ⟨i, hi, rfl⟩ := Option.map_eq_some_iff.mp hk
        obtain ⟨h1, h2⟩ := List.getElem?_eq_some_iff.mp hi
        rw [List.getElem_range] at h2
        subst h2
        rw [List.length_range] at h1
        exact ⟨by omega, by congr 1; omega⟩
      obtain ⟨hkn, rfl⟩ := ht
      refine ⟨_, rfl, ?_⟩
      obtain ⟨hrl, hrb⟩ := rkTo_ok ns n k (by omega)
      have hz : atI (ns.map Dt.int) (((k + 1 : Nat) : Int) % ((ns.map Dt.int).length : Int)) = some (.int (ns.getD ((k + 1) % ns.length) 0)) := by
        rw [List.length_map, ← Int.natCast_emod]
        refine atI_nat ?_
        have : (k + 1) % ns.length < ns.length := Nat.mod_lt _ hns
        rw [List.getElem?_map, List.getD_eq_getElem?_getD, List.getElem?_eq_getElem this]
        rfl
      generalize hzz : ns.getD ((k + 1) % ns.length) 0 = z at hz
      have h1 := Int.emod_nonneg z (show ((k + 1 : Nat) : Int) ≠ 0 by omega)
      have h2 := Int.emod_lt_of_pos z (show (0 : Int) < ((k + 1 : Nat) : Int) by omega)
      have eo : 1 + z % ((k + 1 : Nat) : Int) = ((1 + (z % ((k + 1 : Nat) : Int)).toNat : Nat) : Int) := by omega
      have estep : rkTo ns n (k + 1) = ((rkTo ns n k).set (k + 1) ((rkTo ns n k).getD (1 + (z % ((k + 1 : Nat) : Int)).toNat) 0)).set (1 + (z % ((k + 1 : Nat) : Int)).toNat) ((rkTo ns n k).getD (k + 1) 0) := by
        rw [rkTo_succ, rkStep, hzz]
      refine ⟨_, ⟨_, _, rfl, ⟨_, _, ⟨_, ⟨_, _, _, rfl, (by first | rfl | assumption), ⟨_, _, rfl, ⟨_, _, rfl, (by first | rfl | assumption), rfl⟩, (by first | omega | (simp; omega)), rfl⟩, (by first | assumption | exact nD_at ‹_› | exact atI_nat ‹_› | exact bD_at ‹_›)⟩, rfl⟩, rfl, (by first | omega | (simp; omega)), rfl⟩, rfl⟩, ?_⟩
      rw [eo]
      generalize 1 + (z % ((k + 1 : Nat) : Int)).toNat = o at eo estep ⊢
      have hol : o < n := by omega
      generalize rkTo ns n k = rk at hrl hrb estep ⊢
      have hat1 := nat_at (M := rk) (k := k + 1) (by omega)
      have hat2 := nat_at (M := rk) (k := o) (by omega)
      refine ⟨_, ⟨_, _, _, (Or.inl ⟨_, rfl, rfl⟩), (by first | rfl | assumption), rfl, (by first | assumption | exact nD_at ‹_› | exact atI_nat ‹_› | exact bD_at ‹_›)⟩, ?_⟩
      refine ⟨_, _, _, _, rfl, rfl, ⟨_, _, _, (Or.inl ⟨_, rfl, rfl⟩), (by first | rfl | assumption), rfl, (by first | assumption | exact nD_at ‹_› | exact atI_nat ‹_› | exact bD_at ‹_›)⟩, (ixN_nat (by rw [nD_len]; omega)), ?_⟩
      refine ⟨_, _, _, _, rfl, rfl, rfl, (ixN_nat (by rw [List.length_set, nD_len]; omega)), ?_⟩
      refine ⟨.sh (.int ((k + 1 : Nat) : Int)), .sh (.int (o : Int)), .sh (.int ((rk.getD (k + 1) 0 : Nat) : Int)), ?_⟩
      rw [estep, nD_set, nD_set]
      rfl
    obtain ⟨s3, s5, s6, rfl⟩ := hw
    have hlen1 : (rgD2 1 ((nD (List.range n)).length : Int)).length = n - 1 := by
      rw [nD_len, List.length_range]
      unfold rgD2
      simp
    rw [hlen1, show rkTo ns n (n - 1) = rkF ns n from rfl]
    obtain ⟨hrl, hrb⟩ := rkTo_ok ns n (n - 1) (Nat.le_refl _)
    rw [show rkTo ns n (n - 1) = rkF ns n from rfl] at hrl hrb
    have etab := rn_tab ns n m hrl
    have epl : (rkF ns n).map (fun _ => 0) = plTo (rkF ns n) n 0 := by
      rw [plTo, List.eq_replicate_iff]
      refine ⟨by simp [hrl], fun x hx => ?_⟩
      obtain ⟨_, _, rfl⟩ := List.mem_map.mp hx
      rfl
    have hpl := plTo_len (rkF ns n) n
    generalize hrk : rkF ns n = rk at hrl hrb etab epl hpl ⊢
    refine ⟨_, (fLc_aN (M := rk) ⟨_, (Or.inl ⟨_, rfl, rfl⟩), (by first | rfl | assumption)⟩ (fun _ => 0) (fun y hy => rfl) (by omega)), ?_⟩
    rw [epl]
    refine ⟨_, ⟨_, ⟨_, _, (Or.inl ⟨_, rfl, rfl⟩), (by first | rfl | assumption), rfl⟩, (by first | omega | (rw [nD_len]; omega)), (by first | omega | (rw [nD_len]; omega)), rfl⟩, fun k env => ∃ s3, env = [.sh (tabD n m), .sh (lI ns), .own (nD rk), s3, .own (nD (plTo rk n k)), s5, s6, .un, .un], ?_, fun k t env' hk hw => ?_, fun env' hw => ?_⟩
    · exact ⟨_, rfl⟩
    · obtain ⟨s3, rfl⟩ := hw
      rw [nD_len, nD_rng] at hk
      obtain ⟨k', hk', rfl⟩ := nD_at' hk
      obtain ⟨hkn, e⟩ := List.getElem?_eq_some_iff.mp hk'
      rw [List.getElem_range] at e
      subst e
      rw [List.length_range] at hkn
      refine ⟨_, rfl, ?_⟩
      have hat1 := nat_at (M := rk) (k := k) hkn
      have hrkk : rk.getD k 0 < n := by
        rw [List.getD_eq_getElem?_getD, List.getElem?_eq_getElem hkn]
        exact hrb _ (List.getElem_mem hkn)
      refine ⟨_, _, _, _, rfl, ⟨_, _, _, (Or.inl ⟨_, rfl, rfl⟩), (by first | rfl | assumption), rfl, (by first | assumption | exact nD_at ‹_› | exact atI_nat ‹_› | exact bD_at ‹_›)⟩, rfl, (ixN_nat (by rw [nD_len, hpl]; exact hrkk)), ?_⟩
      exact ⟨_, by rw [plTo, nD_set]; rfl⟩
    obtain ⟨s3, rfl⟩ := hw
    rw [nD_len, nD_rng, nD_len, List.length_range, hrl]
    have hrow : ∀ a ∈ rk, atI (tabL n m) (a : Int) = some (lN (rowL n m a)) := fun a ha => atI_nat (tabL_get (hrb a ha))
    have hent : ∀ a, ∀ b ∈ rk, atI (nD (rowL n m a)) (b : Int) = some (.int ((m a b : Nat) : Int)) := fun a b hb => row_at (hrb b hb)
    have hplc : ∀ a ∈ rk, ∀ b ∈ rk, atI (nD (plTo rk n n)) ((m a b : Nat) : Int) = some (.int (((plTo rk n n).getD (m a b) 0 : Nat) : Int)) := fun a ha b hb => nat_at (by rw [hpl]; exact hc a b (hrb a ha) (hrb b hb))
    refine ⟨_, ⟨_, (fLc_a (M := rk) ⟨_, (Or.inl ⟨_, rfl, rfl⟩), (by first | rfl | assumption)⟩ (fun a => lN (rk.map fun b => (plTo rk n n).getD (m a b) 0)) (fun a ha => ⟨_, (fLc_aN (M := rk) ⟨_, (Or.inl ⟨_, rfl, rfl⟩), (by first | rfl | assumption)⟩ (fun b => (plTo rk n n).getD (m a b) 0) (fun b hb => by have h1 := hrow a ha; have h2 := hent a b hb; have h3 := hplc a ha b hb; exact ⟨_, _, _, (Or.inl ⟨_, rfl, rfl⟩), (by first | rfl | assumption), ⟨_, _, _, ⟨_, _, _, rfl, (by first | rfl | assumption), rfl, (by first | assumption | exact nD_at ‹_› | exact atI_nat ‹_› | exact bD_at ‹_›)⟩, (by first | rfl | assumption), rfl, (by first | assumption | exact nD_at ‹_› | exact atI_nat ‹_› | exact bD_at ‹_›)⟩, (by first | assumption | exact nD_at ‹_› | exact atI_nat ‹_› | exact bD_at ‹_›)⟩) (by omega)), rfl⟩) (by omega)), rfl⟩, ?_⟩
    subst hrk
    exact congrArg Dt.lst etab
end CM
set_option Elab.async false
set_option linter.all false
set_option maxRecDepth 100000
set_option maxHeartbeats 1000000
/-! Walks: the helper's products, closures, cosets. -/
namespace CM
open PySem PySem.Spec PyProof.Rows L2
abbrev prow (n1 n2 : Nat) (m1 m2 : Op) (r l : Nat) : List Nat := (rowL n1 m1 r).flatMap fun a => (rowL n2 m2 l).map fun b => a * n2 + b
theorem tabL_at' {n : Nat} {m : Op} {k : Nat} {t : Dt} (h : (tabL n m)[k]? = some t) : k < n ∧ t = lN (rowL n m k) := by
  have hk : k < n := by
    have := (List.getElem?_eq_some_iff.mp h).1
    rw [tabL_len] at this
    exact this
  rw [tabL_get hk] at h
  exact ⟨hk, (Option.some.inj h).symm⟩
def R_law_product : List Dt → Dt → Prop := fun ds r => ∃ n1 m1 n2 m2, ds = [tabD n1 m1, tabD n2 m2] ∧ 0 < n1 ∧ 0 < n2 ∧ n1 * n2 ≤ 60 ∧ r = tabD (n1 * n2) (pm n2 m1 m2)
theorem sc_law_product : FnScope ["_law_first", "_law_second", "_law_many", "_law_rows", "_law_row", "_law_line", "_law_made", "_law_a", "_law_b"] ["_law_first", "_law_second"] (defScope s_law_product) := ⟨rfl, rfl, rfl, by decide +kernel, rfl, by decide +kernel, by decide +kernel⟩
theorem w_law_product {P : Program} {w : World} {K : PySem.W.Frag} {mg : Str → Option Value} {base : Heap} {C : Addr} (T : Tx K mg C) (D : FnS K mg "_law_product" s_law_product) : Fn P w K mg base C "_law_product" 1 [false, false] R_law_product := by
  obtain ⟨f, fd, F, hm⟩ := D
  have S := sc_law_product
  obtain ⟨tM, hM⟩ := T.most
  refine Fn.of F (fn_ok (k := 0) (fl := [false, false]) (R := R_law_product) F S rfl (by decide) (fun ds r h => rawFree _ _ (by decide)) (fun cdv A outer s H E hr => have hu := hu_of hr; dss_cons (ds_set 2 S.nd (de_len T.len ((dv 1).r)))
      (dss_cons (ds_own 3 S.nd (df_lst da_nil))
      (dss_cons (ds_for PassesOwn.never rfl (di_seq (dv 0)) (dg_name 4 S.nd) (dss_one (ds_for PassesOwn.never rfl (di_seq (dv 1)) (dg_name 5 S.nd) (dss_cons (ds_set 6 S.nd ((df_lst da_nil).tree))
      (dss_cons (ds_for PassesOwn.never rfl (di_seq (dv 4)) (dg_name 7 S.nd) (dss_one (ds_set 6 S.nd ((df_cat ((dv 6).r) (((df_lc rfl S.nd [("_law_b", 8)] 8 (di_seqR ((dv 5).r)) (blkOk_by (by rfl)) (by decide) (fun _ => pg_name (i := 8) S.nd rfl (by first | exact Or.inl rfl | exact Or.inr rfl)) dts_nil (fun _ => de_add (de_mul (dv 7) (dv 2)) (dv 8))).tree).r)).tree))))
      (dss_one (ds_app 3 (dv 6))))))))
      (dss_one (ds_retO 3))))) ?hp) (F.bindsN fun _ _ _ _ _ _ us hl => match us, hl with | [_, _], _ => rfl) hm
  case hp =>
    rintro ds r ⟨n1, m1, n2, m2, rfl, p1, p2, hn, rfl⟩ -
    have hle1 : n1 ≤ 60 := Nat.le_trans (Nat.le_mul_of_pos_right n1 p2) hn
    have hle2 : n2 ≤ 60 := Nat.le_trans (Nat.le_mul_of_pos_left n2 p1) hn
    refine ⟨_, ⟨_, _, rfl, (by first | rfl | assumption), rfl⟩, ?_⟩
    rw [tabL_len]
    refine ⟨_, ⟨rfl, (by first | (simp; done) | omega | (simp; omega))⟩, ?_⟩
    refine ⟨_, ⟨_, rfl, (by first | rfl | assumption)⟩, fun i env => ∃ s4 s5 s6 s7, env = [.sh (tabD n1 m1), .sh (tabD n2 m2), .sh (.int (n2 : Int)), .own ((List.range i).flatMap fun r => (List.range n2).map fun l => lN (prow n1 n2 m1 m2 r l)), s4, s5, s6, s7, .un], ?_, fun k t env' hk hw => ?_, fun env' hw => ?_⟩
    · exact ⟨_, _, _, _, rfl⟩
    · obtain ⟨s4, s5, s6, s7, rfl⟩ := hw
      obtain ⟨hkn, rfl⟩ := tabL_at' hk
      refine ⟨_, rfl, ?_⟩
      refine ⟨_, ⟨_, rfl, (by first | rfl | assumption)⟩, fun j env => ∃ s5 s6 s7, env = [.sh (tabD n1 m1), .sh (tabD n2 m2), .sh (.int (n2 : Int)), .own (((List.range k).flatMap fun r => (List.range n2).map fun l => lN (prow n1 n2 m1 m2 r l)) ++ (List.range j).map fun l => lN (prow n1 n2 m1 m2 k l)), .sh (lN (rowL n1 m1 k)), s5, s6, s7, .un], ?_, fun j t env' hk hw => ?_, fun env' hw => ?_⟩
      · exact ⟨s5, s6, s7, by simp⟩
      · obtain ⟨s5, s6, s7, rfl⟩ := hw
        obtain ⟨hjn, rfl⟩ := tabL_at' hk
        refine ⟨_, rfl, ?_⟩
        generalize hacc : (((List.range k).flatMap fun r => (List.range n2).map fun l => lN (prow n1 n2 m1 m2 r l)) ++ (List.range j).map fun l => lN (prow n1 n2 m1 m2 k l)) = acc
        have hal : acc.length ≤ 3600 := by
          rw [← hacc, List.length_append, List.length_flatMap]
          have e : (List.range k).map (fun r => ((List.range n2).map fun l => lN (prow n1 n2 m1 m2 r l)).length) = List.replicate k n2 := by
            rw [List.eq_replicate_iff]
            refine ⟨by simp, fun x hx => ?_⟩
            obtain ⟨a, _, rfl⟩ := List.mem_map.mp hx
            simp
          rw [e, List.sum_replicate_nat, List.length_map, List.length_range]
          have := Nat.mul_le_mul (show k + 1 ≤ n1 by omega) (Nat.le_refl n2)
          rw [Nat.succ_mul] at this
          omega
        refine ⟨_, ⟨_, ⟨rfl, (by first | (simp; done) | omega | (simp; omega))⟩, rfl⟩, ?_⟩
        refine ⟨_, ⟨_, rfl, (by first | rfl | assumption)⟩, fun t env => ∃ s7, env = [.sh (tabD n1 m1), .sh (tabD n2 m2), .sh (.int (n2 : Int)), .own acc, .sh (lN (rowL n1 m1 k)), .sh (lN (rowL n2 m2 j)), .sh (lN (((rowL n1 m1 k).take t).flatMap fun a => (rowL n2 m2 j).map fun b => a * n2 + b)), s7, .un], ?_, fun tt t env' hk hw => ?_, fun env' hw => ?_⟩
        · exact ⟨_, rfl⟩
        · obtain ⟨s7, rfl⟩ := hw
          obtain ⟨a, ha, rfl⟩ := nD_at' hk
          refine ⟨_, rfl, ?_⟩
          have hlen1 : (((rowL n1 m1 k).take tt).flatMap fun a => (rowL n2 m2 j).map fun b => a * n2 + b).length + ((rowL n2 m2 j).map fun b => a * n2 + b).length ≤ 100000 := by
            rw [List.length_flatMap, List.length_map, rowL_len]
            have e : ((rowL n1 m1 k).take tt).map (fun a => ((rowL n2 m2 j).map fun b => a * n2 + b).length) = List.replicate ((rowL n1 m1 k).take tt).length n2 := by
              rw [List.eq_replicate_iff]
              refine ⟨by simp, fun x hx => ?_⟩
              obtain ⟨a, _, rfl⟩ := List.mem_map.mp hx
              rw [List.length_map, rowL_len]
            rw [e, List.sum_replicate_nat]
            have h1 : ((rowL n1 m1 k).take tt).length ≤ 60 := by
              rw [List.length_take, rowL_len]
              omega
            have := Nat.mul_le_mul h1 hle2
            omega
          refine ⟨_, ⟨_, ⟨_, _, rfl, ⟨_, (fLc_aN (M := rowL n2 m2 j) ⟨_, rfl, (by first | rfl | assumption)⟩ (fun b => a * n2 + b) (fun b hb => by rw [show (((a * n2 + b : Nat)) : Int) = (a : Int) * (n2 : Int) + (b : Int) by rw [Int.natCast_add, Int.natCast_mul]]; exact ⟨_, _, ⟨_, _, rfl, rfl, (by first | (refine Or.inr ⟨?_, ?_⟩ <;> omega) | (refine Or.inl ⟨?_, ?_⟩ <;> omega)), rfl⟩, rfl, rfl⟩) (by rw [rowL_len]; omega)), rfl⟩, (by rw [nD_len, nD_len]; exact hlen1), rfl⟩, rfl⟩, ?_⟩
          rw [← nD_app]
          refine ⟨.sh (.int (a : Int)), ?_⟩
          rw [List.take_add_one, ha, List.flatMap_append]
          simp
        · obtain ⟨s7, rfl⟩ := hw
          rw [nD_len, List.take_length]
          refine ⟨_, _, rfl, rfl, (by omega), ?_⟩
          subst hacc
          refine ⟨.sh (lN (rowL n2 m2 j)), .sh (lN (prow n1 n2 m1 m2 k j)), s7, ?_⟩
          rw [List.range_succ, List.map_append, ← List.append_assoc]
          rfl
      · obtain ⟨s5, s6, s7, rfl⟩ := hw
        refine ⟨.sh (lN (rowL n1 m1 k)), s5, s6, s7, ?_⟩
        rw [tabL_len, List.range_succ, List.flatMap_append]
        simp
    · obtain ⟨s4, s5, s6, s7, rfl⟩ := hw
      refine ⟨_, rfl, ?_⟩
      rw [tabL_len, pm_tab]
def R_law_closed : List Dt → Dt → Prop := fun ds r => ∃ n m s M, ds = [tabD n m, s] ∧ 0 < n ∧ n ≤ 1000 ∧ (∀ a b, a < n → b < n → m a b < n) ∧ s.sq = some (nD M) ∧ (∀ x ∈ M, x < n) ∧ r = lN (clo n m M)
theorem falses (n : Nat) (m : Op) : (tabL n m).map (fun _ => Dt.bl false) = bD (List.replicate n false) := by
  rw [bD_rep, List.eq_replicate_iff]
  refine ⟨by simp [tabL_len], fun x hx => ?_⟩
  obtain ⟨_, _, rfl⟩ := List.mem_map.mp hx
  rfl
theorem zeros (n : Nat) (m : Op) : (tabL n m).map (fun _ => Dt.int 0) = nD (List.replicate n 0) := by
  rw [nD_rep, List.eq_replicate_iff]
  refine ⟨by simp [tabL_len], fun x hx => ?_⟩
  obtain ⟨_, _, rfl⟩ := List.mem_map.mp hx
  rfl
theorem sc_law_closed : FnScope ["_law_table_here", "_law_members", "_law_inside", "_law_found", "_law_k", "_law_row", "_law_member", "_law_made"] ["_law_table_here", "_law_members"] (defScope s_law_closed) := ⟨rfl, rfl, rfl, by decide +kernel, rfl, by decide +kernel, by decide +kernel⟩
theorem w_law_closed {P : Program} {w : World} {K : PySem.W.Frag} {mg : Str → Option Value} {base : Heap} {C : Addr} (T : Tx K mg C) (D : FnS K mg "_law_closed" s_law_closed) : Fn P w K mg base C "_law_closed" 1 [false, false] R_law_closed := by
  obtain ⟨f, fd, F, hm⟩ := D
  have S := sc_law_closed
  obtain ⟨tM, hM⟩ := T.most
  refine Fn.of F (fn_ok (k := 0) (fl := [false, false]) (R := R_law_closed) F S rfl (by decide) (fun ds r h => rawFree _ _ (by decide)) (fun cdv A outer s H E hr => have hu := hu_of hr; dss_cons (ds_lcOwn (dl_lc 2 rfl S.nd [("_law_row", 5)] 5 rfl rfl (sw_true rfl rfl rfl (by decide +kernel)) (di_seqR ((dv 0).r)) (blkOk_by (by rfl)) (by decide) (fun _ => pg_name (i := 5) S.nd rfl (by first | exact Or.inl rfl | exact Or.inr rfl)) dts_nil (fun _ => de_bl)))
      (dss_cons (ds_setI 2 de_bl de_int (fun po pi => pg_sub po pi set_list))
      (dss_cons (ds_own 3 S.nd (df_lst (da_sh de_int da_nil)))
      (dss_cons (ds_for PassesOwn.never rfl (di_rng1 T.range (de_len T.len ((dv 0).r))) (dg_name 4 S.nd) (dss_one (ds_if (db_lt (dv 4) (de_len T.len (dvo 3))) (dss_one (ds_for PassesOwn.never rfl (di_seq (dv 1)) (dg_name 6 S.nd) (dss_cons (ds_set 7 S.nd (de_ix ((de_ix ((dv 0).r) (de_ix (dvo 3) (dv 4))).r) (dv 6)))
      (dss_one (ds_if (db_not (db_val (de_ix (dvo 2) (dv 7)))) (dss_cons (ds_setI 2 de_bl (dv 7) (fun po pi => pg_sub po pi set_list))
      (dss_one (ds_app 3 (dv 7)))) dss_nil))))) dss_nil)))
      (dss_one (ds_ret ((df_sortedN T.sorted (dvo 3)).tree))))))) ?hp) (F.bindsN fun _ _ _ _ _ _ us hl => match us, hl with | [_, _], _ => rfl) hm
  case hp =>
    rintro ds r ⟨n, m, s, M, rfl, hn, hn2, hc, hmm, hM, rfl⟩ -
    have hl := tabL_len n m
    refine ⟨_, (fLc_g (ts := tabL n m) ⟨_, rfl, (by first | rfl | assumption)⟩ (fun _ => .bl false) (fun t ht => rfl) (by omega)), ?_⟩
    rw [falses]
    refine ⟨_, _, _, _, rfl, rfl, rfl, (ixN_nat (k := 0) (by rw [bD_len]; simpa using hn)), ?_⟩
    rw [show List.set (bD (List.replicate n false)) 0 (Dt.bl true) = bD ((List.replicate n false).set 0 true) from (bD_set _ _ _).symm]
    refine ⟨_, ⟨⟨_, _, rfl, rfl, rfl⟩, (by first | (simp; done) | omega | (simp; omega))⟩, ?_⟩
    refine ⟨_, ⟨_, ⟨_, _, rfl, (by first | rfl | assumption), rfl⟩, (by first | omega | (simp at *; omega) | (simp; omega)), (by first | omega | (simp at *; omega) | (simp; omega)), rfl⟩, fun k env => ∃ ins found s4 s6 s7, env = [.sh (tabD n m), .sh s, .own (bD ins), .own (nD found), s4, .un, s6, s7] ∧ Cls n m M ins found (min k found.length) 0, ?_, fun k t env' hk hw => ?_, fun env' hw => ?_⟩
    · exact ⟨_, [0], _, _, _, rfl, by rw [Nat.zero_min]; exact Cls.start hn⟩
    · obtain ⟨ins, found, s4, s6, s7, rfl, c⟩ := hw
      rw [hl, nD_rng] at hk
      obtain ⟨k', hk', rfl⟩ := nD_at' hk
      obtain ⟨hkn, e⟩ := List.getElem?_eq_some_iff.mp hk'
      rw [List.getElem_range] at e
      subst e
      rw [List.length_range] at hkn
      refine ⟨_, rfl, ?_⟩
      refine ⟨_, ⟨_, _, rfl, ⟨_, _, (Or.inl ⟨_, rfl, rfl⟩), (by first | rfl | assumption), rfl⟩, rfl⟩, fun hb => ?_, fun hb => ?_⟩
      · have hat : k < found.length := by simpa [nD_len] using hb
        rw [Nat.min_eq_left (by omega)] at c
        have hx := List.getElem?_eq_getElem hat
        have hxn : found[k] < n := c.found_lt hn hc hM _ (List.getElem_mem hat)
        generalize found[k] = x at hx hxn
        refine ⟨_, ⟨_, rfl, (by first | rfl | assumption)⟩, fun j env => ∃ ins found s6 s7, env = [.sh (tabD n m), .sh s, .own (bD ins), .own (nD found), .sh (.int (k : Int)), .un, s6, s7] ∧ Cls n m M ins found k j ∧ found[k]? = some x, ?_, fun j t env' hk hw => ?_, fun env' hw => ?_⟩
        · exact ⟨ins, found, s6, s7, rfl, c, hx⟩
        · obtain ⟨ins, found, s6, s7, rfl, c, hx⟩ := hw
          obtain ⟨g, hg, rfl⟩ := nD_at' hk
          have hgn : g < n := hM _ (List.mem_of_getElem? hg)
          have hmn := hc _ _ hxn hgn
          obtain ⟨b, hbb⟩ := bD_true c.len hmn
          have hr : atI (tabL n m) (x : Int) = some (lN (rowL n m x)) := atI_nat (tabL_get hxn)
          have ha := row_at (m := m) (a := x) hgn
          have room := c.room hn hc hM
          refine ⟨_, rfl, ?_⟩
          refine ⟨_, ⟨_, _, _, ⟨_, _, _, rfl, (by first | rfl | assumption), ⟨_, _, _, (Or.inl ⟨_, rfl, rfl⟩), (by first | rfl | assumption), rfl, (by first | assumption | exact nD_at ‹_› | exact atI_nat ‹_› | exact bD_at ‹_›)⟩, (by first | assumption | exact nD_at ‹_› | exact atI_nat ‹_› | exact bD_at ‹_›)⟩, (by first | rfl | assumption), rfl, (by first | assumption | exact nD_at ‹_› | exact atI_nat ‹_› | exact bD_at ‹_›)⟩, ?_⟩
          refine ⟨_, ⟨_, ⟨_, _, _, (Or.inl ⟨_, rfl, rfl⟩), (by first | rfl | assumption), rfl, (by first | assumption | exact nD_at ‹_› | exact atI_nat ‹_› | exact bD_at ‹_›)⟩, rfl⟩, fun hb => ?_, fun hb => ?_⟩
          · have hb' : b = false := by simpa using hb
            subst hb'
            have hnf : m x g ∉ found := fun z => by
              rw [(c.ins _ hmn).mpr z] at hbb
              cases hbb
            refine ⟨_, _, _, _, rfl, rfl, rfl, (ixN_nat (by rw [bD_len, c.len]; exact hmn)), ?_⟩
            refine ⟨_, _, rfl, rfl, ((by rw [nD_len]; omega)), ?_⟩
            refine ⟨ins.set (m x g) true, found ++ [m x g], .sh (.int (g : Int)), .sh (.int ((m x g : Nat) : Int)), by rw [bD_set, nD_snoc]; rfl, c.fresh hx hg hnf hmn, ?_⟩
            rw [List.getElem?_append_left (List.getElem?_eq_some_iff.mp hx).1, hx]
          · have hb' : b = true := by simpa using hb
            subst hb'
            exact ⟨_, _, _, _, rfl, c.known hx hg ((c.ins _ hmn).mp hbb), hx⟩
        · obtain ⟨ins, found, s6, s7, rfl, c, hx⟩ := hw
          have hat := (List.getElem?_eq_some_iff.mp hx).1
          rw [nD_len] at c
          refine ⟨ins, found, _, _, _, rfl, ?_⟩
          rw [Nat.min_eq_left (by omega)]
          exact c.next hat
      · have hat : found.length ≤ k := by simpa [nD_len] using hb
        refine ⟨ins, found, _, _, _, rfl, ?_⟩
        rw [Nat.min_eq_right (by omega)] at c ⊢
        exact c
    · obtain ⟨ins, found, s4, s6, s7, rfl, c⟩ := hw
      have room := c.room hn hc hM
      obtain ⟨l, hp, hs⟩ := sort_ex found
      rw [hl, nD_rng, nD_len, List.length_range, Nat.min_eq_right room] at c
      refine ⟨_, ⟨_, ⟨_, _, (Or.inl ⟨_, rfl, rfl⟩), (by assumption), (by assumption), (by first | rfl | assumption)⟩, rfl⟩, ?_⟩
      exact congrArg Dt.lst (by rw [c.answer hn hc hM (Nat.le_refl _) hp hs])
theorem undo_fact {n : Nat} {m : Op} (tb : Tb n m) {a : Nat} (ha : a < n) : (rowL n m a)[iv n m a]? = some 0 ∧ ∀ k, k < iv n m a → (rowL n m a)[k]? ≠ some 0 := ⟨(idx_at (tb.iv_row ha)).1, (idx_at (tb.iv_row ha)).2.1⟩
def R_law_commutators : List Dt → Dt → Prop := fun ds r => ∃ n m f s A B, ds = [tabD n m, f, s] ∧ Tb n m ∧ n ≤ 1000 ∧ f.sq = some (nD A) ∧ s.sq = some (nD B) ∧ (∀ x ∈ A, x < n) ∧ (∀ x ∈ B, x < n) ∧ r = lN (comL n m A B)
theorem sc_law_commutators : FnScope ["_law_table_here", "_law_first", "_law_second", "_law_undo", "_law_found", "_law_a", "_law_b", "_law_row", "_law_m"] ["_law_table_here", "_law_first", "_law_second"] (defScope s_law_commutators) := ⟨rfl, rfl, rfl, by decide +kernel, rfl, by decide +kernel, by decide +kernel⟩
theorem w_law_commutators {P : Program} {w : World} {K : PySem.W.Frag} {mg : Str → Option Value} {base : Heap} {C : Addr} (T : Tx K mg C) (D : FnS K mg "_law_commutators" s_law_commutators) : Fn P w K mg base C "_law_commutators" 1 [false, false, false] R_law_commutators := by
  obtain ⟨f, fd, F, hm⟩ := D
  have S := sc_law_commutators
  obtain ⟨tM, hM⟩ := T.most
  refine Fn.of F (fn_ok (k := 0) (fl := [false, false, false]) (R := R_law_commutators) F S rfl (by decide) (fun ds r h => rawFree _ _ (by decide)) (fun cdv A outer s H E hr => have hu := hu_of hr; dss_cons (ds_lcSh (dl_lc 3 rfl S.nd [("_law_row", 7)] 7 rfl rfl (sw_true rfl rfl rfl (by decide +kernel)) (di_seqR ((dv 0).r)) (blkOk_by (by rfl)) (by decide) (fun _ => pg_name (i := 7) S.nd rfl (by first | exact Or.inl rfl | exact Or.inr rfl)) dts_nil (fun _ => de_lstIndexN ((dv 7).r) de_int (fun pa pb => pe_bm PySem.F.plainAttrs_list PySem.F.slot_list_index PySem.F.type_list_index mt_index pa (pa_cons pb pa_nil)))))
      (dss_cons (ds_own 4 S.nd (df_lc rfl S.nd [("_law_row", 7)] 7 (di_seqR ((dv 0).r)) (blkOk_by (by rfl)) (by decide) (fun _ => pg_name (i := 7) S.nd rfl (by first | exact Or.inl rfl | exact Or.inr rfl)) dts_nil (fun _ => de_bl)))
      (dss_cons (ds_for PassesOwn.never rfl (di_seq (dv 1)) (dg_name 5 S.nd) (dss_one (ds_for PassesOwn.never rfl (di_seq (dv 2)) (dg_name 6 S.nd) (dss_one (ds_setI 4 de_bl (de_ix ((de_ix ((dv 0).r) (de_ix ((dv 3).r) (de_ix ((de_ix ((dv 0).r) (dv 6)).r) (dv 5)))).r) (de_ix ((de_ix ((dv 0).r) (dv 5)).r) (dv 6))) (fun po pi => pg_sub po pi set_list))))))
      (dss_one (ds_ret ((df_lc rfl S.nd [("_law_m", 8)] 8 (di_rng1 T.range (de_len T.len ((dv 0).r))) (blkOk_by (by rfl)) (by decide) (fun _ => pg_name (i := 8) S.nd rfl (by first | exact Or.inl rfl | exact Or.inr rfl)) (dts_one fun _ => db_val (de_ix (dvo 4) (dv 8))) (fun _ => dv 8)).tree)))))) ?hp) (F.bindsN fun _ _ _ _ _ _ us hl => match us, hl with | [_, _, _], _ => rfl) hm
  case hp =>
    rintro ds r ⟨n, m, f, s, A, B, rfl, tb, hn, hf, hs, hA, hB, rfl⟩ -
    have hl := tabL_len n m
    have hinj : ∀ a ∈ List.range n, ∀ b ∈ List.range n, lN (rowL n m a) = lN (rowL n m b) → a = b := fun a ha b hb h => row_inj tb (List.mem_range.mp ha) (List.mem_range.mp hb) h
    refine ⟨_, ⟨_, (fLc_iN (M := List.range n) (gg := fun a => lN (rowL n m a)) ⟨_, rfl, (by first | rfl | assumption)⟩ (fun a => iv n m a) (fun a ha b hb h => by rw [hinj a ha b hb h]) (fun a ha => by obtain ⟨i1, i2⟩ := undo_fact tb (List.mem_range.mp ha); exact ⟨_, _, _, rfl, rfl, (by assumption), (by assumption), rfl⟩) (by simp; omega)), rfl⟩, ?_⟩
    rw [show (List.range n).map (fun a => iv n m a) = invL n m from rfl]
    refine ⟨_, (fLc_g (ts := tabL n m) ⟨_, rfl, (by first | rfl | assumption)⟩ (fun _ => .bl false) (fun t ht => rfl) (by omega)), ?_⟩
    rw [falses]
    refine ⟨_, ⟨_, rfl, (by first | rfl | assumption)⟩, fun k env => ∃ fl s5 s6, env = [.sh (tabD n m), .sh f, .sh s, .sh (lN (invL n m)), .own (bD fl), s5, s6, .un, .un] ∧ Mks n (fun x => ∃ i a, i < k ∧ A[i]? = some a ∧ ∃ b ∈ B, cm n m a b = x) fl, ?_, fun k t env' hk hw => ?_, fun env' hw => ?_⟩
    · exact ⟨_, _, _, rfl, (Mks.start n).congr fun x _ => ⟨False.elim, fun ⟨i, a, h, _⟩ => absurd h (Nat.not_lt_zero _)⟩⟩
    · obtain ⟨fl, s5, s6, rfl, mk⟩ := hw
      obtain ⟨a, ha, rfl⟩ := nD_at' hk
      have han := hA _ (List.mem_of_getElem? ha)
      refine ⟨_, rfl, ?_⟩
      refine ⟨_, ⟨_, rfl, (by first | rfl | assumption)⟩, fun j env => ∃ fl s6, env = [.sh (tabD n m), .sh f, .sh s, .sh (lN (invL n m)), .own (bD fl), .sh (.int (a : Int)), s6, .un, .un] ∧ Mks n (fun x => (∃ i a, i < k ∧ A[i]? = some a ∧ ∃ b ∈ B, cm n m a b = x) ∨ ∃ i b, i < j ∧ B[i]? = some b ∧ cm n m a b = x) fl, ?_, fun j t env' hk hw => ?_, fun env' hw => ?_⟩
      · exact ⟨_, _, rfl, mk.congr fun x _ => ⟨Or.inl, fun q => q.elim id fun ⟨i, b, h, _⟩ => absurd h (Nat.not_lt_zero _)⟩⟩
      · obtain ⟨fl, s6, rfl, mk⟩ := hw
        obtain ⟨b, hb, rfl⟩ := nD_at' hk
        have hbn := hB _ (List.mem_of_getElem? hb)
        have hba := tb.cl _ _ hbn han
        have hab := tb.cl _ _ han hbn
        have hi := tb.iv_lt hba
        have h1 : atI (tabL n m) (b : Int) = some (lN (rowL n m b)) := atI_nat (tabL_get hbn)
        have h2 := row_at (m := m) (a := b) han
        have h3 := inv_at (m := m) hba
        have h4 : atI (tabL n m) ((iv n m (m b a) : Nat) : Int) = some (lN (rowL n m (iv n m (m b a)))) := atI_nat (tabL_get hi)
        have h5 : atI (tabL n m) (a : Int) = some (lN (rowL n m a)) := atI_nat (tabL_get han)
        have h6 := row_at (m := m) (a := a) hbn
        have h7 := row_at (m := m) (a := iv n m (m b a)) hab
        have hcn := tb.cm_lt han hbn
        refine ⟨_, rfl, ?_⟩
        refine ⟨_, _, _, _, rfl, ⟨_, _, _, ⟨_, _, _, rfl, (by first | rfl | assumption), ⟨_, _, _, rfl, (by first | rfl | assumption), ⟨_, _, _, ⟨_, _, _, rfl, (by first | rfl | assumption), rfl, (by first | assumption | exact nD_at ‹_› | exact atI_nat ‹_› | exact bD_at ‹_›)⟩, (by first | rfl | assumption), rfl, (by first | assumption | exact nD_at ‹_› | exact atI_nat ‹_› | exact bD_at ‹_›)⟩, (by first | assumption | exact nD_at ‹_› | exact atI_nat ‹_› | exact bD_at ‹_›)⟩, (by first | assumption | exact nD_at ‹_› | exact atI_nat ‹_› | exact bD_at ‹_›)⟩, (by first | rfl | assumption), ⟨_, _, _, ⟨_, _, _, rfl, (by first | rfl | assumption), rfl, (by first | assumption | exact nD_at ‹_› | exact atI_nat ‹_› | exact bD_at ‹_›)⟩, (by first | rfl | assumption), rfl, (by first | assumption | exact nD_at ‹_› | exact atI_nat ‹_› | exact bD_at ‹_›)⟩, (by first | assumption | exact nD_at ‹_› | exact atI_nat ‹_› | exact bD_at ‹_›)⟩, rfl, (ixN_nat (by rw [bD_len, mk.len]; exact hcn)), ?_⟩
        rw [show List.set (bD fl) (m (iv n m (m b a)) (m a b)) (Dt.bl true) = bD (fl.set (cm n m a b) true) from (bD_set _ _ _).symm]
        refine ⟨_, _, rfl, (mk.set _).congr fun x hx => ⟨fun q => ?_, fun q => ?_⟩⟩
        · rcases q with (q | ⟨i, b', h1, h2, h3⟩) | q
          · exact Or.inl q
          · exact Or.inr ⟨i, b', by omega, h2, h3⟩
          · exact Or.inr ⟨_, b, Nat.lt_succ_self _, hb, q.symm⟩
        · rcases q with q | ⟨i, b', h1, h2, h3⟩
          · exact Or.inl (Or.inl q)
          · by_cases e : i < j
            · exact Or.inl (Or.inr ⟨i, b', e, h2, h3⟩)
            · have : i = j := by omega
              subst this
              rw [hb] at h2
              cases h2
              exact Or.inr h3.symm
      · obtain ⟨fl, s6, rfl, mk⟩ := hw
        rw [nD_len] at mk
        refine ⟨_, _, _, rfl, mk.congr fun x hx => ⟨fun q => ?_, fun q => ?_⟩⟩
        · rcases q with ⟨i, a', h1, h2, h3⟩ | ⟨i, b, h1, h2, h3⟩
          · exact ⟨i, a', by omega, h2, h3⟩
          · exact ⟨_, a, Nat.lt_succ_self _, ha, b, List.mem_of_getElem? h2, h3⟩
        · obtain ⟨i, a', h1, h2, b, h3, h4⟩ := q
          by_cases e : i < k
          · exact Or.inl ⟨i, a', e, h2, b, h3, h4⟩
          · have : i = k := by omega
            subst this
            rw [ha] at h2
            cases h2
            obtain ⟨j, hj⟩ := List.mem_iff_getElem?.mp h3
            exact Or.inr ⟨j, b, (List.getElem?_eq_some_iff.mp hj).1, hj, h4⟩
    · obtain ⟨fl, s5, s6, rfl, mk⟩ := hw
      rw [nD_len] at mk
      have ef : (List.range n).filter (fun k => fl[k]?.getD false) = comL n m A B := by
        rw [mk.filter]
        refine mem_congr fun x hx => ⟨fun ⟨i, a, _, h, b, h2, h3⟩ => ⟨a, List.mem_of_getElem? h, b, h2, h3⟩, fun ⟨a, h, b, h2, h3⟩ => ?_⟩
        obtain ⟨i, hi⟩ := List.mem_iff_getElem?.mp h
        exact ⟨i, a, (List.getElem?_eq_some_iff.mp hi).1, hi, b, h2, h3⟩
      have hz : 0 ≤ ((tabL n m).length : Int) ∧ ((tabL n m).length : Int) ≤ 100000 := by omega
      have er : rngD ((tabL n m).length : Int) = nD (List.range n) := by rw [hl, nD_rng]
      refine ⟨_, ⟨_, (fLc_f (M := List.range n) (by rw [← er]; exact ⟨_, ⟨_, _, rfl, (by first | rfl | assumption), rfl⟩, (by first | omega | (simp at *; omega) | (simp; omega)), (by first | omega | (simp at *; omega) | (simp; omega)), rfl⟩) (fun k => fl[k]?.getD false) (fun j hj => by have hj' : (fl[j]?) = some (fl[j]?.getD false) := (by obtain ⟨c, h1, _⟩ := mk.get (List.mem_range.mp hj); rw [h1]; rfl); exact ⟨_, _, _, (Or.inl ⟨_, rfl, rfl⟩), (by first | rfl | assumption), rfl, (by first | assumption | exact nD_at ‹_› | exact atI_nat ‹_› | exact bD_at ‹_›)⟩) (fun j hj => rfl) (by simp; omega)), rfl⟩, ?_⟩
      rw [ef]
def R_law_conjugates : List Dt → Dt → Prop := fun ds r => ∃ n m s M, ds = [tabD n m, s] ∧ Tb n m ∧ n ≤ 1000 ∧ s.sq = some (nD M) ∧ (∀ x ∈ M, x < n) ∧ r = lN (conL n m M)
theorem sc_law_conjugates : FnScope ["_law_table_here", "_law_members", "_law_undo", "_law_found", "_law_m", "_law_b", "_law_row"] ["_law_table_here", "_law_members"] (defScope s_law_conjugates) := ⟨rfl, rfl, rfl, by decide +kernel, rfl, by decide +kernel, by decide +kernel⟩
theorem w_law_conjugates {P : Program} {w : World} {K : PySem.W.Frag} {mg : Str → Option Value} {base : Heap} {C : Addr} (T : Tx K mg C) (D : FnS K mg "_law_conjugates" s_law_conjugates) : Fn P w K mg base C "_law_conjugates" 1 [false, false] R_law_conjugates := by
  obtain ⟨f, fd, F, hm⟩ := D
  have S := sc_law_conjugates
  obtain ⟨tM, hM⟩ := T.most
  refine Fn.of F (fn_ok (k := 0) (fl := [false, false]) (R := R_law_conjugates) F S rfl (by decide) (fun ds r h => rawFree _ _ (by decide)) (fun cdv A outer s H E hr => have hu := hu_of hr; dss_cons (ds_lcSh (dl_lc 2 rfl S.nd [("_law_row", 6)] 6 rfl rfl (sw_true rfl rfl rfl (by decide +kernel)) (di_seqR ((dv 0).r)) (blkOk_by (by rfl)) (by decide) (fun _ => pg_name (i := 6) S.nd rfl (by first | exact Or.inl rfl | exact Or.inr rfl)) dts_nil (fun _ => de_lstIndexN ((dv 6).r) de_int (fun pa pb => pe_bm PySem.F.plainAttrs_list PySem.F.slot_list_index PySem.F.type_list_index mt_index pa (pa_cons pb pa_nil)))))
      (dss_cons (ds_own 3 S.nd (df_lc rfl S.nd [("_law_row", 6)] 6 (di_seqR ((dv 0).r)) (blkOk_by (by rfl)) (by decide) (fun _ => pg_name (i := 6) S.nd rfl (by first | exact Or.inl rfl | exact Or.inr rfl)) dts_nil (fun _ => de_bl)))
      (dss_cons (ds_for PassesOwn.never rfl (di_seq (dv 1)) (dg_name 4 S.nd) (dss_one (ds_for PassesOwn.never rfl (di_rng1 T.range (de_len T.len ((dv 0).r))) (dg_name 5 S.nd) (dss_one (ds_setI 3 de_bl (de_ix ((de_ix ((dv 0).r) (de_ix ((de_ix ((dv 0).r) (de_ix ((dv 2).r) (dv 5))).r) (dv 4))).r) (dv 5)) (fun po pi => pg_sub po pi set_list))))))
      (dss_one (ds_ret ((df_lc rfl S.nd [("_law_m", 4)] 4 (di_rng1 T.range (de_len T.len ((dv 0).r))) (blkOk_by (by rfl)) (by decide) (fun _ => pg_name (i := 4) S.nd rfl (by first | exact Or.inl rfl | exact Or.inr rfl)) (dts_one fun _ => db_val (de_ix (dvo 3) (dv 4))) (fun _ => dv 4)).tree)))))) ?hp) (F.bindsN fun _ _ _ _ _ _ us hl => match us, hl with | [_, _], _ => rfl) hm
  case hp =>
    rintro ds r ⟨n, m, s, A, rfl, tb, hn, hs, hA, rfl⟩ -
    have hl := tabL_len n m
    have er : rngD ((tabL n m).length : Int) = nD (List.range n) := by rw [hl, nD_rng]
    have hinj : ∀ a ∈ List.range n, ∀ b ∈ List.range n, lN (rowL n m a) = lN (rowL n m b) → a = b := fun a ha b hb h => row_inj tb (List.mem_range.mp ha) (List.mem_range.mp hb) h
    refine ⟨_, ⟨_, (fLc_iN (M := List.range n) (gg := fun a => lN (rowL n m a)) ⟨_, rfl, (by first | rfl | assumption)⟩ (fun a => iv n m a) (fun a ha b hb h => by rw [hinj a ha b hb h]) (fun a ha => by obtain ⟨i1, i2⟩ := undo_fact tb (List.mem_range.mp ha); exact ⟨_, _, _, rfl, rfl, (by assumption), (by assumption), rfl⟩) (by simp; omega)), rfl⟩, ?_⟩
    rw [show (List.range n).map (fun a => iv n m a) = invL n m from rfl]
    refine ⟨_, (fLc_g (ts := tabL n m) ⟨_, rfl, (by first | rfl | assumption)⟩ (fun _ => .bl false) (fun t ht => rfl) (by omega)), ?_⟩
    rw [falses]
    refine ⟨_, ⟨_, rfl, (by first | rfl | assumption)⟩, fun k env => ∃ fl s4 s5, env = [.sh (tabD n m), .sh s, .sh (lN (invL n m)), .own (bD fl), s4, s5, .un] ∧ Mks n (fun x => ∃ i a, i < k ∧ A[i]? = some a ∧ ∃ b, b < n ∧ cj n m a b = x) fl, ?_, fun k t env' hk hw => ?_, fun env' hw => ?_⟩
    · exact ⟨_, _, _, rfl, (Mks.start n).congr fun x _ => ⟨False.elim, fun ⟨i, a, h, _⟩ => absurd h (Nat.not_lt_zero _)⟩⟩
    · obtain ⟨fl, s4, s5, rfl, mk⟩ := hw
      obtain ⟨a, ha, rfl⟩ := nD_at' hk
      have han := hA _ (List.mem_of_getElem? ha)
      refine ⟨_, rfl, ?_⟩
      refine ⟨_, ⟨_, ⟨_, _, rfl, (by first | rfl | assumption), rfl⟩, (by first | omega | (simp at *; omega) | (simp; omega)), (by first | omega | (simp at *; omega) | (simp; omega)), rfl⟩, fun j env => ∃ fl s5, env = [.sh (tabD n m), .sh s, .sh (lN (invL n m)), .own (bD fl), .sh (.int (a : Int)), s5, .un] ∧ Mks n (fun x => (∃ i a, i < k ∧ A[i]? = some a ∧ ∃ b, b < n ∧ cj n m a b = x) ∨ ∃ b, b < j ∧ b < n ∧ cj n m a b = x) fl, ?_, fun j t env' hk hw => ?_, fun env' hw => ?_⟩
      · exact ⟨_, _, rfl, mk.congr fun x _ => ⟨Or.inl, fun q => q.elim id fun ⟨b, h, _⟩ => absurd h (Nat.not_lt_zero _)⟩⟩
      · obtain ⟨fl, s5, rfl, mk⟩ := hw
        rw [er] at hk
        obtain ⟨b, hb, rfl⟩ := nD_at' hk
        obtain ⟨hjn, e⟩ := List.getElem?_eq_some_iff.mp hb
        rw [List.getElem_range] at e
        subst e
        rw [List.length_range] at hjn
        have hi := tb.iv_lt hjn
        have h1 := inv_at (m := m) hjn
        have h2 : atI (tabL n m) ((iv n m j : Nat) : Int) = some (lN (rowL n m (iv n m j))) := atI_nat (tabL_get hi)
        have h3 := row_at (m := m) (a := iv n m j) han
        have h4 := tb.cl _ _ hi han
        have h5 : atI (tabL n m) ((m (iv n m j) a : Nat) : Int) = some (lN (rowL n m (m (iv n m j) a))) := atI_nat (tabL_get h4)
        have h6 := row_at (m := m) (a := m (iv n m j) a) hjn
        have hcn := tb.cj_lt han hjn
        refine ⟨_, rfl, ?_⟩
        refine ⟨_, _, _, _, rfl, ⟨_, _, _, ⟨_, _, _, rfl, (by first | rfl | assumption), ⟨_, _, _, ⟨_, _, _, rfl, (by first | rfl | assumption), ⟨_, _, _, rfl, (by first | rfl | assumption), rfl, (by first | assumption | exact nD_at ‹_› | exact atI_nat ‹_› | exact bD_at ‹_›)⟩, (by first | assumption | exact nD_at ‹_› | exact atI_nat ‹_› | exact bD_at ‹_›)⟩, (by first | rfl | assumption), rfl, (by first | assumption | exact nD_at ‹_› | exact atI_nat ‹_› | exact bD_at ‹_›)⟩, (by first | assumption | exact nD_at ‹_› | exact atI_nat ‹_› | exact bD_at ‹_›)⟩, (by first | rfl | assumption), rfl, (by first | assumption | exact nD_at ‹_› | exact atI_nat ‹_› | exact bD_at ‹_›)⟩, rfl, (ixN_nat (by rw [bD_len, mk.len]; exact hcn)), ?_⟩
        rw [show List.set (bD fl) (m (m (iv n m j) a) j) (Dt.bl true) = bD (fl.set (cj n m a j) true) from (bD_set _ _ _).symm]
        refine ⟨_, _, rfl, (mk.set _).congr fun x hx => ⟨fun q => ?_, fun q => ?_⟩⟩
        · rcases q with (q | ⟨b', h1, h2, h3⟩) | q
          · exact Or.inl q
          · exact Or.inr ⟨b', by omega, h2, h3⟩
          · exact Or.inr ⟨j, Nat.lt_succ_self _, hjn, q.symm⟩
        · rcases q with q | ⟨b', g1, g2, g3⟩
          · exact Or.inl (Or.inl q)
          · by_cases e : b' < j
            · exact Or.inl (Or.inr ⟨b', e, g2, g3⟩)
            · have : b' = j := by omega
              subst this
              exact Or.inr g3.symm
      · obtain ⟨fl, s5, rfl, mk⟩ := hw
        rw [er, nD_len, List.length_range] at mk
        refine ⟨_, _, _, rfl, mk.congr fun x hx => ⟨fun q => ?_, fun q => ?_⟩⟩
        · rcases q with ⟨i, a', h1, h2, h3⟩ | ⟨b, h1, h2, h3⟩
          · exact ⟨i, a', by omega, h2, h3⟩
          · exact ⟨_, a, Nat.lt_succ_self _, ha, b, h2, h3⟩
        · obtain ⟨i, a', h1, h2, b, h3, h4⟩ := q
          by_cases e : i < k
          · exact Or.inl ⟨i, a', e, h2, b, h3, h4⟩
          · have : i = k := by omega
            subst this
            rw [ha] at h2
            cases h2
            exact Or.inr ⟨b, h3, h3, h4⟩
    · obtain ⟨fl, s4, s5, rfl, mk⟩ := hw
      rw [nD_len] at mk
      have ef : (List.range n).filter (fun k => fl[k]?.getD false) = conL n m A := by
        rw [mk.filter]
        refine mem_congr fun x hx => ⟨fun ⟨i, a, _, h, b, h2, h3⟩ => ⟨a, List.mem_of_getElem? h, b, h2, h3⟩, fun ⟨a, h, b, h2, h3⟩ => ?_⟩
        obtain ⟨i, hi⟩ := List.mem_iff_getElem?.mp h
        exact ⟨i, a, (List.getElem?_eq_some_iff.mp hi).1, hi, b, h2, h3⟩
      refine ⟨_, ⟨_, (fLc_f (M := List.range n) (by rw [← er]; exact ⟨_, ⟨_, _, rfl, (by first | rfl | assumption), rfl⟩, (by first | omega | (simp at *; omega) | (simp; omega)), (by first | omega | (simp at *; omega) | (simp; omega)), rfl⟩) (fun k => fl[k]?.getD false) (fun j hj => by have hj' : (fl[j]?) = some (fl[j]?.getD false) := (by obtain ⟨c, h1, _⟩ := mk.get (List.mem_range.mp hj); rw [h1]; rfl); exact ⟨_, _, _, (Or.inl ⟨_, rfl, rfl⟩), (by first | rfl | assumption), rfl, (by first | assumption | exact nD_at ‹_› | exact atI_nat ‹_› | exact bD_at ‹_›)⟩) (fun j hj => rfl) (by simp; omega)), rfl⟩, ?_⟩
      rw [ef]
def R_law_cosets : List Dt → Dt → Prop := fun ds r => ∃ n m s S, ds = [tabD n m, s] ∧ Tb n m ∧ n ≤ 60 ∧ s.sq = some (nD S) ∧ Sub n m S ∧ r = .lst (rowD (cosL n m S))
theorem sc_law_cosets : FnScope ["_law_table_here", "_law_subgroup", "_law_seen", "_law_found", "_law_a", "_law_row", "_law_part", "_law_m", "_law_s"] ["_law_table_here", "_law_subgroup"] (defScope s_law_cosets) := ⟨rfl, rfl, rfl, by decide +kernel, rfl, by decide +kernel, by decide +kernel⟩
theorem w_law_cosets {P : Program} {w : World} {K : PySem.W.Frag} {mg : Str → Option Value} {base : Heap} {C : Addr} (T : Tx K mg C) (D : FnS K mg "_law_cosets" s_law_cosets) : Fn P w K mg base C "_law_cosets" 1 [false, false] R_law_cosets := by
  obtain ⟨f, fd, F, hm⟩ := D
  have S := sc_law_cosets
  obtain ⟨tM, hM⟩ := T.most
  refine Fn.of F (fn_ok (k := 0) (fl := [false, false]) (R := R_law_cosets) F S rfl (by decide) (fun ds r h => rawFree _ _ (by decide)) (fun cdv A outer s H E hr => have hu := hu_of hr; dss_cons (ds_lcOwn (dl_lc 2 rfl S.nd [("_law_row", 5)] 5 rfl rfl (sw_true rfl rfl rfl (by decide +kernel)) (di_seqR ((dv 0).r)) (blkOk_by (by rfl)) (by decide) (fun _ => pg_name (i := 5) S.nd rfl (by first | exact Or.inl rfl | exact Or.inr rfl)) dts_nil (fun _ => de_bl)))
      (dss_cons (ds_own 3 S.nd (df_lst da_nil))
      (dss_cons (ds_for PassesOwn.never rfl (di_rng1 T.range (de_len T.len ((dv 0).r))) (dg_name 4 S.nd) (dss_one (ds_if (db_not (db_val (de_ix (dvo 2) (dv 4)))) (dss_cons (ds_set 6 S.nd ((df_sortedN T.sorted (((df_lc rfl S.nd [("_law_s", 8)] 8 (di_seqR ((dv 1).r)) (blkOk_by (by rfl)) (by decide) (fun _ => pg_name (i := 8) S.nd rfl (by first | exact Or.inl rfl | exact Or.inr rfl)) dts_nil (fun _ => de_ix ((de_ix ((dv 0).r) (dv 8)).r) (dv 4))).tree).r)).tree))
      (dss_cons (ds_for PassesOwn.never rfl (di_seq (dv 6)) (dg_name 7 S.nd) (dss_one (ds_setI 2 de_bl (dv 7) (fun po pi => pg_sub po pi set_list))))
      (dss_one (ds_app 3 (de_tupL T.tuple ((dv 6).r)))))) dss_nil)))
      (dss_one (ds_retO 3))))) ?hp) (F.bindsN fun _ _ _ _ _ _ us hl => match us, hl with | [_, _], _ => rfl) hm
  case hp =>
    rintro ds r ⟨n, m, s, S, rfl, tb, hn, hsq, sub, rfl⟩ -
    have hl := tabL_len n m
    have er : rngD ((tabL n m).length : Int) = nD (List.range n) := by rw [hl, nD_rng]
    have hsl := sub_len sub
    refine ⟨_, (fLc_g (ts := tabL n m) ⟨_, rfl, (by first | rfl | assumption)⟩ (fun _ => .bl false) (fun t ht => rfl) (by omega)), ?_⟩
    rw [falses]
    refine ⟨_, ⟨rfl, (by first | (simp; done) | omega | (simp; omega))⟩, ?_⟩
    refine ⟨_, ⟨_, ⟨_, _, rfl, (by first | rfl | assumption), rfl⟩, (by first | omega | (simp at *; omega) | (simp; omega)), (by first | omega | (simp at *; omega) | (simp; omega)), rfl⟩, fun k env => ∃ fl s4 s6 s7, env = [.sh (tabD n m), .sh s, .own (bD fl), .own (rowD (cosTo n m S k)), s4, .un, s6, s7, .un] ∧ Mks n (fun x => x ∈ (cosTo n m S k).flatten) fl, ?_, fun k t env' hk hw => ?_, fun env' hw => ?_⟩
    · exact ⟨_, _, _, _, rfl, (Mks.start n).congr fun x _ => by simp [cosTo]⟩
    · obtain ⟨fl, s4, s6, s7, rfl, mk⟩ := hw
      rw [er] at hk
      obtain ⟨x, hx, rfl⟩ := nD_at' hk
      obtain ⟨hkn, e⟩ := List.getElem?_eq_some_iff.mp hx
      rw [List.getElem_range] at e
      subst e
      rw [List.length_range] at hkn
      obtain ⟨b, hb1, hb2⟩ := mk.get hkn
      refine ⟨_, rfl, ?_⟩
      refine ⟨_, ⟨_, ⟨_, _, _, (Or.inl ⟨_, rfl, rfl⟩), (by first | rfl | assumption), rfl, (by first | assumption | exact nD_at ‹_› | exact atI_nat ‹_› | exact bD_at ‹_›)⟩, rfl⟩, fun hb => ?_, fun hb => ?_⟩
      · have hb' : b = false := by simpa using hb
        subst hb'
        have hnot : ¬ k ∈ (cosTo n m S k).flatten := fun z => by simpa using hb2.mpr z
        have e : cosTo n m S (k + 1) = cosTo n m S k ++ [coset n m S k] := by rw [cosTo_succ, cosStep, if_neg hnot]
        have hp := coset_map tb sub hkn
        have hso : (coset n m S k).Pairwise (· ≤ ·) := mem_le _ _
        have hrow : ∀ a ∈ S, atI (tabL n m) (a : Int) = some (lN (rowL n m a)) := fun a ha => atI_nat (tabL_get (sub.lt a ha))
        have hent : ∀ a, atI (nD (rowL n m a)) (k : Int) = some (.int ((m a k : Nat) : Int)) := fun a => row_at hkn
        refine ⟨_, ⟨_, ⟨_, _, ⟨_, (fLc_aN (M := S) ⟨_, rfl, (by first | rfl | assumption)⟩ (fun a => m a k) (fun a ha => by have h1 := hrow a ha; have h2 := hent a; exact ⟨_, _, _, ⟨_, _, _, rfl, (by first | rfl | assumption), rfl, (by first | assumption | exact nD_at ‹_› | exact atI_nat ‹_› | exact bD_at ‹_›)⟩, (by first | rfl | assumption), rfl, (by first | assumption | exact nD_at ‹_› | exact atI_nat ‹_› | exact bD_at ‹_›)⟩) (by omega)), rfl⟩, (by assumption), (by assumption), (by first | rfl | assumption)⟩, rfl⟩, ?_⟩
        refine ⟨_, ⟨_, rfl, (by first | rfl | assumption)⟩, fun j env => ∃ fl s7, env = [.sh (tabD n m), .sh s, .own (bD fl), .own (rowD (cosTo n m S k)), .sh (.int (k : Int)), .un, .sh (lN (coset n m S k)), s7, .un] ∧ Mks n (fun x => x ∈ (cosTo n m S k).flatten ∨ x ∈ (coset n m S k).take j) fl, ?_, fun j t env' hk hw => ?_, fun env' hw => ?_⟩
        · exact ⟨_, _, rfl, mk.congr fun x _ => by simp⟩
        · obtain ⟨fl, s7, rfl, mk⟩ := hw
          obtain ⟨y, hy, rfl⟩ := nD_at' hk
          have hyn : y < n := mem_lt (List.mem_of_getElem? hy)
          refine ⟨_, rfl, ?_⟩
          refine ⟨_, _, _, _, rfl, rfl, rfl, (ixN_nat (by rw [bD_len, mk.len]; exact hyn)), ?_⟩
          rw [show List.set (bD fl) y (Dt.bl true) = bD (fl.set y true) from (bD_set _ _ _).symm]
          refine ⟨_, _, rfl, (mk.set y).congr fun x hx => ?_⟩
          rw [List.take_add_one, hy]
          simp [or_assoc]
        · obtain ⟨fl, s7, rfl, mk⟩ := hw
          rw [nD_len, List.take_length] at mk
          refine ⟨_, _, rfl, ⟨_, rfl, rfl⟩, (by have := cosTo_len (n := n) (m := m) (S := S) k; simp; omega), ?_⟩
          exact ⟨fl, .sh (.int (k : Int)), .sh (lN (coset n m S k)), s7, by rw [e, rowD, rowD, List.map_append]; rfl, mk.congr fun x hx => by rw [e]; simp⟩
      · have hb' : b = true := by simpa using hb
        have hin : k ∈ (cosTo n m S k).flatten := hb2.mp hb'
        have e : cosTo n m S (k + 1) = cosTo n m S k := by rw [cosTo_succ, cosStep, if_pos hin]
        exact ⟨fl, _, _, _, by rw [e]; rfl, by rw [e]; exact mk⟩
    · obtain ⟨fl, s4, s6, s7, rfl, mk⟩ := hw
      rw [er, nD_len, List.length_range]
      refine ⟨_, rfl, ?_⟩
      rfl
def R_law_picture : List Dt → Dt → Prop := fun ds r => ∃ n m s S, ds = [tabD n m, s] ∧ Tb n m ∧ n ≤ 60 ∧ s.sq = some (nD S) ∧ Sub n m S ∧ r = lN (picL n (cosL n m S))
theorem sc_law_picture : FnScope ["_law_table_here", "_law_subgroup", "_law_parts", "_law_picture_here", "_law_k", "_law_m", "_law_row"] ["_law_table_here", "_law_subgroup"] (defScope s_law_picture) := ⟨rfl, rfl, rfl, by decide +kernel, rfl, by decide +kernel, by decide +kernel⟩
theorem w_law_picture {P : Program} {w : World} {K : PySem.W.Frag} {mg : Str → Option Value} {base : Heap} {C : Addr} (T : Tx K mg C) (D : FnS K mg "_law_picture" s_law_picture) (F__law_cosets : Fn P w K mg base C "_law_cosets" 1 [false, false] R_law_cosets) : Fn P w K mg base C "_law_picture" 2 [false, false] R_law_picture := by
  obtain ⟨f, fd, F, hm⟩ := D
  have S := sc_law_picture
  obtain ⟨tM, hM⟩ := T.most
  refine Fn.of F (fn_ok (k := 1) (fl := [false, false]) (R := R_law_picture) F S rfl (by decide) (fun ds r h => rawFree _ _ (by decide)) (fun cdv A outer s H E hr => have hu := hu_of hr; dss_cons (ds_set 2 S.nd (de_call F__law_cosets (hr.mono (by decide)) (da_sh (dv 0) (da_sh (dv 1) da_nil))))
      (dss_cons (ds_lcOwn (dl_lc 3 rfl S.nd [("_law_row", 6)] 6 rfl rfl (sw_true rfl rfl rfl (by decide +kernel)) (di_seqR ((dv 0).r)) (blkOk_by (by rfl)) (by decide) (fun _ => pg_name (i := 6) S.nd rfl (by first | exact Or.inl rfl | exact Or.inr rfl)) dts_nil (fun _ => de_int)))
      (dss_cons (ds_for PassesOwn.never rfl (di_rng1 T.range (de_len T.len ((dv 2).r))) (dg_name 4 S.nd) (dss_one (ds_for PassesOwn.never rfl (di_seq (de_ix ((dv 2).r) (dv 4))) (dg_name 5 S.nd) (dss_one (ds_setI 3 (dv 4) (dv 5) (fun po pi => pg_sub po pi set_list))))))
      (dss_one (ds_retO 3))))) ?hp) (F.bindsN fun _ _ _ _ _ _ us hl => match us, hl with | [_, _], _ => rfl) hm
  case hp =>
    rintro ds r ⟨n, m, s, S, rfl, tb, hn, hsq, sub, rfl⟩ -
    have hl := tabL_len n m
    have c2 : R_law_cosets [tabD n m, s] (.lst (rowD (cosL n m S))) := ⟨n, m, s, S, rfl, tb, hn, hsq, sub, rfl⟩
    have hcm : ∀ c ∈ cosL n m S, ∃ h t, c = h :: t ∧ ∀ x ∈ c, x < n := cos_mem tb sub n (Nat.le_refl _)
    have hql : (cosL n m S).length ≤ n := cosTo_len n
    generalize cosL n m S = cs at c2 hcm hql ⊢
    refine ⟨_, ⟨_, ⟨_, _, rfl, ⟨_, _, rfl, rfl, rfl⟩, rfl⟩, (by assumption)⟩, ?_⟩
    refine ⟨_, (fLc_g (ts := tabL n m) ⟨_, rfl, (by first | rfl | assumption)⟩ (fun _ => .int 0) (fun t ht => rfl) (by omega)), ?_⟩
    rw [zeros, show List.replicate n 0 = picTo n cs 0 from rfl]
    refine ⟨_, ⟨_, ⟨_, _, rfl, (by first | rfl | assumption), rfl⟩, (by first | omega | (rw [List.length_map]; omega)), (by first | omega | (rw [List.length_map]; omega)), rfl⟩, fun k env => ∃ s4 s5, env = [.sh (tabD n m), .sh s, .sh (.lst (rowD cs)), .own (nD (picTo n cs k)), s4, s5, .un], ?_, fun k t env' hk hw => ?_, fun env' hw => ?_⟩
    · exact ⟨_, _, rfl⟩
    · obtain ⟨s4, s5, rfl⟩ := hw
      rw [List.length_map, nD_rng] at hk
      obtain ⟨k', hk', rfl⟩ := nD_at' hk
      obtain ⟨hkn, e⟩ := List.getElem?_eq_some_iff.mp hk'
      rw [List.getElem_range] at e
      subst e
      rw [List.length_range] at hkn
      have hc := List.getElem?_eq_getElem hkn
      generalize hcc : cs[k] = c at hc
      obtain ⟨_, _, _, hcn⟩ := hcm c (List.mem_of_getElem? hc)
      have hat : atI (rowD cs) (k : Int) = some (tN c) := atI_nat (by rw [List.getElem?_map, hc]; rfl)
      refine ⟨_, rfl, ?_⟩
      refine ⟨_, ⟨_, ⟨_, _, _, rfl, (by first | rfl | assumption), rfl, (by first | assumption | exact nD_at ‹_› | exact atI_nat ‹_› | exact bD_at ‹_›)⟩, (by first | rfl | assumption)⟩, fun j env => ∃ s5, env = [.sh (tabD n m), .sh s, .sh (.lst (rowD cs)), .own (nD (picIn (picTo n cs k) k (c.take j))), .sh (.int (k : Int)), s5, .un], ?_, fun j t env' hk hw => ?_, fun env' hw => ?_⟩
      · exact ⟨_, rfl⟩
      · obtain ⟨s5, rfl⟩ := hw
        obtain ⟨x, hx, rfl⟩ := nD_at' hk
        have hxn := hcn x (List.mem_of_getElem? hx)
        refine ⟨_, rfl, ?_⟩
        refine ⟨_, _, _, _, rfl, rfl, rfl, (ixN_nat (by rw [nD_len, picIn_len, picTo_len]; exact hxn)), ?_⟩
        refine ⟨.sh (.int (x : Int)), ?_⟩
        have e : picIn (picTo n cs k) k (c.take (j + 1)) = (picIn (picTo n cs k) k (c.take j)).set x k := by
          rw [List.take_add_one, hx]
          unfold picIn
          rw [List.foldl_append]
          rfl
        rw [e, nD_set]
        rfl
      · obtain ⟨s5, rfl⟩ := hw
        have e : picTo n cs (k + 1) = picIn (picTo n cs k) k c := by
          show picIn (picTo n cs k) k (cs.getD k []) = _
          rw [List.getD_eq_getElem?_getD, hc]
          rfl
        rw [nD_len, List.take_length, ← e]
        exact ⟨_, _, rfl⟩
    obtain ⟨s4, s5, rfl⟩ := hw
    rw [List.length_map, nD_rng, nD_len, List.length_range]
    refine ⟨_, rfl, ?_⟩
    rfl
def R_law_subtable : List Dt → Dt → Prop := fun ds r => ∃ n m S, ds = [tabD n m, .xtp (nD S)] ∧ n ≤ 1000 ∧ S.length ≤ 1000 ∧ (∀ x ∈ S, x < n) ∧ (∀ a ∈ S, ∀ b ∈ S, m a b ∈ S) ∧ r = tabD S.length (sb m S)
theorem sc_law_subtable : FnScope ["_law_table_here", "_law_subgroup", "_law_a", "_law_b"] ["_law_table_here", "_law_subgroup"] (defScope s_law_subtable) := ⟨rfl, rfl, rfl, by decide +kernel, rfl, by decide +kernel, by decide +kernel⟩
theorem w_law_subtable {P : Program} {w : World} {K : PySem.W.Frag} {mg : Str → Option Value} {base : Heap} {C : Addr} (T : Tx K mg C) (D : FnS K mg "_law_subtable" s_law_subtable) : Fn P w K mg base C "_law_subtable" 1 [false, false] R_law_subtable := by
  obtain ⟨f, fd, F, hm⟩ := D
  have S := sc_law_subtable
  obtain ⟨tM, hM⟩ := T.most
  refine Fn.of F (fn_ok (k := 0) (fl := [false, false]) (R := R_law_subtable) F S rfl (by decide) (fun ds r h => rawFree _ _ (by decide)) (fun cdv A outer s H E hr => have hu := hu_of hr; dss_one (ds_ret ((df_lc rfl S.nd [("_law_a", 2)] 2 (di_seqR ((dv 1).r)) (blkOk_by (by rfl)) (by decide) (fun _ => pg_name (i := 2) S.nd rfl (by first | exact Or.inl rfl | exact Or.inr rfl)) dts_nil (fun _ => (df_lc rfl S.nd [("_law_b", 3)] 3 (di_seqR ((dv 1).r)) (blkOk_by (by rfl)) (by decide) (fun _ => pg_name (i := 3) S.nd rfl (by first | exact Or.inl rfl | exact Or.inr rfl)) dts_nil (fun _ => de_tupIndexN (dv 1) (de_ix ((de_ix ((dv 0).r) (dv 2)).r) (dv 3)))).tree)).tree))) ?hp) (F.bindsN fun _ _ _ _ _ _ us hl => match us, hl with | [_, _], _ => rfl) hm
  case hp =>
    rintro ds r ⟨n, m, S, rfl, hn, hl, hS, cl, rfl⟩ -
    have hrow : ∀ a ∈ S, atI (tabL n m) (a : Int) = some (lN (rowL n m a)) := fun a ha => atI_nat (tabL_get (hS a ha))
    have hent : ∀ a, ∀ b ∈ S, atI (nD (rowL n m a)) (b : Int) = some (.int ((m a b : Nat) : Int)) := fun a b hb => row_at (hS b hb)
    have hix : ∀ a ∈ S, ∀ b ∈ S, S[idx (m a b) S]? = some (m a b) ∧ ∀ k, k < idx (m a b) S → S[k]? ≠ some (m a b) := fun a ha b hb => ⟨(idx_at (cl a ha b hb)).1, (idx_at (cl a ha b hb)).2.1⟩
    refine ⟨_, ⟨_, (fLc_a (M := S) ⟨_, rfl, (by first | rfl | assumption)⟩ (fun a => lN (S.map fun b => idx (m a b) S)) (fun a ha => ⟨_, (fLc_aN (M := S) ⟨_, rfl, (by first | rfl | assumption)⟩ (fun b => idx (m a b) S) (fun b hb => by have h1 := hrow a ha; have h2 := hent a b hb; obtain ⟨h3, h4⟩ := hix a ha b hb; exact ⟨_, _, _, rfl, ⟨_, _, _, ⟨_, _, _, rfl, (by first | rfl | assumption), rfl, (by first | assumption | exact nD_at ‹_› | exact atI_nat ‹_› | exact bD_at ‹_›)⟩, (by first | rfl | assumption), rfl, (by first | assumption | exact nD_at ‹_› | exact atI_nat ‹_› | exact bD_at ‹_›)⟩, (by assumption), (by assumption), rfl⟩) (by omega)), rfl⟩) (by omega)), rfl⟩, ?_⟩
    exact congrArg Dt.lst (sb_tab m S)
end CM
set_option Elab.async false
set_option linter.all false
set_option maxRecDepth 100000
set_option maxHeartbeats 1000000
/-! Walks: the helper's series. -/
namespace CM
open PySem PySem.Spec PyProof.Rows L2
theorem rowD_app (a b : List (List Nat)) : rowD (a ++ b) = rowD a ++ rowD b := List.map_append ..
theorem eqD_true {a b : List Nat} (h : a = b) : EqD (tN a) (tN b) true := by
  have := eqD_tN a b
  rw [decide_eq_true h] at this
  exact this
def R_law_series : List Dt → Dt → Prop := fun ds r => ∃ n m d rw, ds = [tabD n m, .bl d] ∧ Tb n m ∧ n ≤ 1000 ∧ IsRow (sF n m d) (List.range n) rw ∧ rw.length ≤ 9 ∧ r = .lst (rowD rw)
theorem sc_law_series : FnScope ["_law_table_here", "_law_derived", "_law_row", "_law_k", "_law_first", "_law_following"] ["_law_table_here", "_law_derived"] (defScope s_law_series) := ⟨rfl, rfl, rfl, by decide +kernel, rfl, by decide +kernel, by decide +kernel⟩
theorem w_law_series {P : Program} {w : World} {K : PySem.W.Frag} {mg : Str → Option Value} {base : Heap} {C : Addr} (T : Tx K mg C) (D : FnS K mg "_law_series" s_law_series) (F__law_closed : Fn P w K mg base C "_law_closed" 1 [false, false] R_law_closed) (F__law_commutators : Fn P w K mg base C "_law_commutators" 1 [false, false, false] R_law_commutators) : Fn P w K mg base C "_law_series" 2 [false, false] R_law_series := by
  obtain ⟨f, fd, F, hm⟩ := D
  have S := sc_law_series
  obtain ⟨tM, hM⟩ := T.most
  refine Fn.of F (fn_ok (k := 1) (fl := [false, false]) (R := R_law_series) F S rfl (by decide) (fun ds r h => rawFree _ _ (by decide)) (fun cdv A outer s H E hr => have hu := hu_of hr; dss_cons (ds_own 2 S.nd (df_lst (da_sh (de_tupRg rfl T.tuple T.range (de_len T.len ((dv 0).r))) da_nil)))
      (dss_cons (ds_for PassesOwn.never rfl (di_rng1 T.range de_int) (dg_name 3 S.nd) (dss_cons (ds_set 4 S.nd (de_ix (dvo 2) de_int))
      (dss_cons (ds_if (db_val (dv 1)) (dss_one (ds_set 4 S.nd (de_ix (dvo 2) (de_neg de_int)))) dss_nil)
      (dss_cons (ds_set 5 S.nd (de_tupL T.tuple ((de_call F__law_closed (hr.mono (by decide)) (da_sh (dv 0) (da_sh (de_call F__law_commutators (hr.mono (by decide)) (da_sh (dv 0) (da_sh (dv 4) (da_sh (de_ix (dvo 2) (de_neg de_int)) da_nil)))) da_nil))).r)))
      (dss_cons (ds_if (db_eqD hr.units ((dv 5).r) ((de_ix (dvo 2) (de_neg de_int)).r)) (dss_one ds_break) dss_nil)
      (dss_one (ds_app 2 (dv 5))))))))
      (dss_one (ds_retO 2)))) ?hp) (F.bindsN fun _ _ _ _ _ _ us hl => match us, hl with | [_, _], _ => rfl) hm
  case hp =>
    rintro ds r ⟨n, m, d, rw_, rfl, tb, hn, hrow, hrl, rfl⟩ -
    have hl := tabL_len n m
    have hpos := hrow.pos
    have hlt : ∀ a ∈ rw_, (∀ x ∈ a, x < n) ∧ a.length ≤ n := fun a ha => IsRow.lt (p := fun a => Rch m (comL n m (if d = true then a else List.range n) a)) hrow rng_lt (by simp) ha
    have e0 : rowD (rw_.take (0 + 1)) = [Dt.tup (nD (List.range n))] := by rw [row_next hrow.z]; rfl
    refine ⟨_, ⟨⟨_, _, ⟨_, ⟨_, _, rfl, (by first | rfl | assumption), rfl⟩, (by omega), (by omega), rfl⟩, rfl, rfl⟩, (by first | (simp; done) | omega | (simp; omega))⟩, ?_⟩
    rw [hl, nD_rng, ← e0]
    refine ⟨_, ⟨_, rfl, (by omega), (by omega), rfl⟩, fun k env => ∃ s3 s4 s5, env = [.sh (tabD n m), .sh (.bl d), .own (rowD (rw_.take (k + 1))), s3, s4, s5] ∧ k < rw_.length, ?_, fun k t env' hk hw => ?_, fun env' hw => ?_⟩
    · exact ⟨_, _, _, rfl, hpos⟩
    · obtain ⟨s3, s4, s5, rfl, hkr⟩ := hw
      have ha := List.getElem?_eq_getElem hkr
      generalize hga : rw_[k] = a at ha
      have hla := row_last ha
      obtain ⟨h1, h2⟩ := hlt a (List.mem_of_getElem? ha)
      have hz : atI (rowD (rw_.take (k + 1))) 0 = some (tN (List.range n)) := by
        refine atI_zero ?_
        rw [List.getElem?_map, List.getElem?_take_of_lt (by omega), hrow.z]
        rfl
      have hkk : k < 8 := by
        have := (List.getElem?_eq_some_iff.mp hk).1
        rw [show (rngD 8).length = 8 by simp [rngD]] at this
        exact this
      refine ⟨_, rfl, ?_⟩
      refine ⟨_, ⟨_, _, _, (Or.inl ⟨_, rfl, rfl⟩), (by first | rfl | assumption), rfl, (by first | assumption | exact nD_at ‹_› | exact atI_nat ‹_› | exact bD_at ‹_›)⟩, ?_⟩
      refine ⟨_, rfl, fun hb => ?_, fun hb => ?_⟩
      · have hd : d = true := hb
        refine ⟨_, ⟨_, _, _, (Or.inl ⟨_, rfl, rfl⟩), (by first | rfl | assumption), ⟨_, rfl, rfl⟩, (by first | assumption | exact nD_at ‹_› | exact atI_nat ‹_› | exact bD_at ‹_›)⟩, ?_⟩
        have hc1 : R_law_commutators [tabD n m, tN a, tN a] (lN (comL n m a a)) := ⟨n, m, _, _, a, a, rfl, tb, hn, rfl, rfl, h1, h1, rfl⟩
        have hc2 : R_law_closed [tabD n m, lN (comL n m a a)] (lN (sF n m d a)) := ⟨n, m, _, comL n m a a, rfl, tb.pos, hn, tb.cl, rfl, fun x hx => mem_lt hx, by rw [sF, if_pos hd]⟩
        refine ⟨_, ⟨_, ⟨_, ⟨_, _, rfl, ⟨_, _, ⟨_, ⟨_, _, rfl, ⟨_, _, rfl, ⟨_, _, ⟨_, _, _, (Or.inl ⟨_, rfl, rfl⟩), (by first | rfl | assumption), ⟨_, rfl, rfl⟩, (by first | assumption | exact nD_at ‹_› | exact atI_nat ‹_› | exact bD_at ‹_›)⟩, rfl, rfl⟩, rfl⟩, rfl⟩, (by assumption)⟩, rfl, rfl⟩, rfl⟩, (by assumption)⟩, rfl⟩, ?_⟩
        refine ⟨_, ⟨_, _, rfl, ⟨_, _, _, (Or.inl ⟨_, rfl, rfl⟩), (by first | rfl | assumption), ⟨_, rfl, rfl⟩, (by first | assumption | exact nD_at ‹_› | exact atI_nat ‹_› | exact bD_at ‹_›)⟩, (by first | assumption | exact eqD_tN _ _ | exact eqD_lN _ _)⟩, fun hb => ?_, fun hb => ?_⟩
        · have e : sF n m d a = a := by simpa using hb
          have hk1 : k + 1 = rw_.length := by
            by_cases q : k + 1 < rw_.length
            · have := hrow.nx k a _ ha (List.getElem?_eq_getElem q)
              exact absurd (this.1.symm.trans e) this.2
            · omega
          refine ⟨_, rfl, ?_⟩
          rw [row_full (by omega)]
        · have e : sF n m d a ≠ a := by simpa using hb
          have hk1 : k + 1 < rw_.length := by
            by_cases q : k + 1 < rw_.length
            · exact q
            · refine absurd (hrow.st a ?_) e
              rw [show rw_.length - 1 = k by omega]
              exact ha
          have hb1 := List.getElem?_eq_getElem hk1
          have hnx := (hrow.nx k a _ ha hb1).1
          rw [← hnx] at hb1
          refine ⟨_, _, rfl, rfl, (by simp; omega), ?_⟩
          exact ⟨_, _, _, by rw [row_next hb1]; rfl, hk1⟩
      · have hd : ¬ d = true := by rw [hb]; simp
        have hc1 : R_law_commutators [tabD n m, tN (List.range n), tN a] (lN (comL n m (List.range n) a)) := ⟨n, m, _, _, _, a, rfl, tb, hn, rfl, rfl, rng_lt, h1, rfl⟩
        have hc2 : R_law_closed [tabD n m, lN (comL n m (List.range n) a)] (lN (sF n m d a)) := ⟨n, m, _, comL n m (List.range n) a, rfl, tb.pos, hn, tb.cl, rfl, fun x hx => mem_lt hx, by rw [sF, if_neg hd]⟩
        refine ⟨_, ⟨_, ⟨_, ⟨_, _, rfl, ⟨_, _, ⟨_, ⟨_, _, rfl, ⟨_, _, rfl, ⟨_, _, ⟨_, _, _, (Or.inl ⟨_, rfl, rfl⟩), (by first | rfl | assumption), ⟨_, rfl, rfl⟩, (by first | assumption | exact nD_at ‹_› | exact atI_nat ‹_› | exact bD_at ‹_›)⟩, rfl, rfl⟩, rfl⟩, rfl⟩, (by assumption)⟩, rfl, rfl⟩, rfl⟩, (by assumption)⟩, rfl⟩, ?_⟩
        refine ⟨_, ⟨_, _, rfl, ⟨_, _, _, (Or.inl ⟨_, rfl, rfl⟩), (by first | rfl | assumption), ⟨_, rfl, rfl⟩, (by first | assumption | exact nD_at ‹_› | exact atI_nat ‹_› | exact bD_at ‹_›)⟩, (by first | assumption | exact eqD_tN _ _ | exact eqD_lN _ _)⟩, fun hb => ?_, fun hb => ?_⟩
        · have e : sF n m d a = a := by simpa using hb
          have hk1 : k + 1 = rw_.length := by
            by_cases q : k + 1 < rw_.length
            · have := hrow.nx k a _ ha (List.getElem?_eq_getElem q)
              exact absurd (this.1.symm.trans e) this.2
            · omega
          refine ⟨_, rfl, ?_⟩
          rw [row_full (by omega)]
        · have e : sF n m d a ≠ a := by simpa using hb
          have hk1 : k + 1 < rw_.length := by
            by_cases q : k + 1 < rw_.length
            · exact q
            · refine absurd (hrow.st a ?_) e
              rw [show rw_.length - 1 = k by omega]
              exact ha
          have hb1 := List.getElem?_eq_getElem hk1
          have hnx := (hrow.nx k a _ ha hb1).1
          rw [← hnx] at hb1
          refine ⟨_, _, rfl, rfl, (by simp; omega), ?_⟩
          exact ⟨_, _, _, by rw [row_next hb1]; rfl, hk1⟩
    · obtain ⟨s3, s4, s5, rfl, hkr⟩ := hw
      rw [show (rngD 8).length = 8 by simp [rngD]] at hkr ⊢
      refine ⟨_, rfl, ?_⟩
      rw [row_full (by omega)]
def R_law_central : List Dt → Dt → Prop := fun ds r => ∃ (n : Nat) (m : Op) (S : List Nat) (a : Nat), ds = [tabD n m, lN (invL n m), .lst ((List.range n).map fun k => .bl (decide (k ∈ S))), .int ((a : Nat) : Int)] ∧ Tb n m ∧ n ≤ 1000 ∧ a < n ∧ r = .bl ((List.range n).all fun b => decide (cm n m a b ∈ S))
theorem sc_law_central : FnScope ["_law_table_here", "_law_undo", "_law_inside", "_law_a", "_law_b"] ["_law_table_here", "_law_undo", "_law_inside", "_law_a"] (defScope s_law_central) := ⟨rfl, rfl, rfl, by decide +kernel, rfl, by decide +kernel, by decide +kernel⟩
theorem w_law_central {P : Program} {w : World} {K : PySem.W.Frag} {mg : Str → Option Value} {base : Heap} {C : Addr} (T : Tx K mg C) (D : FnS K mg "_law_central" s_law_central) : Fn P w K mg base C "_law_central" 1 [false, false, false, false] R_law_central := by
  obtain ⟨f, fd, F, hm⟩ := D
  have S := sc_law_central
  obtain ⟨tM, hM⟩ := T.most
  refine Fn.of F (fn_ok (k := 0) (fl := [false, false, false, false]) (R := R_law_central) F S rfl (by decide) (fun ds r h => rawFree _ _ (by decide)) (fun cdv A outer s H E hr => have hu := hu_of hr; dss_cons (ds_for PassesOwn.never rfl (di_rng1 T.range (de_len T.len ((dv 0).r))) (dg_name 4 S.nd) (dss_one (ds_if (db_not (db_val (de_ix ((dv 2).r) (de_ix ((de_ix ((dv 0).r) (de_ix ((dv 1).r) (de_ix ((de_ix ((dv 0).r) (dv 4)).r) (dv 3)))).r) (de_ix ((de_ix ((dv 0).r) (dv 3)).r) (dv 4)))))) (dss_one (ds_ret de_bl)) dss_nil)))
      (dss_one (ds_ret de_bl))) ?hp) (F.bindsN fun _ _ _ _ _ _ us hl => match us, hl with | [_, _, _, _], _ => rfl) hm
  case hp =>
    rintro ds r ⟨n, m, S, a, rfl, tb, hn, ha, rfl⟩ -
    have hl := tabL_len n m
    have er : rngD ((tabL n m).length : Int) = nD (List.range n) := by rw [hl, nD_rng]
    refine ⟨_, ⟨_, ⟨_, _, rfl, (by first | rfl | assumption), rfl⟩, (by first | omega | (simp at *; omega) | (simp; omega)), (by first | omega | (simp at *; omega) | (simp; omega)), rfl⟩, fun k env => ∃ s4, env = [.sh (tabD n m), .sh (lN (invL n m)), .sh (.lst ((List.range n).map fun k => .bl (decide (k ∈ S)))), .sh (.int (a : Int)), s4] ∧ ∀ b, b < k → cm n m a b ∈ S, ?_, fun k t env' hk hw => ?_, fun env' hw => ?_⟩
    · exact ⟨_, rfl, fun b h => absurd h (Nat.not_lt_zero _)⟩
    · obtain ⟨s4, rfl, hdone⟩ := hw
      rw [er] at hk
      obtain ⟨b, hb, rfl⟩ := nD_at' hk
      obtain ⟨hjn, e⟩ := List.getElem?_eq_some_iff.mp hb
      rw [List.getElem_range] at e
      subst e
      rw [List.length_range] at hjn
      have hba := tb.cl _ _ hjn ha
      have hab := tb.cl _ _ ha hjn
      have hi := tb.iv_lt hba
      have h1 : atI (tabL n m) (k : Int) = some (lN (rowL n m k)) := atI_nat (tabL_get hjn)
      have h2 := row_at (m := m) (a := k) ha
      have h3 := inv_at (m := m) hba
      have h4 : atI (tabL n m) ((iv n m (m k a) : Nat) : Int) = some (lN (rowL n m (iv n m (m k a)))) := atI_nat (tabL_get hi)
      have h5 : atI (tabL n m) (a : Int) = some (lN (rowL n m a)) := atI_nat (tabL_get ha)
      have h6 := row_at (m := m) (a := a) hjn
      have h7 := row_at (m := m) (a := iv n m (m k a)) hab
      have hcn := tb.cm_lt ha hjn
      have h8 : atI ((List.range n).map fun k => Dt.bl (decide (k ∈ S))) ((m (iv n m (m k a)) (m a k) : Nat) : Int) = some (.bl (decide (cm n m a k ∈ S))) := atI_nat (by
        have hcn' : m (iv n m (m k a)) (m a k) < n := hcn
        rw [List.getElem?_map, List.getElem?_range hcn']
        rfl)
      refine ⟨_, rfl, ?_⟩
      refine ⟨_, ⟨_, ⟨_, _, _, rfl, (by first | rfl | assumption), ⟨_, _, _, ⟨_, _, _, rfl, (by first | rfl | assumption), ⟨_, _, _, rfl, (by first | rfl | assumption), ⟨_, _, _, ⟨_, _, _, rfl, (by first | rfl | assumption), rfl, (by first | assumption | exact nD_at ‹_› | exact atI_nat ‹_› | exact bD_at ‹_›)⟩, (by first | rfl | assumption), rfl, (by first | assumption | exact nD_at ‹_› | exact atI_nat ‹_› | exact bD_at ‹_›)⟩, (by first | assumption | exact nD_at ‹_› | exact atI_nat ‹_› | exact bD_at ‹_›)⟩, (by first | assumption | exact nD_at ‹_› | exact atI_nat ‹_› | exact bD_at ‹_›)⟩, (by first | rfl | assumption), ⟨_, _, _, ⟨_, _, _, rfl, (by first | rfl | assumption), rfl, (by first | assumption | exact nD_at ‹_› | exact atI_nat ‹_› | exact bD_at ‹_›)⟩, (by first | rfl | assumption), rfl, (by first | assumption | exact nD_at ‹_› | exact atI_nat ‹_› | exact bD_at ‹_›)⟩, (by first | assumption | exact nD_at ‹_› | exact atI_nat ‹_› | exact bD_at ‹_›)⟩, (by first | assumption | exact nD_at ‹_› | exact atI_nat ‹_› | exact bD_at ‹_›)⟩, rfl⟩, fun hb => ?_, fun hb => ?_⟩
      · have hno : ¬ cm n m a k ∈ S := by simpa using hb
        refine ⟨_, rfl, ?_⟩
        refine congrArg Dt.bl ?_
        symm
        rw [Bool.eq_false_iff]
        intro z
        exact hno (by simpa using List.all_eq_true.mp z k (List.mem_range.mpr hjn))
      · have hyes : cm n m a k ∈ S := by simpa using hb
        refine ⟨_, rfl, fun b hb' => ?_⟩
        by_cases e : b < k
        · exact hdone b e
        · have : b = k := by omega
          exact this ▸ hyes
    · obtain ⟨s4, rfl, hdone⟩ := hw
      rw [er, nD_len, List.length_range] at hdone
      refine ⟨_, rfl, ?_⟩
      refine congrArg Dt.bl ?_
      symm
      rw [List.all_eq_true]
      exact fun b hb => by simpa using hdone b (List.mem_range.mp hb)
def R_law_upper : List Dt → Dt → Prop := fun ds r => ∃ n m rw, ds = [tabD n m] ∧ Tb n m ∧ n ≤ 1000 ∧ IsRow (cenL n m) [0] rw ∧ rw.length ≤ 9 ∧ r = .lst (rowD rw)
theorem sc_law_upper : FnScope ["_law_table_here", "_law_undo", "_law_found", "_law_k", "_law_inside", "_law_following", "_law_row", "_law_m", "_law_a"] ["_law_table_here"] (defScope s_law_upper) := ⟨rfl, rfl, rfl, by decide +kernel, rfl, by decide +kernel, by decide +kernel⟩
theorem w_law_upper {P : Program} {w : World} {K : PySem.W.Frag} {mg : Str → Option Value} {base : Heap} {C : Addr} (T : Tx K mg C) (D : FnS K mg "_law_upper" s_law_upper) (F__law_central : Fn P w K mg base C "_law_central" 1 [false, false, false, false] R_law_central) : Fn P w K mg base C "_law_upper" 2 [false] R_law_upper := by
  obtain ⟨f, fd, F, hm⟩ := D
  have S := sc_law_upper
  obtain ⟨tM, hM⟩ := T.most
  refine Fn.of F (fn_ok (k := 1) (fl := [false]) (R := R_law_upper) F S rfl (by decide) (fun ds r h => rawFree _ _ (by decide)) (fun cdv A outer s H E hr => have hu := hu_of hr; dss_cons (ds_set 1 S.nd ((df_lc rfl S.nd [("_law_row", 6)] 6 (di_seqR ((dv 0).r)) (blkOk_by (by rfl)) (by decide) (fun _ => pg_name (i := 6) S.nd rfl (by first | exact Or.inl rfl | exact Or.inr rfl)) dts_nil (fun _ => de_lstIndexN ((dv 6).r) de_int (fun pa pb => pe_bm PySem.F.plainAttrs_list PySem.F.slot_list_index PySem.F.type_list_index mt_index pa (pa_cons pb pa_nil)))).tree))
      (dss_cons (ds_own 2 S.nd (df_lst (da_sh (de_tup (da_sh de_int da_nil)) da_nil)))
      (dss_cons (ds_for PassesOwn.never rfl (di_rng1 T.range de_int) (dg_name 3 S.nd) (dss_cons (ds_set 4 S.nd ((df_lc rfl S.nd [("_law_m", 7)] 7 (di_rng1 T.range (de_len T.len ((dv 0).r))) (blkOk_by (by rfl)) (by decide) (fun _ => pg_name (i := 7) S.nd rfl (by first | exact Or.inl rfl | exact Or.inr rfl)) dts_nil (fun _ => de_inN (dv 7) ((de_ix (dvo 2) (de_neg de_int)).r))).tree))
      (dss_cons (ds_set 5 S.nd (de_tupL T.tuple (((df_lc rfl S.nd [("_law_a", 8)] 8 (di_rng1 T.range (de_len T.len ((dv 0).r))) (blkOk_by (by rfl)) (by decide) (fun _ => pg_name (i := 8) S.nd rfl (by first | exact Or.inl rfl | exact Or.inr rfl)) (dts_one fun _ => db_val (de_call F__law_central (hr.mono (by decide)) (da_sh (dv 0) (da_sh (dv 1) (da_sh (dv 4) (da_sh (dv 8) da_nil)))))) (fun _ => dv 8)).tree).r)))
      (dss_cons (ds_if (db_eqD hr.units ((dv 5).r) ((de_ix (dvo 2) (de_neg de_int)).r)) (dss_one ds_break) dss_nil)
      (dss_one (ds_app 2 (dv 5)))))))
      (dss_one (ds_retO 2))))) ?hp) (F.bindsN fun _ _ _ _ _ _ us hl => match us, hl with | [_], _ => rfl) hm
  case hp =>
    rintro ds r ⟨n, m, rw_, rfl, tb, hn, hrow, hrl, rfl⟩ -
    have hl := tabL_len n m
    have er : rngD ((tabL n m).length : Int) = nD (List.range n) := by rw [hl, nD_rng]
    have hpos := hrow.pos
    have hinj : ∀ a ∈ List.range n, ∀ b ∈ List.range n, lN (rowL n m a) = lN (rowL n m b) → a = b := fun a ha b hb h => row_inj tb (List.mem_range.mp ha) (List.mem_range.mp hb) h
    have e0 : rowD (rw_.take (0 + 1)) = [Dt.tup [.int 0]] := by rw [row_next hrow.z]; rfl
    refine ⟨_, ⟨_, (fLc_iN (M := List.range n) (gg := fun a => lN (rowL n m a)) ⟨_, rfl, (by first | rfl | assumption)⟩ (fun a => iv n m a) (fun a ha b hb h => by rw [hinj a ha b hb h]) (fun a ha => by obtain ⟨i1, i2⟩ := undo_fact tb (List.mem_range.mp ha); exact ⟨_, _, _, rfl, rfl, (by assumption), (by assumption), rfl⟩) (by simp; omega)), rfl⟩, ?_⟩
    rw [show (List.range n).map (fun a => iv n m a) = invL n m from rfl]
    refine ⟨_, ⟨⟨_, _, ⟨_, ⟨_, _, rfl, rfl, rfl⟩, (by first | (simp; done) | omega | (simp; omega)), rfl⟩, rfl, rfl⟩, (by first | (simp; done) | omega | (simp; omega))⟩, ?_⟩
    rw [← e0]
    refine ⟨_, ⟨_, rfl, (by omega), (by omega), rfl⟩, fun k env => ∃ s3 s4 s5, env = [.sh (tabD n m), .sh (lN (invL n m)), .own (rowD (rw_.take (k + 1))), s3, s4, s5, .un, .un, .un] ∧ k < rw_.length, ?_, fun k t env' hk hw => ?_, fun env' hw => ?_⟩
    · exact ⟨_, _, _, rfl, hpos⟩
    · obtain ⟨s3, s4, s5, rfl, hkr⟩ := hw
      have ha := List.getElem?_eq_getElem hkr
      generalize hga : rw_[k] = a at ha
      have hla := row_last ha
      have hkk : k < 8 := by
        have := (List.getElem?_eq_some_iff.mp hk).1
        rw [show (rngD 8).length = 8 by simp [rngD]] at this
        exact this
      refine ⟨_, rfl, ?_⟩
      refine ⟨_, ⟨_, (fLc_a (M := List.range n) (by rw [← er]; exact ⟨_, ⟨_, _, rfl, (by first | rfl | assumption), rfl⟩, (by first | omega | (simp at *; omega) | (simp; omega)), (by first | omega | (simp at *; omega) | (simp; omega)), rfl⟩) (fun k => .bl (decide (k ∈ a))) (fun k hk => ⟨_, _, _, rfl, ⟨_, _, _, (Or.inl ⟨_, rfl, rfl⟩), (by first | rfl | assumption), ⟨_, rfl, rfl⟩, (by first | assumption | exact nD_at ‹_› | exact atI_nat ‹_› | exact bD_at ‹_›)⟩, (by first | rfl | assumption), rfl⟩) (by simp; omega)), rfl⟩, ?_⟩
      have hce : ∀ x ∈ List.range n, R_law_central [tabD n m, lN (invL n m), .lst ((List.range n).map fun k => .bl (decide (k ∈ a))), .int ((x : Nat) : Int)] (.bl ((List.range n).all fun b => decide (cm n m x b ∈ a))) := fun x hx => ⟨n, m, a, x, rfl, tb, hn, List.mem_range.mp hx, rfl⟩
      refine ⟨_, ⟨_, ⟨_, (fLc_f (M := List.range n) (by rw [← er]; exact ⟨_, ⟨_, _, rfl, (by first | rfl | assumption), rfl⟩, (by first | omega | (simp at *; omega) | (simp; omega)), (by first | omega | (simp at *; omega) | (simp; omega)), rfl⟩) (fun x => (List.range n).all fun b => decide (cm n m x b ∈ a)) (fun j hj => by have h1 := hce j hj; exact ⟨_, ⟨_, _, rfl, ⟨_, _, rfl, ⟨_, _, rfl, ⟨_, _, rfl, rfl, rfl⟩, rfl⟩, rfl⟩, rfl⟩, (by assumption)⟩) (fun j hj => rfl) (by simp; omega)), rfl⟩, rfl⟩, ?_⟩
      have ecen : (List.range n).filter (fun x => (List.range n).all fun b => decide (cm n m x b ∈ a)) = cenL n m a := by
        refine mem_uniq (List.Pairwise.filter _ List.pairwise_lt_range) fun x => ?_
        rw [List.mem_filter, List.mem_range, List.all_eq_true]
        exact ⟨fun ⟨a, h⟩ => ⟨a, fun b hb => by simpa using h b (List.mem_range.mpr hb)⟩, fun ⟨a, h⟩ => ⟨a, fun b hb => by simpa using h b (List.mem_range.mp hb)⟩⟩
      rw [ecen]
      refine ⟨_, ⟨_, _, rfl, ⟨_, _, _, (Or.inl ⟨_, rfl, rfl⟩), (by first | rfl | assumption), ⟨_, rfl, rfl⟩, (by first | assumption | exact nD_at ‹_› | exact atI_nat ‹_› | exact bD_at ‹_›)⟩, (by first | assumption | exact eqD_tN _ _ | exact eqD_lN _ _)⟩, fun hb => ?_, fun hb => ?_⟩
      · have e : cenL n m a = a := by simpa using hb
        have hk1 : k + 1 = rw_.length := by
          by_cases q : k + 1 < rw_.length
          · have := hrow.nx k a _ ha (List.getElem?_eq_getElem q)
            exact absurd (this.1.symm.trans e) this.2
          · omega
        refine ⟨_, rfl, ?_⟩
        rw [row_full (by omega)]
      · have e : cenL n m a ≠ a := by simpa using hb
        have hk1 : k + 1 < rw_.length := by
          by_cases q : k + 1 < rw_.length
          · exact q
          · refine absurd (hrow.st a ?_) e
            rw [show rw_.length - 1 = k by omega]
            exact ha
        have hb1 := List.getElem?_eq_getElem hk1
        have hnx := (hrow.nx k a _ ha hb1).1
        rw [← hnx] at hb1
        refine ⟨_, _, rfl, rfl, (by simp; omega), ?_⟩
        exact ⟨_, _, _, by rw [row_next hb1]; rfl, hk1⟩
    · obtain ⟨s3, s4, s5, rfl, hkr⟩ := hw
      rw [show (rngD 8).length = 8 by simp [rngD]] at hkr ⊢
      refine ⟨_, rfl, ?_⟩
      rw [row_full (by omega)]
def R_law_end : List Dt → Dt → Prop := fun ds r => ∃ rw k, ds = [.lst (rowD rw), .int ((k : Nat) : Int)] ∧ 0 < rw.length ∧ r = tN (endF rw k)
theorem sc_law_end : FnScope ["_law_row", "_law_k"] ["_law_row", "_law_k"] (defScope s_law_end) := ⟨rfl, rfl, rfl, by decide +kernel, rfl, by decide +kernel, by decide +kernel⟩
theorem w_law_end {P : Program} {w : World} {K : PySem.W.Frag} {mg : Str → Option Value} {base : Heap} {C : Addr} (T : Tx K mg C) (D : FnS K mg "_law_end" s_law_end) : Fn P w K mg base C "_law_end" 1 [false, false] R_law_end := by
  obtain ⟨f, fd, F, hm⟩ := D
  have S := sc_law_end
  obtain ⟨tM, hM⟩ := T.most
  refine Fn.of F (fn_ok (k := 0) (fl := [false, false]) (R := R_law_end) F S rfl (by decide) (fun ds r h => rawFree _ _ (by decide)) (fun cdv A outer s H E hr => have hu := hu_of hr; dss_one (ds_ret (de_ix ((dv 0).r) (de_min rfl T.min (dv 1) (de_sub (de_len T.len ((dv 0).r)) de_int))))) ?hp) (F.bindsN fun _ _ _ _ _ _ us hl => match us, hl with | [_, _], _ => rfl) hm
  case hp =>
    rintro ds r ⟨rw_, k, rfl, hp, rfl⟩ -
    have hat := endF_at hp k
    have hix : (if (((rowD rw_).length : Nat) : Int) - 1 < (k : Int) then (((rowD rw_).length : Nat) : Int) - 1 else (k : Int)) = ((min k (rw_.length - 1) : Nat) : Int) := by
      rw [List.length_map]
      split <;> omega
    refine ⟨_, ⟨_, _, _, rfl, (by first | rfl | assumption), ⟨_, _, rfl, ⟨_, _, ⟨_, _, rfl, (by first | rfl | assumption), rfl⟩, rfl, rfl⟩, rfl⟩, (by rw [hix]; exact atI_nat (by rw [List.getElem?_map, hat]; rfl))⟩, ?_⟩
    rfl
def R_law_lies_in : List Dt → Dt → Prop := fun ds r => ∃ s t M N, ds = [s, t] ∧ s.sq = some (nD M) ∧ t.sq = some (nD N) ∧ (∀ x ∈ M, x ∈ N) ∧ r = .bl true
theorem sc_law_lies_in : FnScope ["_law_members", "_law_others", "_law_member"] ["_law_members", "_law_others"] (defScope s_law_lies_in) := ⟨rfl, rfl, rfl, by decide +kernel, rfl, by decide +kernel, by decide +kernel⟩
theorem w_law_lies_in {P : Program} {w : World} {K : PySem.W.Frag} {mg : Str → Option Value} {base : Heap} {C : Addr} (T : Tx K mg C) (D : FnS K mg "_law_lies_in" s_law_lies_in) : Fn P w K mg base C "_law_lies_in" 1 [false, false] R_law_lies_in := by
  obtain ⟨f, fd, F, hm⟩ := D
  have S := sc_law_lies_in
  obtain ⟨tM, hM⟩ := T.most
  refine Fn.of F (fn_ok (k := 0) (fl := [false, false]) (R := R_law_lies_in) F S rfl (by decide) (fun ds r h => rawFree _ _ (by decide)) (fun cdv A outer s H E hr => have hu := hu_of hr; dss_cons (ds_for PassesOwn.never rfl (di_seq (dv 0)) (dg_name 2 S.nd) (dss_one (ds_if (db_notInN (dv 2) ((dv 1).r)) (dss_one (ds_ret de_bl)) dss_nil)))
      (dss_one (ds_ret de_bl))) ?hp) (F.bindsN fun _ _ _ _ _ _ us hl => match us, hl with | [_, _], _ => rfl) hm
  case hp =>
    rintro ds r ⟨s, t, M, N, rfl, hs, ht, hsub, rfl⟩ -
    refine ⟨_, ⟨_, rfl, (by first | rfl | assumption)⟩, fun k env => ∃ s2, env = [.sh s, .sh t, s2], ?_, fun k t env' hk hw => ?_, fun env' hw => ?_⟩
    · exact ⟨_, rfl⟩
    · obtain ⟨s2, rfl⟩ := hw
      obtain ⟨x, hx, rfl⟩ := nD_at' hk
      have hin := hsub x (List.mem_of_getElem? hx)
      refine ⟨_, rfl, ?_⟩
      refine ⟨_, ⟨_, _, _, rfl, rfl, (by first | rfl | assumption), rfl⟩, fun hb => ?_, fun hb => ?_⟩
      · rw [decide_eq_true hin] at hb
        cases hb
      · exact ⟨_, rfl⟩
    · obtain ⟨s2, rfl⟩ := hw
      refine ⟨_, rfl, ?_⟩
      rfl
def R_law_pairs : List Dt → Dt → Prop := fun ds r => ∃ r1 r2 n2, ds = [.lst (rowD r1), .lst (rowD r2), .int ((n2 : Nat) : Int)] ∧ n2 ≤ 100 ∧ 0 < r1.length ∧ 0 < r2.length ∧ r1.length ≤ 1000 ∧ r2.length ≤ 1000 ∧ (∀ c ∈ r1, c.length ≤ 100) ∧ (∀ c ∈ r2, c.length ≤ 100) ∧ r = .lst (rowD (pairsF r1 r2 n2))
theorem sc_law_pairs : FnScope ["_law_first", "_law_second", "_law_many", "_law_rows", "_law_k", "_law_found", "_law_a", "_law_b"] ["_law_first", "_law_second", "_law_many"] (defScope s_law_pairs) := ⟨rfl, rfl, rfl, by decide +kernel, rfl, by decide +kernel, by decide +kernel⟩
theorem w_law_pairs {P : Program} {w : World} {K : PySem.W.Frag} {mg : Str → Option Value} {base : Heap} {C : Addr} (T : Tx K mg C) (D : FnS K mg "_law_pairs" s_law_pairs) (F__law_end : Fn P w K mg base C "_law_end" 1 [false, false] R_law_end) : Fn P w K mg base C "_law_pairs" 2 [false, false, false] R_law_pairs := by
  obtain ⟨f, fd, F, hm⟩ := D
  have S := sc_law_pairs
  obtain ⟨tM, hM⟩ := T.most
  refine Fn.of F (fn_ok (k := 1) (fl := [false, false, false]) (R := R_law_pairs) F S rfl (by decide) (fun ds r h => rawFree _ _ (by decide)) (fun cdv A outer s H E hr => have hu := hu_of hr; dss_cons (ds_own 3 S.nd (df_lst da_nil))
      (dss_cons (ds_for PassesOwn.never rfl (di_rng1 T.range (de_max rfl T.max (de_len T.len ((dv 0).r)) (de_len T.len ((dv 1).r)))) (dg_name 4 S.nd) (dss_cons (ds_set 5 S.nd ((df_lst da_nil).tree))
      (dss_cons (ds_for PassesOwn.never rfl (di_seq (de_call F__law_end (hr.mono (by decide)) (da_sh (dv 0) (da_sh (dv 4) da_nil)))) (dg_name 6 S.nd) (dss_one (ds_set 5 S.nd ((df_cat ((dv 5).r) (((df_lc rfl S.nd [("_law_b", 7)] 7 (di_seqR ((de_call F__law_end (hr.mono (by decide)) (da_sh (dv 1) (da_sh (dv 4) da_nil))).r)) (blkOk_by (by rfl)) (by decide) (fun _ => pg_name (i := 7) S.nd rfl (by first | exact Or.inl rfl | exact Or.inr rfl)) dts_nil (fun _ => de_add (de_mul (dv 6) (dv 2)) (dv 7))).tree).r)).tree))))
      (dss_one (ds_app 3 (de_tupL T.tuple ((dv 5).r)))))))
      (dss_one (ds_retO 3)))) ?hp) (F.bindsN fun _ _ _ _ _ _ us hl => match us, hl with | [_, _, _], _ => rfl) hm
  case hp =>
    rintro ds r ⟨r1, r2, n2, rfl, hn2, p1, p2, l1, l2, c1, c2, rfl⟩ -
    have hmx : (if (((rowD r2).length : Nat) : Int) > (((rowD r1).length : Nat) : Int) then (((rowD r2).length : Nat) : Int) else (((rowD r1).length : Nat) : Int)) = ((max r1.length r2.length : Nat) : Int) := by
      rw [List.length_map, List.length_map]
      split <;> omega
    refine ⟨_, ⟨rfl, (by first | (simp; done) | omega | (simp; omega))⟩, ?_⟩
    refine ⟨_, ⟨_, ⟨_, _, ⟨_, _, rfl, (by first | rfl | assumption), rfl⟩, ⟨_, _, rfl, (by first | rfl | assumption), rfl⟩, rfl⟩, (by rw [hmx]; omega), (by rw [hmx]; omega), rfl⟩, fun k env => ∃ s4 s5 s6, env = [.sh (.lst (rowD r1)), .sh (.lst (rowD r2)), .sh (.int (n2 : Int)), .own (rowD ((List.range k).map fun k => pairF n2 (endF r1 k) (endF r2 k))), s4, s5, s6, .un], ?_, fun k t env' hk hw => ?_, fun env' hw => ?_⟩
    · exact ⟨_, _, _, rfl⟩
    · obtain ⟨s4, s5, s6, rfl⟩ := hw
      rw [hmx, nD_rng] at hk
      obtain ⟨k', hk', rfl⟩ := nD_at' hk
      obtain ⟨hkn, e⟩ := List.getElem?_eq_some_iff.mp hk'
      rw [List.getElem_range] at e
      subst e
      rw [List.length_range] at hkn
      have hE1 : R_law_end [.lst (rowD r1), .int (k : Int)] (tN (endF r1 k)) := ⟨r1, k, rfl, p1, rfl⟩
      have hE2 : R_law_end [.lst (rowD r2), .int (k : Int)] (tN (endF r2 k)) := ⟨r2, k, rfl, p2, rfl⟩
      have hl1 := c1 _ (endF_mem p1 k)
      have hl2 := c2 _ (endF_mem p2 k)
      refine ⟨_, rfl, ?_⟩
      refine ⟨_, ⟨_, ⟨rfl, (by first | (simp; done) | omega | (simp; omega))⟩, rfl⟩, ?_⟩
      refine ⟨_, ⟨_, ⟨_, ⟨_, _, rfl, ⟨_, _, rfl, rfl, rfl⟩, rfl⟩, (by assumption)⟩, (rfl)⟩, fun j env => ∃ s6, env = [.sh (.lst (rowD r1)), .sh (.lst (rowD r2)), .sh (.int (n2 : Int)), .own (rowD ((List.range k).map fun k => pairF n2 (endF r1 k) (endF r2 k))), .sh (.int (k : Int)), .sh (lN (pairF n2 ((endF r1 k).take j) (endF r2 k))), s6, .un], ?_, fun j t env' hk hw => ?_, fun env' hw => ?_⟩
      · exact ⟨_, rfl⟩
      · obtain ⟨s6, rfl⟩ := hw
        obtain ⟨a, ha, rfl⟩ := nD_at' hk
        refine ⟨_, rfl, ?_⟩
        have hlen1 : (pairF n2 ((endF r1 k).take j) (endF r2 k)).length + ((endF r2 k).map fun b => a * n2 + b).length ≤ 100000 := by
          unfold pairF
          rw [List.length_flatMap, List.length_map]
          have e : ((endF r1 k).take j).map (fun x => ((endF r2 k).map fun y => x * n2 + y).length) = List.replicate ((endF r1 k).take j).length (endF r2 k).length := by
            rw [List.eq_replicate_iff]
            refine ⟨by simp, fun x hx => ?_⟩
            obtain ⟨a, _, rfl⟩ := List.mem_map.mp hx
            rw [List.length_map]
          rw [e, List.sum_replicate_nat]
          have h1 : ((endF r1 k).take j).length ≤ 100 := by
            rw [List.length_take]
            omega
          have := Nat.mul_le_mul h1 hl2
          omega
        refine ⟨_, ⟨_, ⟨_, _, rfl, ⟨_, (fLc_aN (M := endF r2 k) ⟨_, ⟨_, ⟨_, _, rfl, ⟨_, _, rfl, rfl, rfl⟩, rfl⟩, (hE2)⟩, (rfl)⟩ (fun b => a * n2 + b) (fun b hb => by rw [show (((a * n2 + b : Nat)) : Int) = (a : Int) * (n2 : Int) + (b : Int) by rw [Int.natCast_add, Int.natCast_mul]]; exact ⟨_, _, ⟨_, _, rfl, rfl, (by first | (refine Or.inr ⟨?_, ?_⟩ <;> omega) | (refine Or.inl ⟨?_, ?_⟩ <;> omega)), rfl⟩, rfl, rfl⟩) (by omega)), rfl⟩, (by rw [nD_len, nD_len]; exact hlen1), rfl⟩, rfl⟩, ?_⟩
        rw [← nD_app]
        refine ⟨.sh (.int (a : Int)), ?_⟩
        unfold pairF
        rw [List.take_add_one, ha, List.flatMap_append]
        simp
      · obtain ⟨s6, rfl⟩ := hw
        rw [nD_len, List.take_length]
        refine ⟨_, _, rfl, ⟨_, rfl, rfl⟩, (by simp; omega), ?_⟩
        refine ⟨.sh (.int (k : Int)), .sh (lN (pairF n2 (endF r1 k) (endF r2 k))), s6, ?_⟩
        rw [List.range_succ, List.map_append, rowD_app]
        rfl
    · obtain ⟨s4, s5, s6, rfl⟩ := hw
      refine ⟨_, rfl, ?_⟩
      rw [hmx, nD_rng, nD_len, List.length_range]
      rfl
theorem row_at' {rs : List (List Nat)} {k : Nat} (h : k < rs.length) : atI (rowD rs) (k : Int) = some (tN (rs.getD k [])) := atI_nat (by rw [List.getElem?_map, List.getD_eq_getElem?_getD, List.getElem?_eq_getElem h]; rfl)
theorem row_lastD {rs : List (List Nat)} (h : 0 < rs.length) : atI (rowD rs) (-1) = some (tN (rs.getLastD [])) := by
  refine atI_last ?_
  rw [List.getLast?_map]
  cases rs with
  | nil => simp at h
  | cons a t => cases t <;> rfl
def R_law_cut : List Dt → Dt → Prop := fun ds r => ∃ rs, ds = [.lst (rowD rs)] ∧ 0 < rs.length ∧ rs.length ≤ 1000 ∧ r = .lst (rowD (cutF rs))
theorem sc_law_cut : FnScope ["_law_rows", "_law_found", "_law_k"] ["_law_rows"] (defScope s_law_cut) := ⟨rfl, rfl, rfl, by decide +kernel, rfl, by decide +kernel, by decide +kernel⟩
theorem w_law_cut {P : Program} {w : World} {K : PySem.W.Frag} {mg : Str → Option Value} {base : Heap} {C : Addr} (T : Tx K mg C) (D : FnS K mg "_law_cut" s_law_cut) : Fn P w K mg base C "_law_cut" 1 [false] R_law_cut := by
  obtain ⟨f, fd, F, hm⟩ := D
  have S := sc_law_cut
  obtain ⟨tM, hM⟩ := T.most
  refine Fn.of F (fn_ok (k := 0) (fl := [false]) (R := R_law_cut) F S rfl (by decide) (fun ds r h => rawFree _ _ (by decide)) (fun cdv A outer s H E hr => have hu := hu_of hr; dss_cons (ds_own 1 S.nd (df_lst (da_sh (de_ix ((dv 0).r) de_int) da_nil)))
      (dss_cons (ds_for PassesOwn.never rfl (di_rng2 T.range de_int (de_len T.len ((dv 0).r))) (dg_name 2 S.nd) (dss_one (ds_if (db_neD hr.units ((de_ix ((dv 0).r) (dv 2)).r) ((de_ix (dvo 1) (de_neg de_int)).r)) (dss_one (ds_app 1 (de_ix ((dv 0).r) (dv 2)))) dss_nil)))
      (dss_one (ds_retO 1)))) ?hp) (F.bindsN fun _ _ _ _ _ _ us hl => match us, hl with | [_], _ => rfl) hm
  case hp =>
    rintro ds r ⟨rs, rfl, hp, hl, rfl⟩ -
    have h0 : atI (rowD rs) 0 = some (tN (rs.getD 0 [])) := row_at' hp
    refine ⟨_, ⟨⟨_, _, ⟨_, _, _, rfl, (by first | rfl | assumption), rfl, (by first | assumption | exact nD_at ‹_› | exact atI_nat ‹_› | exact bD_at ‹_›)⟩, rfl, rfl⟩, (by first | (simp; done) | omega | (simp; omega))⟩, ?_⟩
    refine ⟨_, ⟨_, _, rfl, ⟨_, _, rfl, (by first | rfl | assumption), rfl⟩, (by first | decide | omega | (rw [List.length_map]; omega)), (by first | decide | omega | (rw [List.length_map]; omega)), (by first | decide | omega | (rw [List.length_map]; omega)), (by first | decide | omega | (rw [List.length_map]; omega)), rfl⟩, fun k env => ∃ s2, env = [.sh (.lst (rowD rs)), .own (rowD (cutTo rs k)), s2], ?_, fun k t env' hk hw => ?_, fun env' hw => ?_⟩
    · exact ⟨_, rfl⟩
    · obtain ⟨s2, rfl⟩ := hw
      rw [List.length_map] at hk
      have ht : k + 1 < rs.length ∧ t = .int ((k + 1 : Nat) : Int) := by
        unfold rgD2 at hk
        rw [List.getElem?_map] at hk
        obtain ⟨i, hi, rfl⟩ := Option.map_eq_some_iff.mp hk
        obtain ⟨h1, h2⟩ := List.getElem?_eq_some_iff.mp hi
        rw [List.getElem_range] at h2
        subst h2
        rw [List.length_range] at h1
        exact ⟨by omega, by congr 1; omega⟩
      obtain ⟨hkn, rfl⟩ := ht
      have h1 := row_at' hkn
      obtain ⟨hcl, hcu⟩ := cutTo_len rs k
      have h2 := row_lastD hcl
      refine ⟨_, rfl, ?_⟩
      refine ⟨_, ⟨_, ⟨_, _, ⟨_, _, _, rfl, (by first | rfl | assumption), rfl, (by first | assumption | exact nD_at ‹_› | exact atI_nat ‹_› | exact bD_at ‹_›)⟩, ⟨_, _, _, (Or.inl ⟨_, rfl, rfl⟩), (by first | rfl | assumption), ⟨_, rfl, rfl⟩, (by first | assumption | exact nD_at ‹_› | exact atI_nat ‹_› | exact bD_at ‹_›)⟩, (by first | assumption | exact eqD_tN _ _ | exact eqD_lN _ _)⟩, rfl⟩, fun hb => ?_, fun hb => ?_⟩
      · have hne : ¬ rs.getD (k + 1) [] = (cutTo rs k).getLastD [] := by simpa using hb
        refine ⟨_, _, rfl, ⟨_, _, _, rfl, (by first | rfl | assumption), rfl, (by first | assumption | exact nD_at ‹_› | exact atI_nat ‹_› | exact bD_at ‹_›)⟩, (by rw [List.length_map]; omega), ?_⟩
        refine ⟨.sh (.int ((k + 1 : Nat) : Int)), ?_⟩
        rw [cutTo, if_neg hne, rowD_app]
        rfl
      · have he : rs.getD (k + 1) [] = (cutTo rs k).getLastD [] := by simpa using hb
        exact ⟨.sh (.int ((k + 1 : Nat) : Int)), by rw [cutTo, if_pos he]; rfl⟩
    · obtain ⟨s2, rfl⟩ := hw
      refine ⟨_, rfl, ?_⟩
      rw [List.length_map]
      have : (rgD2 1 (rs.length : Int)).length = rs.length - 1 := by
        unfold rgD2
        simp
      rw [this]
      rfl
end CM
set_option Elab.async false
set_option linter.all false
set_option maxRecDepth 100000
set_option maxHeartbeats 1000000
/-! Walks: the helper's comparisons and pictures. -/
namespace CM
open PySem PySem.Spec PyProof.Rows L2
def SameD : Nat → Dt → Dt → Prop
  | 0, _, _ => False
  | j + 1, a, b => (a = .non ∧ b = .non) ∨ (∃ i, a = .int i ∧ b = .int i) ∨ (∃ ts us, ((a = .tup ts ∧ b = .tup us) ∨ (a = .lst ts ∧ b = .lst us)) ∧ ts.length = us.length ∧ us.length ≤ 1000 ∧ ∀ (i : Nat) (t u : Dt), ts[i]? = some t → us[i]? = some u → SameD j t u)
def R_sameJ (j : Nat) : List Dt → Dt → Prop := fun ds r => ∃ a b, ds = [a, b] ∧ SameD j a b ∧ r = .bl true
abbrev R_law_same : List Dt → Dt → Prop := R_sameJ 3
theorem same_int (j : Nat) (i : Int) : SameD (j + 1) (.int i) (.int i) := .inr (.inl ⟨i, rfl, rfl⟩)
theorem same_tN (j : Nat) (M : List Nat) (h : M.length ≤ 1000) : SameD (j + 2) (tN M) (tN M) := .inr (.inr ⟨_, _, .inl ⟨rfl, rfl⟩, rfl, by rw [nD_len]; exact h, fun i t u h1 h2 => by
  rw [h1] at h2
  cases h2
  obtain ⟨k, _, rfl⟩ := nD_at' h1
  exact same_int j _⟩)
theorem same_row (j : Nat) (rs : List (List Nat)) (h : rs.length ≤ 1000) (h2 : ∀ c ∈ rs, c.length ≤ 1000) : SameD (j + 3) (.lst (rowD rs)) (.lst (rowD rs)) := .inr (.inr ⟨_, _, .inr ⟨rfl, rfl⟩, rfl, by rw [List.length_map]; exact h, fun i t u h1 h3 => by
  rw [h1] at h3
  cases h3
  rw [List.getElem?_map] at h1
  obtain ⟨c, hc, rfl⟩ := Option.map_eq_some_iff.mp h1
  exact same_tN j c (h2 c (List.mem_of_getElem? hc))⟩)
theorem sc_law_same : FnScope ["_law_actual", "_law_due", "_law_k"] ["_law_actual", "_law_due"] (defScope s_law_same) := ⟨rfl, rfl, rfl, by decide +kernel, rfl, by decide +kernel, by decide +kernel⟩
theorem w0_law_same {P : Program} {w : World} {K : PySem.W.Frag} {mg : Str → Option Value} {base : Heap} {C : Addr} {j k0 : Nat} (T : Tx K mg C) (D : FnS K mg "_law_same" s_law_same) (F__law_same : Fn P w K mg base C "_law_same" k0 [false, false] (R_sameJ j)) : Fn P w K mg base C "_law_same" (k0 + 1) [false, false] (R_sameJ (j + 1)) := by
  obtain ⟨f, fd, F, hm⟩ := D
  have S := sc_law_same
  obtain ⟨tM, hM⟩ := T.most
  refine Fn.of F (fn_ok (k := k0) (fl := [false, false]) (R := R_sameJ (j + 1)) F S rfl (by decide) (fun ds r h => rawFree _ _ (by decide)) (fun cdv A outer s H E hr => have hu := hu_of hr; dss_cons (ds_if (db_isN (dv 1)) (dss_one (ds_ret (de_isN (dv 0)))) dss_nil)
      (dss_cons (ds_if (db_val (de_isi T.isinstance T.bool PyProof.Rows.boot_bool (dv 1))) (dss_one (ds_ret (de_and (de_isi T.isinstance T.bool PyProof.Rows.boot_bool (dv 0)) (de_one (de_eqS (dv 0) (dv 1)))))) dss_nil)
      (dss_cons (ds_if (db_val (de_isi T.isinstance T.int PyProof.Rows.boot_int (dv 1))) (dss_one (ds_ret (de_and (de_isi T.isinstance T.int PyProof.Rows.boot_int (dv 0)) (de_and (de_not (de_isi T.isinstance T.bool PyProof.Rows.boot_bool (dv 0))) (de_one (de_eqS (dv 0) (dv 1))))))) dss_nil)
      (dss_cons (ds_if (db_val (de_isi T.isinstance T.str PyProof.Rows.boot_str (dv 1))) (dss_one (ds_ret (de_and (de_isi T.isinstance T.str PyProof.Rows.boot_str (dv 0)) (de_one (de_eqS (dv 0) (dv 1)))))) dss_nil)
      (dss_cons (ds_if ((dw_or (db_neS (de_isi T.isinstance T.tuple PyProof.Rows.boot_tuple (dv 1)) (de_isi T.isinstance T.tuple PyProof.Rows.boot_tuple (dv 0))) (dw_or1 (db_neS (de_isi T.isinstance T.list PyProof.Rows.boot_list (dv 1)) (de_isi T.isinstance T.list PyProof.Rows.boot_list (dv 0))))).test) (dss_one (ds_ret de_bl)) dss_nil)
      (dss_cons (ds_if ((dw_or (db_not (db_val (de_isi2 T.isinstance T.tuple T.list PyProof.Rows.boot_tuple PyProof.Rows.boot_list (dv 1)))) (dw_or1 (db_neS (de_len T.len ((dv 0).r)) (de_len T.len ((dv 1).r))))).test) (dss_one (ds_ret de_bl)) dss_nil)
      (dss_cons (ds_for PassesOwn.never rfl (di_rng1 T.range (de_len T.len ((dv 1).r))) (dg_name 2 S.nd) (dss_one (ds_if (db_not (db_val (de_call F__law_same hr (da_sh (de_ix ((dv 0).r) (dv 2)) (da_sh (de_ix ((dv 1).r) (dv 2)) da_nil))))) (dss_one (ds_ret de_bl)) dss_nil)))
      (dss_one (ds_ret de_bl))))))))) ?hp) (F.bindsN fun _ _ _ _ _ _ us hl => match us, hl with | [_, _], _ => rfl) hm
  case hp =>
    rintro ds r ⟨a, b, rfl, h, rfl⟩ -
    rcases h with ⟨rfl, rfl⟩ | ⟨i, rfl, rfl⟩ | ⟨ts, us, h, hlen, hle, hel⟩
    · refine ⟨_, ⟨_, rfl, (by first | exact Or.inl ⟨rfl, rfl⟩ | exact Or.inr ⟨fun _ _ => trivial, (by intro h; cases h), rfl⟩)⟩, fun hb => ?_, fun hb => ?_⟩
      · refine ⟨_, ⟨_, _, rfl, (by first | exact Or.inl ⟨rfl, rfl⟩ | exact Or.inr ⟨(by intro h; cases h), rfl⟩), rfl⟩, ?_⟩
        rfl
      · cases hb
    · refine ⟨_, ⟨_, rfl, (by first | exact Or.inl ⟨rfl, rfl⟩ | exact Or.inr ⟨fun _ _ => trivial, (by intro h; cases h), rfl⟩)⟩, fun hb => ?_, fun hb => ?_⟩
      · cases hb
      refine ⟨_, ⟨_, _, _, rfl, rfl, rfl, rfl⟩, fun hb => ?_, fun hb => ?_⟩
      · cases hb
      refine ⟨_, ⟨_, _, _, rfl, rfl, rfl, rfl⟩, fun hb => ?_, fun hb => ?_⟩
      · refine ⟨_, (fAndV_i ⟨_, _, _, rfl, rfl, rfl, rfl⟩ (fun hc => (fAndV_i ⟨_, ⟨_, _, _, rfl, rfl, rfl, rfl⟩, rfl⟩ (fun hc => ⟨_, ⟨_, _, rfl, rfl, (by first | exact .int _ _ | exact .bl _ _ | exact .str _ _ | exact scal_it (by first | rfl | omega | (simp [nD]; done)) | exact scal_if (by omega))⟩, rfl⟩)))), ?_⟩
        refine congrArg Dt.bl ?_
        rw [show decide (i = i) = true from decide_eq_true rfl]
        rfl
      · cases hb
    · rcases h with ⟨rfl, rfl⟩ | ⟨rfl, rfl⟩
      · refine ⟨_, ⟨_, rfl, (by first | exact Or.inl ⟨rfl, rfl⟩ | exact Or.inr ⟨fun _ _ => trivial, (by intro h; cases h), rfl⟩)⟩, fun hb => ?_, fun hb => ?_⟩
        · cases hb
        refine ⟨_, ⟨_, _, _, rfl, rfl, rfl, rfl⟩, fun hb => ?_, fun hb => ?_⟩
        · cases hb
        refine ⟨_, ⟨_, _, _, rfl, rfl, rfl, rfl⟩, fun hb => ?_, fun hb => ?_⟩
        · cases hb
        refine ⟨_, ⟨_, _, _, rfl, rfl, rfl, rfl⟩, fun hb => ?_, fun hb => ?_⟩
        · cases hb
        refine ⟨_, (fOr_i ⟨_, _, _, ⟨_, _, _, rfl, rfl, rfl, rfl⟩, ⟨_, _, _, rfl, rfl, rfl, rfl⟩, (by first | exact .int _ _ | exact .bl _ _ | exact .str _ _ | exact scal_it (by first | rfl | omega | (simp [nD]; done)) | exact scal_if (by omega)), rfl⟩ (fun hc => ⟨_, _, _, ⟨_, _, _, rfl, rfl, rfl, rfl⟩, ⟨_, _, _, rfl, rfl, rfl, rfl⟩, (by first | exact .int _ _ | exact .bl _ _ | exact .str _ _ | exact scal_it (by first | rfl | omega | (simp [nD]; done)) | exact scal_if (by omega)), rfl⟩)), fun hb => ?_, fun hb => ?_⟩
        · simp at hb
        refine ⟨_, (fOr_i ⟨_, ⟨_, _, _, _, rfl, rfl, rfl, rfl, rfl⟩, rfl⟩ (fun hc => ⟨_, _, _, ⟨_, _, rfl, (by first | rfl | assumption), rfl⟩, ⟨_, _, rfl, (by first | rfl | assumption), rfl⟩, (by first | exact .int _ _ | exact .bl _ _ | exact .str _ _ | exact scal_it (by first | rfl | omega | (simp [nD]; done)) | exact scal_if (by omega)), rfl⟩)), fun hb => ?_, fun hb => ?_⟩
        · simp [hlen] at hb
        refine ⟨_, ⟨_, ⟨_, _, rfl, (by first | rfl | assumption), rfl⟩, (by first | omega | (simp at *; omega) | (simp; omega)), (by first | omega | (simp at *; omega) | (simp; omega)), rfl⟩, fun k env => ∃ s2, env = [.sh (.tup ts), .sh (.tup us), s2], ?_, fun k t env' hk hw => ?_, fun env' hw => ?_⟩
        · exact ⟨_, rfl⟩
        · obtain ⟨s2, rfl⟩ := hw
          rw [nD_rng] at hk
          obtain ⟨k', hk', rfl⟩ := nD_at' hk
          obtain ⟨hkn, e⟩ := List.getElem?_eq_some_iff.mp hk'
          rw [List.getElem_range] at e
          subst e
          rw [List.length_range] at hkn
          have h1 := List.getElem?_eq_getElem hkn
          have h2 := List.getElem?_eq_getElem (show k < ts.length by omega)
          have hR : R_sameJ j [ts[k], us[k]] (.bl true) := ⟨_, _, rfl, hel k _ _ h2 h1, rfl⟩
          refine ⟨_, rfl, ?_⟩
          refine ⟨_, ⟨_, ⟨_, ⟨_, _, ⟨_, _, _, rfl, (by first | rfl | assumption), rfl, (by first | assumption | exact nD_at ‹_› | exact atI_nat ‹_› | exact bD_at ‹_›)⟩, ⟨_, _, ⟨_, _, _, rfl, (by first | rfl | assumption), rfl, (by first | assumption | exact nD_at ‹_› | exact atI_nat ‹_› | exact bD_at ‹_›)⟩, rfl, rfl⟩, rfl⟩, (by assumption)⟩, rfl⟩, fun hb => ?_, fun hb => ?_⟩
          · cases hb
          · exact ⟨_, rfl⟩
        · obtain ⟨s2, rfl⟩ := hw
          refine ⟨_, rfl, ?_⟩
          rfl
      · refine ⟨_, ⟨_, rfl, (by first | exact Or.inl ⟨rfl, rfl⟩ | exact Or.inr ⟨fun _ _ => trivial, (by intro h; cases h), rfl⟩)⟩, fun hb => ?_, fun hb => ?_⟩
        · cases hb
        refine ⟨_, ⟨_, _, _, rfl, rfl, rfl, rfl⟩, fun hb => ?_, fun hb => ?_⟩
        · cases hb
        refine ⟨_, ⟨_, _, _, rfl, rfl, rfl, rfl⟩, fun hb => ?_, fun hb => ?_⟩
        · cases hb
        refine ⟨_, ⟨_, _, _, rfl, rfl, rfl, rfl⟩, fun hb => ?_, fun hb => ?_⟩
        · cases hb
        refine ⟨_, (fOr_i ⟨_, _, _, ⟨_, _, _, rfl, rfl, rfl, rfl⟩, ⟨_, _, _, rfl, rfl, rfl, rfl⟩, (by first | exact .int _ _ | exact .bl _ _ | exact .str _ _ | exact scal_it (by first | rfl | omega | (simp [nD]; done)) | exact scal_if (by omega)), rfl⟩ (fun hc => ⟨_, _, _, ⟨_, _, _, rfl, rfl, rfl, rfl⟩, ⟨_, _, _, rfl, rfl, rfl, rfl⟩, (by first | exact .int _ _ | exact .bl _ _ | exact .str _ _ | exact scal_it (by first | rfl | omega | (simp [nD]; done)) | exact scal_if (by omega)), rfl⟩)), fun hb => ?_, fun hb => ?_⟩
        · simp at hb
        refine ⟨_, (fOr_i ⟨_, ⟨_, _, _, _, rfl, rfl, rfl, rfl, rfl⟩, rfl⟩ (fun hc => ⟨_, _, _, ⟨_, _, rfl, (by first | rfl | assumption), rfl⟩, ⟨_, _, rfl, (by first | rfl | assumption), rfl⟩, (by first | exact .int _ _ | exact .bl _ _ | exact .str _ _ | exact scal_it (by first | rfl | omega | (simp [nD]; done)) | exact scal_if (by omega)), rfl⟩)), fun hb => ?_, fun hb => ?_⟩
        · simp [hlen] at hb
        refine ⟨_, ⟨_, ⟨_, _, rfl, (by first | rfl | assumption), rfl⟩, (by first | omega | (simp at *; omega) | (simp; omega)), (by first | omega | (simp at *; omega) | (simp; omega)), rfl⟩, fun k env => ∃ s2, env = [.sh (.lst ts), .sh (.lst us), s2], ?_, fun k t env' hk hw => ?_, fun env' hw => ?_⟩
        · exact ⟨_, rfl⟩
        · obtain ⟨s2, rfl⟩ := hw
          rw [nD_rng] at hk
          obtain ⟨k', hk', rfl⟩ := nD_at' hk
          obtain ⟨hkn, e⟩ := List.getElem?_eq_some_iff.mp hk'
          rw [List.getElem_range] at e
          subst e
          rw [List.length_range] at hkn
          have h1 := List.getElem?_eq_getElem hkn
          have h2 := List.getElem?_eq_getElem (show k < ts.length by omega)
          have hR : R_sameJ j [ts[k], us[k]] (.bl true) := ⟨_, _, rfl, hel k _ _ h2 h1, rfl⟩
          refine ⟨_, rfl, ?_⟩
          refine ⟨_, ⟨_, ⟨_, ⟨_, _, ⟨_, _, _, rfl, (by first | rfl | assumption), rfl, (by first | assumption | exact nD_at ‹_› | exact atI_nat ‹_› | exact bD_at ‹_›)⟩, ⟨_, _, ⟨_, _, _, rfl, (by first | rfl | assumption), rfl, (by first | assumption | exact nD_at ‹_› | exact atI_nat ‹_› | exact bD_at ‹_›)⟩, rfl, rfl⟩, rfl⟩, (by assumption)⟩, rfl⟩, fun hb => ?_, fun hb => ?_⟩
          · cases hb
          · exact ⟨_, rfl⟩
        · obtain ⟨s2, rfl⟩ := hw
          refine ⟨_, rfl, ?_⟩
          rfl
theorem fn_false {P : Program} {w : World} {K : PySem.W.Frag} {mg : Str → Option Value} {base : Heap} {C : Addr} {x : Str} {st : Stmt} {fl : List Bool} (D : FnS K mg x st) : Fn P w K mg base C x 0 fl (R_sameJ 0) := by
  obtain ⟨f, fd, F, hm⟩ := D
  refine ⟨f, hm, F.kp, ?_⟩
  intro A outer s H us vs Q E hr e0 r h
  obtain ⟨_, _, _, _, _, ⟨_, _, _, q, _⟩, _⟩ := h
  exact q.elim
theorem w_law_same {P : Program} {w : World} {K : PySem.W.Frag} {mg : Str → Option Value} {base : Heap} {C : Addr} (T : Tx K mg C) (D : FnS K mg "_law_same" s_law_same) : Fn P w K mg base C "_law_same" 3 [false, false] R_law_same :=
  w0_law_same T D (w0_law_same T D (w0_law_same T D (fn_false D)))
def R_law_pictured : List Dt → Dt → Prop := fun ds r => ∃ Pc rs, ds = [lN Pc, .lst (rowD rs)] ∧ Pc.length ≤ 1000 ∧ 0 < rs.length ∧ rs.length ≤ 1000 ∧ (∀ c ∈ rs, c.length ≤ 1000) ∧ (∀ c ∈ rs, ∀ x ∈ c, x < Pc.length) ∧ r = .lst (rowD (cutF (rs.map (pictF Pc))))
theorem sc_law_pictured : FnScope ["_law_picture_here", "_law_row", "_law_marks", "_law_members", "_law_m", "_law_mark", "_law_k"] ["_law_picture_here", "_law_row"] (defScope s_law_pictured) := ⟨rfl, rfl, rfl, by decide +kernel, rfl, by decide +kernel, by decide +kernel⟩
theorem w_law_pictured {P : Program} {w : World} {K : PySem.W.Frag} {mg : Str → Option Value} {base : Heap} {C : Addr} (T : Tx K mg C) (D : FnS K mg "_law_pictured" s_law_pictured) (F__law_cut : Fn P w K mg base C "_law_cut" 1 [false] R_law_cut) : Fn P w K mg base C "_law_pictured" 2 [false, false] R_law_pictured := by
  obtain ⟨f, fd, F, hm⟩ := D
  have S := sc_law_pictured
  obtain ⟨tM, hM⟩ := T.most
  refine Fn.of F (fn_ok (k := 1) (fl := [false, false]) (R := R_law_pictured) F S rfl (by decide) (fun ds r h => rawFree _ _ (by decide)) (fun cdv A outer s H E hr => have hu := hu_of hr; dss_cons (ds_lcSh (dl_lc 2 rfl S.nd [("_law_members", 3)] 3 rfl rfl (sw_true rfl rfl rfl (by decide +kernel)) (di_seqR ((dv 1).r)) (blkOk_by (by rfl)) (by decide) (fun _ => pg_name (i := 3) S.nd rfl (by first | exact Or.inl rfl | exact Or.inr rfl)) dts_nil (fun _ => (df_lc rfl S.nd [("_law_m", 4)] 4 (di_seqR ((dv 3).r)) (blkOk_by (by rfl)) (by decide) (fun _ => pg_name (i := 4) S.nd rfl (by first | exact Or.inl rfl | exact Or.inr rfl)) dts_nil (fun _ => de_ix ((dv 0).r) (dv 4))).tree)))
      (dss_one (ds_ret (de_call F__law_cut (hr.mono (by decide)) (da_sh ((df_lc rfl S.nd [("_law_mark", 5)] 5 (di_seqR ((dv 2).r)) (blkOk_by (by rfl)) (by decide) (fun _ => pg_name (i := 5) S.nd rfl (by first | exact Or.inl rfl | exact Or.inr rfl)) dts_nil (fun _ => de_tupL T.tuple (((df_lc rfl S.nd [("_law_k", 6)] 6 (di_rng1 T.range (de_len T.len ((dv 0).r))) (blkOk_by (by rfl)) (by decide) (fun _ => pg_name (i := 6) S.nd rfl (by first | exact Or.inl rfl | exact Or.inr rfl)) (dts_one fun _ => db_inN (dv 6) ((dv 5).r)) (fun _ => dv 6)).tree).r))).tree) da_nil))))) ?hp) (F.bindsN fun _ _ _ _ _ _ us hl => match us, hl with | [_, _], _ => rfl) hm
  case hp =>
    rintro ds r ⟨Pc, rs, rfl, hp, h0, hl, hcl, hlt, rfl⟩ -
    have hinj : ∀ a ∈ rs, ∀ b ∈ rs, tN a = tN b → a = b := fun a _ b _ h => tN_inj h
    have hat : ∀ c ∈ rs, ∀ x ∈ c, atI (nD Pc) (x : Int) = some (.int ((Pc.getD x 0 : Nat) : Int)) := fun c hc x hx => nat_at (hlt c hc x hx)
    refine ⟨_, ⟨_, (fLc_i (M := rs) (gg := fun c => tN c) ⟨_, rfl, (by first | rfl | assumption)⟩ (fun c => lN (c.map fun x => Pc.getD x 0)) (fun a ha b hb h => by rw [hinj a ha b hb h]) (fun c hc => ⟨_, (fLc_aN (M := c) ⟨_, rfl, (by first | rfl | assumption)⟩ (fun x => Pc.getD x 0) (fun x hx => by have h1 := hat c hc x hx; exact ⟨_, _, _, rfl, (by first | rfl | assumption), rfl, (by first | assumption | exact nD_at ‹_› | exact atI_nat ‹_› | exact bD_at ‹_›)⟩) (by have := hcl c hc; omega)), rfl⟩) (by omega)), rfl⟩, ?_⟩
    have epic : ∀ c, (List.range Pc.length).filter (fun k => decide (k ∈ c.map fun x => Pc.getD x 0)) = pictF Pc c := fun c => by
      refine mem_uniq (List.Pairwise.filter _ List.pairwise_lt_range) fun x => ?_
      rw [List.mem_filter, List.mem_range, decide_eq_true_eq]
    have hR : R_law_cut [.lst (rs.map fun c => tN ((List.range Pc.length).filter (fun k => decide (k ∈ c.map fun x => Pc.getD x 0))))] (.lst (rowD (cutF (rs.map (pictF Pc))))) := ⟨rs.map (pictF Pc), by
      simp only [epic]
      rw [rowD, List.map_map]
      rfl, by simpa using h0, by simpa using hl, rfl⟩
    have er : rngD ((nD Pc).length : Int) = nD (List.range Pc.length) := by rw [nD_len, nD_rng]
    refine ⟨_, ⟨_, ⟨_, _, ⟨_, (fLc_i (M := rs) (gg := fun c => lN (c.map fun x => Pc.getD x 0)) ⟨_, rfl, (by first | rfl | assumption)⟩ (fun c => tN ((List.range Pc.length).filter (fun k => decide (k ∈ c.map fun x => Pc.getD x 0)))) (fun a ha b hb h => by injection h with h; rw [nD_inj h]) (fun c hc => ⟨_, ⟨_, (fLc_f (M := List.range Pc.length) (by rw [← er]; exact ⟨_, ⟨_, _, rfl, rfl, rfl⟩, by omega, by rw [nD_len]; omega, rfl⟩) (fun k => decide (k ∈ c.map fun x => Pc.getD x 0)) (fun k hk => ⟨_, _, _, rfl, rfl, (by first | rfl | assumption), rfl⟩) (fun k hk => rfl) (by simp; omega)), rfl⟩, rfl⟩) (by omega)), rfl⟩, rfl, rfl⟩, (by assumption)⟩, ?_⟩
    rfl
def R_law_stands : List Dt → Dt → Prop := fun ds r => ∃ ts sg S rs, ds = [.lst (rowD ts), sg, .lst (rowD rs)] ∧ sg.sq = some (nD S) ∧ ts.length ≤ 1000 ∧ (∀ c ∈ ts, c.length ≤ 1000) ∧ 0 < rs.length ∧ (∀ c ∈ ts, ∀ x ∈ c, x < S.length) ∧ (∀ k, k < ts.length → ∀ x ∈ ts.getD k [], S.getD x 0 ∈ endF rs k) ∧ r = .bl true
theorem sc_law_stands : FnScope ["_law_told", "_law_subgroup", "_law_row", "_law_k", "_law_m"] ["_law_told", "_law_subgroup", "_law_row"] (defScope s_law_stands) := ⟨rfl, rfl, rfl, by decide +kernel, rfl, by decide +kernel, by decide +kernel⟩
theorem w_law_stands {P : Program} {w : World} {K : PySem.W.Frag} {mg : Str → Option Value} {base : Heap} {C : Addr} (T : Tx K mg C) (D : FnS K mg "_law_stands" s_law_stands) (F__law_lies_in : Fn P w K mg base C "_law_lies_in" 1 [false, false] R_law_lies_in) (F__law_end : Fn P w K mg base C "_law_end" 1 [false, false] R_law_end) : Fn P w K mg base C "_law_stands" 2 [false, false, false] R_law_stands := by
  obtain ⟨f, fd, F, hm⟩ := D
  have S := sc_law_stands
  obtain ⟨tM, hM⟩ := T.most
  refine Fn.of F (fn_ok (k := 1) (fl := [false, false, false]) (R := R_law_stands) F S rfl (by decide) (fun ds r h => rawFree _ _ (by decide)) (fun cdv A outer s H E hr => have hu := hu_of hr; dss_cons (ds_for PassesOwn.never rfl (di_rng1 T.range (de_len T.len ((dv 0).r))) (dg_name 3 S.nd) (dss_one (ds_if (db_not (db_val (de_call F__law_lies_in (hr.mono (by decide)) (da_sh ((df_lc rfl S.nd [("_law_m", 4)] 4 (di_seqR ((de_ix ((dv 0).r) (dv 3)).r)) (blkOk_by (by rfl)) (by decide) (fun _ => pg_name (i := 4) S.nd rfl (by first | exact Or.inl rfl | exact Or.inr rfl)) dts_nil (fun _ => de_ix ((dv 1).r) (dv 4))).tree) (da_sh (de_call F__law_end (hr.mono (by decide)) (da_sh (dv 2) (da_sh (dv 3) da_nil))) da_nil))))) (dss_one (ds_ret de_bl)) dss_nil)))
      (dss_one (ds_ret de_bl))) ?hp) (F.bindsN fun _ _ _ _ _ _ us hl => match us, hl with | [_, _, _], _ => rfl) hm
  case hp =>
    rintro ds r ⟨ts, sg, S, rs, rfl, hsq, hl, hcl, h0, hlt, hst, rfl⟩ -
    refine ⟨_, ⟨_, ⟨_, _, rfl, (by first | rfl | assumption), rfl⟩, (by first | omega | (rw [List.length_map]; omega)), (by first | omega | (rw [List.length_map]; omega)), rfl⟩, fun k env => ∃ s3, env = [.sh (.lst (rowD ts)), .sh sg, .sh (.lst (rowD rs)), s3, .un], ?_, fun k t env' hk hw => ?_, fun env' hw => ?_⟩
    · exact ⟨_, rfl⟩
    · obtain ⟨s3, rfl⟩ := hw
      rw [List.length_map, nD_rng] at hk
      obtain ⟨k', hk', rfl⟩ := nD_at' hk
      obtain ⟨hkn, e⟩ := List.getElem?_eq_some_iff.mp hk'
      rw [List.getElem_range] at e
      subst e
      rw [List.length_range] at hkn
      have h1 := row_at' hkn
      have hmem : ts.getD k [] ∈ ts := by
        rw [List.getD_eq_getElem?_getD, List.getElem?_eq_getElem hkn]
        exact List.getElem_mem hkn
      have hst' := hst k hkn
      generalize ts.getD k [] = c at h1 hmem hst'
      have hcl' := hcl c hmem
      have h2 : ∀ x ∈ c, atI (nD S) (x : Int) = some (.int ((S.getD x 0 : Nat) : Int)) := fun x hx => nat_at (hlt c hmem x hx)
      have hE : R_law_end [.lst (rowD rs), .int (k : Int)] (tN (endF rs k)) := ⟨rs, k, rfl, h0, rfl⟩
      have hR : R_law_lies_in [lN (c.map fun x => S.getD x 0), tN (endF rs k)] (.bl true) := ⟨_, _, _, _, rfl, rfl, rfl, fun y hy => by
        obtain ⟨x, hx, rfl⟩ := List.mem_map.mp hy
        exact hst' x hx, rfl⟩
      refine ⟨_, rfl, ?_⟩
      refine ⟨_, ⟨_, ⟨_, ⟨_, _, ⟨_, (fLc_aN (M := c) ⟨_, ⟨_, _, _, rfl, (by first | rfl | assumption), rfl, (by first | assumption | exact nD_at ‹_› | exact atI_nat ‹_› | exact bD_at ‹_›)⟩, (by first | rfl | assumption)⟩ (fun x => S.getD x 0) (fun x hx => by have h3 := h2 x hx; exact ⟨_, _, _, rfl, (by first | rfl | assumption), rfl, (by first | assumption | exact nD_at ‹_› | exact atI_nat ‹_› | exact bD_at ‹_›)⟩) (by omega)), rfl⟩, ⟨_, _, ⟨_, ⟨_, _, rfl, ⟨_, _, rfl, rfl, rfl⟩, rfl⟩, (by first | exact hR | exact hE)⟩, rfl, rfl⟩, rfl⟩, (by first | exact hR | exact hE)⟩, rfl⟩, fun hb => ?_, fun hb => ?_⟩
      · cases hb
      · exact ⟨_, rfl⟩
    · obtain ⟨s3, rfl⟩ := hw
      refine ⟨_, rfl, ?_⟩
      rfl
end CM
set_option Elab.async false
set_option linter.all false
set_option maxRecDepth 100000
set_option maxHeartbeats 1000000
/-! Walks: the helper's groups. -/
namespace CM
open PySem PySem.Spec PyProof.Rows L2
def GoodG (gs : List (List Nat)) : Prop := ∃ p, GensOk p gs ∧ gs.length ≤ 1000 ∧ p ≤ 1000 ∧ Tb (tlN gs) (tlM gs) ∧ ∀ a ∈ closeS gs, ∀ b ∈ closeS gs, moveL b a ∈ closeS gs
theorem GoodG.close {gs : List (List Nat)} (g : GoodG gs) : R_law_close [.lst (movD gs)] (.lst (rowD (closeS gs))) := by
  obtain ⟨p, h1, h2, h3, _⟩ := g
  exact ⟨p, gs, rfl, h1, h2, h3, rfl⟩
theorem GoodG.few {gs : List (List Nat)} (g : GoodG gs) : tlN gs ≤ 60 := by
  obtain ⟨p, h1, _⟩ := g
  exact h1.few
theorem GoodG.tb {gs : List (List Nat)} (g : GoodG gs) : Tb (tlN gs) (tlM gs) := by
  obtain ⟨p, _, _, _, h, _⟩ := g
  exact h
theorem GoodG.table {gs : List (List Nat)} (g : GoodG gs) : R_law_table [.lst (rowD (closeS gs))] (tabD (tlN gs) (tlM gs)) := by
  have hf := g.few
  obtain ⟨p, h1, h2, h3, h4, h5⟩ := g
  have hok := closeTo_ok h1.len h1.ok 60
  have hpm := closeS_perm gs
  exact ⟨p, closeS gs, rfl, hpm.nodup_iff.mpr hok.2, fun x hx => hok.1 x (hpm.mem_iff.mp hx), h5, by rw [closeS_len]; omega, h3, by rw [closeS_len]; rfl⟩
theorem Tb.rows {n : Nat} {m : Op} (tb : Tb n m) : ∀ a ∈ List.range n, ∀ b ∈ List.range n, lN (rowL n m a) = lN (rowL n m b) → a = b := fun a ha b hb h => row_inj tb (List.mem_range.mp ha) (List.mem_range.mp hb) h
def grpG (c : Int) (ch : List Nat) : List (List Nat) := menuG ((selG ((numF c 24).getD 0 0) ch : Nat) : Int)
noncomputable def grpM (c : Int) (ch : List Nat) : Op := if (numF c 24).getD 1 0 % 3 = 0 then tlM (grpG c ch) else rnm ((numF c 24).drop 2) (tlN (grpG c ch)) (tlM (grpG c ch))
def R_law_group : List Dt → Dt → Prop := fun ds r => ∃ c ch, ds = [.int c, lN ch] ∧ 0 < ch.length ∧ GoodG (grpG c ch) ∧ r = tabD (tlN (grpG c ch)) (grpM c ch)
theorem sc_law_group : FnScope ["_law_cell_here", "_law_choices", "_law_numbers_here", "_law_table_here"] ["_law_cell_here", "_law_choices"] (defScope s_law_group) := ⟨rfl, rfl, rfl, by decide +kernel, rfl, by decide +kernel, by decide +kernel⟩
theorem w_law_group {P : Program} {w : World} {K : PySem.W.Frag} {mg : Str → Option Value} {base : Heap} {C : Addr} (T : Tx K mg C) (D : FnS K mg "_law_group" s_law_group) (F__law_numbers : Fn P w K mg base C "_law_numbers" 1 [false, false] R_law_numbers) (F__law_table : Fn P w K mg base C "_law_table" 1 [false] R_law_table) (F__law_close : Fn P w K mg base C "_law_close" 1 [false] R_law_close) (F__law_generators : Fn P w K mg base C "_law_generators" 1 [false] R_law_generators) (F__law_renumbered : Fn P w K mg base C "_law_renumbered" 1 [false, false] R_law_renumbered) : Fn P w K mg base C "_law_group" 2 [false, false] R_law_group := by
  obtain ⟨f, fd, F, hm⟩ := D
  have S := sc_law_group
  obtain ⟨tM, hM⟩ := T.most
  refine Fn.of F (fn_ok (k := 1) (fl := [false, false]) (R := R_law_group) F S rfl (by decide) (fun ds r h => rawFree _ _ (by decide)) (fun cdv A outer s H E hr => have hu := hu_of hr; dss_cons (ds_set 2 S.nd (de_call F__law_numbers (hr.mono (by decide)) (da_sh (dv 0) (da_sh de_int da_nil))))
      (dss_cons (ds_set 3 S.nd (de_call F__law_table (hr.mono (by decide)) (da_sh (de_call F__law_close (hr.mono (by decide)) (da_sh (de_call F__law_generators (hr.mono (by decide)) (da_sh (de_ix ((dv 1).r) (de_mod (de_toInt T.int (de_ix ((dv 2).r) de_int)) (de_len T.len ((dv 1).r)))) da_nil)) da_nil)) da_nil)))
      (dss_cons (ds_if (db_eqS (de_mod (de_toInt T.int (de_ix ((dv 2).r) de_int)) de_int) de_int) (dss_one (ds_ret (dv 3))) dss_nil)
      (dss_one (ds_ret (de_call F__law_renumbered (hr.mono (by decide)) (da_sh (dv 3) (da_sh ((df_slice ((dv 2).r) (do_some de_int) do_none).tree) da_nil)))))))) ?hp) (F.bindsN fun _ _ _ _ _ _ us hl => match us, hl with | [_, _], _ => rfl) hm
  case hp =>
    rintro ds r ⟨c, ch, rfl, hch, good, rfl⟩ -
    have c1 : R_law_numbers [.int c, .int 24] (lI (numF c 24)) := ⟨c, 24, rfl, by decide, rfl⟩
    have hlen := numF_len c 24
    obtain ⟨hs1, hs2⟩ := sel_at (z := (numF c 24).getD 0 0) hch
    have c2 : R_law_generators [.int ((selG ((numF c 24).getD 0 0) ch : Nat) : Int)] (.lst (movD (grpG c ch))) := ⟨_, rfl, rfl⟩
    have c3 := good.close
    have c4 := good.table
    have tb := good.tb
    have few := good.few
    have hpos := tb.pos
    have c5 : R_law_renumbered [tabD (tlN (grpG c ch)) (tlM (grpG c ch)), .lst (cutT ((numF c 24).map Dt.int) (some 2) none)] (tabD (tlN (grpG c ch)) (rnm ((numF c 24).drop 2) (tlN (grpG c ch)) (tlM (grpG c ch)))) := ⟨_, _, (numF c 24).drop 2, by rw [cut_drop (z := 2) (k := 2) (by simp [hlen]) rfl, ← List.map_drop]; rfl, hpos, by omega, tb.cl, by simp [hlen], tb.rows, rfl⟩
    have a0 : atI ((numF c 24).map Dt.int) 0 = some (.int ((numF c 24).getD 0 0)) := int_at (k := 0) (by omega)
    have a1 : atI ((numF c 24).map Dt.int) 1 = some (.int ((numF c 24).getD 1 0)) := int_at (k := 1) (by omega)
    have hs1' : atI (nD ch) ((numF c 24).getD 0 0 % ((nD ch).length : Int)) = some (.int ((selG ((numF c 24).getD 0 0) ch : Nat) : Int)) := by
      rw [nD_len]
      exact hs1
    have hnl : (0 : Int) < ((nD ch).length : Int) := by
      rw [nD_len]
      omega
    have em : grpM c ch = if (numF c 24).getD 1 0 % 3 = 0 then tlM (grpG c ch) else rnm ((numF c 24).drop 2) (tlN (grpG c ch)) (tlM (grpG c ch)) := rfl
    generalize grpG c ch = gs at *
    generalize grpM c ch = gm at *
    refine ⟨_, ⟨_, ⟨_, _, rfl, ⟨_, _, rfl, rfl, rfl⟩, rfl⟩, (c1)⟩, ?_⟩
    refine ⟨_, ⟨_, ⟨_, _, ⟨_, ⟨_, _, ⟨_, ⟨_, _, ⟨_, _, _, rfl, (by first | rfl | assumption), ⟨_, _, ⟨_, ⟨_, _, _, rfl, (by first | rfl | assumption), rfl, (by first | assumption | exact nD_at ‹_› | exact atI_nat ‹_› | exact bD_at ‹_›)⟩, rfl⟩, ⟨_, _, rfl, (by first | rfl | assumption), rfl⟩, (by first | omega | (simp at *; omega) | (simp; omega)), rfl⟩, (by first | assumption | exact nD_at ‹_› | exact atI_nat ‹_› | exact bD_at ‹_›)⟩, rfl, rfl⟩, (c2)⟩, rfl, rfl⟩, (c3)⟩, rfl, rfl⟩, (c4)⟩, ?_⟩
    refine ⟨_, ⟨_, _, ⟨_, _, ⟨_, ⟨_, _, _, rfl, (by first | rfl | assumption), rfl, (by first | assumption | exact nD_at ‹_› | exact atI_nat ‹_› | exact bD_at ‹_›)⟩, rfl⟩, rfl, (by first | omega | (simp at *; omega) | (simp; omega)), rfl⟩, rfl, (by exact .int _ _)⟩, fun hb => ?_, fun hb => ?_⟩
    · have hb' : (numF c 24).getD 1 0 % 3 = 0 := by simpa using hb
      refine ⟨_, rfl, ?_⟩
      rw [em, if_pos hb']
    · have hb' : ¬ (numF c 24).getD 1 0 % 3 = 0 := by simpa using hb
      refine ⟨_, ⟨_, ⟨_, _, rfl, ⟨_, _, ⟨_, ⟨_, _, _, rfl, ⟨_, rfl, rfl⟩, rfl, rfl⟩, rfl⟩, rfl, rfl⟩, rfl⟩, (c5)⟩, ?_⟩
      rw [em, if_neg hb']
def R_law_affine : List Dt → Dt → Prop := fun ds r => ∃ (ns : List Int) (p f : Nat), ds = [lI ns] ∧ 2 ≤ ns.length ∧ p = 2 + (ns.getD 0 0 % 15).toNat ∧ f = (ns.getD 1 0 % (p : Int)).toNat ∧ GoodG (affG p f) ∧ r = tabD (tlN (affG p f)) (tlM (affG p f))
theorem powTo_le (p f : Nat) : ∀ k, (powTo p f k).2 ≤ k + 1
  | 0 => by simp [powTo]
  | k + 1 => by
    have := powTo_le p f k
    rw [powTo]
    split
    · show _ + 1 ≤ _
      omega
    · omega
theorem sc_law_affine : FnScope ["_law_numbers_here", "_law_points", "_law_factor", "_law_count", "_law_power", "_law_k", "_law_shift", "_law_x"] ["_law_numbers_here"] (defScope s_law_affine) := ⟨rfl, rfl, rfl, by decide +kernel, rfl, by decide +kernel, by decide +kernel⟩
theorem w_law_affine {P : Program} {w : World} {K : PySem.W.Frag} {mg : Str → Option Value} {base : Heap} {C : Addr} (T : Tx K mg C) (D : FnS K mg "_law_affine" s_law_affine) (F__law_table : Fn P w K mg base C "_law_table" 1 [false] R_law_table) (F__law_close : Fn P w K mg base C "_law_close" 1 [false] R_law_close) : Fn P w K mg base C "_law_affine" 2 [false] R_law_affine := by
  obtain ⟨f, fd, F, hm⟩ := D
  have S := sc_law_affine
  obtain ⟨tM, hM⟩ := T.most
  refine Fn.of F (fn_ok (k := 1) (fl := [false]) (R := R_law_affine) F S rfl (by decide) (fun ds r h => rawFree _ _ (by decide)) (fun cdv A outer s H E hr => have hu := hu_of hr; dss_cons (ds_set 1 S.nd (de_add de_int (de_mod (de_toInt T.int (de_ix ((dv 0).r) de_int)) de_int)))
      (dss_cons (ds_set 2 S.nd (de_mod (de_toInt T.int (de_ix ((dv 0).r) de_int)) (dv 1)))
      (dss_cons (ds_if (db_neD hr.units (((df_sortedN T.sorted (((df_lc rfl S.nd [("_law_x", 7)] 7 (di_rng1 T.range (dv 1)) (blkOk_by (by rfl)) (by decide) (fun _ => pg_name (i := 7) S.nd rfl (by first | exact Or.inl rfl | exact Or.inr rfl)) dts_nil (fun _ => de_mod (de_toInt T.int (de_mul (dv 2) (dv 7))) (dv 1))).tree).r)).tree).r) (((df_listRg rfl T.list T.range (dv 1)).tree).r)) (dss_one (ds_set 2 S.nd (de_sub (dv 1) de_int))) dss_nil)
      (dss_cons (ds_set 3 S.nd de_int)
      (dss_cons (ds_set 4 S.nd (dv 2))
      (dss_cons (ds_for PassesOwn.never rfl (di_rng1 T.range (dv 1)) (dg_name 5 S.nd) (dss_one (ds_if (db_neS (dv 4) de_int) (dss_cons (ds_set 4 S.nd (de_mod (de_toInt T.int (de_mul (dv 4) (dv 2))) (dv 1)))
      (dss_one (ds_aug 3 S.nd ip_addI de_int))) dss_nil)))
      (dss_cons (ds_if (db_gt (de_mul (dv 1) (dv 3)) de_int) (dss_one (ds_set 2 S.nd de_int)) dss_nil)
      (dss_cons (ds_lcSh (dl_lc 6 rfl S.nd [("_law_x", 7)] 7 rfl rfl (sw_true rfl rfl rfl (by decide +kernel)) (di_rng1 T.range (dv 1)) (blkOk_by (by rfl)) (by decide) (fun _ => pg_name (i := 7) S.nd rfl (by first | exact Or.inl rfl | exact Or.inr rfl)) dts_nil (fun _ => de_mod (de_toInt T.int (de_add (dv 7) de_int)) (dv 1))))
      (dss_one (ds_ret (de_call F__law_table (hr.mono (by decide)) (da_sh (de_call F__law_close (hr.mono (by decide)) (da_sh ((df_lst (da_sh (dv 6) (da_sh ((df_lc rfl S.nd [("_law_x", 7)] 7 (di_rng1 T.range (dv 1)) (blkOk_by (by rfl)) (by decide) (fun _ => pg_name (i := 7) S.nd rfl (by first | exact Or.inl rfl | exact Or.inr rfl)) dts_nil (fun _ => de_mod (de_toInt T.int (de_mul (dv 2) (dv 7))) (dv 1))).tree) da_nil))).tree) da_nil)) da_nil)))))))))))) ?hp) (F.bindsN fun _ _ _ _ _ _ us hl => match us, hl with | [_], _ => rfl) hm
  case hp =>
    rintro ds r ⟨ns, p, f, rfl, hl, hp, hf, good, rfl⟩ -
    have a0 : atI (ns.map Dt.int) 0 = some (.int (ns.getD 0 0)) := int_at (k := 0) (by omega)
    have a1 : atI (ns.map Dt.int) 1 = some (.int (ns.getD 1 0)) := int_at (k := 1) (by omega)
    have q1 := Int.emod_nonneg (ns.getD 0 0) (show (15 : Int) ≠ 0 by decide)
    have q2 := Int.emod_lt_of_pos (ns.getD 0 0) (show (0 : Int) < 15 by decide)
    have ep : 2 + ns.getD 0 0 % 15 = (p : Int) := by omega
    have hp2 : 2 ≤ p ∧ p ≤ 16 := by omega
    have q3 := Int.emod_nonneg (ns.getD 1 0) (show (p : Int) ≠ 0 by omega)
    have q4 := Int.emod_lt_of_pos (ns.getD 1 0) (show (0 : Int) < (p : Int) by omega)
    have ef : ns.getD 1 0 % (p : Int) = (f : Int) := by omega
    have hfp : f < p := by omega
    have c3 := good.close
    have c4 := good.table
    generalize tabD (tlN (affG p f)) (tlM (affG p f)) = res at c4 ⊢
    refine ⟨_, ⟨_, _, rfl, ⟨_, _, ⟨_, ⟨_, _, _, rfl, (by first | rfl | assumption), rfl, (by first | assumption | exact nD_at ‹_› | exact atI_nat ‹_› | exact bD_at ‹_›)⟩, rfl⟩, rfl, (by first | omega | (simp at *; omega) | (simp; omega)), rfl⟩, rfl⟩, ?_⟩
    rw [ep]
    refine ⟨_, ⟨_, _, ⟨_, ⟨_, _, _, rfl, (by first | rfl | assumption), rfl, (by first | assumption | exact nD_at ‹_› | exact atI_nat ‹_› | exact bD_at ‹_›)⟩, rfl⟩, rfl, (by first | omega | (simp at *; omega) | (simp; omega)), rfl⟩, ?_⟩
    rw [ef]
    obtain ⟨ms, hperm, hsort⟩ := sort_ex (mulL p f)
    have hperm' : ms.Perm ((List.range p).map fun x => (f * x) % p) := hperm
    have hq : EqD (lN ms) (.lst (rngD (p : Int))) (permB p f) := by
      have h := eqD_lN ms (List.range p)
      rw [sorted_rng (by omega) hperm hsort] at h
      rw [nD_rng]
      exact h
    have er : rngD (p : Int) = nD (List.range p) := nD_rng p
    have hmul : ∀ (g x : Nat), ((((g * x) % p : Nat)) : Int) = ((g : Int) * (x : Int)) % (p : Int) := fun g x => by rw [Int.natCast_emod, Int.natCast_mul]
    have hshift : ∀ x : Nat, ((((x + 1) % p : Nat)) : Int) = ((x : Int) + 1) % (p : Int) := fun x => by rw [Int.natCast_emod]; rfl
    refine ⟨_, ⟨_, ⟨_, _, ⟨_, ⟨_, _, ⟨_, (fLc_aN (M := List.range p) (by rw [← er]; exact ⟨_, rfl, (by first | omega | (simp at *; omega) | (simp; omega)), (by first | omega | (simp at *; omega) | (simp; omega)), rfl⟩) (fun x => (f * x) % p) (fun x hx => by rw [hmul f x]; exact ⟨_, _, ⟨_, ⟨_, _, rfl, rfl, (by exact Or.inl ⟨by omega, by omega⟩), rfl⟩, rfl⟩, rfl, (by first | omega | (simp at *; omega) | (simp; omega)), rfl⟩) (by simp; omega)), rfl⟩, (by assumption), (by assumption), (by first | rfl | assumption)⟩, rfl⟩, ⟨_, ⟨_, rfl, (by first | omega | (simp at *; omega) | (simp; omega)), (by first | omega | (simp at *; omega) | (simp; omega)), rfl⟩, rfl⟩, (by first | assumption | exact eqD_tN _ _ | exact eqD_lN _ _)⟩, rfl⟩, fun hb => ?_, fun hb => ?_⟩
    · have hb' : permB p f = false := by simpa using hb
      have efac : facF p f = p - 1 := by rw [facF, hb']; simp
      refine ⟨_, ⟨_, _, rfl, rfl, rfl⟩, ?_⟩
      rw [show ((p : Int) - 1) = ((p - 1 : Nat) : Int) by omega, ← efac]
      have hg : facF p f < p := by rw [efac]; omega
      have haff : affG p f = [(List.range p).map fun x => (x + 1) % p, (List.range p).map fun x => (affF p f * x) % p] := rfl
      have hal : affF p f ≤ 16 := by
        unfold affF
        split <;> omega
      have eaff : affF p f = if 32 < p * (powTo p (facF p f) p).2 then 1 else facF p f := rfl
      generalize facF p f = g at hg eaff ⊢
      generalize affF p f = af at haff hal eaff ⊢
      generalize affG p f = ag at haff c3 c4 ⊢
      refine ⟨_, rfl, ?_⟩
      refine ⟨_, rfl, ?_⟩
      refine ⟨_, ⟨_, rfl, (by first | omega | (simp at *; omega) | (simp; omega)), (by first | omega | (simp at *; omega) | (simp; omega)), rfl⟩, fun k env => ∃ s5, env = [.sh (lI ns), .sh (.int (p : Int)), .sh (.int (g : Int)), .sh (.int (((powTo p g k).2 : Nat) : Int)), .sh (.int (((powTo p g k).1 : Nat) : Int)), s5, .un, .un], ?_, fun k t env' hk hw => ?_, fun env' hw => ?_⟩
      · exact ⟨_, rfl⟩
      · obtain ⟨s5, rfl⟩ := hw
        rw [er] at hk
        obtain ⟨k', hk', rfl⟩ := nD_at' hk
        have hkn : k < p := by
          have := (List.getElem?_eq_some_iff.mp hk').1
          rw [List.length_range] at this
          exact this
        have hpl := powTo_le p g k
        refine ⟨_, rfl, ?_⟩
        refine ⟨_, ⟨_, _, _, rfl, rfl, (by exact .int _ _), rfl⟩, fun hb => ?_, fun hb => ?_⟩
        · have hb2 : (powTo p g k).1 ≠ 1 := by
            have : ¬ (((powTo p g k).1 : Nat) : Int) = 1 := by simpa using hb
            omega
          refine ⟨_, ⟨_, _, ⟨_, ⟨_, _, rfl, rfl, (by exact Or.inr ⟨by omega, by omega⟩), rfl⟩, rfl⟩, rfl, (by first | omega | (simp at *; omega) | (simp; omega)), rfl⟩, ?_⟩
          refine ⟨_, _, rfl, rfl, trivial, ?_⟩
          refine ⟨.sh (.int ((k' : Nat) : Int)), ?_⟩
          rw [powTo, if_pos hb2]
          show _ = [_, _, _, Sl.sh (.int (((powTo p g k).2 + 1 : Nat) : Int)), Sl.sh (.int ((((powTo p g k).1 * g) % p : Nat) : Int)), _, _, _]
          rw [hmul]
          rfl
        · have hb2 : ¬ (powTo p g k).1 ≠ 1 := by
            have : (((powTo p g k).1 : Nat) : Int) = 1 := by simpa using hb
            omega
          refine ⟨.sh (.int ((k' : Nat) : Int)), ?_⟩
          rw [powTo, if_neg hb2]
          rfl
      obtain ⟨s5, rfl⟩ := hw
      rw [er, nD_len, List.length_range]
      have hpl := powTo_le p g p
      refine ⟨_, ⟨_, _, ⟨_, _, rfl, rfl, (by exact Or.inl ⟨by omega, by omega⟩), rfl⟩, rfl, rfl⟩, fun hb => ?_, fun hb => ?_⟩
      · have hb2 : 32 < p * (powTo p g p).2 := by
          have : (32 : Int) < (p : Int) * (((powTo p g p).2 : Nat) : Int) := by simpa using hb
          rw [← Int.natCast_mul] at this
          omega
        rw [if_pos hb2] at eaff
        refine ⟨_, rfl, ?_⟩
        subst eaff
        refine ⟨_, ⟨_, (fLc_aN (M := List.range p) (by rw [← er]; exact ⟨_, rfl, (by first | omega | (simp at *; omega) | (simp; omega)), (by first | omega | (simp at *; omega) | (simp; omega)), rfl⟩) (fun x => (x + 1) % p) (fun x hx => by rw [hshift x]; exact ⟨_, _, ⟨_, ⟨_, _, rfl, rfl, rfl⟩, rfl⟩, rfl, (by first | omega | (simp at *; omega) | (simp; omega)), rfl⟩) (by simp; omega)), rfl⟩, ?_⟩
        subst haff
        refine ⟨_, ⟨_, ⟨_, _, ⟨_, ⟨_, _, ⟨_, ⟨⟨_, _, rfl, ⟨_, _, ⟨_, (fLc_aN (M := List.range p) (by rw [← er]; exact ⟨_, rfl, (by first | omega | (simp at *; omega) | (simp; omega)), (by first | omega | (simp at *; omega) | (simp; omega)), rfl⟩) (fun x => (1 * x) % p) (fun x hx => by rw [hmul 1 x]; exact ⟨_, _, ⟨_, ⟨_, _, rfl, rfl, (by exact Or.inl ⟨by omega, by omega⟩), rfl⟩, rfl⟩, rfl, (by first | omega | (simp at *; omega) | (simp; omega)), rfl⟩) (by simp; omega)), rfl⟩, rfl, rfl⟩, rfl⟩, (by first | (simp; done) | omega | (simp; omega))⟩, rfl⟩, rfl, rfl⟩, (c3)⟩, rfl, rfl⟩, (c4)⟩, ?_⟩
        rfl
      · have hb2 : ¬ 32 < p * (powTo p g p).2 := by
          have : ¬ (32 : Int) < (p : Int) * (((powTo p g p).2 : Nat) : Int) := by simpa using hb
          rw [← Int.natCast_mul] at this
          omega
        rw [if_neg hb2] at eaff
        rw [← eaff]
        refine ⟨_, ⟨_, (fLc_aN (M := List.range p) (by rw [← er]; exact ⟨_, rfl, (by first | omega | (simp at *; omega) | (simp; omega)), (by first | omega | (simp at *; omega) | (simp; omega)), rfl⟩) (fun x => (x + 1) % p) (fun x hx => by rw [hshift x]; exact ⟨_, _, ⟨_, ⟨_, _, rfl, rfl, rfl⟩, rfl⟩, rfl, (by first | omega | (simp at *; omega) | (simp; omega)), rfl⟩) (by simp; omega)), rfl⟩, ?_⟩
        subst haff
        refine ⟨_, ⟨_, ⟨_, _, ⟨_, ⟨_, _, ⟨_, ⟨⟨_, _, rfl, ⟨_, _, ⟨_, (fLc_aN (M := List.range p) (by rw [← er]; exact ⟨_, rfl, (by first | omega | (simp at *; omega) | (simp; omega)), (by first | omega | (simp at *; omega) | (simp; omega)), rfl⟩) (fun x => (af * x) % p) (fun x hx => by rw [hmul af x]; exact ⟨_, _, ⟨_, ⟨_, _, rfl, rfl, (by exact Or.inl ⟨by omega, by omega⟩), rfl⟩, rfl⟩, rfl, (by first | omega | (simp at *; omega) | (simp; omega)), rfl⟩) (by simp; omega)), rfl⟩, rfl, rfl⟩, rfl⟩, (by first | (simp; done) | omega | (simp; omega))⟩, rfl⟩, rfl, rfl⟩, (c3)⟩, rfl, rfl⟩, (c4)⟩, ?_⟩
        rfl
    · have hb' : permB p f = true := by simpa using hb
      have efac : facF p f = f := by rw [facF, hb']; simp
      have hg : facF p f < p := by rw [efac]; omega
      rw [← efac]
      have haff : affG p f = [(List.range p).map fun x => (x + 1) % p, (List.range p).map fun x => (affF p f * x) % p] := rfl
      have hal : affF p f ≤ 16 := by
        unfold affF
        split <;> omega
      have eaff : affF p f = if 32 < p * (powTo p (facF p f) p).2 then 1 else facF p f := rfl
      generalize facF p f = g at hg eaff ⊢
      generalize affF p f = af at haff hal eaff ⊢
      generalize affG p f = ag at haff c3 c4 ⊢
      refine ⟨_, rfl, ?_⟩
      refine ⟨_, rfl, ?_⟩
      refine ⟨_, ⟨_, rfl, (by first | omega | (simp at *; omega) | (simp; omega)), (by first | omega | (simp at *; omega) | (simp; omega)), rfl⟩, fun k env => ∃ s5, env = [.sh (lI ns), .sh (.int (p : Int)), .sh (.int (g : Int)), .sh (.int (((powTo p g k).2 : Nat) : Int)), .sh (.int (((powTo p g k).1 : Nat) : Int)), s5, .un, .un], ?_, fun k t env' hk hw => ?_, fun env' hw => ?_⟩
      · exact ⟨_, rfl⟩
      · obtain ⟨s5, rfl⟩ := hw
        rw [er] at hk
        obtain ⟨k', hk', rfl⟩ := nD_at' hk
        have hkn : k < p := by
          have := (List.getElem?_eq_some_iff.mp hk').1
          rw [List.length_range] at this
          exact this
        have hpl := powTo_le p g k
        refine ⟨_, rfl, ?_⟩
        refine ⟨_, ⟨_, _, _, rfl, rfl, (by exact .int _ _), rfl⟩, fun hb => ?_, fun hb => ?_⟩
        · have hb2 : (powTo p g k).1 ≠ 1 := by
            have : ¬ (((powTo p g k).1 : Nat) : Int) = 1 := by simpa using hb
            omega
          refine ⟨_, ⟨_, _, ⟨_, ⟨_, _, rfl, rfl, (by exact Or.inr ⟨by omega, by omega⟩), rfl⟩, rfl⟩, rfl, (by first | omega | (simp at *; omega) | (simp; omega)), rfl⟩, ?_⟩
          refine ⟨_, _, rfl, rfl, trivial, ?_⟩
          refine ⟨.sh (.int ((k' : Nat) : Int)), ?_⟩
          rw [powTo, if_pos hb2]
          show _ = [_, _, _, Sl.sh (.int (((powTo p g k).2 + 1 : Nat) : Int)), Sl.sh (.int ((((powTo p g k).1 * g) % p : Nat) : Int)), _, _, _]
          rw [hmul]
          rfl
        · have hb2 : ¬ (powTo p g k).1 ≠ 1 := by
            have : (((powTo p g k).1 : Nat) : Int) = 1 := by simpa using hb
            omega
          refine ⟨.sh (.int ((k' : Nat) : Int)), ?_⟩
          rw [powTo, if_neg hb2]
          rfl
      obtain ⟨s5, rfl⟩ := hw
      rw [er, nD_len, List.length_range]
      have hpl := powTo_le p g p
      refine ⟨_, ⟨_, _, ⟨_, _, rfl, rfl, (by exact Or.inl ⟨by omega, by omega⟩), rfl⟩, rfl, rfl⟩, fun hb => ?_, fun hb => ?_⟩
      · have hb2 : 32 < p * (powTo p g p).2 := by
          have : (32 : Int) < (p : Int) * (((powTo p g p).2 : Nat) : Int) := by simpa using hb
          rw [← Int.natCast_mul] at this
          omega
        rw [if_pos hb2] at eaff
        refine ⟨_, rfl, ?_⟩
        subst eaff
        refine ⟨_, ⟨_, (fLc_aN (M := List.range p) (by rw [← er]; exact ⟨_, rfl, (by first | omega | (simp at *; omega) | (simp; omega)), (by first | omega | (simp at *; omega) | (simp; omega)), rfl⟩) (fun x => (x + 1) % p) (fun x hx => by rw [hshift x]; exact ⟨_, _, ⟨_, ⟨_, _, rfl, rfl, rfl⟩, rfl⟩, rfl, (by first | omega | (simp at *; omega) | (simp; omega)), rfl⟩) (by simp; omega)), rfl⟩, ?_⟩
        subst haff
        refine ⟨_, ⟨_, ⟨_, _, ⟨_, ⟨_, _, ⟨_, ⟨⟨_, _, rfl, ⟨_, _, ⟨_, (fLc_aN (M := List.range p) (by rw [← er]; exact ⟨_, rfl, (by first | omega | (simp at *; omega) | (simp; omega)), (by first | omega | (simp at *; omega) | (simp; omega)), rfl⟩) (fun x => (1 * x) % p) (fun x hx => by rw [hmul 1 x]; exact ⟨_, _, ⟨_, ⟨_, _, rfl, rfl, (by exact Or.inl ⟨by omega, by omega⟩), rfl⟩, rfl⟩, rfl, (by first | omega | (simp at *; omega) | (simp; omega)), rfl⟩) (by simp; omega)), rfl⟩, rfl, rfl⟩, rfl⟩, (by first | (simp; done) | omega | (simp; omega))⟩, rfl⟩, rfl, rfl⟩, (c3)⟩, rfl, rfl⟩, (c4)⟩, ?_⟩
        rfl
      · have hb2 : ¬ 32 < p * (powTo p g p).2 := by
          have : ¬ (32 : Int) < (p : Int) * (((powTo p g p).2 : Nat) : Int) := by simpa using hb
          rw [← Int.natCast_mul] at this
          omega
        rw [if_neg hb2] at eaff
        rw [← eaff]
        refine ⟨_, ⟨_, (fLc_aN (M := List.range p) (by rw [← er]; exact ⟨_, rfl, (by first | omega | (simp at *; omega) | (simp; omega)), (by first | omega | (simp at *; omega) | (simp; omega)), rfl⟩) (fun x => (x + 1) % p) (fun x hx => by rw [hshift x]; exact ⟨_, _, ⟨_, ⟨_, _, rfl, rfl, rfl⟩, rfl⟩, rfl, (by first | omega | (simp at *; omega) | (simp; omega)), rfl⟩) (by simp; omega)), rfl⟩, ?_⟩
        subst haff
        refine ⟨_, ⟨_, ⟨_, _, ⟨_, ⟨_, _, ⟨_, ⟨⟨_, _, rfl, ⟨_, _, ⟨_, (fLc_aN (M := List.range p) (by rw [← er]; exact ⟨_, rfl, (by first | omega | (simp at *; omega) | (simp; omega)), (by first | omega | (simp at *; omega) | (simp; omega)), rfl⟩) (fun x => (af * x) % p) (fun x hx => by rw [hmul af x]; exact ⟨_, _, ⟨_, ⟨_, _, rfl, rfl, (by exact Or.inl ⟨by omega, by omega⟩), rfl⟩, rfl⟩, rfl, (by first | omega | (simp at *; omega) | (simp; omega)), rfl⟩) (by simp; omega)), rfl⟩, rfl, rfl⟩, rfl⟩, (by first | (simp; done) | omega | (simp; omega))⟩, rfl⟩, rfl, rfl⟩, (c3)⟩, rfl, rfl⟩, (c4)⟩, ?_⟩
        rfl
end CM
set_option Elab.async false
set_option linter.all false
set_option maxRecDepth 100000
set_option maxHeartbeats 1000000
/-! Walks: the helper's third group; what is told of products. -/
namespace CM
open PySem PySem.Spec PyProof.Rows L2
def anyP (ns : List Int) : Nat := 2 + (ns.getD 1 0 % 15).toNat
def anyF (ns : List Int) : Nat := (ns.getD 2 0 % (anyP ns : Int)).toNat
noncomputable def any1 (ns : List Int) : Nat × Op := if ns.getD 0 0 % 4 = 1 then (tlN (affG (anyP ns) (anyF ns)), tlM (affG (anyP ns) (anyF ns))) else (tlN (menuG (ns.getD 1 0)), tlM (menuG (ns.getD 1 0)))
noncomputable def any2 (ns : List Int) : Nat × Op := if 2 ≤ ns.getD 0 0 % 4 then (if (any1 ns).1 * tlN (menuG (ns.getD 2 0)) ≤ 24 then ((any1 ns).1 * tlN (menuG (ns.getD 2 0)), pm (tlN (menuG (ns.getD 2 0))) (any1 ns).2 (tlM (menuG (ns.getD 2 0)))) else any1 ns) else any1 ns
noncomputable def any3 (ns : List Int) : Nat × Op := if ns.getD 3 0 % 3 = 0 then any2 ns else ((any2 ns).1, rnm (ns.drop 4) (any2 ns).1 (any2 ns).2)
def R_law_any_group : List Dt → Dt → Prop := fun ds r => ∃ c ns, ds = [.int c] ∧ ns = numF c 37 ∧ (∀ z, GoodG (menuG z)) ∧ (∀ p f, 2 ≤ p → p ≤ 16 → f < p → GoodG (affG p f)) ∧ Tb (any2 ns).1 (any2 ns).2 ∧ (any2 ns).1 ≤ 60 ∧ r = tabD (any3 ns).1 (any3 ns).2
theorem sc_law_any_group : FnScope ["_law_cell_here", "_law_numbers_here", "_law_kind", "_law_table_here", "_law_other"] ["_law_cell_here"] (defScope s_law_any_group) := ⟨rfl, rfl, rfl, by decide +kernel, rfl, by decide +kernel, by decide +kernel⟩
theorem w_law_any_group {P : Program} {w : World} {K : PySem.W.Frag} {mg : Str → Option Value} {base : Heap} {C : Addr} (T : Tx K mg C) (D : FnS K mg "_law_any_group" s_law_any_group) (F__law_numbers : Fn P w K mg base C "_law_numbers" 1 [false, false] R_law_numbers) (F__law_table : Fn P w K mg base C "_law_table" 1 [false] R_law_table) (F__law_close : Fn P w K mg base C "_law_close" 1 [false] R_law_close) (F__law_generators : Fn P w K mg base C "_law_generators" 1 [false] R_law_generators) (F__law_affine : Fn P w K mg base C "_law_affine" 2 [false] R_law_affine) (F__law_product : Fn P w K mg base C "_law_product" 1 [false, false] R_law_product) (F__law_renumbered : Fn P w K mg base C "_law_renumbered" 1 [false, false] R_law_renumbered) : Fn P w K mg base C "_law_any_group" 3 [false] R_law_any_group := by
  obtain ⟨f, fd, F, hm⟩ := D
  have S := sc_law_any_group
  obtain ⟨tM, hM⟩ := T.most
  refine Fn.of F (fn_ok (k := 2) (fl := [false]) (R := R_law_any_group) F S rfl (by decide) (fun ds r h => rawFree _ _ (by decide)) (fun cdv A outer s H E hr => have hu := hu_of hr; dss_cons (ds_set 1 S.nd (de_call F__law_numbers (hr.mono (by decide)) (da_sh (dv 0) (da_sh de_int da_nil))))
      (dss_cons (ds_set 2 S.nd (de_mod (de_toInt T.int (de_ix ((dv 1).r) de_int)) de_int))
      (dss_cons (ds_set 3 S.nd (de_call F__law_table (hr.mono (by decide)) (da_sh (de_call F__law_close (hr.mono (by decide)) (da_sh (de_call F__law_generators (hr.mono (by decide)) (da_sh (de_toInt T.int (de_ix ((dv 1).r) de_int)) da_nil)) da_nil)) da_nil)))
      (dss_cons (ds_if (db_eqS (dv 2) de_int) (dss_one (ds_set 3 S.nd (de_call F__law_affine (hr.mono (by decide)) (da_sh ((df_slice ((dv 1).r) (do_some de_int) (do_some de_int)).tree) da_nil)))) dss_nil)
      (dss_cons (ds_if (db_ge (dv 2) de_int) (dss_cons (ds_set 4 S.nd (de_call F__law_table (hr.mono (by decide)) (da_sh (de_call F__law_close (hr.mono (by decide)) (da_sh (de_call F__law_generators (hr.mono (by decide)) (da_sh (de_toInt T.int (de_ix ((dv 1).r) de_int)) da_nil)) da_nil)) da_nil)))
      (dss_one (ds_if (db_le (de_mul (de_len T.len ((dv 3).r)) (de_len T.len ((dv 4).r))) de_int) (dss_one (ds_set 3 S.nd (de_call F__law_product (hr.mono (by decide)) (da_sh (dv 3) (da_sh (dv 4) da_nil))))) dss_nil))) dss_nil)
      (dss_cons (ds_if (db_eqS (de_mod (de_toInt T.int (de_ix ((dv 1).r) de_int)) de_int) de_int) (dss_one (ds_ret (dv 3))) dss_nil)
      (dss_one (ds_ret (de_call F__law_renumbered (hr.mono (by decide)) (da_sh (dv 3) (da_sh ((df_slice ((dv 1).r) (do_some de_int) do_none).tree) da_nil))))))))))) ?hp) (F.bindsN fun _ _ _ _ _ _ us hl => match us, hl with | [_], _ => rfl) hm
  case hp =>
    rintro ds r ⟨c, ns, rfl, ens, gm, ga, tb2, few2, rfl⟩ -
    have c1 : R_law_numbers [.int c, .int 37] (lI ns) := ⟨c, 37, rfl, by decide, by rw [ens]⟩
    have hlen : ns.length = 37 := by rw [ens]; exact numF_len c 37
    have a0 : atI (ns.map Dt.int) 0 = some (.int (ns.getD 0 0)) := int_at (k := 0) (by omega)
    have a1 : atI (ns.map Dt.int) 1 = some (.int (ns.getD 1 0)) := int_at (k := 1) (by omega)
    have a2 : atI (ns.map Dt.int) 2 = some (.int (ns.getD 2 0)) := int_at (k := 2) (by omega)
    have a3 : atI (ns.map Dt.int) 3 = some (.int (ns.getD 3 0)) := int_at (k := 3) (by omega)
    have q1 := Int.emod_nonneg (ns.getD 1 0) (show (15 : Int) ≠ 0 by decide)
    have q2 := Int.emod_lt_of_pos (ns.getD 1 0) (show (0 : Int) < 15 by decide)
    have hp : 2 ≤ anyP ns ∧ anyP ns ≤ 16 := by unfold anyP; omega
    have q3 := Int.emod_nonneg (ns.getD 2 0) (show (anyP ns : Int) ≠ 0 by omega)
    have q4 := Int.emod_lt_of_pos (ns.getD 2 0) (show (0 : Int) < (anyP ns : Int) by omega)
    have hf : anyF ns < anyP ns := by unfold anyF; omega
    have g1 := gm (ns.getD 1 0)
    have g2 := gm (ns.getD 2 0)
    have g3 := ga _ _ hp.1 hp.2 hf
    have d1 : R_law_generators [.int (ns.getD 1 0)] (.lst (movD (menuG (ns.getD 1 0)))) := ⟨_, rfl, rfl⟩
    have d2 := g1.close
    have d3 := g1.table
    have e1 : R_law_generators [.int (ns.getD 2 0)] (.lst (movD (menuG (ns.getD 2 0)))) := ⟨_, rfl, rfl⟩
    have e2 := g2.close
    have e3 := g2.table
    have a12 : ∀ i, i < 2 → ((ns.drop 1).take 2).getD i 0 = ns.getD (i + 1) 0 := fun i hi => by
      rw [List.getD_eq_getElem?_getD, List.getD_eq_getElem?_getD, List.getElem?_take_of_lt hi, List.getElem?_drop, Nat.add_comm]
    have f1 : R_law_affine [.lst (cutT (ns.map Dt.int) (some 1) (some 3))] (tabD (tlN (affG (anyP ns) (anyF ns))) (tlM (affG (anyP ns) (anyF ns)))) := ⟨(ns.drop 1).take 2, anyP ns, anyF ns, by rw [cut_mid (y := 1) (z := 3) (j := 1) (k := 3) (by simp [hlen]) (by simp [hlen]) rfl rfl, ← List.map_drop, ← List.map_take]; rfl, by simp [hlen], by rw [a12 0 (by decide)]; rfl, by rw [a12 1 (by decide)]; rfl, g3, rfl⟩
    have c9 : R_law_renumbered [tabD (any2 ns).1 (any2 ns).2, .lst (cutT (ns.map Dt.int) (some 4) none)] (tabD (any2 ns).1 (rnm (ns.drop 4) (any2 ns).1 (any2 ns).2)) := ⟨_, _, ns.drop 4, by rw [cut_drop (z := 4) (k := 4) (by simp [hlen]) rfl, ← List.map_drop]; rfl, tb2.pos, by omega, tb2.cl, by simp [hlen], tb2.rows, rfl⟩
    have k1 := Int.emod_nonneg (ns.getD 0 0) (show (4 : Int) ≠ 0 by decide)
    have n1f := g1.few
    have n2f := g2.few
    have p1 := g1.tb.pos
    have p2 := g2.tb.pos
    have y1 : ns.getD 0 0 % 4 = 1 → any1 ns = (tlN (affG (anyP ns) (anyF ns)), tlM (affG (anyP ns) (anyF ns))) := fun hk => by rw [any1, if_pos hk]
    have y2 : ¬ ns.getD 0 0 % 4 = 1 → any1 ns = (tlN (menuG (ns.getD 1 0)), tlM (menuG (ns.getD 1 0))) := fun hk => by rw [any1, if_neg hk]
    have y3 : ¬ 2 ≤ ns.getD 0 0 % 4 → any2 ns = any1 ns := fun hk => by rw [any2, if_neg hk]
    have y4 : 2 ≤ ns.getD 0 0 % 4 → ¬ (any1 ns).1 * tlN (menuG (ns.getD 2 0)) ≤ 24 → any2 ns = any1 ns := fun hk h => by rw [any2, if_pos hk, if_neg h]
    have y5 : 2 ≤ ns.getD 0 0 % 4 → (any1 ns).1 * tlN (menuG (ns.getD 2 0)) ≤ 24 → any2 ns = ((any1 ns).1 * tlN (menuG (ns.getD 2 0)), pm (tlN (menuG (ns.getD 2 0))) (any1 ns).2 (tlM (menuG (ns.getD 2 0)))) := fun hk h => by rw [any2, if_pos hk, if_pos h]
    have y6 : ns.getD 3 0 % 3 = 0 → any3 ns = any2 ns := fun h => by rw [any3, if_pos h]
    have y7 : ¬ ns.getD 3 0 % 3 = 0 → any3 ns = ((any2 ns).1, rnm (ns.drop 4) (any2 ns).1 (any2 ns).2) := fun h => by rw [any3, if_neg h]
    clear gm ga g1 g2 g3 tb2
    generalize any3 ns = A3 at *
    generalize any2 ns = A2 at *
    generalize any1 ns = A1 at *
    generalize closeS (menuG (ns.getD 1 0)) = cs1 at *
    generalize closeS (menuG (ns.getD 2 0)) = cs2 at *
    generalize tlN (menuG (ns.getD 1 0)) = N1 at *
    generalize tlM (menuG (ns.getD 1 0)) = M1 at *
    generalize tlN (menuG (ns.getD 2 0)) = N2 at *
    generalize tlM (menuG (ns.getD 2 0)) = M2 at *
    generalize tlN (affG (anyP ns) (anyF ns)) = NA at *
    generalize tlM (affG (anyP ns) (anyF ns)) = MA at *
    generalize movD (menuG (ns.getD 1 0)) = mv1 at *
    generalize movD (menuG (ns.getD 2 0)) = mv2 at *
    refine ⟨_, ⟨_, ⟨_, _, rfl, ⟨_, _, rfl, rfl, rfl⟩, rfl⟩, (c1)⟩, ?_⟩
    refine ⟨_, ⟨_, _, ⟨_, ⟨_, _, _, rfl, (by first | rfl | assumption), rfl, (by first | assumption | exact nD_at ‹_› | exact atI_nat ‹_› | exact bD_at ‹_›)⟩, rfl⟩, rfl, (by first | omega | (simp at *; omega) | (simp; omega)), rfl⟩, ?_⟩
    refine ⟨_, ⟨_, ⟨_, _, ⟨_, ⟨_, _, ⟨_, ⟨_, _, ⟨_, ⟨_, _, _, rfl, (by first | rfl | assumption), rfl, (by first | assumption | exact nD_at ‹_› | exact atI_nat ‹_› | exact bD_at ‹_›)⟩, rfl⟩, rfl, rfl⟩, (d1)⟩, rfl, rfl⟩, (d2)⟩, rfl, rfl⟩, (d3)⟩, ?_⟩
    refine ⟨_, ⟨_, _, rfl, rfl, (by exact .int _ _)⟩, fun hb => ?_, fun hb => ?_⟩
    · have hk : ns.getD 0 0 % 4 = 1 := by simpa using hb
      have x1 := y1 hk
      have x2 := y3 (by omega)
      rw [x1] at x2
      subst x2
      refine ⟨_, ⟨_, ⟨_, _, ⟨_, ⟨_, _, _, rfl, ⟨_, rfl, rfl⟩, ⟨_, rfl, rfl⟩, rfl⟩, rfl⟩, rfl, rfl⟩, (f1)⟩, ?_⟩
      refine ⟨_, ⟨_, _, rfl, rfl, rfl⟩, fun hb => ?_, fun hb => ?_⟩
      · have : 2 ≤ ns.getD 0 0 % 4 := of_decide_eq_true hb
        omega
      · refine ⟨_, ⟨_, _, ⟨_, _, ⟨_, ⟨_, _, _, rfl, (by first | rfl | assumption), rfl, (by first | assumption | exact nD_at ‹_› | exact atI_nat ‹_› | exact bD_at ‹_›)⟩, rfl⟩, rfl, (by first | omega | (simp at *; omega) | (simp; omega)), rfl⟩, rfl, (by exact .int _ _)⟩, fun hb => ?_, fun hb => ?_⟩
        · have hb9 : ns.getD 3 0 % 3 = 0 := by simpa using hb
          refine ⟨_, rfl, ?_⟩
          rw [y6 hb9]
        · have hb9 : ¬ ns.getD 3 0 % 3 = 0 := by simpa using hb
          refine ⟨_, ⟨_, ⟨_, _, rfl, ⟨_, _, ⟨_, ⟨_, _, _, rfl, ⟨_, rfl, rfl⟩, rfl, rfl⟩, rfl⟩, rfl, rfl⟩, rfl⟩, (c9)⟩, ?_⟩
          rw [y7 hb9]
    · have hk : ¬ ns.getD 0 0 % 4 = 1 := by simpa using hb
      have x1 := y2 hk
      subst x1
      refine ⟨_, ⟨_, _, rfl, rfl, rfl⟩, fun hb => ?_, fun hb => ?_⟩
      · have hk2 : 2 ≤ ns.getD 0 0 % 4 := of_decide_eq_true hb
        refine ⟨_, ⟨_, ⟨_, _, ⟨_, ⟨_, _, ⟨_, ⟨_, _, ⟨_, ⟨_, _, _, rfl, (by first | rfl | assumption), rfl, (by first | assumption | exact nD_at ‹_› | exact atI_nat ‹_› | exact bD_at ‹_›)⟩, rfl⟩, rfl, rfl⟩, (e1)⟩, rfl, rfl⟩, (e2)⟩, rfl, rfl⟩, (e3)⟩, ?_⟩
        refine ⟨_, ⟨_, _, ⟨_, _, ⟨_, _, rfl, (by first | rfl | assumption), rfl⟩, ⟨_, _, rfl, (by first | rfl | assumption), rfl⟩, (by rw [tabL_len, tabL_len]; exact Or.inl ⟨by omega, by omega⟩), rfl⟩, rfl, rfl⟩, fun hb => ?_, fun hb => ?_⟩
        · have h24 : N1 * N2 ≤ 24 := by
            have h := of_decide_eq_true hb
            rw [tabL_len, tabL_len, ← Int.natCast_mul] at h
            omega
          have x2 := y5 hk2 h24
          have f2 : R_law_product [tabD N1 M1, tabD N2 M2] (tabD (N1 * N2) (pm N2 M1 M2)) := ⟨_, _, _, _, rfl, p1, p2, by omega, rfl⟩
          subst x2
          refine ⟨_, ⟨_, ⟨_, _, rfl, ⟨_, _, rfl, rfl, rfl⟩, rfl⟩, (f2)⟩, ?_⟩
          refine ⟨_, ⟨_, _, ⟨_, _, ⟨_, ⟨_, _, _, rfl, (by first | rfl | assumption), rfl, (by first | assumption | exact nD_at ‹_› | exact atI_nat ‹_› | exact bD_at ‹_›)⟩, rfl⟩, rfl, (by first | omega | (simp at *; omega) | (simp; omega)), rfl⟩, rfl, (by exact .int _ _)⟩, fun hb => ?_, fun hb => ?_⟩
          · have hb9 : ns.getD 3 0 % 3 = 0 := by simpa using hb
            refine ⟨_, rfl, ?_⟩
            rw [y6 hb9]
          · have hb9 : ¬ ns.getD 3 0 % 3 = 0 := by simpa using hb
            refine ⟨_, ⟨_, ⟨_, _, rfl, ⟨_, _, ⟨_, ⟨_, _, _, rfl, ⟨_, rfl, rfl⟩, rfl, rfl⟩, rfl⟩, rfl, rfl⟩, rfl⟩, (c9)⟩, ?_⟩
            rw [y7 hb9]
        · have h24 : ¬ N1 * N2 ≤ 24 := by
            have h := of_decide_eq_false hb
            rw [tabL_len, tabL_len, ← Int.natCast_mul] at h
            omega
          have x2 := y4 hk2 h24
          subst x2
          refine ⟨_, ⟨_, _, ⟨_, _, ⟨_, ⟨_, _, _, rfl, (by first | rfl | assumption), rfl, (by first | assumption | exact nD_at ‹_› | exact atI_nat ‹_› | exact bD_at ‹_›)⟩, rfl⟩, rfl, (by first | omega | (simp at *; omega) | (simp; omega)), rfl⟩, rfl, (by exact .int _ _)⟩, fun hb => ?_, fun hb => ?_⟩
          · have hb9 : ns.getD 3 0 % 3 = 0 := by simpa using hb
            refine ⟨_, rfl, ?_⟩
            rw [y6 hb9]
          · have hb9 : ¬ ns.getD 3 0 % 3 = 0 := by simpa using hb
            refine ⟨_, ⟨_, ⟨_, _, rfl, ⟨_, _, ⟨_, ⟨_, _, _, rfl, ⟨_, rfl, rfl⟩, rfl, rfl⟩, rfl⟩, rfl, rfl⟩, rfl⟩, (c9)⟩, ?_⟩
            rw [y7 hb9]
      · have hk2 : ¬ 2 ≤ ns.getD 0 0 % 4 := of_decide_eq_false hb
        have x2 := y3 hk2
        subst x2
        refine ⟨_, ⟨_, _, ⟨_, _, ⟨_, ⟨_, _, _, rfl, (by first | rfl | assumption), rfl, (by first | assumption | exact nD_at ‹_› | exact atI_nat ‹_› | exact bD_at ‹_›)⟩, rfl⟩, rfl, (by first | omega | (simp at *; omega) | (simp; omega)), rfl⟩, rfl, (by exact .int _ _)⟩, fun hb => ?_, fun hb => ?_⟩
        · have hb9 : ns.getD 3 0 % 3 = 0 := by simpa using hb
          refine ⟨_, rfl, ?_⟩
          rw [y6 hb9]
        · have hb9 : ¬ ns.getD 3 0 % 3 = 0 := by simpa using hb
          refine ⟨_, ⟨_, ⟨_, _, rfl, ⟨_, _, ⟨_, ⟨_, _, _, rfl, ⟨_, rfl, rfl⟩, rfl, rfl⟩, rfl⟩, rfl, rfl⟩, rfl⟩, (c9)⟩, ?_⟩
          rw [y7 hb9]
structure Ser (n : Nat) (m : Op) (rl rd ru : List (List Nat)) : Prop where
  low : IsRow (lF n m) (List.range n) rl
  der : IsRow (dF n m) (List.range n) rd
  up : IsRow (cenL n m) [0] ru
  ll : rl.length ≤ 9
  dl : rd.length ≤ 9
  ul : ru.length ≤ 9
section
variable {n : Nat} {m : Op} {rl rd ru : List (List Nat)}
theorem low_sz (h : IsRow (lF n m) (List.range n) rl) : ∀ c ∈ rl, (∀ x ∈ c, x < n) ∧ c.length ≤ n := fun a ha => IsRow.lt (p := fun a => Rch m (comL n m (List.range n) a)) h rng_lt (by simp) ha
theorem der_sz (h : IsRow (dF n m) (List.range n) rd) : ∀ c ∈ rd, (∀ x ∈ c, x < n) ∧ c.length ≤ n := fun a ha => IsRow.lt (p := fun a => Rch m (comL n m a a)) h rng_lt (by simp) ha
theorem up_sz (hn : 0 < n) (h : IsRow (cenL n m) [0] ru) : ∀ c ∈ ru, (∀ x ∈ c, x < n) ∧ c.length ≤ n := fun a ha => IsRow.lt (p := fun S a => ∀ b, b < n → cm n m a b ∈ S) h (fun x hx => by
  rw [List.mem_singleton] at hx
  omega) (by simp; omega) ha
end
theorem same_low {n : Nat} {rl : List (List Nat)} (hn : n ≤ 60) (hl : rl.length ≤ 1000) (h : ∀ c ∈ rl, (∀ x ∈ c, x < n) ∧ c.length ≤ n) : R_law_same [.lst (rowD rl), .lst (rowD rl)] (.bl true) := ⟨_, _, rfl, same_row 0 rl hl fun c hc => by have := (h c hc).2; omega, rfl⟩
def R_law_single_told : List Dt → Dt → Prop := fun ds r => ∃ n m rl rd ru, ds = [tabD n m] ∧ Tb n m ∧ n ≤ 60 ∧ Ser n m rl rd ru ∧ r = .bl true
theorem sc_law_single_told : FnScope ["_law_table_here", "_law_group_here"] ["_law_table_here"] (defScope s_law_single_told) := ⟨rfl, rfl, rfl, by decide +kernel, rfl, by decide +kernel, by decide +kernel⟩
theorem w_law_single_told {P : Program} {w : World} {K : PySem.W.Frag} {mg : Str → Option Value} {base : Heap} {C : Addr} (T : Tx K mg C) (D : FnS K mg "_law_single_told" s_law_single_told) (F__law_same : Fn P w K mg base C "_law_same" 3 [false, false] R_law_same) (F__law_series : Fn P w K mg base C "_law_series" 2 [false, false] R_law_series) (F_lower_row : Fn P w K mg base C "lower_row" 4 [false] R_lower_row) (F__law_upper : Fn P w K mg base C "_law_upper" 2 [false] R_law_upper) (F_upper_row : Fn P w K mg base C "upper_row" 4 [false] R_upper_row) (F_derived_row : Fn P w K mg base C "derived_row" 4 [false] R_derived_row) (GM : Made P w K mg base C 5 R_init_m) : Fn P w K mg base C "_law_single_told" 7 [false] R_law_single_told := by
  obtain ⟨f, fd, F, hm⟩ := D
  have S := sc_law_single_told
  obtain ⟨tM, hM⟩ := T.most
  refine Fn.of F (fn_ok (k := 6) (fl := [false]) (R := R_law_single_told) F S rfl (by decide) (fun ds r h => rawFree _ _ (by decide)) (fun cdv A outer s H E hr => have hu := hu_of hr; dss_cons (ds_set 1 S.nd (de_group GM (hr.mono (by decide)) (dv 0)))
      (dss_cons (ds_if (db_not (db_val (de_call F__law_same (hr.mono (by decide)) (da_sh (de_call F_lower_row (hr.mono (by decide)) (da_sh (dv 1) da_nil)) (da_sh (de_call F__law_series (hr.mono (by decide)) (da_sh (dv 0) (da_sh de_bl da_nil))) da_nil))))) (dss_one (ds_ret de_bl)) dss_nil)
      (dss_one (ds_ret (de_and (de_call F__law_same (hr.mono (by decide)) (da_sh (de_call F_derived_row (hr.mono (by decide)) (da_sh (dv 1) da_nil)) (da_sh (de_call F__law_series (hr.mono (by decide)) (da_sh (dv 0) (da_sh de_bl da_nil))) da_nil))) (de_one (de_call F__law_same (hr.mono (by decide)) (da_sh (de_call F_upper_row (hr.mono (by decide)) (da_sh (dv 1) da_nil)) (da_sh (de_call F__law_upper (hr.mono (by decide)) (da_sh (dv 0) da_nil)) da_nil))))))))) ?hp) (F.bindsN fun _ _ _ _ _ _ us hl => match us, hl with | [_], _ => rfl) hm
  case hp =>
    rintro ds r ⟨n, m, rl, rd, ru, rfl, tb, hn, S, rfl⟩ -
    have g1 : R_init_m [tabD n m] (grpD n m) := ⟨n, m, rfl, hn, tb, rfl⟩
    have l1 : R_lower_row [grpD n m] (.lst (rowD rl)) := ⟨n, m, rl, rfl, tb, hn, S.low, by have := S.ll; omega, rfl⟩
    have l2 : R_derived_row [grpD n m] (.lst (rowD rd)) := ⟨n, m, rd, rfl, tb, hn, S.der, by have := S.dl; omega, rfl⟩
    have l3 : R_upper_row [grpD n m] (.lst (rowD ru)) := ⟨n, m, ru, rfl, tb, hn, S.up, by have := S.ul; omega, rfl⟩
    have s1 : R_law_series [tabD n m, .bl false] (.lst (rowD rl)) := ⟨n, m, false, rl, rfl, tb, by omega, S.low, S.ll, rfl⟩
    have s2 : R_law_series [tabD n m, .bl true] (.lst (rowD rd)) := ⟨n, m, true, rd, rfl, tb, by omega, S.der, S.dl, rfl⟩
    have s3 : R_law_upper [tabD n m] (.lst (rowD ru)) := ⟨n, m, ru, rfl, tb, by omega, S.up, S.ul, rfl⟩
    have e1 := same_low hn (by have := S.ll; omega) (low_sz S.low)
    have e2 := same_low hn (by have := S.dl; omega) (der_sz S.der)
    have e3 := same_low hn (by have := S.ul; omega) (up_sz tb.pos S.up)
    refine ⟨_, ⟨_, _, _, _, rfl, (g1), rfl⟩, ?_⟩
    refine ⟨_, ⟨_, ⟨_, ⟨_, _, ⟨_, ⟨_, _, rfl, rfl, rfl⟩, (l1)⟩, ⟨_, _, ⟨_, ⟨_, _, rfl, ⟨_, _, rfl, rfl, rfl⟩, rfl⟩, (s1)⟩, rfl, rfl⟩, rfl⟩, (e1)⟩, rfl⟩, fun hb => ?_, fun hb => ?_⟩
    · cases hb
    refine ⟨_, (fAndV_i ⟨_, ⟨_, _, ⟨_, ⟨_, _, rfl, rfl, rfl⟩, (l2)⟩, ⟨_, _, ⟨_, ⟨_, _, rfl, ⟨_, _, rfl, rfl, rfl⟩, rfl⟩, (s2)⟩, rfl, rfl⟩, rfl⟩, (e2)⟩ (fun hc => ⟨_, ⟨_, _, ⟨_, ⟨_, _, rfl, rfl, rfl⟩, (l3)⟩, ⟨_, _, ⟨_, ⟨_, _, rfl, rfl, rfl⟩, (s3)⟩, rfl, rfl⟩, rfl⟩, (e3)⟩)), ?_⟩
    rfl
end CM
set_option Elab.async false
set_option linter.all false
set_option maxRecDepth 100000
set_option maxHeartbeats 1000000
/-! Walks: what is told of products, quotients, subgroups. -/
namespace CM
open PySem PySem.Spec PyProof.Rows L2
theorem same_tN' {a b : List Nat} (h : a = b) (hl : a.length ≤ 1000) : R_law_same [tN a, tN b] (.bl true) := by
  subst h
  exact ⟨_, _, rfl, same_tN 1 a hl, rfl⟩
theorem env_eq {d : DT} {E : Ed} {env : En} (env' : En) (h : env = env') (k : d E env') : d E env := h ▸ k
/-- the rows of the product, formed of those of the two -/
structure PSer (n1 : Nat) (m1 : Op) (n2 : Nat) (m2 : Op) (L D U : List (List Nat)) : Prop where
  low : IsRow (lF (n1 * n2) (pm n2 m1 m2)) (List.range (n1 * n2)) L
  der : IsRow (dF (n1 * n2) (pm n2 m1 m2)) (List.range (n1 * n2)) D
  up : IsRow (cenL (n1 * n2) (pm n2 m1 m2)) [0] U
  com : ∀ i j, j ≤ i → ∀ x ∈ comL (n1 * n2) (pm n2 m1 m2) (endF U i) (endF L (max j 1 - 1)), x ∈ endF U (i - j)
def R_law_product_told : List Dt → Dt → Prop := fun ds r => ∃ n1 m1 n2 m2 rl1 rd1 ru1 rl2 rd2 ru2, ∃ ns : List Int, ds = [tabD n1 m1, tabD n2 m2, lI ns] ∧ 3 ≤ ns.length ∧ Tb n1 m1 ∧ Tb n2 m2 ∧ n1 * n2 ≤ 60 ∧ Tb (n1 * n2) (pm n2 m1 m2) ∧ Ser n1 m1 rl1 rd1 ru1 ∧ Ser n2 m2 rl2 rd2 ru2 ∧
  PSer n1 m1 n2 m2 (pairsF rl1 rl2 n2) (pairsF rd1 rd2 n2) (pairsF ru1 ru2 n2) ∧ r = .bl true
theorem pairsF_len {r1 r2 : List (List Nat)} {n2 : Nat} : (pairsF r1 r2 n2).length = max r1.length r2.length := by simp [pairsF]
theorem sc_law_product_told : FnScope ["_law_first", "_law_second", "_law_numbers_here", "_law_one", "_law_two", "_law_both", "_law_lows", "_law_derived", "_law_uppers", "_law_class_number", "_law_k", "_law_i", "_law_j", "_law_found"] ["_law_first", "_law_second", "_law_numbers_here"] (defScope s_law_product_told) := ⟨rfl, rfl, rfl, by decide +kernel, rfl, by decide +kernel, by decide +kernel⟩
theorem w_law_product_told {P : Program} {w : World} {K : PySem.W.Frag} {mg : Str → Option Value} {base : Heap} {C : Addr} (T : Tx K mg C) (D : FnS K mg "_law_product_told" s_law_product_told) (F_product_group : Fn P w K mg base C "product_group" 7 [false, false] R_product_group) (F__law_pairs : Fn P w K mg base C "_law_pairs" 2 [false, false, false] R_law_pairs) (F__law_series : Fn P w K mg base C "_law_series" 2 [false, false] R_law_series) (F__law_upper : Fn P w K mg base C "_law_upper" 2 [false] R_law_upper) (F__law_same : Fn P w K mg base C "_law_same" 3 [false, false] R_law_same) (F_derived_row : Fn P w K mg base C "derived_row" 4 [false] R_derived_row) (F_lower_row : Fn P w K mg base C "lower_row" 4 [false] R_lower_row) (F__law_end : Fn P w K mg base C "_law_end" 1 [false, false] R_law_end) (F_centre : Fn P w K mg base C "centre" 4 [false] R_centre) (F_upper_row : Fn P w K mg base C "upper_row" 4 [false] R_upper_row) (F_perfect_subgroup : Fn P w K mg base C "perfect_subgroup" 5 [false] R_perfect_subgroup) (F_class_of : Fn P w K mg base C "class_of" 5 [false] R_class_of) (F_lower : Fn P w K mg base C "lower" 5 [false, false] R_lower) (F__law_commutators : Fn P w K mg base C "_law_commutators" 1 [false, false, false] R_law_commutators) (F__law_product : Fn P w K mg base C "_law_product" 1 [false, false] R_law_product) (F__law_lies_in : Fn P w K mg base C "_law_lies_in" 1 [false, false] R_law_lies_in) (GM : Made P w K mg base C 5 R_init_m) : Fn P w K mg base C "_law_product_told" 8 [false, false, false] R_law_product_told := by
  obtain ⟨f, fd, F, hm⟩ := D
  have S := sc_law_product_told
  obtain ⟨tM, hM⟩ := T.most
  refine Fn.of F (fn_ok (k := 7) (fl := [false, false, false]) (R := R_law_product_told) F S rfl (by decide) (fun ds r h => rawFree _ _ (by decide)) (fun cdv A outer s H E hr => have hu := hu_of hr; dss_cons (ds_set 3 S.nd (de_group GM (hr.mono (by decide)) (dv 0)))
      (dss_cons (ds_set 4 S.nd (de_group GM (hr.mono (by decide)) (dv 1)))
      (dss_cons (ds_set 5 S.nd (de_call F_product_group (hr.mono (by decide)) (da_sh (dv 3) (da_sh (dv 4) da_nil))))
      (dss_cons (ds_set 6 S.nd (de_call F__law_pairs (hr.mono (by decide)) (da_sh (de_call F__law_series (hr.mono (by decide)) (da_sh (dv 0) (da_sh de_bl da_nil))) (da_sh (de_call F__law_series (hr.mono (by decide)) (da_sh (dv 1) (da_sh de_bl da_nil))) (da_sh (de_len T.len ((dv 1).r)) da_nil)))))
      (dss_cons (ds_set 7 S.nd (de_call F__law_pairs (hr.mono (by decide)) (da_sh (de_call F__law_series (hr.mono (by decide)) (da_sh (dv 0) (da_sh de_bl da_nil))) (da_sh (de_call F__law_series (hr.mono (by decide)) (da_sh (dv 1) (da_sh de_bl da_nil))) (da_sh (de_len T.len ((dv 1).r)) da_nil)))))
      (dss_cons (ds_set 8 S.nd (de_call F__law_pairs (hr.mono (by decide)) (da_sh (de_call F__law_upper (hr.mono (by decide)) (da_sh (dv 0) da_nil)) (da_sh (de_call F__law_upper (hr.mono (by decide)) (da_sh (dv 1) da_nil)) (da_sh (de_len T.len ((dv 1).r)) da_nil)))))
      (dss_cons (ds_if ((dw_or (db_not (db_val (de_call F__law_same (hr.mono (by decide)) (da_sh (de_call F_lower_row (hr.mono (by decide)) (da_sh (dv 5) da_nil)) (da_sh (dv 6) da_nil))))) (dw_or1 (db_not (db_val (de_call F__law_same (hr.mono (by decide)) (da_sh (de_call F_derived_row (hr.mono (by decide)) (da_sh (dv 5) da_nil)) (da_sh (dv 7) da_nil))))))).test) (dss_one (ds_ret de_bl)) dss_nil)
      (dss_cons (ds_if ((dw_or (db_not (db_val (de_call F__law_same (hr.mono (by decide)) (da_sh (de_call F_upper_row (hr.mono (by decide)) (da_sh (dv 5) da_nil)) (da_sh (dv 8) da_nil))))) (dw_or1 (db_not (db_val (de_call F__law_same (hr.mono (by decide)) (da_sh (de_call F_centre (hr.mono (by decide)) (da_sh (dv 5) da_nil)) (da_sh (de_call F__law_end (hr.mono (by decide)) (da_sh (dv 8) (da_sh de_int da_nil))) da_nil))))))).test) (dss_one (ds_ret de_bl)) dss_nil)
      (dss_cons (ds_if (db_not (db_val (de_call F__law_same (hr.mono (by decide)) (da_sh (de_call F_perfect_subgroup (hr.mono (by decide)) (da_sh (dv 5) da_nil)) (da_sh (de_ix ((dv 7).r) (de_neg de_int)) da_nil))))) (dss_one (ds_ret de_bl)) dss_nil)
      (dss_cons (ds_set 9 S.nd de_non)
      (dss_cons (ds_if (db_eqD hr.units ((de_ix ((dv 6).r) (de_neg de_int)).r) ((de_tup (da_sh de_int da_nil)).r)) (dss_one (ds_set 9 S.nd (de_sub (de_len T.len ((dv 6).r)) de_int))) dss_nil)
      (dss_cons (ds_if (db_not (db_val (de_call F__law_same (hr.mono (by decide)) (da_sh (de_call F_class_of (hr.mono (by decide)) (da_sh (dv 5) da_nil)) (da_sh (dv 9) da_nil))))) (dss_one (ds_ret de_bl)) dss_nil)
      (dss_cons (ds_set 10 S.nd (de_mod (de_toInt T.int (de_ix ((dv 2).r) de_int)) de_int))
      (dss_cons (ds_if (db_not (db_val (de_call F__law_same (hr.mono (by decide)) (da_sh (de_call F_lower (hr.mono (by decide)) (da_sh (dv 5) (da_sh (dv 10) da_nil))) (da_sh (de_call F__law_end (hr.mono (by decide)) (da_sh (dv 6) (da_sh (de_sub (de_max rfl T.max (dv 10) de_int) de_int) da_nil))) da_nil))))) (dss_one (ds_ret de_bl)) dss_nil)
      (dss_cons (ds_set 11 S.nd (de_mod (de_toInt T.int (de_ix ((dv 2).r) de_int)) de_int))
      (dss_cons (ds_set 12 S.nd (de_mod (de_toInt T.int (de_ix ((dv 2).r) de_int)) (de_add (dv 11) de_int)))
      (dss_cons (ds_set 13 S.nd (de_call F__law_commutators (hr.mono (by decide)) (da_sh (de_call F__law_product (hr.mono (by decide)) (da_sh (dv 0) (da_sh (dv 1) da_nil))) (da_sh (de_call F__law_end (hr.mono (by decide)) (da_sh (dv 8) (da_sh (dv 11) da_nil))) (da_sh (de_call F__law_end (hr.mono (by decide)) (da_sh (dv 6) (da_sh (de_sub (de_max rfl T.max (dv 12) de_int) de_int) da_nil))) da_nil)))))
      (dss_one (ds_ret (de_call F__law_lies_in (hr.mono (by decide)) (da_sh (dv 13) (da_sh (de_call F__law_end (hr.mono (by decide)) (da_sh (dv 8) (da_sh (de_sub (dv 11) (dv 12)) da_nil))) da_nil)))))))))))))))))))))) ?hp) (F.bindsN fun _ _ _ _ _ _ us hl => match us, hl with | [_, _, _], _ => rfl) hm
  case hp =>
    rintro ds r ⟨n1, m1, n2, m2, rl1, rd1, ru1, rl2, rd2, ru2, ns, rfl, hns, t1, t2, hn, t12, S1, S2, PS, rfl⟩ -
    have p1 := t1.pos
    have p2 := t2.pos
    have hle1 : n1 ≤ 60 := Nat.le_trans (Nat.le_mul_of_pos_right n1 p2) hn
    have hle2 : n2 ≤ 60 := Nat.le_trans (Nat.le_mul_of_pos_left n2 p1) hn
    have g1 : R_init_m [tabD n1 m1] (grpD n1 m1) := ⟨n1, m1, rfl, hle1, t1, rfl⟩
    have g2 : R_init_m [tabD n2 m2] (grpD n2 m2) := ⟨n2, m2, rfl, hle2, t2, rfl⟩
    have g12 : R_product_group [grpD n1 m1, grpD n2 m2] (grpD (n1 * n2) (pm n2 m1 m2)) := ⟨n1, m1, n2, m2, rfl, t1, t2, hn, t12, rfl⟩
    have sl1 : R_law_series [tabD n1 m1, .bl false] (.lst (rowD rl1)) := ⟨n1, m1, false, rl1, rfl, t1, by omega, S1.low, S1.ll, rfl⟩
    have sl2 : R_law_series [tabD n2 m2, .bl false] (.lst (rowD rl2)) := ⟨n2, m2, false, rl2, rfl, t2, by omega, S2.low, S2.ll, rfl⟩
    have sd1 : R_law_series [tabD n1 m1, .bl true] (.lst (rowD rd1)) := ⟨n1, m1, true, rd1, rfl, t1, by omega, S1.der, S1.dl, rfl⟩
    have sd2 : R_law_series [tabD n2 m2, .bl true] (.lst (rowD rd2)) := ⟨n2, m2, true, rd2, rfl, t2, by omega, S2.der, S2.dl, rfl⟩
    have su1 : R_law_upper [tabD n1 m1] (.lst (rowD ru1)) := ⟨n1, m1, ru1, rfl, t1, by omega, S1.up, S1.ul, rfl⟩
    have su2 : R_law_upper [tabD n2 m2] (.lst (rowD ru2)) := ⟨n2, m2, ru2, rfl, t2, by omega, S2.up, S2.ul, rfl⟩
    have b1 := low_sz S1.low
    have b2 := low_sz S2.low
    have b3 := der_sz S1.der
    have b4 := der_sz S2.der
    have b5 := up_sz p1 S1.up
    have b6 := up_sz p2 S2.up
    have z1 := S1.low.pos
    have z2 := S2.low.pos
    have z3 := S1.der.pos
    have z4 := S2.der.pos
    have z5 := S1.up.pos
    have z6 := S2.up.pos
    have l1 := S1.ll
    have l2 := S2.ll
    have l3 := S1.dl
    have l4 := S2.dl
    have l5 := S1.ul
    have l6 := S2.ul
    have pl : R_law_pairs [.lst (rowD rl1), .lst (rowD rl2), .int (n2 : Int)] (.lst (rowD (pairsF rl1 rl2 n2))) := ⟨rl1, rl2, n2, rfl, by omega, z1, z2, by omega, by omega, fun c hc => by have := (b1 c hc).2; omega, fun c hc => by have := (b2 c hc).2; omega, rfl⟩
    have pd : R_law_pairs [.lst (rowD rd1), .lst (rowD rd2), .int (n2 : Int)] (.lst (rowD (pairsF rd1 rd2 n2))) := ⟨rd1, rd2, n2, rfl, by omega, z3, z4, by omega, by omega, fun c hc => by have := (b3 c hc).2; omega, fun c hc => by have := (b4 c hc).2; omega, rfl⟩
    have pu : R_law_pairs [.lst (rowD ru1), .lst (rowD ru2), .int (n2 : Int)] (.lst (rowD (pairsF ru1 ru2 n2))) := ⟨ru1, ru2, n2, rfl, by omega, z5, z6, by omega, by omega, fun c hc => by have := (b5 c hc).2; omega, fun c hc => by have := (b6 c hc).2; omega, rfl⟩
    have hLl : (pairsF rl1 rl2 n2).length ≤ 1000 := by rw [pairsF_len]; omega
    have hDl : (pairsF rd1 rd2 n2).length ≤ 1000 := by rw [pairsF_len]; omega
    have hUl : (pairsF ru1 ru2 n2).length ≤ 1000 := by rw [pairsF_len]; omega
    generalize pairsF rl1 rl2 n2 = L at pl PS hLl
    generalize pairsF rd1 rd2 n2 = D at pd PS hDl
    generalize pairsF ru1 ru2 n2 = U at pu PS hUl
    have pl' : R_law_pairs [.lst (rowD rl1), .lst (rowD rl2), .int ((tabL n2 m2).length : Int)] (.lst (rowD L)) := by rw [tabL_len]; exact pl
    have pd' : R_law_pairs [.lst (rowD rd1), .lst (rowD rd2), .int ((tabL n2 m2).length : Int)] (.lst (rowD D)) := by rw [tabL_len]; exact pd
    have pu' : R_law_pairs [.lst (rowD ru1), .lst (rowD ru2), .int ((tabL n2 m2).length : Int)] (.lst (rowD U)) := by rw [tabL_len]; exact pu
    have hnp : 0 < n1 * n2 := t12.pos
    have q1 := low_sz PS.low
    have q2 := der_sz PS.der
    have q3 := up_sz hnp PS.up
    have lr : R_lower_row [grpD (n1 * n2) (pm n2 m1 m2)] (.lst (rowD L)) := ⟨_, _, L, rfl, t12, hn, PS.low, hLl, rfl⟩
    have dr : R_derived_row [grpD (n1 * n2) (pm n2 m1 m2)] (.lst (rowD D)) := ⟨_, _, D, rfl, t12, hn, PS.der, hDl, rfl⟩
    have ur : R_upper_row [grpD (n1 * n2) (pm n2 m1 m2)] (.lst (rowD U)) := ⟨_, _, U, rfl, t12, hn, PS.up, hUl, rfl⟩
    have e1 := same_low hn hLl q1
    have e2 := same_low hn hDl q2
    have e3 := same_low hn hUl q3
    have cen : R_centre [grpD (n1 * n2) (pm n2 m1 m2)] (tN (cenL (n1 * n2) (pm n2 m1 m2) [0])) := ⟨_, _, rfl, t12, hn, rfl⟩
    have y1 := PS.low.pos
    have y2 := PS.der.pos
    have y3 := PS.up.pos
    have eU : R_law_end [.lst (rowD U), .int 1] (tN (endF U 1)) := ⟨U, 1, rfl, y3, rfl⟩
    have hc1 : cenL (n1 * n2) (pm n2 m1 m2) [0] = endF U 1 := by
      have hat := endF_at y3 1
      by_cases q : U.length = 1
      · rw [show min 1 (U.length - 1) = 0 by omega, PS.up.z] at hat
        have hst := PS.up.st [0] (by rw [show U.length - 1 = 0 by omega]; exact PS.up.z)
        rw [hst]
        exact Option.some.inj hat
      · rw [show min 1 (U.length - 1) = 1 by omega] at hat
        exact (PS.up.nx 0 [0] _ PS.up.z hat).1
    have e4 := same_tN' hc1 (Nat.le_trans (mem_len_le _ _) (by omega))
    have hD := List.getElem?_eq_getElem (show D.length - 1 < D.length by omega)
    have hLz := List.getElem?_eq_getElem (show L.length - 1 < L.length by omega)
    generalize D[D.length - 1] = dl at hD
    generalize L[L.length - 1] = ll at hLz
    have per : R_perfect_subgroup [grpD (n1 * n2) (pm n2 m1 m2)] (tN dl) := ⟨_, _, D, dl, rfl, t12, hn, PS.der, hDl, hD, rfl⟩
    have aD := row_last hD
    rw [row_full (by omega)] at aD
    have aL := row_last hLz
    rw [row_full (by omega)] at aL
    have e5 := same_tN' (rfl : dl = dl) (by have := (q2 dl (List.mem_of_getElem? hD)).2; omega)
    have cls : R_class_of [grpD (n1 * n2) (pm n2 m1 m2)] (if ll = [0] then .int ((L.length : Int) - 1) else .non) := ⟨_, _, L, ll, rfl, t12, hn, PS.low, hLl, hLz, rfl⟩
    have hq0 : EqD (tN ll) (.tup [.int 0]) (decide (ll = [0])) := eqD_tN ll [0]
    have a0 : atI (ns.map Dt.int) 0 = some (.int (ns.getD 0 0)) := int_at (k := 0) (by omega)
    have a1 : atI (ns.map Dt.int) 1 = some (.int (ns.getD 1 0)) := int_at (k := 1) (by omega)
    have a2 : atI (ns.map Dt.int) 2 = some (.int (ns.getD 2 0)) := int_at (k := 2) (by omega)
    have k1 := Int.emod_nonneg (ns.getD 0 0) (show (10 : Int) ≠ 0 by decide)
    have k2 := Int.emod_lt_of_pos (ns.getD 0 0) (show (0 : Int) < 10 by decide)
    have ek : ns.getD 0 0 % 10 = (((ns.getD 0 0 % 10).toNat : Nat) : Int) := by omega
    have i1 := Int.emod_nonneg (ns.getD 1 0) (show (5 : Int) ≠ 0 by decide)
    have ei : ns.getD 1 0 % 5 = (((ns.getD 1 0 % 5).toNat : Nat) : Int) := by omega
    generalize (ns.getD 0 0 % 10).toNat = k at ek
    generalize (ns.getD 1 0 % 5).toNat = i at ei
    have j1 := Int.emod_nonneg (ns.getD 2 0) (show (i : Int) + 1 ≠ 0 by omega)
    have j2 := Int.emod_lt_of_pos (ns.getD 2 0) (show (0 : Int) < (i : Int) + 1 by omega)
    have ej : ns.getD 2 0 % ((i : Int) + 1) = (((ns.getD 2 0 % ((i : Int) + 1)).toNat : Nat) : Int) := by omega
    have hji : (ns.getD 2 0 % ((i : Int) + 1)).toNat ≤ i := by omega
    generalize (ns.getD 2 0 % ((i : Int) + 1)).toNat = j at ej hji
    have mx : ∀ k : Nat, (if (1 : Int) > (k : Int) then (1 : Int) else (k : Int)) - 1 = ((max k 1 - 1 : Nat) : Int) := fun k => by
      split <;> omega
    have lok : R_lower [grpD (n1 * n2) (pm n2 m1 m2), .int (k : Int)] (tN (endF L (max k 1 - 1))) := by
      refine ⟨_, _, L, k, endF L (max k 1 - 1), rfl, t12, hn, PS.low, hLl, ?_, rfl⟩
      have := endF_at y1 (max k 1 - 1)
      rw [show min (max k 1) L.length - 1 = min (max k 1 - 1) (L.length - 1) by omega]
      exact this
    have eL : ∀ k : Nat, R_law_end [.lst (rowD L), .int ((if (1 : Int) > (k : Int) then (1 : Int) else (k : Int)) - 1)] (tN (endF L (max k 1 - 1))) := fun k => ⟨L, max k 1 - 1, by rw [mx], y1, rfl⟩
    have e6 := same_tN' (rfl : endF L (max k 1 - 1) = endF L (max k 1 - 1)) (by have := (q1 _ (endF_mem y1 (max k 1 - 1))).2; omega)
    have prd : R_law_product [tabD n1 m1, tabD n2 m2] (tabD (n1 * n2) (pm n2 m1 m2)) := ⟨n1, m1, n2, m2, rfl, p1, p2, hn, rfl⟩
    have eUi : R_law_end [.lst (rowD U), .int (i : Int)] (tN (endF U i)) := ⟨U, i, rfl, y3, rfl⟩
    have eUj : R_law_end [.lst (rowD U), .int ((i : Int) - (j : Int))] (tN (endF U (i - j))) := ⟨U, i - j, by rw [show (i : Int) - (j : Int) = ((i - j : Nat) : Int) by omega], y3, rfl⟩
    have com : R_law_commutators [tabD (n1 * n2) (pm n2 m1 m2), tN (endF U i), tN (endF L (max j 1 - 1))] (lN (comL (n1 * n2) (pm n2 m1 m2) (endF U i) (endF L (max j 1 - 1)))) := ⟨_, _, _, _, _, _, rfl, t12, by omega, rfl, rfl, (q3 _ (endF_mem y3 i)).1, (q1 _ (endF_mem y1 _)).1, rfl⟩
    have lie : R_law_lies_in [lN (comL (n1 * n2) (pm n2 m1 m2) (endF U i) (endF L (max j 1 - 1))), tN (endF U (i - j))] (.bl true) := ⟨_, _, _, _, rfl, rfl, rfl, PS.com i j hji, rfl⟩
    refine ⟨_, ⟨_, _, _, _, rfl, (g1), rfl⟩, ?_⟩
    refine ⟨_, ⟨_, _, _, _, rfl, (g2), rfl⟩, ?_⟩
    refine ⟨_, ⟨_, ⟨_, _, rfl, ⟨_, _, rfl, rfl, rfl⟩, rfl⟩, (g12)⟩, ?_⟩
    refine ⟨_, ⟨_, ⟨_, _, ⟨_, ⟨_, _, rfl, ⟨_, _, rfl, rfl, rfl⟩, rfl⟩, (sl1)⟩, ⟨_, _, ⟨_, ⟨_, _, rfl, ⟨_, _, rfl, rfl, rfl⟩, rfl⟩, (sl2)⟩, ⟨_, _, ⟨_, _, rfl, (by first | rfl | assumption), rfl⟩, rfl, rfl⟩, rfl⟩, rfl⟩, (pl')⟩, ?_⟩
    refine ⟨_, ⟨_, ⟨_, _, ⟨_, ⟨_, _, rfl, ⟨_, _, rfl, rfl, rfl⟩, rfl⟩, (sd1)⟩, ⟨_, _, ⟨_, ⟨_, _, rfl, ⟨_, _, rfl, rfl, rfl⟩, rfl⟩, (sd2)⟩, ⟨_, _, ⟨_, _, rfl, (by first | rfl | assumption), rfl⟩, rfl, rfl⟩, rfl⟩, rfl⟩, (pd')⟩, ?_⟩
    refine ⟨_, ⟨_, ⟨_, _, ⟨_, ⟨_, _, rfl, rfl, rfl⟩, (su1)⟩, ⟨_, _, ⟨_, ⟨_, _, rfl, rfl, rfl⟩, (su2)⟩, ⟨_, _, ⟨_, _, rfl, (by first | rfl | assumption), rfl⟩, rfl, rfl⟩, rfl⟩, rfl⟩, (pu')⟩, ?_⟩
    refine env_eq [.sh (tabD n1 m1), .sh (tabD n2 m2), .sh (lI ns), .sh (grpD n1 m1), .sh (grpD n2 m2), .sh (grpD (n1 * n2) (pm n2 m1 m2)), .sh (.lst (rowD L)), .sh (.lst (rowD D)), .sh (.lst (rowD U)), .un, .un, .un, .un, .un] rfl ?_
    refine ⟨_, (fOr_i ⟨_, ⟨_, ⟨_, _, ⟨_, ⟨_, _, rfl, rfl, rfl⟩, (lr)⟩, ⟨_, _, rfl, rfl, rfl⟩, rfl⟩, (e1)⟩, rfl⟩ (fun hc => ⟨_, ⟨_, ⟨_, _, ⟨_, ⟨_, _, rfl, rfl, rfl⟩, (dr)⟩, ⟨_, _, rfl, rfl, rfl⟩, rfl⟩, (e2)⟩, rfl⟩)), fun hb => ?_, fun hb => ?_⟩
    · cases hb
    refine ⟨_, (fOr_i ⟨_, ⟨_, ⟨_, _, ⟨_, ⟨_, _, rfl, rfl, rfl⟩, (ur)⟩, ⟨_, _, rfl, rfl, rfl⟩, rfl⟩, (e3)⟩, rfl⟩ (fun hc => ⟨_, ⟨_, ⟨_, _, ⟨_, ⟨_, _, rfl, rfl, rfl⟩, (cen)⟩, ⟨_, _, ⟨_, ⟨_, _, rfl, ⟨_, _, rfl, rfl, rfl⟩, rfl⟩, (eU)⟩, rfl, rfl⟩, rfl⟩, (e4)⟩, rfl⟩)), fun hb => ?_, fun hb => ?_⟩
    · cases hb
    refine ⟨_, ⟨_, ⟨_, ⟨_, _, ⟨_, ⟨_, _, rfl, rfl, rfl⟩, (per)⟩, ⟨_, _, ⟨_, _, _, rfl, (by first | rfl | assumption), ⟨_, rfl, rfl⟩, (by first | assumption | exact nD_at ‹_› | exact atI_nat ‹_› | exact bD_at ‹_›)⟩, rfl, rfl⟩, rfl⟩, (e5)⟩, rfl⟩, fun hb => ?_, fun hb => ?_⟩
    · cases hb
    refine ⟨_, rfl, ?_⟩
    refine ⟨_, ⟨_, _, ⟨_, _, _, rfl, (by first | rfl | assumption), ⟨_, rfl, rfl⟩, (by first | assumption | exact nD_at ‹_› | exact atI_nat ‹_› | exact bD_at ‹_›)⟩, ⟨_, ⟨_, _, rfl, rfl, rfl⟩, (by first | (simp; done) | omega | (simp; omega)), rfl⟩, (by first | assumption | exact eqD_tN _ _ | exact eqD_lN _ _)⟩, fun hb => ?_, fun hb => ?_⟩
    · have hl0 : ll = [0] := by simpa using hb
      rw [if_pos hl0] at cls
      have e7 : R_law_same [.int ((L.length : Int) - 1), .int (((rowD L).length : Int) - 1)] (.bl true) := ⟨_, _, rfl, by rw [List.length_map]; exact same_int 2 _, rfl⟩
      refine ⟨_, ⟨_, _, ⟨_, _, rfl, (by first | rfl | assumption), rfl⟩, rfl, rfl⟩, ?_⟩
      refine ⟨_, ⟨_, ⟨_, ⟨_, _, ⟨_, ⟨_, _, rfl, rfl, rfl⟩, (cls)⟩, ⟨_, _, rfl, rfl, rfl⟩, rfl⟩, (e7)⟩, rfl⟩, fun hb => ?_, fun hb => ?_⟩
      · cases hb
      refine ⟨_, ⟨_, _, ⟨_, ⟨_, _, _, rfl, (by first | rfl | assumption), rfl, (by first | assumption | exact nD_at ‹_› | exact atI_nat ‹_› | exact bD_at ‹_›)⟩, rfl⟩, rfl, (by first | omega | (simp at *; omega) | (simp; omega)), rfl⟩, ?_⟩
      rw [ek]
      refine ⟨_, ⟨_, ⟨_, ⟨_, _, ⟨_, ⟨_, _, rfl, ⟨_, _, rfl, rfl, rfl⟩, rfl⟩, (lok)⟩, ⟨_, _, ⟨_, ⟨_, _, rfl, ⟨_, _, ⟨_, _, ⟨_, _, rfl, rfl, rfl⟩, rfl, rfl⟩, rfl, rfl⟩, rfl⟩, (eL k)⟩, rfl, rfl⟩, rfl⟩, (e6)⟩, rfl⟩, fun hb => ?_, fun hb => ?_⟩
      · cases hb
      refine ⟨_, ⟨_, _, ⟨_, ⟨_, _, _, rfl, (by first | rfl | assumption), rfl, (by first | assumption | exact nD_at ‹_› | exact atI_nat ‹_› | exact bD_at ‹_›)⟩, rfl⟩, rfl, (by first | omega | (simp at *; omega) | (simp; omega)), rfl⟩, ?_⟩
      rw [ei]
      refine ⟨_, ⟨_, _, ⟨_, ⟨_, _, _, rfl, (by first | rfl | assumption), rfl, (by first | assumption | exact nD_at ‹_› | exact atI_nat ‹_› | exact bD_at ‹_›)⟩, rfl⟩, ⟨_, _, rfl, rfl, rfl⟩, (by first | omega | (simp at *; omega) | (simp; omega)), rfl⟩, ?_⟩
      rw [ej]
      refine ⟨_, ⟨_, ⟨_, _, ⟨_, ⟨_, _, rfl, ⟨_, _, rfl, rfl, rfl⟩, rfl⟩, (prd)⟩, ⟨_, _, ⟨_, ⟨_, _, rfl, ⟨_, _, rfl, rfl, rfl⟩, rfl⟩, (eUi)⟩, ⟨_, _, ⟨_, ⟨_, _, rfl, ⟨_, _, ⟨_, _, ⟨_, _, rfl, rfl, rfl⟩, rfl, rfl⟩, rfl, rfl⟩, rfl⟩, (eL j)⟩, rfl, rfl⟩, rfl⟩, rfl⟩, (com)⟩, ?_⟩
      refine env_eq [.sh (tabD n1 m1), .sh (tabD n2 m2), .sh (lI ns), .sh (grpD n1 m1), .sh (grpD n2 m2), .sh (grpD (n1 * n2) (pm n2 m1 m2)), .sh (.lst (rowD L)), .sh (.lst (rowD D)), .sh (.lst (rowD U)), .sh (.int (((rowD L).length : Int) - 1)), .sh (.int (k : Int)), .sh (.int (i : Int)), .sh (.int (j : Int)), .sh (lN (comL (n1 * n2) (pm n2 m1 m2) (endF U i) (endF L (max j 1 - 1))))] rfl ?_
      refine ⟨_, ⟨_, ⟨_, _, rfl, ⟨_, _, ⟨_, ⟨_, _, rfl, ⟨_, _, ⟨_, _, rfl, rfl, rfl⟩, rfl, rfl⟩, rfl⟩, (eUj)⟩, rfl, rfl⟩, rfl⟩, (lie)⟩, ?_⟩
      rfl
    · have hl0 : ¬ ll = [0] := by simpa using hb
      rw [if_neg hl0] at cls
      have e7 : R_law_same [.non, .non] (.bl true) := ⟨_, _, rfl, .inl ⟨rfl, rfl⟩, rfl⟩
      refine ⟨_, ⟨_, ⟨_, ⟨_, _, ⟨_, ⟨_, _, rfl, rfl, rfl⟩, (cls)⟩, ⟨_, _, rfl, rfl, rfl⟩, rfl⟩, (e7)⟩, rfl⟩, fun hb => ?_, fun hb => ?_⟩
      · cases hb
      refine ⟨_, ⟨_, _, ⟨_, ⟨_, _, _, rfl, (by first | rfl | assumption), rfl, (by first | assumption | exact nD_at ‹_› | exact atI_nat ‹_› | exact bD_at ‹_›)⟩, rfl⟩, rfl, (by first | omega | (simp at *; omega) | (simp; omega)), rfl⟩, ?_⟩
      rw [ek]
      refine ⟨_, ⟨_, ⟨_, ⟨_, _, ⟨_, ⟨_, _, rfl, ⟨_, _, rfl, rfl, rfl⟩, rfl⟩, (lok)⟩, ⟨_, _, ⟨_, ⟨_, _, rfl, ⟨_, _, ⟨_, _, ⟨_, _, rfl, rfl, rfl⟩, rfl, rfl⟩, rfl, rfl⟩, rfl⟩, (eL k)⟩, rfl, rfl⟩, rfl⟩, (e6)⟩, rfl⟩, fun hb => ?_, fun hb => ?_⟩
      · cases hb
      refine ⟨_, ⟨_, _, ⟨_, ⟨_, _, _, rfl, (by first | rfl | assumption), rfl, (by first | assumption | exact nD_at ‹_› | exact atI_nat ‹_› | exact bD_at ‹_›)⟩, rfl⟩, rfl, (by first | omega | (simp at *; omega) | (simp; omega)), rfl⟩, ?_⟩
      rw [ei]
      refine ⟨_, ⟨_, _, ⟨_, ⟨_, _, _, rfl, (by first | rfl | assumption), rfl, (by first | assumption | exact nD_at ‹_› | exact atI_nat ‹_› | exact bD_at ‹_›)⟩, rfl⟩, ⟨_, _, rfl, rfl, rfl⟩, (by first | omega | (simp at *; omega) | (simp; omega)), rfl⟩, ?_⟩
      rw [ej]
      refine ⟨_, ⟨_, ⟨_, _, ⟨_, ⟨_, _, rfl, ⟨_, _, rfl, rfl, rfl⟩, rfl⟩, (prd)⟩, ⟨_, _, ⟨_, ⟨_, _, rfl, ⟨_, _, rfl, rfl, rfl⟩, rfl⟩, (eUi)⟩, ⟨_, _, ⟨_, ⟨_, _, rfl, ⟨_, _, ⟨_, _, ⟨_, _, rfl, rfl, rfl⟩, rfl, rfl⟩, rfl, rfl⟩, rfl⟩, (eL j)⟩, rfl, rfl⟩, rfl⟩, rfl⟩, (com)⟩, ?_⟩
      refine env_eq [.sh (tabD n1 m1), .sh (tabD n2 m2), .sh (lI ns), .sh (grpD n1 m1), .sh (grpD n2 m2), .sh (grpD (n1 * n2) (pm n2 m1 m2)), .sh (.lst (rowD L)), .sh (.lst (rowD D)), .sh (.lst (rowD U)), .sh .non, .sh (.int (k : Int)), .sh (.int (i : Int)), .sh (.int (j : Int)), .sh (lN (comL (n1 * n2) (pm n2 m1 m2) (endF U i) (endF L (max j 1 - 1))))] rfl ?_
      refine ⟨_, ⟨_, ⟨_, _, rfl, ⟨_, _, ⟨_, ⟨_, _, rfl, ⟨_, _, ⟨_, _, rfl, rfl, rfl⟩, rfl, rfl⟩, rfl⟩, (eUj)⟩, rfl, rfl⟩, rfl⟩, (lie)⟩, ?_⟩
      rfl
/-- what is needed of a normal subgroup: its quotient -/
structure QSer (n : Nat) (m : Op) (S : List Nat) (rl rd : List (List Nat)) : Prop where
  sub : Sub n m S
  nor : ∀ a ∈ S, ∀ b, b < n → cj n m a b ∈ S
  tq : Tb (cosL n m S).length (qt m (picL n (cosL n m S)) (cosL n m S))
  low : IsRow (lF (cosL n m S).length (qt m (picL n (cosL n m S)) (cosL n m S))) (List.range (cosL n m S).length) (cutF (rl.map (pictF (picL n (cosL n m S)))))
  der : IsRow (dF (cosL n m S).length (qt m (picL n (cosL n m S)) (cosL n m S))) (List.range (cosL n m S).length) (cutF (rd.map (pictF (picL n (cosL n m S)))))
def R_law_quotient_told : List Dt → Dt → Prop := fun ds r => ∃ n m s S rl rd ru, ds = [grpD n m, tabD n m, s, .lst (rowD rl), .lst (rowD rd)] ∧ Tb n m ∧ n ≤ 60 ∧ IsTup s S ∧ Ser n m rl rd ru ∧ QSer n m S rl rd ∧ r = .bl true
theorem sc_law_quotient_told : FnScope ["_law_group_here", "_law_table_here", "_law_subgroup", "_law_lows", "_law_derived", "_law_told", "_law_picture_here"] ["_law_group_here", "_law_table_here", "_law_subgroup", "_law_lows", "_law_derived"] (defScope s_law_quotient_told) := ⟨rfl, rfl, rfl, by decide +kernel, rfl, by decide +kernel, by decide +kernel⟩
theorem w_law_quotient_told {P : Program} {w : World} {K : PySem.W.Frag} {mg : Str → Option Value} {base : Heap} {C : Addr} (T : Tx K mg C) (D : FnS K mg "_law_quotient_told" s_law_quotient_told) (F_quotient_group : Fn P w K mg base C "quotient_group" 7 [false, false] R_quotient_group) (F__law_picture : Fn P w K mg base C "_law_picture" 2 [false, false] R_law_picture) (F__law_same : Fn P w K mg base C "_law_same" 3 [false, false] R_law_same) (F__law_pictured : Fn P w K mg base C "_law_pictured" 2 [false, false] R_law_pictured) (F_lower_row : Fn P w K mg base C "lower_row" 4 [false] R_lower_row) (F_derived_row : Fn P w K mg base C "derived_row" 4 [false] R_derived_row) : Fn P w K mg base C "_law_quotient_told" 8 [false, false, false, false, false] R_law_quotient_told := by
  obtain ⟨f, fd, F, hm⟩ := D
  have S := sc_law_quotient_told
  obtain ⟨tM, hM⟩ := T.most
  refine Fn.of F (fn_ok (k := 7) (fl := [false, false, false, false, false]) (R := R_law_quotient_told) F S rfl (by decide) (fun ds r h => rawFree _ _ (by decide)) (fun cdv A outer s H E hr => have hu := hu_of hr; dss_cons (ds_set 5 S.nd (de_call F_quotient_group (hr.mono (by decide)) (da_sh (dv 0) (da_sh (dv 2) da_nil))))
      (dss_cons (ds_set 6 S.nd (de_call F__law_picture (hr.mono (by decide)) (da_sh (dv 1) (da_sh (dv 2) da_nil))))
      (dss_cons (ds_if (db_not (db_val (de_call F__law_same (hr.mono (by decide)) (da_sh (de_ix ((dv 5).r) de_int) (da_sh (de_tupL T.tuple ((dv 6).r)) da_nil))))) (dss_one (ds_ret de_bl)) dss_nil)
      (dss_cons (ds_if (db_not (db_val (de_call F__law_same (hr.mono (by decide)) (da_sh (de_call F_lower_row (hr.mono (by decide)) (da_sh (de_ix ((dv 5).r) de_int) da_nil)) (da_sh (de_call F__law_pictured (hr.mono (by decide)) (da_sh (dv 6) (da_sh (dv 3) da_nil))) da_nil))))) (dss_one (ds_ret de_bl)) dss_nil)
      (dss_one (ds_ret (de_call F__law_same (hr.mono (by decide)) (da_sh (de_call F_derived_row (hr.mono (by decide)) (da_sh (de_ix ((dv 5).r) de_int) da_nil)) (da_sh (de_call F__law_pictured (hr.mono (by decide)) (da_sh (dv 6) (da_sh (dv 4) da_nil))) da_nil))))))))) ?hp) (F.bindsN fun _ _ _ _ _ _ us hl => match us, hl with | [_, _, _, _, _], _ => rfl) hm
  case hp =>
    rintro ds r ⟨n, m, s, S, rl, rd, ru, rfl, tb, hn, hs, Sr, Q, rfl⟩ -
    have hql : (cosL n m S).length ≤ n := cosTo_len n
    have c1 : R_quotient_group [grpD n m, s] (.tup [grpD (cosL n m S).length (qt m (picL n (cosL n m S)) (cosL n m S)), tN (picL n (cosL n m S))]) := ⟨n, m, s, S, rfl, tb, hn, hs, Q.sub, Q.nor, Q.tq, rfl⟩
    have c2 : R_law_picture [tabD n m, s] (lN (picL n (cosL n m S))) := ⟨n, m, s, S, rfl, tb, hn, hs.sq, Q.sub, rfl⟩
    have hpl : (picL n (cosL n m S)).length = n := picTo_len n _ _
    have z1 := low_sz Sr.low
    have z2 := der_sz Sr.der
    have l1 := Sr.ll
    have l2 := Sr.dl
    have c3 : R_law_pictured [lN (picL n (cosL n m S)), .lst (rowD rl)] (.lst (rowD (cutF (rl.map (pictF (picL n (cosL n m S))))))) := ⟨_, rl, rfl, by omega, Sr.low.pos, by omega, fun c hc => by have := (z1 c hc).2; omega, fun c hc x hx => by rw [hpl]; exact (z1 c hc).1 x hx, rfl⟩
    have c4 : R_law_pictured [lN (picL n (cosL n m S)), .lst (rowD rd)] (.lst (rowD (cutF (rd.map (pictF (picL n (cosL n m S))))))) := ⟨_, rd, rfl, by omega, Sr.der.pos, by omega, fun c hc => by have := (z2 c hc).2; omega, fun c hc x hx => by rw [hpl]; exact (z2 c hc).1 x hx, rfl⟩
    have k1 := cutTo_len (rl.map (pictF (picL n (cosL n m S)))) ((rl.map (pictF (picL n (cosL n m S)))).length - 1)
    have k2 := cutTo_len (rd.map (pictF (picL n (cosL n m S)))) ((rd.map (pictF (picL n (cosL n m S)))).length - 1)
    rw [List.length_map] at k1 k2
    have h1 : (cutF (rl.map (pictF (picL n (cosL n m S))))).length ≤ 1000 := by
      unfold cutF
      rw [List.length_map]
      omega
    have h2 : (cutF (rd.map (pictF (picL n (cosL n m S))))).length ≤ 1000 := by
      unfold cutF
      rw [List.length_map]
      omega
    have tq := Q.tq
    have lowq := Q.low
    have derq := Q.der
    have e0 := same_tN' (rfl : picL n (cosL n m S) = _) (by omega)
    generalize cutF (rl.map (pictF (picL n (cosL n m S)))) = ql at c3 lowq h1
    generalize cutF (rd.map (pictF (picL n (cosL n m S)))) = qd at c4 derq h2
    generalize picL n (cosL n m S) = pc at *
    generalize hm : qt m pc (cosL n m S) = qm at *
    generalize (cosL n m S).length = q at *
    have c5 : R_lower_row [grpD q qm] (.lst (rowD ql)) := ⟨q, qm, ql, rfl, tq, by omega, lowq, h1, rfl⟩
    have c6 : R_derived_row [grpD q qm] (.lst (rowD qd)) := ⟨q, qm, qd, rfl, tq, by omega, derq, h2, rfl⟩
    have e1 := same_low (show q ≤ 60 by omega) h1 (low_sz lowq)
    have e2 := same_low (show q ≤ 60 by omega) h2 (der_sz derq)
    have t1 : atI [grpD q qm, tN pc] 1 = some (tN pc) := rfl
    have t0 : atI [grpD q qm, tN pc] 0 = some (grpD q qm) := rfl
    refine ⟨_, ⟨_, ⟨_, _, rfl, ⟨_, _, rfl, rfl, rfl⟩, rfl⟩, (c1)⟩, ?_⟩
    refine ⟨_, ⟨_, ⟨_, _, rfl, ⟨_, _, rfl, rfl, rfl⟩, rfl⟩, (c2)⟩, ?_⟩
    refine ⟨_, ⟨_, ⟨_, ⟨_, _, ⟨_, _, _, rfl, (by first | rfl | assumption), rfl, (by first | assumption | exact nD_at ‹_› | exact atI_nat ‹_› | exact bD_at ‹_›)⟩, ⟨_, _, ⟨_, rfl, rfl⟩, rfl, rfl⟩, rfl⟩, (e0)⟩, rfl⟩, fun hb => ?_, fun hb => ?_⟩
    · cases hb
    refine ⟨_, ⟨_, ⟨_, ⟨_, _, ⟨_, ⟨_, _, ⟨_, _, _, rfl, (by first | rfl | assumption), rfl, (by first | assumption | exact nD_at ‹_› | exact atI_nat ‹_› | exact bD_at ‹_›)⟩, rfl, rfl⟩, (c5)⟩, ⟨_, _, ⟨_, ⟨_, _, rfl, ⟨_, _, rfl, rfl, rfl⟩, rfl⟩, (c3)⟩, rfl, rfl⟩, rfl⟩, (e1)⟩, rfl⟩, fun hb => ?_, fun hb => ?_⟩
    · cases hb
    refine ⟨_, ⟨_, ⟨_, _, ⟨_, ⟨_, _, ⟨_, _, _, rfl, (by first | rfl | assumption), rfl, (by first | assumption | exact nD_at ‹_› | exact atI_nat ‹_› | exact bD_at ‹_›)⟩, rfl, rfl⟩, (c6)⟩, ⟨_, _, ⟨_, ⟨_, _, rfl, ⟨_, _, rfl, rfl, rfl⟩, rfl⟩, (c4)⟩, rfl, rfl⟩, rfl⟩, (e2)⟩, ?_⟩
    rfl
/-- what is needed of a subgroup -/
structure SSer (n : Nat) (m : Op) (S : List Nat) (rl rd sl sd : List (List Nat)) : Prop where
  sub : Sub n m S
  cl : ∀ a ∈ S, ∀ b ∈ S, m a b ∈ S
  ts : Tb S.length (sb m S)
  low : IsRow (lF S.length (sb m S)) (List.range S.length) sl
  der : IsRow (dF S.length (sb m S)) (List.range S.length) sd
  ll : sl.length ≤ 9
  dl : sd.length ≤ 9
  sl : ∀ k, k < sl.length → ∀ x ∈ sl.getD k [], S.getD x 0 ∈ endF rl k
  sd : ∀ k, k < sd.length → ∀ x ∈ sd.getD k [], S.getD x 0 ∈ endF rd k
def R_law_subgroup_told : List Dt → Dt → Prop := fun ds r => ∃ n m S rl rd ru sl sd, ds = [grpD n m, tabD n m, .xtp (nD S), .lst (rowD rl), .lst (rowD rd)] ∧ Tb n m ∧ n ≤ 60 ∧ Ser n m rl rd ru ∧ SSer n m S rl rd sl sd ∧ r = .bl true
theorem sc_law_subgroup_told : FnScope ["_law_group_here", "_law_table_here", "_law_subgroup", "_law_lows", "_law_derived", "_law_part", "_law_inner", "_law_first", "_law_second"] ["_law_group_here", "_law_table_here", "_law_subgroup", "_law_lows", "_law_derived"] (defScope s_law_subgroup_told) := ⟨rfl, rfl, rfl, by decide +kernel, rfl, by decide +kernel, by decide +kernel⟩
theorem w_law_subgroup_told {P : Program} {w : World} {K : PySem.W.Frag} {mg : Str → Option Value} {base : Heap} {C : Addr} (T : Tx K mg C) (D : FnS K mg "_law_subgroup_told" s_law_subgroup_told) (F_subgroup_group : Fn P w K mg base C "subgroup_group" 7 [false, false] R_subgroup_group) (F__law_subtable : Fn P w K mg base C "_law_subtable" 1 [false, false] R_law_subtable) (F_lower_row : Fn P w K mg base C "lower_row" 4 [false] R_lower_row) (F_derived_row : Fn P w K mg base C "derived_row" 4 [false] R_derived_row) (F__law_same : Fn P w K mg base C "_law_same" 3 [false, false] R_law_same) (F__law_series : Fn P w K mg base C "_law_series" 2 [false, false] R_law_series) (F__law_stands : Fn P w K mg base C "_law_stands" 2 [false, false, false] R_law_stands) : Fn P w K mg base C "_law_subgroup_told" 8 [false, false, false, false, false] R_law_subgroup_told := by
  obtain ⟨f, fd, F, hm⟩ := D
  have S := sc_law_subgroup_told
  obtain ⟨tM, hM⟩ := T.most
  refine Fn.of F (fn_ok (k := 7) (fl := [false, false, false, false, false]) (R := R_law_subgroup_told) F S rfl (by decide) (fun ds r h => rawFree _ _ (by decide)) (fun cdv A outer s H E hr => have hu := hu_of hr; dss_cons (ds_set 5 S.nd (de_call F_subgroup_group (hr.mono (by decide)) (da_sh (dv 0) (da_sh (dv 2) da_nil))))
      (dss_cons (ds_set 6 S.nd (de_call F__law_subtable (hr.mono (by decide)) (da_sh (dv 1) (da_sh (dv 2) da_nil))))
      (dss_cons (ds_set 7 S.nd (de_call F_lower_row (hr.mono (by decide)) (da_sh (dv 5) da_nil)))
      (dss_cons (ds_set 8 S.nd (de_call F_derived_row (hr.mono (by decide)) (da_sh (dv 5) da_nil)))
      (dss_cons (ds_if ((dw_or (db_not (db_val (de_call F__law_same (hr.mono (by decide)) (da_sh (dv 7) (da_sh (de_call F__law_series (hr.mono (by decide)) (da_sh (dv 6) (da_sh de_bl da_nil))) da_nil))))) (dw_or1 (db_not (db_val (de_call F__law_same (hr.mono (by decide)) (da_sh (dv 8) (da_sh (de_call F__law_series (hr.mono (by decide)) (da_sh (dv 6) (da_sh de_bl da_nil))) da_nil))))))).test) (dss_one (ds_ret de_bl)) dss_nil)
      (dss_one (ds_ret (de_and (de_call F__law_stands (hr.mono (by decide)) (da_sh (dv 7) (da_sh (dv 2) (da_sh (dv 3) da_nil)))) (de_one (de_call F__law_stands (hr.mono (by decide)) (da_sh (dv 8) (da_sh (dv 2) (da_sh (dv 4) da_nil))))))))))))) ?hp) (F.bindsN fun _ _ _ _ _ _ us hl => match us, hl with | [_, _, _, _, _], _ => rfl) hm
  case hp =>
    rintro ds r ⟨n, m, S, rl, rd, ru, sl, sd, rfl, tb, hn, Sr, Q, rfl⟩ -
    have hl := sub_len Q.sub
    have c1 : R_subgroup_group [grpD n m, .xtp (nD S)] (grpD S.length (sb m S)) := ⟨n, m, S, rfl, tb, hn, Q.sub, Q.cl, Q.ts, rfl⟩
    have c2 : R_law_subtable [tabD n m, .xtp (nD S)] (tabD S.length (sb m S)) := ⟨n, m, S, rfl, by omega, by omega, Q.sub.lt, Q.cl, rfl⟩
    have l1 := Q.ll
    have l2 := Q.dl
    have c3 : R_lower_row [grpD S.length (sb m S)] (.lst (rowD sl)) := ⟨_, _, sl, rfl, Q.ts, by omega, Q.low, by omega, rfl⟩
    have c4 : R_derived_row [grpD S.length (sb m S)] (.lst (rowD sd)) := ⟨_, _, sd, rfl, Q.ts, by omega, Q.der, by omega, rfl⟩
    have c5 : R_law_series [tabD S.length (sb m S), .bl false] (.lst (rowD sl)) := ⟨_, _, false, sl, rfl, Q.ts, by omega, Q.low, Q.ll, rfl⟩
    have c6 : R_law_series [tabD S.length (sb m S), .bl true] (.lst (rowD sd)) := ⟨_, _, true, sd, rfl, Q.ts, by omega, Q.der, Q.dl, rfl⟩
    have z1 := low_sz Q.low
    have z2 := der_sz Q.der
    have e1 := same_low (show S.length ≤ 60 by omega) (show sl.length ≤ 1000 by omega) z1
    have e2 := same_low (show S.length ≤ 60 by omega) (show sd.length ≤ 1000 by omega) z2
    have s1 : R_law_stands [.lst (rowD sl), .xtp (nD S), .lst (rowD rl)] (.bl true) := ⟨sl, _, S, rl, rfl, rfl, by omega, fun c hc => by have := (z1 c hc).2; omega, Sr.low.pos, fun c hc => (z1 c hc).1, Q.sl, rfl⟩
    have s2 : R_law_stands [.lst (rowD sd), .xtp (nD S), .lst (rowD rd)] (.bl true) := ⟨sd, _, S, rd, rfl, rfl, by omega, fun c hc => by have := (z2 c hc).2; omega, Sr.der.pos, fun c hc => (z2 c hc).1, Q.sd, rfl⟩
    refine ⟨_, ⟨_, ⟨_, _, rfl, ⟨_, _, rfl, rfl, rfl⟩, rfl⟩, (c1)⟩, ?_⟩
    refine ⟨_, ⟨_, ⟨_, _, rfl, ⟨_, _, rfl, rfl, rfl⟩, rfl⟩, (c2)⟩, ?_⟩
    refine ⟨_, ⟨_, ⟨_, _, rfl, rfl, rfl⟩, (c3)⟩, ?_⟩
    refine ⟨_, ⟨_, ⟨_, _, rfl, rfl, rfl⟩, (c4)⟩, ?_⟩
    refine ⟨_, (fOr_i ⟨_, ⟨_, ⟨_, _, rfl, ⟨_, _, ⟨_, ⟨_, _, rfl, ⟨_, _, rfl, rfl, rfl⟩, rfl⟩, (c5)⟩, rfl, rfl⟩, rfl⟩, (e1)⟩, rfl⟩ (fun hc => ⟨_, ⟨_, ⟨_, _, rfl, ⟨_, _, ⟨_, ⟨_, _, rfl, ⟨_, _, rfl, rfl, rfl⟩, rfl⟩, (c6)⟩, rfl, rfl⟩, rfl⟩, (e2)⟩, rfl⟩)), fun hb => ?_, fun hb => ?_⟩
    · cases hb
    refine ⟨_, (fAndV_i ⟨_, ⟨_, _, rfl, ⟨_, _, rfl, ⟨_, _, rfl, rfl, rfl⟩, rfl⟩, rfl⟩, (s1)⟩ (fun hc => ⟨_, ⟨_, _, rfl, ⟨_, _, rfl, ⟨_, _, rfl, rfl, rfl⟩, rfl⟩, rfl⟩, (s2)⟩)), ?_⟩
    rfl
end CM
set_option Elab.async false
set_option linter.all false
set_option maxRecDepth 100000
/-! Groups, plain: subgroups, centres modulo a normal subgroup, quotients, the commutators of upper and lower rows. -/
namespace CM
class Gp (G : Type) extends Mul G, One G, Inv G where
  mul_assoc' : ∀ a b c : G, a * b * c = a * (b * c)
  one_mul' : ∀ a : G, 1 * a = a
  inv_mul' : ∀ a : G, a⁻¹ * a = 1
namespace Gp
section
variable {G : Type} [Gp G]
theorem mul_assoc (a b c : G) : a * b * c = a * (b * c) := mul_assoc' a b c
theorem one_mul (a : G) : 1 * a = a := one_mul' a
theorem inv_mul (a : G) : a⁻¹ * a = 1 := inv_mul' a
theorem inv_mul_l (a b : G) : a⁻¹ * (a * b) = b := by rw [← mul_assoc, inv_mul, one_mul]
theorem cancel {a b c : G} (h : a * b = a * c) : b = c := by rw [← inv_mul_l a b, h, inv_mul_l]
theorem mul_one (a : G) : a * 1 = a := cancel (a := a⁻¹) (by rw [← mul_assoc, inv_mul, one_mul])
theorem mul_inv (a : G) : a * a⁻¹ = 1 := cancel (a := a⁻¹) (by rw [← mul_assoc, inv_mul, one_mul, mul_one])
theorem mul_inv_l (a b : G) : a * (a⁻¹ * b) = b := by rw [← mul_assoc, mul_inv, one_mul]
theorem inv_eq {a b : G} (h : a * b = 1) : a⁻¹ = b := cancel (a := a) (by rw [mul_inv, h])
theorem inv_inv (a : G) : a⁻¹⁻¹ = a := inv_eq (inv_mul a)
theorem inv_one : (1 : G)⁻¹ = 1 := inv_eq (one_mul 1)
theorem mul_inv_rev (a b : G) : (a * b)⁻¹ = b⁻¹ * a⁻¹ := inv_eq (by rw [mul_assoc, mul_inv_l, mul_inv])
theorem cancel_r {a b c : G} (h : b * a = c * a) : b = c := by
  have := congrArg (fun x => x * a⁻¹) h
  simpa only [mul_assoc, mul_inv, mul_one] using this
def com (a b : G) : G := a⁻¹ * (b⁻¹ * (a * b))
def con (a b : G) : G := b⁻¹ * (a * b)
structure IsSub (N : G → Prop) : Prop where
  one : N 1
  mul : ∀ a b, N a → N b → N (a * b)
  inv : ∀ a, N a → N a⁻¹
structure IsNor (N : G → Prop) : Prop extends IsSub N where
  con : ∀ a b, N a → N (con a b)
theorem IsSub.com {N : G → Prop} (h : IsSub N) {a b : G} (ha : N a) (hb : N b) : N (com a b) := h.mul _ _ (h.inv _ ha) (h.mul _ _ (h.inv _ hb) (h.mul _ _ ha hb))
def Cen (S : G → Prop) (a : G) : Prop := ∀ b, S (com a b)
theorem com_mul (a a' b : G) : com (a * a') b = con (com a b) a' * com a' b := by
  simp only [com, con, mul_assoc, mul_inv_rev, mul_inv_l, inv_mul_l]
theorem com_inv (a b : G) : com a⁻¹ b = con (com a b)⁻¹ a⁻¹ := by
  simp only [com, con, mul_assoc, mul_inv_rev, mul_inv_l, inv_mul_l, inv_inv, mul_inv, mul_one]
theorem com_con (a b g : G) : com (con a g) b = con (com a (con b g⁻¹)) g := by
  simp only [com, con, mul_assoc, mul_inv_rev, mul_inv_l, inv_mul_l, inv_inv, mul_inv, mul_one, inv_mul]
theorem com_one (b : G) : com 1 b = 1 := by simp only [com, inv_one, one_mul, inv_mul]
theorem com_eq (a b : G) : com a b = a⁻¹ * con a b := rfl
theorem cen_nor {S : G → Prop} (h : IsNor S) : IsNor (Cen S) ∧ ∀ a, S a → Cen S a := by
  refine ⟨⟨⟨fun b => by rw [com_one]; exact h.one, fun a a' ha ha' b => by rw [com_mul]; exact h.mul _ _ (h.con _ _ (ha b)) (ha' b), fun a ha b => by rw [com_inv]; exact h.con _ _ (h.inv _ (ha b))⟩, fun a g ha b => by rw [com_con]; exact h.con _ _ (ha _)⟩, fun a ha b => ?_⟩
  rw [com_eq]
  exact h.mul _ _ (h.inv _ ha) (h.con _ _ ha)
theorem triv_nor : IsNor (fun a : G => a = 1) := ⟨⟨rfl, fun a b ha hb => by rw [ha, hb, one_mul], fun a ha => by rw [ha, inv_one]⟩, fun a b ha => by rw [ha, con, one_mul, inv_mul]⟩
theorem cen_mono {S T : G → Prop} (h : ∀ a, S a → T a) : ∀ a, Cen S a → Cen T a := fun a ha b => h _ (ha b)
/-- what is generated -/
inductive Cl (M : G → Prop) : G → Prop
  | one : Cl M 1
  | step {x g : G} : Cl M x → M g → Cl M (x * g)
theorem Cl.least {M N : G → Prop} (h : IsSub N) (hM : ∀ g, M g → N g) : ∀ {x : G}, Cl M x → N x
  | _, .one => h.one
  | _, .step r q => h.mul _ _ (r.least h hM) (hM _ q)
theorem Cl.mono {M N : G → Prop} (hM : ∀ g, M g → N g) : ∀ {x : G}, Cl M x → Cl N x
  | _, .one => .one
  | _, .step r q => .step (r.mono hM) (hM _ q)
theorem Cl.gen {M : G → Prop} {g : G} (h : M g) : Cl M g := by
  have := Cl.step (M := M) .one h
  rw [one_mul] at this
  exact this
theorem Cl.mul {M : G → Prop} {x : G} (hx : Cl M x) : ∀ {y : G}, Cl M y → Cl M (x * y)
  | _, .one => by rw [mul_one]; exact hx
  | _, .step r q => by rw [← mul_assoc]; exact .step (hx.mul r) q
theorem Cl.con {M : G → Prop} (hM : ∀ g b, M g → M (con g b)) (b : G) : ∀ {x : G}, Cl M x → Cl M (con x b)
  | _, .one => by rw [show Gp.con (1 : G) b = 1 by rw [Gp.con, one_mul, inv_mul]]; exact .one
  | _, .step (x := x) (g := g) r q => by
    rw [show Gp.con (x * g) b = Gp.con x b * Gp.con g b by simp only [Gp.con, mul_assoc, mul_inv_l]]
    exact .step (r.con hM b) (hM g b q)
/-! ### quotients -/
def qs {N : G → Prop} (h : IsNor N) : Setoid G := ⟨fun a b => N (a⁻¹ * b), ⟨fun a => by rw [inv_mul]; exact h.one, fun {a b} q => by
  have := h.inv _ q
  rw [mul_inv_rev, inv_inv] at this
  exact this, fun {a b c} p q => by
  have := h.mul _ _ p q
  rw [mul_assoc, mul_inv_l] at this
  exact this⟩⟩
def Q {N : G → Prop} (h : IsNor N) : Type := Quotient (qs h)
def cl {N : G → Prop} (h : IsNor N) (a : G) : Q h := Quotient.mk (qs h) a
theorem cl_eq {N : G → Prop} {h : IsNor N} {a b : G} : cl h a = cl h b ↔ N (a⁻¹ * b) := ⟨fun e => Quotient.exact (s := qs h) e, fun e => Quotient.sound (s := qs h) e⟩
instance {N : G → Prop} (h : IsNor N) : Gp (Q h) where
  mul := Quotient.lift₂ (fun a b => cl h (a * b)) fun a b a' b' (ha : N (a⁻¹ * a')) (hb : N (b⁻¹ * b')) => cl_eq.mpr (by
    have := h.mul _ _ (h.con _ b ha) hb
    simp only [con, mul_assoc, mul_inv_l] at this
    simp only [mul_inv_rev, mul_assoc]
    exact this)
  one := cl h 1
  inv := Quotient.lift (fun a => cl h a⁻¹) fun a b (e : N (a⁻¹ * b)) => cl_eq.mpr (by
    have := h.con _ a⁻¹ (h.inv _ e)
    simp only [con, mul_inv_rev, inv_inv, mul_assoc, mul_inv, mul_one] at this
    rw [inv_inv]
    exact this)
  mul_assoc' a b c := by
    induction a using Quotient.ind
    induction b using Quotient.ind
    induction c using Quotient.ind
    exact congrArg (cl h) (mul_assoc _ _ _)
  one_mul' a := by
    induction a using Quotient.ind
    exact congrArg (cl h) (one_mul _)
  inv_mul' a := by
    induction a using Quotient.ind
    exact congrArg (cl h) (inv_mul _)
section
variable {N : G → Prop} {h : IsNor N}
theorem cl_mul (a b : G) : cl h (a * b) = cl h a * cl h b := rfl
theorem cl_inv (a : G) : cl h a⁻¹ = (cl h a)⁻¹ := rfl
theorem cl_one : cl h (1 : G) = 1 := rfl
theorem cl_com (a b : G) : cl h (com a b) = com (cl h a) (cl h b) := rfl
theorem cl_is_one {a : G} : cl h a = 1 ↔ N a := by
  rw [← cl_one, cl_eq, mul_one]
  exact ⟨fun q => by have := h.inv _ q; rw [inv_inv] at this; exact this, fun q => h.inv _ q⟩
end
theorem com_one_iff {a b : G} : com a b = 1 ↔ a * b = b * a := by
  constructor
  · intro e
    have := congrArg (fun x => b * (a * x)) e
    simpa only [com, mul_inv_l, mul_one] using this
  · intro e
    rw [com, e, inv_mul_l, inv_mul]
/-- A commutes with the commutator of g and y -/
theorem tri {A g y c e : G} (hc : ∀ x, c * x = x * c) (h1 : A * y = y * (A * c)) (h2 : A * g = g * (A * (g⁻¹ * (e * g)))) (h3 : e * y = y * e) : A * com g y = com g y * A := by
  -- A g⁻¹ = g⁻¹ A e⁻¹
  have k1 : A * g⁻¹ = g⁻¹ * (A * e⁻¹) := by
    have : g * (A * (g⁻¹ * e)) = A := cancel_r (a := g) (by
      simp only [mul_assoc]
      exact h2.symm)
    have h4 := congrArg (fun x => g⁻¹ * (x * e⁻¹)) this
    simp only [mul_assoc, inv_mul_l, mul_inv, mul_one] at h4
    exact h4
  have k2 : A * y⁻¹ = y⁻¹ * (A * c⁻¹) := by
    have hci : ∀ x, c⁻¹ * x = x * c⁻¹ := fun x => cancel (a := c) (by rw [mul_inv_l, ← mul_assoc, hc, mul_assoc, mul_inv, mul_one])
    have h4 := congrArg (fun x => y⁻¹ * (x * (c⁻¹ * y⁻¹))) h1
    simp only [mul_assoc, inv_mul_l, mul_inv_l] at h4
    rw [hci, ← mul_assoc y, mul_inv, one_mul] at h4
    rw [h4] <;> simp only [mul_inv, mul_one]
  have k3 : e⁻¹ * y⁻¹ = y⁻¹ * e⁻¹ := by rw [← mul_inv_rev, ← mul_inv_rev, h3]
  have hci : ∀ x, c⁻¹ * x = x * c⁻¹ := fun x => cancel (a := c) (by rw [mul_inv_l, ← mul_assoc, hc, mul_assoc, mul_inv, mul_one])
  have h2' : A * g = g * (A * (g⁻¹ * (e * g))) := h2
  unfold com
  -- move A to the right, step by step
  rw [← mul_assoc A, k1, mul_assoc g⁻¹, mul_assoc A, ← mul_assoc e⁻¹, k3, mul_assoc y⁻¹, ← mul_assoc A, k2, mul_assoc y⁻¹, mul_assoc A]
  rw [← mul_assoc c⁻¹, hci (e⁻¹), mul_assoc e⁻¹, hci]
  rw [← mul_assoc e⁻¹, ← mul_assoc e⁻¹]
  have k4 : A * (e⁻¹ * g) = g * A := by
    have h5 := h2
    have : A * (g * (g⁻¹ * (e⁻¹ * g))) = g * A := by
      rw [← mul_assoc A, h2]
      simp only [mul_assoc, mul_inv_l, inv_mul_l, mul_inv, mul_one, inv_mul]
    rw [mul_inv_l] at this
    exact this
  have k5 : A * (e⁻¹ * g * y * c⁻¹) = g * (y * A) := by
    have : e⁻¹ * g * y * c⁻¹ = e⁻¹ * g * (y * c⁻¹) := mul_assoc _ _ _
    rw [this, ← mul_assoc A, k4, mul_assoc g, ← mul_assoc A, h1]
    simp only [mul_assoc]
    rw [mul_inv, mul_one]
  rw [k5]
  simp only [mul_assoc]
/-! ### upper and lower rows -/
def Zs : Nat → G → Prop
  | 0 => fun a => a = 1
  | k + 1 => Cen (Zs k)
def Ls : Nat → G → Prop
  | 0 => fun _ => True
  | k + 1 => Cl fun x => ∃ g y, Ls k y ∧ com g y = x
theorem Zs_nor : ∀ k, IsNor (Zs (G := G) k)
  | 0 => triv_nor
  | k + 1 => (cen_nor (Zs_nor k)).1
theorem Zs_up (k : Nat) : ∀ a : G, Zs k a → Zs (k + 1) a := (cen_nor (Zs_nor k)).2
theorem com_rows : ∀ (J i : Nat) (a : G), Zs (i + J + 1) a → ∀ x, Ls J x → Zs i (com a x)
  | 0, i, a, ha, x, _ => ha x
  | J + 1, i, a, ha, x, hx => by
    have nor := Zs_nor (G := G) i
    have key : ∀ x : G, (∃ g y, Ls J y ∧ com g y = x) → cl nor a * cl nor x = cl nor x * cl nor a := by
      rintro x ⟨g, y, hy, rfl⟩
      have hc : Zs (i + 1) (com a y) := com_rows J (i + 1) a (by rw [show i + 1 + J + 1 = i + (J + 1) + 1 by omega]; exact ha) y hy
      have hd : Zs (i + J + 1) (com a g) := by
        have h1 : Zs (i + J + 1 + 1) a := by rw [show i + J + 1 + 1 = i + (J + 1) + 1 by omega]; exact ha
        exact h1 g
      have he : Zs (i + J + 1) (con (com a g) g⁻¹) := (Zs_nor (i + J + 1)).con _ _ hd
      have hey : Zs i (com (con (com a g) g⁻¹) y) := com_rows J i _ he y hy
      have r1 : cl nor (con (com a g) g⁻¹) * cl nor y = cl nor y * cl nor (con (com a g) g⁻¹) := com_one_iff.mp (cl_is_one.mpr hey)
      have r2 : ∀ z : Q nor, cl nor (com a y) * z = z * cl nor (com a y) := fun z => by
        induction z using Quotient.ind with
        | _ h => exact com_one_iff.mp (cl_is_one.mpr (hc h))
      refine tri (g := cl nor g) (y := cl nor y) (c := cl nor (com a y)) (e := cl nor (con (com a g) g⁻¹)) r2 ?_ ?_ r1
      · have e : a * y = y * (a * com a y) := by simp only [com, mul_inv_l]
        exact congrArg (cl nor) e
      · have e : a * g = g * (a * (g⁻¹ * (con (com a g) g⁻¹ * g))) := by simp only [com, con, mul_assoc, inv_inv, mul_inv_l, inv_mul_l, inv_mul, mul_one]
        exact congrArg (cl nor) e
    have all : ∀ {x : G}, Cl (fun x => ∃ g y, Ls J y ∧ com g y = x) x → cl nor a * cl nor x = cl nor x * cl nor a := by
      intro x r
      induction r with
      | one => rw [cl_one, mul_one, one_mul]
      | step r q ih => rw [cl_mul, ← mul_assoc, ih, mul_assoc, key _ q, mul_assoc]
    exact cl_is_one.mp (com_one_iff.mpr (all hx))
end
end Gp
end CM
set_option Elab.async false
set_option linter.all false
set_option maxRecDepth 100000
/-! Tables as groups; subgroups as lists; rows of series exist and are short. -/
namespace CM
structure El {n : Nat} {m : Op} (t : Tb n m) where
  val : Nat
  lt : val < n
theorem El.ext {n : Nat} {m : Op} {t : Tb n m} {a b : El t} (h : a.val = b.val) : a = b := by
  cases a
  cases b
  cases h
  rfl
instance {n : Nat} {m : Op} (t : Tb n m) : Gp (El t) where
  mul a b := ⟨m a.val b.val, t.cl _ _ a.lt b.lt⟩
  one := ⟨0, t.pos⟩
  inv a := ⟨iv n m a.val, t.iv_lt a.lt⟩
  mul_assoc' a b c := El.ext (t.assoc _ _ _ a.lt b.lt c.lt)
  one_mul' a := El.ext (t.idl _ a.lt)
  inv_mul' a := El.ext (t.iv_mul a.lt)
section
variable {n : Nat} {m : Op} {t : Tb n m}
theorem val_mul (a b : El t) : (a * b).val = m a.val b.val := rfl
theorem val_one : (1 : El t).val = 0 := rfl
theorem val_inv (a : El t) : (a⁻¹).val = iv n m a.val := rfl
theorem val_com (a b : El t) : (Gp.com a b).val = cm n m a.val b.val := by
  have e : Gp.com a b = (b * a)⁻¹ * (a * b) := by rw [Gp.com, Gp.mul_inv_rev, Gp.mul_assoc]
  rw [e]
  rfl
theorem val_con (a b : El t) : (Gp.con a b).val = cj n m a.val b.val := by
  have e : Gp.con a b = (b⁻¹ * a) * b := by rw [Gp.con, Gp.mul_assoc]
  rw [e]
  rfl
/-- a list's members -/
def In (t : Tb n m) (S : List Nat) : El t → Prop := fun g => g.val ∈ S
theorem cl_rch {M : List Nat} : ∀ {x : El t}, Gp.Cl (In t M) x → Rch m M x.val
  | _, .one => .zero
  | _, .step r q => .step (cl_rch r) q
theorem rch_cl {M : List Nat} (hM : ∀ x ∈ M, x < n) : ∀ {x : Nat}, Rch m M x → ∃ h : x < n, Gp.Cl (In t M) ⟨x, h⟩
  | _, .zero => ⟨t.pos, .one⟩
  | _, .step (x := x) (g := g) r q => by
    obtain ⟨h, c⟩ := rch_cl hM r
    exact ⟨t.cl _ _ h (hM g q), Gp.Cl.step (M := In t M) (x := ⟨x, h⟩) (g := ⟨g, hM g q⟩) c q⟩
theorem clo_iff {M : List Nat} (hM : ∀ x ∈ M, x < n) (x : El t) : x.val ∈ clo n m M ↔ Gp.Cl (In t M) x := by
  rw [clo_mem]
  refine ⟨fun ⟨_, r⟩ => ?_, fun c => ⟨x.lt, cl_rch c⟩⟩
  obtain ⟨h, c⟩ := rch_cl (t := t) hM r
  exact c
theorem list_onto {l : List Nat} (nd : l.Nodup) {f : Nat → Nat} (hf : ∀ x ∈ l, f x ∈ l) (inj : ∀ x ∈ l, ∀ y ∈ l, f x = f y → x = y) {y : Nat} (hy : y ∈ l) : ∃ x ∈ l, f x = y := by
  have nd2 : (l.map f).Nodup := by
    rw [List.nodup_iff_pairwise_ne, List.pairwise_map]
    exact List.Pairwise.imp_of_mem (fun {x y} hx hy h e => h (inj x hx y hy e)) (List.nodup_iff_pairwise_ne.mp nd)
  by_cases h : y ∈ l.map f
  · obtain ⟨x, hx, e⟩ := List.mem_map.mp h
    exact ⟨x, hx, e⟩
  · have := List.Nodup.length_le_of_subset (l₁ := y :: l.map f) (l₂ := l) (List.nodup_cons.mpr ⟨h, nd2⟩) (fun z hz => by
      rcases List.mem_cons.mp hz with rfl | hz
      · exact hy
      · obtain ⟨x, hx, rfl⟩ := List.mem_map.mp hz
        exact hf x hx)
    simp at this
    omega
theorem inv_of_fin {P : El t → Prop} (h1 : P 1) (hm : ∀ a b, P a → P b → P (a * b)) : Gp.IsSub P := by
  refine ⟨h1, hm, fun a ha => ?_⟩
  have nd : (mem n fun k => ∃ h : k < n, P ⟨k, h⟩).Nodup := (mem_asc _ _).imp fun h => Nat.ne_of_lt h
  obtain ⟨k, hk, e⟩ := list_onto nd (f := m a.val) (fun x hx => by
    obtain ⟨h, hP⟩ := (mem_iff.mp hx).2
    exact mem_iff.mpr ⟨t.cl _ _ a.lt h, t.cl _ _ a.lt h, hm a ⟨x, h⟩ ha hP⟩) (fun x hx y hy e => t.lc _ _ _ a.lt (mem_lt hx) (mem_lt hy) e) (y := 0) (mem_iff.mpr ⟨t.pos, t.pos, h1⟩)
  obtain ⟨h, hP⟩ := (mem_iff.mp hk).2
  have : a⁻¹ = ⟨k, h⟩ := Gp.inv_eq (El.ext e)
  rw [this]
  exact hP
theorem cl_sub (M : El t → Prop) : Gp.IsSub (Gp.Cl M) := inv_of_fin .one fun _ _ a b => a.mul b
/-- a list that holds a subgroup, ascending -/
structure SubL (t : Tb n m) (S : List Nat) : Prop where
  lt : ∀ x ∈ S, x < n
  asc : S.Pairwise (· < ·)
  sub : Gp.IsSub (In t S)
theorem clo_sub {M : List Nat} (hM : ∀ x ∈ M, x < n) : SubL t (clo n m M) := by
  have e : In t (clo n m M) = Gp.Cl (In t M) := by
    funext x
    exact propext (clo_iff hM x)
  exact ⟨fun x hx => mem_lt hx, mem_asc _ _, by rw [e]; exact cl_sub _⟩
theorem SubL.clo {S : List Nat} (s : SubL t S) : clo n m S = S := by
  refine asc_eq (mem_asc _ _) s.asc fun x => ?_
  constructor
  · intro h
    have hx := mem_lt h
    have := (clo_iff (t := t) s.lt ⟨x, hx⟩).mp h
    exact this.least s.sub fun g hg => hg
  · intro h
    exact (clo_iff (t := t) s.lt ⟨x, s.lt x h⟩).mpr (Gp.Cl.gen h)
theorem SubL.zero {S : List Nat} (s : SubL t S) : 0 ∈ S := s.sub.one
theorem SubL.nd {S : List Nat} (s : SubL t S) : S.Nodup := s.asc.imp fun h => Nat.ne_of_lt h
theorem SubL.len {S : List Nat} (s : SubL t S) : S.length ≤ n := nodup_len s.nd s.lt
theorem rng_sub : SubL t (List.range n) := ⟨rng_lt, List.pairwise_lt_range, ⟨List.mem_range.mpr t.pos, fun a b _ _ => List.mem_range.mpr (a * b).lt, fun a _ => List.mem_range.mpr (a⁻¹).lt⟩⟩
theorem one_sub : SubL t [0] := ⟨fun x hx => by
  rw [List.mem_singleton] at hx
  rw [hx]
  exact t.pos, by simp, ⟨List.mem_singleton.mpr rfl, fun a b ha hb => by
    have ea : a = 1 := El.ext (List.mem_singleton.mp ha)
    have eb : b = 1 := El.ext (List.mem_singleton.mp hb)
    rw [ea, eb, Gp.one_mul]
    exact List.mem_singleton.mpr rfl, fun a ha => by
    have ea : a = 1 := El.ext (List.mem_singleton.mp ha)
    rw [ea, Gp.inv_one]
    exact List.mem_singleton.mpr rfl⟩⟩
/-- a proper subgroup has at most half of the members -/
theorem half {A B : List Nat} (a : SubL t A) (b : SubL t B) (h : ∀ x ∈ A, x ∈ B) (ne : A ≠ B) : 2 * A.length ≤ B.length := by
  have ex : ∃ x ∈ B, x ∉ A := by
    by_cases q : ∃ x ∈ B, x ∉ A
    · exact q
    · exact absurd (asc_eq a.asc b.asc fun x => ⟨h x, fun hx => by
        by_cases p : x ∈ A
        · exact p
        · exact absurd ⟨x, hx, p⟩ q⟩) ne
  obtain ⟨x, hxB, hxA⟩ := ex
  have hx := b.lt x hxB
  have nd : (A ++ A.map (m x)).Nodup := by
    rw [List.nodup_append]
    refine ⟨a.nd, ?_, fun u hu v hv e => ?_⟩
    · rw [List.nodup_iff_pairwise_ne, List.pairwise_map]
      exact List.Pairwise.imp_of_mem (fun {u v} hu hv h e => h (t.lc x u v hx (a.lt u hu) (a.lt v hv) e)) (List.nodup_iff_pairwise_ne.mp a.nd)
    · obtain ⟨s, hs, rfl⟩ := List.mem_map.mp hv
      have hsl := a.lt s hs
      have key : In t A ((⟨x, hx⟩ : El t) * ⟨s, hsl⟩ * (⟨s, hsl⟩ : El t)⁻¹) := a.sub.mul _ _ (by
        show m x s ∈ A
        rw [← e]
        exact hu) (a.sub.inv _ hs)
      rw [Gp.mul_assoc, Gp.mul_inv, Gp.mul_one] at key
      exact hxA key
  have := List.Nodup.length_le_of_subset (l₁ := A ++ A.map (m x)) (l₂ := B) nd (fun y hy => by
    rcases List.mem_append.mp hy with hy | hy
    · exact h y hy
    · obtain ⟨s, hs, rfl⟩ := List.mem_map.mp hy
      exact b.sub.mul ⟨x, hx⟩ ⟨s, a.lt s hs⟩ hxB (h s hs))
  rw [List.length_append, List.length_map] at this
  omega
theorem mem_comL {A B : List Nat} (hA : ∀ x ∈ A, x < n) (hB : ∀ x ∈ B, x < n) (z : El t) : z.val ∈ comL n m A B ↔ ∃ a b : El t, a.val ∈ A ∧ b.val ∈ B ∧ Gp.com a b = z := by
  unfold comL
  rw [mem_iff]
  constructor
  · rintro ⟨_, a, ha, b, hb, e⟩
    exact ⟨⟨a, hA a ha⟩, ⟨b, hB b hb⟩, ha, hb, El.ext (by rw [val_com]; exact e)⟩
  · rintro ⟨a, b, ha, hb, rfl⟩
    exact ⟨(Gp.com a b).lt, a.val, ha, b.val, hb, (val_com a b).symm⟩
theorem comL_lt {A B : List Nat} : ∀ x ∈ comL n m A B, x < n := fun x hx => mem_lt hx
theorem comL_mono {A A' B B' : List Nat} (hA : ∀ x ∈ A, x ∈ A') (hB : ∀ x ∈ B, x ∈ B') : ∀ x ∈ comL n m A B, x ∈ comL n m A' B' := fun x hx => by
  obtain ⟨h, a, ha, b, hb, e⟩ := mem_iff.mp hx
  exact mem_iff.mpr ⟨h, a, hA a ha, b, hB b hb, e⟩
theorem Rch.mono {M M' : List Nat} (h : ∀ x ∈ M, x ∈ M') : ∀ {x : Nat}, Rch m M x → Rch m M' x
  | _, .zero => .zero
  | _, .step r q => .step (r.mono h) (h _ q)
theorem clo_mono {M M' : List Nat} (h : ∀ x ∈ M, x ∈ M') : ∀ x ∈ clo n m M, x ∈ clo n m M' := fun x hx => by
  obtain ⟨a, b⟩ := clo_mem.mp hx
  exact clo_mem.mpr ⟨a, b.mono h⟩
theorem clo_in {M S : List Nat} (s : SubL t S) (h : ∀ x ∈ M, x ∈ S) : ∀ x ∈ clo n m M, x ∈ S := fun x hx => by
  have := clo_mono h x hx
  rw [s.clo] at this
  exact this
/-! ### rows that end soon -/
theorem row_cons {F : List Nat → List Nat} {a : List Nat} {rw_ : List (List Nat)} (h : IsRow F (F a) rw_) (ne : F a ≠ a) : IsRow F a (a :: rw_) := by
  refine ⟨rfl, fun k x y hx hy => ?_, fun x hx => ?_⟩
  · cases k with
    | zero =>
      have ex : a = x := Option.some.inj hx
      subst ex
      have e := h.z
      have hy' : rw_[0]? = some y := hy
      rw [e] at hy'
      cases hy'
      exact ⟨rfl, ne⟩
    | succ k => exact h.nx k x y hx hy
  · have hp := h.pos
    have e : (a :: rw_).length - 1 = (rw_.length - 1) + 1 := by
      rw [List.length_cons]
      omega
    rw [e] at hx
    exact h.st x hx
theorem row_one {F : List Nat → List Nat} {a : List Nat} (h : F a = a) : IsRow F a [a] := ⟨rfl, fun k x y hx hy => by
  have := (List.getElem?_eq_some_iff.mp hy).1
  simp at this, fun x hx => by
  have : a = x := Option.some.inj hx
  subst this
  exact h⟩
/-- downwards -/
theorem row_down {F : List Nat → List Nat} {good : List Nat → Prop} (hs : ∀ S, good S → SubL t S ∧ (∀ x ∈ F S, x ∈ S) ∧ good (F S)) : ∀ (k : Nat) (S : List Nat), good S → S.length < 2 ^ k → ∃ rw_, IsRow F S rw_ ∧ rw_.length ≤ k
  | 0, S, g, h => by
    have h1 := List.length_pos_of_mem (hs S g).1.zero
    rw [Nat.pow_zero] at h
    omega
  | k + 1, S, g, h => by
    obtain ⟨s, hd, g'⟩ := hs S g
    by_cases e : F S = S
    · exact ⟨[S], row_one e, by simp⟩
    · have hh := half (hs _ g').1 s hd e
      obtain ⟨rw_, h1, h2⟩ := row_down hs k (F S) g' (by rw [Nat.pow_succ] at h; omega)
      exact ⟨S :: rw_, row_cons h1 e, by rw [List.length_cons]; omega⟩
/-- upwards -/
theorem row_up {F : List Nat → List Nat} {good : List Nat → Prop} (hs : ∀ S, good S → SubL t S ∧ (∀ x ∈ S, x ∈ F S) ∧ good (F S)) : ∀ (k : Nat) (S : List Nat), good S → n < S.length * 2 ^ k → ∃ rw_, IsRow F S rw_ ∧ rw_.length ≤ k
  | 0, S, g, h => by
    have h1 := (hs S g).1.len
    rw [Nat.pow_zero] at h
    omega
  | k + 1, S, g, h => by
    obtain ⟨s, hd, g'⟩ := hs S g
    by_cases e : F S = S
    · exact ⟨[S], row_one e, by simp⟩
    · have hh := half s (hs _ g').1 hd (Ne.symm e)
      obtain ⟨rw_, h1, h2⟩ := row_up hs k (F S) g' (by
        have := Nat.mul_le_mul_right (2 ^ k) hh
        rw [Nat.pow_succ] at h
        rw [Nat.mul_comm 2, Nat.mul_assoc, Nat.mul_comm 2] at this
        omega)
      exact ⟨S :: rw_, row_cons h1 e, by rw [List.length_cons]; omega⟩
theorem low_row (t : Tb n m) (hn : n < 64) : ∃ rw_, IsRow (lF n m) (List.range n) rw_ ∧ rw_.length ≤ 9 := by
  obtain ⟨r, h1, h2⟩ := row_down (t := t) (F := lF n m) (good := fun S => SubL t S ∧ ∀ x ∈ lF n m S, x ∈ S) (fun S g => ⟨g.1, g.2, clo_sub comL_lt, clo_mono (comL_mono (fun _ h => h) g.2)⟩) 6 (List.range n) ⟨rng_sub, fun x hx => List.mem_range.mpr (mem_lt hx)⟩ (by simpa using hn)
  exact ⟨r, h1, by omega⟩
theorem der_in {S : List Nat} (s : SubL t S) : ∀ x ∈ dF n m S, x ∈ S := clo_in s fun x hx => by
  have hx' := mem_lt hx
  obtain ⟨a, b, ha, hb, e⟩ := (mem_comL (t := t) s.lt s.lt ⟨x, hx'⟩).mp hx
  have := s.sub.com (a := a) (b := b) ha hb
  rw [e] at this
  exact this
theorem der_row (t : Tb n m) (hn : n < 64) : ∃ rw_, IsRow (dF n m) (List.range n) rw_ ∧ rw_.length ≤ 9 := by
  obtain ⟨r, h1, h2⟩ := row_down (t := t) (F := dF n m) (good := SubL t) (fun S g => ⟨g, der_in g, clo_sub comL_lt⟩) 6 (List.range n) rng_sub (by simpa using hn)
  exact ⟨r, h1, by omega⟩
structure NorL (t : Tb n m) (S : List Nat) : Prop where
  lt : ∀ x ∈ S, x < n
  asc : S.Pairwise (· < ·)
  nor : Gp.IsNor (In t S)
theorem NorL.sub {S : List Nat} (s : NorL t S) : SubL t S := ⟨s.lt, s.asc, s.nor.toIsSub⟩
theorem cen_iff (S : List Nat) (a : El t) : a.val ∈ cenL n m S ↔ Gp.Cen (In t S) a := by
  unfold cenL
  rw [mem_iff]
  constructor
  · rintro ⟨_, h⟩ b
    show (Gp.com a b).val ∈ S
    rw [val_com]
    exact h b.val b.lt
  · intro h
    refine ⟨a.lt, fun b hb => ?_⟩
    have := h ⟨b, hb⟩
    show cm n m a.val b ∈ S
    rw [← val_com a ⟨b, hb⟩]
    exact this
theorem cen_norL {S : List Nat} (s : NorL t S) : NorL t (cenL n m S) ∧ ∀ x ∈ S, x ∈ cenL n m S := by
  have e : In t (cenL n m S) = Gp.Cen (In t S) := by
    funext x
    exact propext (cen_iff S x)
  obtain ⟨h1, h2⟩ := Gp.cen_nor s.nor
  exact ⟨⟨fun x hx => mem_lt hx, mem_asc _ _, by rw [e]; exact h1⟩, fun x hx => (cen_iff (t := t) S ⟨x, s.lt x hx⟩).mpr (h2 _ hx)⟩
theorem one_nor : NorL t [0] := ⟨(one_sub (t := t)).lt, by simp, ⟨(one_sub (t := t)).sub, fun a b ha => by
  have ea : a = 1 := El.ext (List.mem_singleton.mp ha)
  rw [ea, Gp.con, Gp.one_mul, Gp.inv_mul]
  exact List.mem_singleton.mpr rfl⟩⟩
theorem up_row (t : Tb n m) (hn : n < 64) : ∃ rw_, IsRow (cenL n m) [0] rw_ ∧ rw_.length ≤ 9 := by
  obtain ⟨r, h1, h2⟩ := row_up (t := t) (F := cenL n m) (good := NorL t) (fun S g => ⟨g.sub, (cen_norL g).2, (cen_norL g).1⟩) 6 [0] one_nor (by simpa using hn)
  exact ⟨r, h1, by omega⟩
end
end CM
set_option Elab.async false
set_option linter.all false
set_option maxRecDepth 100000
/-! The product of two tables, and its rows. -/
namespace CM
theorem dm_ext {n2 z w : Nat} (h1 : z / n2 = w / n2) (h2 : z % n2 = w % n2) : z = w := by
  rw [← Nat.div_add_mod z n2, ← Nat.div_add_mod w n2, h1, h2]
theorem dm_div {n2 u v : Nat} (hv : v < n2) : (u * n2 + v) / n2 = u := by
  have h : 0 < n2 := by omega
  rw [Nat.mul_comm, Nat.mul_add_div h, Nat.div_eq_of_lt hv]
  omega
theorem dm_mod {n2 u v : Nat} (hv : v < n2) : (u * n2 + v) % n2 = v := by rw [Nat.mul_comm, Nat.mul_add_mod, Nat.mod_eq_of_lt hv]
theorem dm_lt {n1 n2 u v : Nat} (hu : u < n1) (hv : v < n2) : u * n2 + v < n1 * n2 := by
  have := Nat.mul_le_mul_right n2 hu
  rw [Nat.succ_mul] at this
  omega
section
variable {n1 n2 : Nat} {m1 m2 : Op}
theorem d_lt {z : Nat} (hz : z < n1 * n2) : z / n2 < n1 := Nat.div_lt_of_lt_mul (by rw [Nat.mul_comm]; exact hz)
theorem m_lt (t2 : Tb n2 m2) (z : Nat) : z % n2 < n2 := Nat.mod_lt _ t2.pos
theorem pm_div (t2 : Tb n2 m2) (z w : Nat) : pm n2 m1 m2 z w / n2 = m1 (z / n2) (w / n2) := dm_div (t2.cl _ _ (m_lt t2 z) (m_lt t2 w))
theorem pm_mod (t2 : Tb n2 m2) (z w : Nat) : pm n2 m1 m2 z w % n2 = m2 (z % n2) (w % n2) := dm_mod (t2.cl _ _ (m_lt t2 z) (m_lt t2 w))
theorem tb_pm (t1 : Tb n1 m1) (t2 : Tb n2 m2) : Tb (n1 * n2) (pm n2 m1 m2) where
  pos := Nat.mul_pos t1.pos t2.pos
  cl a b ha hb := dm_lt (t1.cl _ _ (d_lt ha) (d_lt hb)) (t2.cl _ _ (m_lt t2 a) (m_lt t2 b))
  idl a ha := dm_ext (by rw [pm_div t2, Nat.zero_div, t1.idl _ (d_lt ha)]) (by rw [pm_mod t2, Nat.zero_mod, t2.idl _ (m_lt t2 a)])
  idr a ha := dm_ext (by rw [pm_div t2, Nat.zero_div, t1.idr _ (d_lt ha)]) (by rw [pm_mod t2, Nat.zero_mod, t2.idr _ (m_lt t2 a)])
  assoc a b c ha hb hc := dm_ext (by rw [pm_div t2, pm_div t2, pm_div t2, pm_div t2, t1.assoc _ _ _ (d_lt ha) (d_lt hb) (d_lt hc)]) (by rw [pm_mod t2, pm_mod t2, pm_mod t2, pm_mod t2, t2.assoc _ _ _ (m_lt t2 a) (m_lt t2 b) (m_lt t2 c)])
  lc a b c ha hb hc e := dm_ext (t1.lc _ _ _ (d_lt ha) (d_lt hb) (d_lt hc) (by rw [← pm_div (m1 := m1) t2, e, pm_div t2])) (t2.lc _ _ _ (m_lt t2 a) (m_lt t2 b) (m_lt t2 c) (by rw [← pm_mod (n2 := n2) (m1 := m1) t2, e, pm_mod t2]))
  rc a b c ha hb hc e := dm_ext (t1.rc _ _ _ (d_lt ha) (d_lt hb) (d_lt hc) (by rw [← pm_div (m1 := m1) t2, e, pm_div t2])) (t2.rc _ _ _ (m_lt t2 a) (m_lt t2 b) (m_lt t2 c) (by rw [← pm_mod (n2 := n2) (m1 := m1) t2, e, pm_mod t2]))
end
/-! ### maps that keep products -/
section
variable {G H : Type} [Gp G] [Gp H] {f : G → H}
theorem hom_one (hf : ∀ a b, f (a * b) = f a * f b) : f 1 = 1 := Gp.cancel (a := f 1) (by rw [← hf, Gp.mul_one, Gp.mul_one])
theorem hom_inv (hf : ∀ a b, f (a * b) = f a * f b) (a : G) : f a⁻¹ = (f a)⁻¹ := (Gp.inv_eq (by rw [← hf, Gp.mul_inv, hom_one hf])).symm
theorem hom_com (hf : ∀ a b, f (a * b) = f a * f b) (a b : G) : f (Gp.com a b) = Gp.com (f a) (f b) := by
  unfold Gp.com
  rw [hf, hf, hf, hom_inv hf, hom_inv hf]
theorem hom_cl (hf : ∀ a b, f (a * b) = f a * f b) {M : G → Prop} {N : H → Prop} (h : ∀ g, M g → Gp.Cl N (f g)) : ∀ {x : G}, Gp.Cl M x → Gp.Cl N (f x)
  | _, .one => by rw [hom_one hf]; exact .one
  | _, .step r q => by rw [hf]; exact (hom_cl hf h r).mul (h _ q)
end
section
variable {n1 n2 : Nat} {m1 m2 : Op} (t1 : Tb n1 m1) (t2 : Tb n2 m2)
def fst (z : El (tb_pm t1 t2)) : El t1 := ⟨z.val / n2, d_lt z.lt⟩
def snd (z : El (tb_pm t1 t2)) : El t2 := ⟨z.val % n2, m_lt t2 _⟩
def prc (a : El t1) (b : El t2) : El (tb_pm t1 t2) := ⟨a.val * n2 + b.val, dm_lt a.lt b.lt⟩
theorem fst_mul (a b : El (tb_pm t1 t2)) : fst t1 t2 (a * b) = fst t1 t2 a * fst t1 t2 b := El.ext (pm_div t2 _ _)
theorem snd_mul (a b : El (tb_pm t1 t2)) : snd t1 t2 (a * b) = snd t1 t2 a * snd t1 t2 b := El.ext (pm_mod t2 _ _)
theorem fst_prc (a : El t1) (b : El t2) : fst t1 t2 (prc t1 t2 a b) = a := El.ext (dm_div b.lt)
theorem snd_prc (a : El t1) (b : El t2) : snd t1 t2 (prc t1 t2 a b) = b := El.ext (dm_mod b.lt)
theorem pr_ext {z w : El (tb_pm t1 t2)} (h1 : fst t1 t2 z = fst t1 t2 w) (h2 : snd t1 t2 z = snd t1 t2 w) : z = w := El.ext (dm_ext (congrArg El.val h1) (congrArg El.val h2))
theorem prc_mul (a a' : El t1) (b b' : El t2) : prc t1 t2 (a * a') (b * b') = prc t1 t2 a b * prc t1 t2 a' b' := pr_ext t1 t2 (by rw [fst_mul t1 t2, fst_prc t1 t2, fst_prc t1 t2, fst_prc t1 t2]) (by rw [snd_mul t1 t2, snd_prc t1 t2, snd_prc t1 t2, snd_prc t1 t2])
theorem mem_pairF {A B : List Nat} (hB : ∀ x ∈ B, x < n2) (z : Nat) : z ∈ pairF n2 A B ↔ z / n2 ∈ A ∧ z % n2 ∈ B := by
  unfold pairF
  rw [List.mem_flatMap]
  constructor
  · rintro ⟨x, hx, h⟩
    obtain ⟨y, hy, rfl⟩ := List.mem_map.mp h
    rw [dm_div (hB y hy), dm_mod (hB y hy)]
    exact ⟨hx, hy⟩
  · rintro ⟨h1, h2⟩
    refine ⟨_, h1, List.mem_map.mpr ⟨_, h2, ?_⟩⟩
    rw [Nat.mul_comm]
    exact Nat.div_add_mod z n2
theorem pairF_asc {A B : List Nat} (hB : ∀ x ∈ B, x < n2) (a : A.Pairwise (· < ·)) (b : B.Pairwise (· < ·)) : (pairF n2 A B).Pairwise (· < ·) := by
  unfold pairF
  rw [List.pairwise_flatMap]
  refine ⟨fun x _ => ?_, a.imp fun {x y} h u hu v hv => ?_⟩
  · rw [List.pairwise_map]
    exact b.imp fun h => by omega
  · obtain ⟨p, hp, rfl⟩ := List.mem_map.mp hu
    obtain ⟨q, hq, rfl⟩ := List.mem_map.mp hv
    have := hB p hp
    have h2 := Nat.mul_le_mul_right n2 (Nat.succ_le_of_lt h)
    rw [Nat.succ_mul] at h2
    omega
theorem pairF_lt {A B : List Nat} (hA : ∀ x ∈ A, x < n1) (hB : ∀ x ∈ B, x < n2) : ∀ z ∈ pairF n2 A B, z < n1 * n2 := fun z hz => by
  unfold pairF at hz
  obtain ⟨x, hx, h⟩ := List.mem_flatMap.mp hz
  obtain ⟨y, hy, rfl⟩ := List.mem_map.mp h
  exact dm_lt (hA x hx) (hB y hy)
theorem rng_pair (t2 : Tb n2 m2) : List.range (n1 * n2) = pairF n2 (List.range n1) (List.range n2) := asc_eq List.pairwise_lt_range (pairF_asc rng_lt List.pairwise_lt_range List.pairwise_lt_range) fun z => by
  rw [mem_pairF rng_lt, List.mem_range, List.mem_range, List.mem_range]
  exact ⟨fun h => ⟨d_lt h, m_lt t2 z⟩, fun ⟨h, _⟩ => by
    have h3 := dm_lt h (m_lt t2 z)
    rw [Nat.mul_comm (z / n2), Nat.div_add_mod] at h3
    exact h3⟩
theorem comclo {A C B D : List Nat} (hA : ∀ x ∈ A, x < n1) (hC : ∀ x ∈ C, x < n1) (hB : ∀ x ∈ B, x < n2) (hD : ∀ x ∈ D, x < n2) (a0 : 0 ∈ A) (c0 : 0 ∈ C) (b0 : 0 ∈ B) (d0 : 0 ∈ D) (t1 : Tb n1 m1) (t2 : Tb n2 m2) :
    clo (n1 * n2) (pm n2 m1 m2) (comL (n1 * n2) (pm n2 m1 m2) (pairF n2 A B) (pairF n2 C D)) = pairF n2 (clo n1 m1 (comL n1 m1 A C)) (clo n2 m2 (comL n2 m2 B D)) := by
  refine asc_eq (mem_asc _ _) (pairF_asc (fun x hx => mem_lt hx) (mem_asc _ _) (mem_asc _ _)) fun z => ?_
  rw [mem_pairF (B := clo n2 m2 (comL n2 m2 B D)) (fun x hx => mem_lt hx) z]
  constructor
  · intro hz
    have hzl := mem_lt hz
    have c := (clo_iff (t := tb_pm t1 t2) comL_lt ⟨z, hzl⟩).mp hz
    have g : ∀ g : El (tb_pm t1 t2), In (tb_pm t1 t2) (comL (n1 * n2) (pm n2 m1 m2) (pairF n2 A B) (pairF n2 C D)) g → (fst t1 t2 g).val ∈ comL n1 m1 A C ∧ (snd t1 t2 g).val ∈ comL n2 m2 B D := fun g hg => by
      obtain ⟨a, b, ha, hb, rfl⟩ := (mem_comL (pairF_lt hA hB) (pairF_lt hC hD) g).mp hg
      obtain ⟨ha1, ha2⟩ := (mem_pairF hB _).mp ha
      obtain ⟨hb1, hb2⟩ := (mem_pairF hD _).mp hb
      exact ⟨(mem_comL hA hC _).mpr ⟨fst t1 t2 a, fst t1 t2 b, ha1, hb1, (hom_com (fst_mul t1 t2) a b).symm⟩, (mem_comL hB hD _).mpr ⟨snd t1 t2 a, snd t1 t2 b, ha2, hb2, (hom_com (snd_mul t1 t2) a b).symm⟩⟩
    exact ⟨(clo_iff (t := t1) comL_lt (fst t1 t2 ⟨z, hzl⟩)).mpr (hom_cl (fst_mul t1 t2) (fun x hx => Gp.Cl.gen (g x hx).1) c), (clo_iff (t := t2) comL_lt (snd t1 t2 ⟨z, hzl⟩)).mpr (hom_cl (snd_mul t1 t2) (fun x hx => Gp.Cl.gen (g x hx).2) c)⟩
  · rintro ⟨h1, h2⟩
    have k1 := (clo_iff (t := t1) comL_lt ⟨z / n2, mem_lt h1⟩).mp h1
    have k2 := (clo_iff (t := t2) comL_lt ⟨z % n2, mem_lt h2⟩).mp h2
    have i1 : ∀ a b : El t1, prc t1 t2 (a * b) (1 : El t2) = prc t1 t2 a 1 * prc t1 t2 b 1 := fun a b => by rw [← prc_mul t1 t2, Gp.one_mul]
    have i2 : ∀ a b : El t2, prc t1 t2 (1 : El t1) (a * b) = prc t1 t2 1 a * prc t1 t2 1 b := fun a b => by rw [← prc_mul t1 t2, Gp.one_mul]
    have q1 : Gp.Cl (In (tb_pm t1 t2) (comL (n1 * n2) (pm n2 m1 m2) (pairF n2 A B) (pairF n2 C D))) (prc t1 t2 (⟨z / n2, mem_lt h1⟩ : El t1) (1 : El t2)) := hom_cl (f := fun a : El t1 => prc t1 t2 a (1 : El t2)) i1 (fun g hg => by
      obtain ⟨a, b, ha, hb, rfl⟩ := (mem_comL hA hC g).mp hg
      refine Gp.Cl.gen ((mem_comL (pairF_lt hA hB) (pairF_lt hC hD) _).mpr ⟨prc t1 t2 a 1, prc t1 t2 b 1, (mem_pairF hB _).mpr ?_, (mem_pairF hD _).mpr ?_, ?_⟩)
      · exact ⟨by show (fst t1 t2 (prc t1 t2 a (1 : El t2))).val ∈ A; rw [fst_prc t1 t2]; exact ha, by show (snd t1 t2 (prc t1 t2 a (1 : El t2))).val ∈ B; rw [snd_prc t1 t2]; exact b0⟩
      · exact ⟨by show (fst t1 t2 (prc t1 t2 b (1 : El t2))).val ∈ C; rw [fst_prc t1 t2]; exact hb, by show (snd t1 t2 (prc t1 t2 b (1 : El t2))).val ∈ D; rw [snd_prc t1 t2]; exact d0⟩
      · exact (hom_com (f := fun a : El t1 => prc t1 t2 a (1 : El t2)) i1 a b).symm) k1
    have q2 : Gp.Cl (In (tb_pm t1 t2) (comL (n1 * n2) (pm n2 m1 m2) (pairF n2 A B) (pairF n2 C D))) (prc t1 t2 (1 : El t1) (⟨z % n2, mem_lt h2⟩ : El t2)) := hom_cl (f := fun a : El t2 => prc t1 t2 (1 : El t1) a) i2 (fun g hg => by
      obtain ⟨a, b, ha, hb, rfl⟩ := (mem_comL hB hD g).mp hg
      refine Gp.Cl.gen ((mem_comL (pairF_lt hA hB) (pairF_lt hC hD) _).mpr ⟨prc t1 t2 1 a, prc t1 t2 1 b, (mem_pairF hB _).mpr ?_, (mem_pairF hD _).mpr ?_, ?_⟩)
      · exact ⟨by show (fst t1 t2 (prc t1 t2 (1 : El t1) a)).val ∈ A; rw [fst_prc t1 t2]; exact a0, by show (snd t1 t2 (prc t1 t2 (1 : El t1) a)).val ∈ B; rw [snd_prc t1 t2]; exact ha⟩
      · exact ⟨by show (fst t1 t2 (prc t1 t2 (1 : El t1) b)).val ∈ C; rw [fst_prc t1 t2]; exact c0, by show (snd t1 t2 (prc t1 t2 (1 : El t1) b)).val ∈ D; rw [snd_prc t1 t2]; exact hb⟩
      · exact (hom_com (f := fun a : El t2 => prc t1 t2 (1 : El t1) a) i2 a b).symm) k2
    have q := q1.mul q2
    rw [← prc_mul t1 t2, Gp.mul_one, Gp.one_mul] at q
    have e : (prc t1 t2 (⟨z / n2, mem_lt h1⟩ : El t1) (⟨z % n2, mem_lt h2⟩ : El t2)).val = z := by
      show z / n2 * n2 + z % n2 = z
      rw [Nat.mul_comm]
      exact Nat.div_add_mod z n2
    rw [← e]
    exact (clo_iff (t := tb_pm t1 t2) comL_lt _).mpr q
theorem cen_pair {A B : List Nat} (hB : ∀ x ∈ B, x < n2) (a0 : 0 ∈ A) (b0 : 0 ∈ B) (t1 : Tb n1 m1) (t2 : Tb n2 m2) : cenL (n1 * n2) (pm n2 m1 m2) (pairF n2 A B) = pairF n2 (cenL n1 m1 A) (cenL n2 m2 B) := by
  refine asc_eq (mem_asc _ _) (pairF_asc (fun x hx => mem_lt hx) (mem_asc _ _) (mem_asc _ _)) fun z => ?_
  rw [mem_pairF (B := cenL n2 m2 B) (fun x hx => mem_lt hx) z]
  constructor
  · intro hz
    have hzl := mem_lt hz
    have c := (cen_iff (t := tb_pm t1 t2) _ ⟨z, hzl⟩).mp hz
    refine ⟨(cen_iff (t := t1) A (fst t1 t2 ⟨z, hzl⟩)).mpr fun b => ?_, (cen_iff (t := t2) B (snd t1 t2 ⟨z, hzl⟩)).mpr fun b => ?_⟩
    · have h := ((mem_pairF hB _).mp (c (prc t1 t2 b 1))).1
      have e : (fst t1 t2 (Gp.com (⟨z, hzl⟩ : El (tb_pm t1 t2)) (prc t1 t2 b 1))).val ∈ A := h
      rw [hom_com (fst_mul t1 t2), fst_prc t1 t2] at e
      exact e
    · have h := ((mem_pairF hB _).mp (c (prc t1 t2 1 b))).2
      have e : (snd t1 t2 (Gp.com (⟨z, hzl⟩ : El (tb_pm t1 t2)) (prc t1 t2 1 b))).val ∈ B := h
      rw [hom_com (snd_mul t1 t2), snd_prc t1 t2] at e
      exact e
  · rintro ⟨h1, h2⟩
    have k1 := (cen_iff (t := t1) A ⟨z / n2, mem_lt h1⟩).mp h1
    have k2 := (cen_iff (t := t2) B ⟨z % n2, mem_lt h2⟩).mp h2
    have hzl : z < n1 * n2 := by
      have h3 := dm_lt (mem_lt h1) (mem_lt h2)
      rw [Nat.mul_comm (z / n2), Nat.div_add_mod] at h3
      exact h3
    refine (cen_iff (t := tb_pm t1 t2) _ ⟨z, hzl⟩).mpr fun b => (mem_pairF hB _).mpr ⟨?_, ?_⟩
    · show (fst t1 t2 (Gp.com (⟨z, hzl⟩ : El (tb_pm t1 t2)) b)).val ∈ A
      rw [hom_com (fst_mul t1 t2)]
      exact k1 (fst t1 t2 b)
    · show (snd t1 t2 (Gp.com (⟨z, hzl⟩ : El (tb_pm t1 t2)) b)).val ∈ B
      rw [hom_com (snd_mul t1 t2)]
      exact k2 (snd t1 t2 b)
end
/-! ### the members of a row, however far -/
theorem endF_zero {F : List Nat → List Nat} {x : List Nat} {r : List (List Nat)} (h : IsRow F x r) : endF r 0 = x := by
  have := endF_at h.pos 0
  rw [Nat.zero_min, h.z] at this
  exact (Option.some.inj this).symm
theorem endF_succ {F : List Nat → List Nat} {x : List Nat} {r : List (List Nat)} (h : IsRow F x r) (k : Nat) : endF r (k + 1) = F (endF r k) ∧ (k + 1 < r.length → endF r (k + 1) ≠ endF r k) := by
  have hp := h.pos
  have a := endF_at hp k
  have b := endF_at hp (k + 1)
  by_cases q : k + 1 < r.length
  · rw [Nat.min_eq_left (by omega)] at a b
    obtain ⟨e1, e2⟩ := h.nx k _ _ a b
    exact ⟨e1.symm, fun _ => e2⟩
  · rw [show min k (r.length - 1) = r.length - 1 by omega] at a
    rw [show min (k + 1) (r.length - 1) = r.length - 1 by omega] at b
    have e : endF r (k + 1) = endF r k := Option.some.inj (b.symm.trans a)
    exact ⟨by rw [e, h.st _ a], fun z => absurd z q⟩
theorem row_pair {n2 : Nat} {F F1 F2 : List Nat → List Nat} {x1 x2 : List Nat} {r1 r2 : List (List Nat)} {g1 g2 : List Nat → Prop} (h1 : IsRow F1 x1 r1) (h2 : IsRow F2 x2 r2) (s1 : g1 x1) (s2 : g2 x2) (c1 : ∀ a, g1 a → g1 (F1 a)) (c2 : ∀ a, g2 a → g2 (F2 a))
    (hF : ∀ a b, g1 a → g2 b → F (pairF n2 a b) = pairF n2 (F1 a) (F2 b)) (inj : ∀ a b a' b', g1 a → g2 b → g1 a' → g2 b' → pairF n2 a b = pairF n2 a' b' → a = a' ∧ b = b') : IsRow F (pairF n2 x1 x2) (pairsF r1 r2 n2) := by
  have G1 : ∀ k, g1 (endF r1 k) := fun k => by
    induction k with
    | zero => rw [endF_zero h1]; exact s1
    | succ k ih => rw [(endF_succ h1 k).1]; exact c1 _ ih
  have G2 : ∀ k, g2 (endF r2 k) := fun k => by
    induction k with
    | zero => rw [endF_zero h2]; exact s2
    | succ k ih => rw [(endF_succ h2 k).1]; exact c2 _ ih
  have hp1 := h1.pos
  have hp2 := h2.pos
  have hget : ∀ k, k < max r1.length r2.length → (pairsF r1 r2 n2)[k]? = some (pairF n2 (endF r1 k) (endF r2 k)) := fun k hk => by
    unfold pairsF
    rw [List.getElem?_map, List.getElem?_range hk]
    rfl
  have hlen : (pairsF r1 r2 n2).length = max r1.length r2.length := by simp [pairsF]
  refine ⟨by rw [hget 0 (by omega), endF_zero h1, endF_zero h2], fun k a b ha hb => ?_, fun a ha => ?_⟩
  · have hk := (List.getElem?_eq_some_iff.mp hb).1
    rw [hlen] at hk
    rw [hget k (by omega)] at ha
    rw [hget (k + 1) hk] at hb
    cases ha
    cases hb
    refine ⟨by rw [hF _ _ (G1 k) (G2 k), (endF_succ h1 k).1, (endF_succ h2 k).1], fun e => ?_⟩
    obtain ⟨e1, e2⟩ := inj _ _ _ _ (G1 _) (G2 _) (G1 _) (G2 _) e
    by_cases q : k + 1 < r1.length
    · exact (endF_succ h1 k).2 q e1
    · exact (endF_succ h2 k).2 (by omega) e2
  · rw [hlen, hget _ (by omega)] at ha
    cases ha
    rw [hF _ _ (G1 _) (G2 _)]
    have a1 := endF_at hp1 (max r1.length r2.length - 1)
    have a2 := endF_at hp2 (max r1.length r2.length - 1)
    rw [show min (max r1.length r2.length - 1) (r1.length - 1) = r1.length - 1 by omega] at a1
    rw [show min (max r1.length r2.length - 1) (r2.length - 1) = r2.length - 1 by omega] at a2
    rw [h1.st _ a1, h2.st _ a2]
/-- what the members of rows keep -/
structure Ok0 (n : Nat) (a : List Nat) : Prop where
  lt : ∀ x ∈ a, x < n
  asc : a.Pairwise (· < ·)
  z : 0 ∈ a
theorem pairF_inj {n2 : Nat} {a b a' b' : List Nat} {n1 : Nat} (ha : Ok0 n1 a) (hb : Ok0 n2 b) (ha' : Ok0 n1 a') (hb' : Ok0 n2 b') (e : pairF n2 a b = pairF n2 a' b') : a = a' ∧ b = b' := by
  have m : ∀ z, (z / n2 ∈ a ∧ z % n2 ∈ b) ↔ (z / n2 ∈ a' ∧ z % n2 ∈ b') := fun z => by rw [← mem_pairF hb.lt, ← mem_pairF hb'.lt, e]
  have hn : 0 < n2 := hb.lt 0 hb.z
  have ea : ∀ x, (x ∈ a ∧ 0 ∈ b) ↔ (x ∈ a' ∧ 0 ∈ b') := fun x => by
    have := m (x * n2 + 0)
    rwa [dm_div hn, dm_mod hn] at this
  have eb : ∀ y, y < n2 → ((0 ∈ a ∧ y ∈ b) ↔ (0 ∈ a' ∧ y ∈ b')) := fun y hy => by
    have := m (0 * n2 + y)
    rwa [dm_div hy, dm_mod hy] at this
  exact ⟨asc_eq ha.asc ha'.asc fun x => ⟨fun h => ((ea x).mp ⟨h, hb.z⟩).1, fun h => ((ea x).mpr ⟨h, hb'.z⟩).1⟩, asc_eq hb.asc hb'.asc fun y => ⟨fun h => ((eb y (hb.lt y h)).mp ⟨ha.z, h⟩).2, fun h => ((eb y (hb'.lt y h)).mpr ⟨ha'.z, h⟩).2⟩⟩
theorem ok_clo {n : Nat} {m : Op} (t : Tb n m) (M : List Nat) : Ok0 n (clo n m M) := ⟨fun x hx => mem_lt hx, mem_asc _ _, clo_ne t.pos⟩
theorem ok_rng {n : Nat} (h : 0 < n) : Ok0 n (List.range n) := ⟨rng_lt, List.pairwise_lt_range, List.mem_range.mpr h⟩
theorem ok_one {n : Nat} (h : 0 < n) : Ok0 n [0] := ⟨fun x hx => by
  rw [List.mem_singleton] at hx
  omega, by simp, by simp⟩
theorem ok_cen {n : Nat} {m : Op} (t : Tb n m) {S : List Nat} (h : Ok0 n S) : Ok0 n (cenL n m S) := ⟨fun x hx => mem_lt hx, mem_asc _ _, (cen_iff (t := t) S 1).mpr fun b => by
  rw [Gp.com_one]
  exact h.z⟩
section
variable {n1 n2 : Nat} {m1 m2 : Op} {rl1 rl2 : List (List Nat)}
theorem low_pair (t1 : Tb n1 m1) (t2 : Tb n2 m2) (h1 : IsRow (lF n1 m1) (List.range n1) rl1) (h2 : IsRow (lF n2 m2) (List.range n2) rl2) : IsRow (lF (n1 * n2) (pm n2 m1 m2)) (List.range (n1 * n2)) (pairsF rl1 rl2 n2) := by
  rw [rng_pair t2]
  refine row_pair (g1 := Ok0 n1) (g2 := Ok0 n2) h1 h2 (ok_rng t1.pos) (ok_rng t2.pos) (fun a _ => ok_clo t1 _) (fun a _ => ok_clo t2 _) (fun a b ha hb => ?_) fun a b a' b' => pairF_inj
  unfold lF
  rw [rng_pair t2]
  exact comclo rng_lt ha.lt rng_lt hb.lt (List.mem_range.mpr t1.pos) ha.z (List.mem_range.mpr t2.pos) hb.z t1 t2
theorem der_pair (t1 : Tb n1 m1) (t2 : Tb n2 m2) (h1 : IsRow (dF n1 m1) (List.range n1) rl1) (h2 : IsRow (dF n2 m2) (List.range n2) rl2) : IsRow (dF (n1 * n2) (pm n2 m1 m2)) (List.range (n1 * n2)) (pairsF rl1 rl2 n2) := by
  rw [rng_pair t2]
  refine row_pair (g1 := Ok0 n1) (g2 := Ok0 n2) h1 h2 (ok_rng t1.pos) (ok_rng t2.pos) (fun a _ => ok_clo t1 _) (fun a _ => ok_clo t2 _) (fun a b ha hb => ?_) fun a b a' b' => pairF_inj
  exact comclo ha.lt ha.lt hb.lt hb.lt ha.z ha.z hb.z hb.z t1 t2
theorem up_pair (t1 : Tb n1 m1) (t2 : Tb n2 m2) (h1 : IsRow (cenL n1 m1) [0] rl1) (h2 : IsRow (cenL n2 m2) [0] rl2) : IsRow (cenL (n1 * n2) (pm n2 m1 m2)) [0] (pairsF rl1 rl2 n2) := by
  have e : [0] = pairF n2 [0] [0] := by simp [pairF]
  rw [e]
  exact row_pair (g1 := Ok0 n1) (g2 := Ok0 n2) h1 h2 (ok_one t1.pos) (ok_one t2.pos) (fun a ha => ok_cen t1 ha) (fun a ha => ok_cen t2 ha) (fun a b ha hb => cen_pair hb.lt ha.z hb.z t1 t2) fun a b a' b' => pairF_inj
end
/-! ### commutators of upper and lower rows -/
section
variable {n : Nat} {m : Op} {U L : List (List Nat)}
theorem up_Zs (t : Tb n m) (h : IsRow (cenL n m) [0] U) : ∀ (k : Nat) (a : El t), a.val ∈ endF U k ↔ Gp.Zs k a
  | 0, a => by
    rw [endF_zero h, List.mem_singleton]
    exact ⟨fun e => El.ext e, fun e => by
      have e' : a = 1 := e
      rw [e'] <;> rfl⟩
  | k + 1, a => by
    rw [(endF_succ h k).1, cen_iff (t := t)]
    have e : In t (endF U k) = Gp.Zs k := by
      funext x
      exact propext (up_Zs t h k x)
    rw [e]
    rfl
theorem low_Ls (t : Tb n m) (h : IsRow (lF n m) (List.range n) L) : ∀ (k : Nat) (a : El t), a.val ∈ endF L k ↔ Gp.Ls k a
  | 0, a => by
    rw [endF_zero h, List.mem_range]
    exact ⟨fun _ => trivial, fun _ => a.lt⟩
  | k + 1, a => by
    have hlt : ∀ x ∈ endF L k, x < n := by
      cases k with
      | zero => rw [endF_zero h]; exact rng_lt
      | succ k => rw [(endF_succ h k).1]; exact fun x hx => mem_lt hx
    rw [(endF_succ h k).1, lF, clo_iff (t := t) comL_lt]
    have e : In t (comL n m (List.range n) (endF L k)) = fun x => ∃ g y, Gp.Ls k y ∧ Gp.com g y = x := by
      funext x
      apply propext
      show x.val ∈ _ ↔ _
      rw [mem_comL rng_lt hlt]
      exact ⟨fun ⟨g, y, _, hy, e⟩ => ⟨g, y, (low_Ls t h k y).mp hy, e⟩, fun ⟨g, y, hy, e⟩ => ⟨g, y, List.mem_range.mpr g.lt, (low_Ls t h k y).mpr hy, e⟩⟩
    rw [e]
    rfl
theorem com_told (t : Tb n m) (hU : IsRow (cenL n m) [0] U) (hL : IsRow (lF n m) (List.range n) L) (i j : Nat) (hij : j ≤ i) : ∀ x ∈ comL n m (endF U i) (endF L (max j 1 - 1)), x ∈ endF U (i - j) := fun x hx => by
  have hxl := mem_lt hx
  have hUl : ∀ k, ∀ x ∈ endF U k, x < n := fun k => by
    cases k with
    | zero => rw [endF_zero hU]; exact (ok_one t.pos).lt
    | succ k => rw [(endF_succ hU k).1]; exact fun x hx => mem_lt hx
  have hLl : ∀ k, ∀ x ∈ endF L k, x < n := fun k => by
    cases k with
    | zero => rw [endF_zero hL]; exact rng_lt
    | succ k => rw [(endF_succ hL k).1]; exact fun x hx => mem_lt hx
  obtain ⟨a, b, ha, hb, e⟩ := (mem_comL (t := t) (hUl _) (hLl _) ⟨x, hxl⟩).mp hx
  have ha' := (up_Zs t hU i a).mp ha
  have hb' := (low_Ls t hL _ b).mp hb
  refine (up_Zs t hU (i - j) ⟨x, hxl⟩).mpr ?_
  rw [← e]
  by_cases j0 : j = 0
  · subst j0
    cases i with
    | zero =>
      have ea : a = 1 := ha'
      show Gp.com a b = 1
      rw [ea, Gp.com_one]
    | succ i => exact Gp.Zs_up i _ (ha' b)
  · refine Gp.com_rows (max j 1 - 1) (i - j) a ?_ b hb'
    rw [show i - j + (max j 1 - 1) + 1 = i by omega]
    exact ha'
end
end CM
set_option Elab.async false
set_option linter.all false
set_option maxRecDepth 100000
/-! Subgroups' tables, normal closures, quotients. -/
namespace CM
/-- a table that stands in another -/
theorem tb_of_inj {n k : Nat} {m op : Op} (t : Tb n m) (f : Nat → Nat) (hk : 0 < k) (hf : ∀ i, i < k → f i < n) (inj : ∀ i j, i < k → j < k → f i = f j → i = j) (h0 : f 0 = 0) (cl : ∀ i j, i < k → j < k → op i j < k) (hom : ∀ i j, i < k → j < k → f (op i j) = m (f i) (f j)) : Tb k op where
  pos := hk
  cl := cl
  idl a ha := inj _ _ (cl _ _ hk ha) ha (by rw [hom _ _ hk ha, h0, t.idl _ (hf a ha)])
  idr a ha := inj _ _ (cl _ _ ha hk) ha (by rw [hom _ _ ha hk, h0, t.idr _ (hf a ha)])
  assoc a b c ha hb hc := inj _ _ (cl _ _ (cl _ _ ha hb) hc) (cl _ _ ha (cl _ _ hb hc)) (by rw [hom _ _ (cl _ _ ha hb) hc, hom _ _ ha hb, hom _ _ ha (cl _ _ hb hc), hom _ _ hb hc, t.assoc _ _ _ (hf a ha) (hf b hb) (hf c hc)])
  lc a b c ha hb hc e := inj _ _ hb hc (t.lc _ _ _ (hf a ha) (hf b hb) (hf c hc) (by rw [← hom _ _ ha hb, e, hom _ _ ha hc]))
  rc a b c ha hb hc e := inj _ _ hb hc (t.rc _ _ _ (hf a ha) (hf b hb) (hf c hc) (by rw [← hom _ _ hb ha, e, hom _ _ hc ha]))
/-- a picture of a table -/
theorem tb_of_surj {n q : Nat} {m op : Op} (t : Tb n m) (f : Nat → Nat) (hf : ∀ x, x < n → f x < q) (h0 : f 0 = 0) (sur : ∀ i, i < q → ∃ x, x < n ∧ f x = i) (hom : ∀ x y, x < n → y < n → f (m x y) = op (f x) (f y)) : Tb q op := by
  have inv : ∀ x y, x < n → y < n → op (f (iv n m x)) (op (f x) (f y)) = f y := fun x y hx hy => by
    rw [← hom _ _ hx hy, ← hom _ _ (t.iv_lt hx) (t.cl _ _ hx hy), ← t.assoc _ _ _ (t.iv_lt hx) hx hy, t.iv_mul hx, t.idl _ hy]
  have invr : ∀ x y, x < n → y < n → op (op (f y) (f x)) (f (iv n m x)) = f y := fun x y hx hy => by
    rw [← hom _ _ hy hx, ← hom _ _ (t.cl _ _ hy hx) (t.iv_lt hx), t.assoc _ _ _ hy hx (t.iv_lt hx), t.mul_iv hx, t.idr _ hy]
  refine ⟨Nat.lt_of_le_of_lt (Nat.zero_le _) (hf 0 t.pos), fun a b ha hb => ?_, fun a ha => ?_, fun a ha => ?_, fun a b c ha hb hc => ?_, fun a b c ha hb hc e => ?_, fun a b c ha hb hc e => ?_⟩
  · obtain ⟨x, hx, rfl⟩ := sur a ha
    obtain ⟨y, hy, rfl⟩ := sur b hb
    rw [← hom _ _ hx hy]
    exact hf _ (t.cl _ _ hx hy)
  · obtain ⟨x, hx, rfl⟩ := sur a ha
    have := hom 0 x t.pos hx
    rw [t.idl _ hx, h0] at this
    exact this.symm
  · obtain ⟨x, hx, rfl⟩ := sur a ha
    have := hom x 0 hx t.pos
    rw [t.idr _ hx, h0] at this
    exact this.symm
  · obtain ⟨x, hx, rfl⟩ := sur a ha
    obtain ⟨y, hy, rfl⟩ := sur b hb
    obtain ⟨z, hz, rfl⟩ := sur c hc
    rw [← hom _ _ hx hy, ← hom _ _ (t.cl _ _ hx hy) hz, ← hom _ _ hy hz, ← hom _ _ hx (t.cl _ _ hy hz), t.assoc _ _ _ hx hy hz]
  · obtain ⟨x, hx, rfl⟩ := sur a ha
    obtain ⟨y, hy, rfl⟩ := sur b hb
    obtain ⟨z, hz, rfl⟩ := sur c hc
    rw [← inv x y hx hy, e, inv x z hx hz]
  · obtain ⟨x, hx, rfl⟩ := sur a ha
    obtain ⟨y, hy, rfl⟩ := sur b hb
    obtain ⟨z, hz, rfl⟩ := sur c hc
    rw [← invr x y hx hy, e, invr x z hx hz]
/-! ### a map between two tables -/
structure Hm {n q : Nat} {m op : Op} (t : Tb n m) (tq : Tb q op) (f : Nat → Nat) : Prop where
  lt : ∀ x, x < n → f x < q
  hom : ∀ x y, x < n → y < n → f (m x y) = op (f x) (f y)
section
variable {n q : Nat} {m op : Op} {t : Tb n m} {tq : Tb q op} {f : Nat → Nat}
def Hm.map (h : Hm t tq f) (x : El t) : El tq := ⟨f x.val, h.lt _ x.lt⟩
theorem Hm.mul (h : Hm t tq f) (a b : El t) : h.map (a * b) = h.map a * h.map b := El.ext (h.hom _ _ a.lt b.lt)
/-- closures of commutators go into closures of commutators -/
theorem Hm.into (h : Hm t tq f) {A B A' B' : List Nat} (hA : ∀ x ∈ A, x < n) (hB : ∀ x ∈ B, x < n) (hA' : ∀ x ∈ A', x < q) (hB' : ∀ x ∈ B', x < q) (fA : ∀ x ∈ A, f x ∈ A') (fB : ∀ x ∈ B, f x ∈ B') : ∀ x ∈ clo n m (comL n m A B), f x ∈ clo q op (comL q op A' B') := fun x hx => by
  have hxl := mem_lt hx
  have c := (clo_iff (t := t) comL_lt ⟨x, hxl⟩).mp hx
  refine (clo_iff (t := tq) comL_lt (h.map ⟨x, hxl⟩)).mpr (hom_cl h.mul (fun g hg => ?_) c)
  obtain ⟨a, b, ha, hb, rfl⟩ := (mem_comL hA hB g).mp hg
  exact Gp.Cl.gen ((mem_comL hA' hB' _).mpr ⟨h.map a, h.map b, fA _ ha, fB _ hb, (hom_com h.mul a b).symm⟩)
/-- and are met, where the sets are -/
theorem Hm.onto (h : Hm t tq f) {A B A' B' : List Nat} (hA : ∀ x ∈ A, x < n) (hB : ∀ x ∈ B, x < n) (hA' : ∀ x ∈ A', x < q) (hB' : ∀ x ∈ B', x < q) (fA : ∀ y ∈ A', ∃ x ∈ A, f x = y) (fB : ∀ y ∈ B', ∃ x ∈ B, f x = y) : ∀ y ∈ clo q op (comL q op A' B'), ∃ x ∈ clo n m (comL n m A B), f x = y := fun y hy => by
  have hyl := mem_lt hy
  have c := (clo_iff (t := tq) comL_lt ⟨y, hyl⟩).mp hy
  have key : ∀ {z : El tq}, Gp.Cl (In tq (comL q op A' B')) z → ∃ x : El t, Gp.Cl (In t (comL n m A B)) x ∧ h.map x = z := by
    intro z r
    induction r with
    | one => exact ⟨1, .one, hom_one h.mul⟩
    | step r hg ih =>
      rename_i z g
      obtain ⟨x, hx, rfl⟩ := ih
      obtain ⟨a, b, ha, hb, rfl⟩ := (mem_comL hA' hB' _).mp hg
      obtain ⟨a0, ha0, ea⟩ := fA _ ha
      obtain ⟨b0, hb0, eb⟩ := fB _ hb
      have ea' : h.map ⟨a0, hA a0 ha0⟩ = a := El.ext ea
      have eb' : h.map ⟨b0, hB b0 hb0⟩ = b := El.ext eb
      refine ⟨x * Gp.com ⟨a0, hA a0 ha0⟩ ⟨b0, hB b0 hb0⟩, .step hx ((mem_comL hA hB _).mpr ⟨_, _, ha0, hb0, rfl⟩), ?_⟩
      rw [h.mul, hom_com h.mul, ea', eb']
  obtain ⟨x, hx, e⟩ := key c
  exact ⟨x.val, (clo_iff comL_lt x).mpr hx, congrArg El.val e⟩
end
/-! ### subgroups' tables -/
section
variable {n : Nat} {m : Op} {t : Tb n m} {S : List Nat}
theorem getD_mem {l : List Nat} {i : Nat} (h : i < l.length) : l.getD i 0 ∈ l := by
  rw [List.getD_eq_getElem?_getD, List.getElem?_eq_getElem h]
  exact List.getElem_mem h
theorem getD_inj {l : List Nat} (nd : l.Nodup) {i j : Nat} (hi : i < l.length) (hj : j < l.length) (h : l.getD i 0 = l.getD j 0) : i = j := by
  rw [List.getD_eq_getElem?_getD, List.getD_eq_getElem?_getD, List.getElem?_eq_getElem hi, List.getElem?_eq_getElem hj] at h
  have e : l[i]? = l[j]? := by rw [List.getElem?_eq_getElem hi, List.getElem?_eq_getElem hj]; exact congrArg some h
  exact (List.getElem?_inj hi nd).mp e
theorem sb_get (s : SubL t S) {i j : Nat} (hi : i < S.length) (hj : j < S.length) : S.getD (sb m S i j) 0 = m (S.getD i 0) (S.getD j 0) ∧ sb m S i j < S.length := by
  have hm : m (S.getD i 0) (S.getD j 0) ∈ S := s.sub.mul ⟨_, s.lt _ (getD_mem hi)⟩ ⟨_, s.lt _ (getD_mem hj)⟩ (getD_mem hi) (getD_mem hj)
  obtain ⟨h1, _, h3⟩ := idx_at hm
  refine ⟨?_, h3⟩
  unfold sb
  rw [List.getD_eq_getElem?_getD, h1]
  rfl
theorem sub_first (s : SubL t S) : S.getD 0 0 = 0 := by
  have hz := s.zero
  cases S with
  | nil => cases hz
  | cons a r =>
    show a = 0
    rcases List.mem_cons.mp hz with h | h
    · exact h.symm
    · have := (List.pairwise_cons.mp s.asc).1 0 h
      omega
theorem tb_sb (s : SubL t S) : Tb S.length (sb m S) := tb_of_inj t (fun i => S.getD i 0) (List.length_pos_of_mem s.zero) (fun i hi => s.lt _ (getD_mem hi)) (fun i j hi hj e => getD_inj s.nd hi hj e) (sub_first s) (fun i j hi hj => (sb_get s hi hj).2) (fun i j hi hj => (sb_get s hi hj).1)
theorem hm_sb (s : SubL t S) : Hm (tb_sb s) t (fun i => S.getD i 0) := ⟨fun i hi => s.lt _ (getD_mem hi), fun i j hi hj => (sb_get s hi hj).1⟩
theorem row_lt {F : List Nat → List Nat} {N : Nat} {x0 : List Nat} {r : List (List Nat)} (h : IsRow F x0 r) (h0 : ∀ x ∈ x0, x < N) (hF : ∀ a, ∀ x ∈ F a, x < N) (k : Nat) : ∀ x ∈ endF r k, x < N := by
  cases k with
  | zero => rw [endF_zero h]; exact h0
  | succ k => rw [(endF_succ h k).1]; exact hF _
theorem low_sub (s : SubL t S) {rl sl : List (List Nat)} (h : IsRow (lF n m) (List.range n) rl) (hs : IsRow (lF S.length (sb m S)) (List.range S.length) sl) : ∀ k, ∀ x ∈ endF sl k, S.getD x 0 ∈ endF rl k
  | 0 => fun x hx => by
    rw [endF_zero hs] at hx
    rw [endF_zero h]
    exact List.mem_range.mpr (s.lt _ (getD_mem (List.mem_range.mp hx)))
  | k + 1 => by
    have l1 := row_lt h rng_lt (fun a x hx => mem_lt hx) k
    have l2 := row_lt hs rng_lt (fun a x hx => mem_lt hx) k
    rw [(endF_succ hs k).1, (endF_succ h k).1]
    exact (hm_sb s).into rng_lt l2 rng_lt l1 (fun x hx => List.mem_range.mpr (s.lt _ (getD_mem (List.mem_range.mp hx)))) (low_sub s h hs k)
theorem der_sub (s : SubL t S) {rl sl : List (List Nat)} (h : IsRow (dF n m) (List.range n) rl) (hs : IsRow (dF S.length (sb m S)) (List.range S.length) sl) : ∀ k, ∀ x ∈ endF sl k, S.getD x 0 ∈ endF rl k
  | 0 => fun x hx => by
    rw [endF_zero hs] at hx
    rw [endF_zero h]
    exact List.mem_range.mpr (s.lt _ (getD_mem (List.mem_range.mp hx)))
  | k + 1 => by
    have l1 := row_lt h rng_lt (fun a x hx => mem_lt hx) k
    have l2 := row_lt hs rng_lt (fun a x hx => mem_lt hx) k
    rw [(endF_succ hs k).1, (endF_succ h k).1]
    exact (hm_sb s).into l2 l2 l1 l1 (der_sub s h hs k) (der_sub s h hs k)
theorem endF_get {r : List (List Nat)} {k : Nat} (h : k < r.length) : endF r k = r.getD k [] := by
  unfold endF
  rw [Nat.min_eq_left (by omega)]
/-! ### normal closures -/
theorem con_nor (M : List Nat) (hM : ∀ x ∈ M, x < n) : NorL t (clo n m (conL n m M)) := by
  have hlt : ∀ x ∈ conL n m M, x < n := fun x hx => mem_lt hx
  have e : In t (clo n m (conL n m M)) = Gp.Cl (In t (conL n m M)) := by
    funext x
    exact propext (clo_iff hlt x)
  refine ⟨fun x hx => mem_lt hx, mem_asc _ _, ⟨(clo_sub hlt).sub, fun a b ha => ?_⟩⟩
  rw [e] at ha ⊢
  refine Gp.Cl.con (fun g b hg => ?_) b ha
  obtain ⟨_, x, hx, y, hy, e⟩ := mem_iff.mp hg
  have eg : g = Gp.con (⟨x, hM x hx⟩ : El t) ⟨y, hy⟩ := El.ext (by rw [val_con]; exact e.symm)
  refine mem_iff.mpr ⟨(Gp.con g b).lt, x, hx, ((⟨y, hy⟩ : El t) * b).val, ((⟨y, hy⟩ : El t) * b).lt, ?_⟩
  have e2 : Gp.con g b = Gp.con (⟨x, hM x hx⟩ : El t) (⟨y, hy⟩ * b) := by
    rw [eg]
    simp only [Gp.con, Gp.mul_assoc, Gp.mul_inv_rev]
  rw [e2, val_con]
end
/-! ### rows of pictures -/
theorem cut_row {F Fq : List Nat → List Nat} {φ : List Nat → List Nat} {x0 : List Nat} {r : List (List Nat)} (h : IsRow F x0 r) (hφ : ∀ a ∈ r, Fq (φ a) = φ (F a)) : IsRow Fq (φ x0) (cutF (r.map φ)) := by
  have hp := h.pos
  have hget : ∀ k a, r[k]? = some a → (r.map φ).getD k [] = φ a := fun k a e => by rw [List.getD_eq_getElem?_getD, List.getElem?_map, e]; rfl
  have key : ∀ k, k < r.length → (cutTo (r.map φ) k)[0]? = some (φ x0) ∧ (∀ (j : Nat) (a b : List Nat), (cutTo (r.map φ) k)[j]? = some a → (cutTo (r.map φ) k)[j + 1]? = some b → Fq a = b ∧ b ≠ a) ∧ (cutTo (r.map φ) k)[(cutTo (r.map φ) k).length - 1]? = some ((r.map φ).getD k []) := by
    intro k
    induction k with
    | zero =>
      intro _
      have e : cutTo (r.map φ) 0 = [(r.map φ).getD 0 []] := rfl
      rw [e, hget 0 _ h.z]
      refine ⟨rfl, fun j a b _ hb => ?_, rfl⟩
      have := (List.getElem?_eq_some_iff.mp hb).1
      simp at this
    | succ k ih =>
      intro hk
      obtain ⟨i1, i2, i3⟩ := ih (by omega)
      obtain ⟨hl, _⟩ := cutTo_len (r.map φ) k
      have ha := List.getElem?_eq_getElem (show k < r.length by omega)
      have hb := List.getElem?_eq_getElem hk
      have hF : Fq ((r.map φ).getD k []) = (r.map φ).getD (k + 1) [] := by
        rw [hget k _ ha, hget (k + 1) _ hb, hφ _ (List.getElem_mem _), (h.nx k _ _ ha hb).1]
      have elast : (cutTo (r.map φ) k).getLastD [] = (r.map φ).getD k [] := by
        rw [List.getLastD_eq_getLast?, List.getLast?_eq_getElem?, i3]
        rfl
      rw [cutTo]
      split
      · rename_i e
        rw [elast] at e
        refine ⟨i1, i2, ?_⟩
        rw [i3, e]
      · rename_i e
        rw [elast] at e
        refine ⟨by rw [List.getElem?_append_left hl]; exact i1, fun j a b ja jb => ?_, ?_⟩
        · have hj := (List.getElem?_eq_some_iff.mp jb).1
          rw [List.length_append, List.length_singleton] at hj
          by_cases q : j + 1 < (cutTo (r.map φ) k).length
          · rw [List.getElem?_append_left (by omega)] at ja
            rw [List.getElem?_append_left q] at jb
            exact i2 j a b ja jb
          · have ej : j = (cutTo (r.map φ) k).length - 1 := by omega
            rw [List.getElem?_append_left (by omega), ej, i3] at ja
            rw [List.getElem?_append_right (by omega), show j + 1 - (cutTo (r.map φ) k).length = 0 by omega] at jb
            cases ja
            cases jb
            exact ⟨hF, e⟩
        · rw [List.length_append, List.length_singleton, Nat.add_sub_cancel, List.getElem?_append_right (Nat.le_refl _), Nat.sub_self]
          rfl
  obtain ⟨k1, k2, k3⟩ := key (r.length - 1) (by omega)
  have e : cutF (r.map φ) = cutTo (r.map φ) (r.length - 1) := by
    unfold cutF
    rw [List.length_map]
  rw [e]
  refine ⟨k1, fun j a b ja jb => k2 j a b ja jb, fun a ha => ?_⟩
  rw [k3] at ha
  cases ha
  have hl := List.getElem?_eq_getElem (show r.length - 1 < r.length by omega)
  rw [hget _ _ hl, hφ _ (List.getElem_mem _), h.st _ hl]
end CM
set_option Elab.async false
set_option linter.all false
set_option maxRecDepth 100000
/-! Quotients by the helper's picture. -/
namespace CM
section
variable {n : Nat} {m : Op} {t : Tb n m} {S : List Nat}
theorem co_iff (s : NorL t S) (x y : El t) : y.val ∈ coset n m S x.val ↔ In t S (y * x⁻¹) := by
  unfold coset
  rw [mem_iff]
  constructor
  · rintro ⟨_, g, hg, e⟩
    have ey : y = (⟨g, s.lt g hg⟩ : El t) * x := El.ext e.symm
    rw [ey, Gp.mul_assoc, Gp.mul_inv, Gp.mul_one]
    exact hg
  · intro h
    refine ⟨y.lt, (y * x⁻¹).val, h, ?_⟩
    have : y * x⁻¹ * x = y := by rw [Gp.mul_assoc, Gp.inv_mul, Gp.mul_one]
    exact congrArg El.val this
theorem co_self (s : NorL t S) (x : El t) : x.val ∈ coset n m S x.val := (co_iff s x x).mpr (by rw [Gp.mul_inv]; exact s.nor.one)
theorem co_eq (s : NorL t S) {x y : El t} (h : y.val ∈ coset n m S x.val) : coset n m S y.val = coset n m S x.val := by
  have h' := (co_iff s x y).mp h
  refine asc_eq (mem_asc _ _) (mem_asc _ _) fun z => ?_
  constructor
  · intro hz
    have hz' := (co_iff s y ⟨z, mem_lt hz⟩).mp hz
    refine (co_iff s x ⟨z, mem_lt hz⟩).mpr ?_
    have := s.nor.mul _ _ hz' h'
    rw [Gp.mul_assoc, Gp.inv_mul_l] at this
    exact this
  · intro hz
    have hz' := (co_iff s x ⟨z, mem_lt hz⟩).mp hz
    refine (co_iff s y ⟨z, mem_lt hz⟩).mpr ?_
    have := s.nor.mul _ _ hz' (s.nor.inv _ h')
    rw [Gp.mul_inv_rev, Gp.inv_inv, Gp.mul_assoc, Gp.inv_mul_l] at this
    exact this
theorem cosTo_inv (s : NorL t S) : ∀ k, k ≤ n → (∀ c ∈ cosTo n m S k, ∃ x : El t, c = coset n m S x.val) ∧ (∀ x, x < k → x ∈ (cosTo n m S k).flatten) ∧ (cosTo n m S k).Pairwise (fun c d => ∀ y ∈ c, y ∉ d)
  | 0, _ => ⟨(fun c hc => by cases hc), (fun x hx => by omega), List.Pairwise.nil⟩
  | k + 1, hk => by
    obtain ⟨h1, h2, h3⟩ := cosTo_inv s k (by omega)
    rw [cosTo_succ]
    unfold cosStep
    split
    · rename_i hin
      refine ⟨h1, fun x hx => ?_, h3⟩
      by_cases e : x = k
      · exact e ▸ hin
      · exact h2 x (by omega)
    · rename_i hin
      have hkc := co_self s (⟨k, by omega⟩ : El t)
      refine ⟨fun c hc => ?_, fun x hx => ?_, ?_⟩
      · rcases List.mem_append.mp hc with hc | hc
        · exact h1 c hc
        · rw [List.mem_singleton] at hc
          exact ⟨⟨k, by omega⟩, hc⟩
      · rw [List.flatten_append, List.mem_append]
        by_cases e : x = k
        · refine .inr ?_
          subst e
          simpa using hkc
        · exact .inl (h2 x (by omega))
      · rw [List.pairwise_append]
        refine ⟨h3, List.pairwise_singleton _ _, fun c hc d hd y hy hy2 => ?_⟩
        rw [List.mem_singleton] at hd
        subst hd
        obtain ⟨x, rfl⟩ := h1 c hc
        have e1 := co_eq s (x := x) (y := ⟨y, mem_lt hy⟩) hy
        have e2 := co_eq s (x := ⟨k, by omega⟩) (y := ⟨y, mem_lt hy⟩) hy2
        refine hin (List.mem_flatten.mpr ⟨_, hc, ?_⟩)
        rw [← e1, e2]
        exact hkc
theorem cosTo_head (s : NorL t S) : ∀ k, 0 < k → (cosTo n m S k)[0]? = some (coset n m S 0)
  | 0, h => by omega
  | 1, _ => by
    rw [cosTo_succ]
    unfold cosStep
    rw [if_neg (by simp [cosTo])]
    rfl
  | k + 2, _ => by
    have ih := cosTo_head s (k + 1) (by omega)
    rw [cosTo_succ]
    unfold cosStep
    split
    · exact ih
    · rw [List.getElem?_append_left (List.getElem?_eq_some_iff.mp ih).1]
      exact ih
theorem picIn_get : ∀ (c p : List Nat) (k x : Nat), (picIn p k c)[x]? = if x ∈ c ∧ x < p.length then some k else p[x]?
  | [], p, k, x => by simp [picIn]
  | y :: c, p, k, x => by
    have ih := picIn_get c (p.set y k) k x
    have e : picIn p k (y :: c) = picIn (p.set y k) k c := rfl
    rw [e, ih, List.length_set, List.getElem?_set]
    by_cases h2 : x < p.length
    · by_cases h1 : x ∈ c
      · rw [if_pos (c := x ∈ c ∧ x < p.length) ⟨h1, h2⟩, if_pos (c := x ∈ y :: c ∧ x < p.length) ⟨List.mem_cons_of_mem _ h1, h2⟩]
      · rw [if_neg (c := x ∈ c ∧ x < p.length) (fun z => h1 z.1)]
        by_cases h3 : y = x
        · subst h3
          rw [if_pos (c := y = y) rfl, if_pos (c := y < p.length) h2, if_pos (c := y ∈ y :: c ∧ y < p.length) ⟨List.mem_cons_self .., h2⟩]
        · rw [if_neg (c := y = x) h3, if_neg (c := x ∈ y :: c ∧ x < p.length) (fun z => by
            rcases List.mem_cons.mp z.1 with q | q
            · exact h3 q.symm
            · exact h1 q)]
    · rw [if_neg (c := x ∈ c ∧ x < p.length) (fun z => h2 z.2), if_neg (c := x ∈ y :: c ∧ x < p.length) (fun z => h2 z.2), List.getElem?_eq_none (by omega)]
      by_cases h3 : y = x
      · subst h3
        rw [if_pos (c := y = y) rfl, if_neg (c := y < p.length) h2]
      · rw [if_neg (c := y = x) h3]
theorem pic_get {cs : List (List Nat)} (hd : cs.Pairwise (fun c d => ∀ y ∈ c, y ∉ d)) {x i : Nat} (hx : x < n) (hi : i < cs.length) (h : x ∈ cs[i]) : ∀ k, k ≤ cs.length → (picTo n cs k)[x]? = some (if i < k then i else 0)
  | 0, _ => by
    rw [if_neg (by omega), picTo, List.getElem?_replicate, if_pos hx]
  | k + 1, hk => by
    have ih := pic_get hd hx hi h k (by omega)
    have hkl : k < cs.length := by omega
    have eg : cs.getD k [] = cs[k] := by
      rw [List.getD_eq_getElem?_getD, List.getElem?_eq_getElem hkl]
      rfl
    rw [picTo, picIn_get, picTo_len, eg]
    by_cases e : i = k
    · subst e
      rw [if_pos ⟨h, hx⟩, if_pos (by omega)]
    · have hno : x ∉ cs[k] := fun z => by
        rw [List.pairwise_iff_getElem] at hd
        by_cases q : i < k
        · exact hd i k hi hkl q x h z
        · exact hd k i hkl hi (by omega) x z h
      rw [if_neg (fun z => hno z.1), ih]
      by_cases q : i < k
      · rw [if_pos q, if_pos (by omega)]
      · rw [if_neg q, if_neg (by omega)]
/-- the picture's value -/
noncomputable def pf (n : Nat) (m : Op) (S : List Nat) (x : Nat) : Nat := (picL n (cosL n m S)).getD x 0
theorem pf_uniq (s : NorL t S) {x i : Nat} (hx : x < n) (hi : i < (cosL n m S).length) (h : x ∈ (cosL n m S)[i]) : pf n m S x = i := by
  have hd : (cosL n m S).Pairwise (fun c d => ∀ y ∈ c, y ∉ d) := (cosTo_inv s n (Nat.le_refl _)).2.2
  have := pic_get hd hx hi h (cosL n m S).length (Nat.le_refl _)
  unfold pf picL
  rw [List.getD_eq_getElem?_getD, this, if_pos hi]
  rfl
theorem pf_spec (s : NorL t S) {x : Nat} (hx : x < n) : ∃ h : pf n m S x < (cosL n m S).length, x ∈ (cosL n m S)[pf n m S x] := by
  have h2 := (cosTo_inv s n (Nat.le_refl _)).2.1 x hx
  obtain ⟨c, hc, hxc⟩ := List.mem_flatten.mp h2
  obtain ⟨i, hi, e⟩ := List.mem_iff_getElem.mp hc
  subst e
  have := pf_uniq s hx hi hxc
  subst this
  exact ⟨hi, hxc⟩
theorem cos_get (s : NorL t S) {i : Nat} (hi : i < (cosL n m S).length) : ∃ x : El t, (cosL n m S)[i] = coset n m S x.val := (cosTo_inv s n (Nat.le_refl _)).1 _ (List.getElem_mem hi)
theorem pf_eq (s : NorL t S) (x y : El t) : pf n m S x.val = pf n m S y.val ↔ In t S (y * x⁻¹) := by
  obtain ⟨h1, h2⟩ := pf_spec s x.lt
  obtain ⟨g, eg⟩ := cos_get s h1
  rw [eg] at h2
  have e1 := co_eq s h2
  constructor
  · intro e
    obtain ⟨h3, h4⟩ := pf_spec s y.lt
    have : (cosL n m S)[pf n m S y.val] = (cosL n m S)[pf n m S x.val] := by congr 1; exact e.symm
    rw [this, eg, ← e1] at h4
    exact (co_iff s x y).mp h4
  · intro h
    have h5 := (co_iff s x y).mpr h
    rw [e1, ← eg] at h5
    exact (pf_uniq s y.lt h1 h5).symm
theorem pf_hom (s : NorL t S) (x y : El t) : pf n m S (m x.val y.val) = qt m (picL n (cosL n m S)) (cosL n m S) (pf n m S x.val) (pf n m S y.val) := by
  have hd : ∀ x : El t, ∃ h : El t, ((cosL n m S).getD (pf n m S x.val) []).headD 0 = h.val ∧ In t S (h * x⁻¹) := fun x => by
    obtain ⟨h1, h2⟩ := pf_spec s x.lt
    obtain ⟨g, eg⟩ := cos_get s h1
    have e1 : (cosL n m S).getD (pf n m S x.val) [] = coset n m S x.val := by
      rw [List.getD_eq_getElem?_getD, List.getElem?_eq_getElem h1]
      show (cosL n m S)[pf n m S x.val] = _
      rw [eg] at h2 ⊢
      exact (co_eq s h2).symm
    have hself := co_self s x
    rw [e1]
    cases q : coset n m S x.val with
    | nil =>
      rw [q] at hself
      cases hself
    | cons a r =>
      have ha : a ∈ coset n m S x.val := by rw [q]; exact List.mem_cons_self ..
      exact ⟨⟨a, mem_lt ha⟩, rfl, (co_iff s x ⟨a, mem_lt ha⟩).mp ha⟩
  obtain ⟨a, ea, ha⟩ := hd x
  obtain ⟨b, eb, hb⟩ := hd y
  unfold qt
  rw [ea, eb]
  refine (pf_eq s (x * y) (a * b)).mpr ?_
  -- a b y⁻¹ x⁻¹ = (a b y⁻¹ a⁻¹) (a x⁻¹)
  have h1 := s.nor.mul _ _ (s.nor.con _ a⁻¹ hb) ha
  have e : Gp.con (b * y⁻¹) a⁻¹ * (a * x⁻¹) = a * b * (x * y)⁻¹ := by
    simp only [Gp.con, Gp.mul_assoc, Gp.inv_inv, Gp.inv_mul_l, Gp.mul_inv_rev]
  rw [e] at h1
  exact h1
theorem pf_zero (s : NorL t S) : pf n m S 0 = 0 := by
  have hh := cosTo_head s n t.pos
  obtain ⟨hl, e⟩ := List.getElem?_eq_some_iff.mp hh
  exact pf_uniq s t.pos hl (by
    show 0 ∈ (cosTo n m S n)[0]
    rw [e]
    exact co_self s (1 : El t))
theorem pf_sur (s : NorL t S) {i : Nat} (hi : i < (cosL n m S).length) : ∃ x, x < n ∧ pf n m S x = i := by
  obtain ⟨g, eg⟩ := cos_get s hi
  exact ⟨g.val, g.lt, pf_uniq s g.lt hi (by rw [eg]; exact co_self s g)⟩
theorem tb_qt (s : NorL t S) : Tb (cosL n m S).length (qt m (picL n (cosL n m S)) (cosL n m S)) :=
  tb_of_surj t (pf n m S) (fun x hx => (pf_spec s hx).1) (pf_zero s) (fun i hi => pf_sur s hi) fun x y hx hy => pf_hom s ⟨x, hx⟩ ⟨y, hy⟩
theorem hm_qt (s : NorL t S) : Hm t (tb_qt s) (pf n m S) := ⟨fun x hx => (pf_spec s hx).1, fun x y hx hy => pf_hom s ⟨x, hx⟩ ⟨y, hy⟩⟩
theorem mem_pict (c : List Nat) (k : Nat) : k ∈ pictF (picL n (cosL n m S)) c ↔ k < n ∧ ∃ x ∈ c, pf n m S x = k := by
  unfold pictF
  rw [mem_iff, List.mem_map, show (picL n (cosL n m S)).length = n from picTo_len n _ _]
  rfl
theorem q_le : (cosL n m S).length ≤ n := cosTo_len n
theorem pict_lt (s : NorL t S) {c : List Nat} (hc : ∀ x ∈ c, x < n) : ∀ k ∈ pictF (picL n (cosL n m S)) c, k < (cosL n m S).length := fun k hk => by
  obtain ⟨_, x, hx, rfl⟩ := (mem_pict c k).mp hk
  exact (pf_spec s (hc x hx)).1
theorem pict_in (s : NorL t S) {c : List Nat} (hc : ∀ x ∈ c, x < n) {x : Nat} (hx : x ∈ c) : pf n m S x ∈ pictF (picL n (cosL n m S)) c := (mem_pict c _).mpr ⟨Nat.lt_of_lt_of_le (pf_spec s (hc x hx)).1 q_le, x, hx, rfl⟩
theorem pict_clo (s : NorL t S) {A B : List Nat} (hA : ∀ x ∈ A, x < n) (hB : ∀ x ∈ B, x < n) :
    clo (cosL n m S).length (qt m (picL n (cosL n m S)) (cosL n m S)) (comL (cosL n m S).length (qt m (picL n (cosL n m S)) (cosL n m S)) (pictF (picL n (cosL n m S)) A) (pictF (picL n (cosL n m S)) B)) = pictF (picL n (cosL n m S)) (clo n m (comL n m A B)) := by
  refine asc_eq (mem_asc _ _) (mem_asc _ _) fun k => ?_
  rw [mem_pict]
  constructor
  · intro h
    refine ⟨Nat.lt_of_lt_of_le (mem_lt h) q_le, (hm_qt s).onto hA hB (pict_lt s hA) (pict_lt s hB) (fun y hy => ((mem_pict A y).mp hy).2) (fun y hy => ((mem_pict B y).mp hy).2) k h⟩
  · rintro ⟨_, x, hx, rfl⟩
    exact (hm_qt s).into hA hB (pict_lt s hA) (pict_lt s hB) (fun x hx => pict_in s hA hx) (fun x hx => pict_in s hB hx) x hx
theorem pict_rng (s : NorL t S) : List.range (cosL n m S).length = pictF (picL n (cosL n m S)) (List.range n) := asc_eq List.pairwise_lt_range (mem_asc _ _) fun k => by
  rw [mem_pict, List.mem_range]
  constructor
  · intro h
    obtain ⟨x, hx, e⟩ := pf_sur s h
    exact ⟨Nat.lt_of_lt_of_le h q_le, x, List.mem_range.mpr hx, e⟩
  · rintro ⟨_, x, hx, rfl⟩
    exact (pf_spec s (List.mem_range.mp hx)).1
theorem low_quot (s : NorL t S) {rl : List (List Nat)} (h : IsRow (lF n m) (List.range n) rl) : IsRow (lF (cosL n m S).length (qt m (picL n (cosL n m S)) (cosL n m S))) (List.range (cosL n m S).length) (cutF (rl.map (pictF (picL n (cosL n m S))))) := by
  have e := pict_rng s
  have key := cut_row (Fq := lF (cosL n m S).length (qt m (picL n (cosL n m S)) (cosL n m S))) (φ := pictF (picL n (cosL n m S))) h (fun a ha => by
    have hlt : ∀ x ∈ a, x < n := (IsRow.lt (p := fun a => Rch m (comL n m (List.range n) a)) h rng_lt (by simp) ha).1
    unfold lF
    rw [e]
    exact pict_clo s rng_lt hlt)
  rw [← e] at key
  exact key
theorem der_quot (s : NorL t S) {rl : List (List Nat)} (h : IsRow (dF n m) (List.range n) rl) : IsRow (dF (cosL n m S).length (qt m (picL n (cosL n m S)) (cosL n m S))) (List.range (cosL n m S).length) (cutF (rl.map (pictF (picL n (cosL n m S))))) := by
  have e := pict_rng s
  have key := cut_row (Fq := dF (cosL n m S).length (qt m (picL n (cosL n m S)) (cosL n m S))) (φ := pictF (picL n (cosL n m S))) h (fun a ha => by
    have hlt : ∀ x ∈ a, x < n := (IsRow.lt (p := fun a => Rch m (comL n m a a)) h rng_lt (by simp) ha).1
    exact pict_clo s hlt hlt)
  rw [← e] at key
  exact key
end
end CM
set_option Elab.async false
set_option linter.all false
set_option maxRecDepth 100000
set_option maxHeartbeats 1000000
/-! Renumbered tables; tables of moves. -/
namespace CM
open PySem PySem.Spec PyProof.Rows L2
theorem rkTo_perm (ns : List Int) (n : Nat) (hn : 0 < n) : ∀ k, k ≤ n - 1 → (rkTo ns n k).Perm (List.range n) ∧ (rkTo ns n k)[0]? = some 0
  | 0, _ => ⟨.refl _, by
    show (List.range n)[0]? = some 0
    rw [List.getElem?_range hn]⟩
  | k + 1, hk => by
    obtain ⟨h1, h2⟩ := rkTo_perm ns n hn k (by omega)
    have hl : (rkTo ns n k).length = n := by rw [h1.length_eq, List.length_range]
    rw [rkTo_succ]
    unfold rkStep
    have q1 := Int.emod_nonneg (ns.getD ((k + 1) % ns.length) 0) (show ((k + 1 : Nat) : Int) ≠ 0 by omega)
    have q2 := Int.emod_lt_of_pos (ns.getD ((k + 1) % ns.length) 0) (show (0 : Int) < ((k + 1 : Nat) : Int) by omega)
    have ho2 : 1 + (ns.getD ((k + 1) % ns.length) 0 % ((k + 1 : Nat) : Int)).toNat < n := by omega
    have ho3 : 0 < 1 + (ns.getD ((k + 1) % ns.length) 0 % ((k + 1 : Nat) : Int)).toNat := by omega
    generalize 1 + (ns.getD ((k + 1) % ns.length) 0 % ((k + 1 : Nat) : Int)).toNat = o' at ho2 ho3
    show ((((rkTo ns n k).set (k + 1) ((rkTo ns n k).getD o' 0)).set o' ((rkTo ns n k).getD (k + 1) 0)).Perm (List.range n)) ∧ (((rkTo ns n k).set (k + 1) ((rkTo ns n k).getD o' 0)).set o' ((rkTo ns n k).getD (k + 1) 0))[0]? = some 0
    have hk1 : k + 1 < (rkTo ns n k).length := by omega
    have ho4 : o' < (rkTo ns n k).length := by omega
    have e1 : (rkTo ns n k).getD o' 0 = (rkTo ns n k)[o'] := by
      rw [List.getD_eq_getElem?_getD, List.getElem?_eq_getElem ho4]
      rfl
    have e2 : (rkTo ns n k).getD (k + 1) 0 = (rkTo ns n k)[k + 1] := by
      rw [List.getD_eq_getElem?_getD, List.getElem?_eq_getElem hk1]
      rfl
    rw [e1, e2]
    refine ⟨(List.set_set_perm hk1 ho4).trans h1, ?_⟩
    rw [List.getElem?_set_ne (by omega), List.getElem?_set_ne (by omega)]
    exact h2
theorem plTo_get {rk : List Nat} {n : Nat} (hl : rk.length = n) (nd : rk.Nodup) (hb : ∀ x ∈ rk, x < n) : ∀ k, k ≤ n → ∀ i, i < k → (plTo rk n k).getD (rk.getD i 0) 0 = i
  | 0, _, i, h => by omega
  | k + 1, hk, i, h => by
    rw [plTo, List.getD_eq_getElem?_getD, List.getElem?_set]
    by_cases e : rk.getD k 0 = rk.getD i 0
    · have := getD_inj nd (by omega) (by omega) e
      subst this
      rw [if_pos rfl, if_pos (by rw [plTo_len]; exact hb _ (getD_mem (by omega)))]
      rfl
    · have hik : i < k := by
        by_cases q : i = k
        · subst q
          exact absurd rfl e
        · omega
      rw [if_neg e, ← List.getD_eq_getElem?_getD]
      exact plTo_get hl nd hb k (by omega) i hik
theorem tb_rnm {n : Nat} {m : Op} (t : Tb n m) (ns : List Int) : Tb n (rnm ns n m) := by
  obtain ⟨h1, h2⟩ := rkTo_perm ns n t.pos (n - 1) (Nat.le_refl _)
  have hl : (rkF ns n).length = n := by rw [show rkF ns n = rkTo ns n (n - 1) from rfl, h1.length_eq, List.length_range]
  have nd : (rkF ns n).Nodup := h1.nodup_iff.mpr List.nodup_range
  have hb : ∀ x ∈ rkF ns n, x < n := fun x hx => List.mem_range.mp (h1.mem_iff.mp hx)
  have hpl := plTo_get hl nd hb n (Nat.le_refl _)
  have key : ∀ x, x < n → ∃ i, i < n ∧ (rkF ns n).getD i 0 = x ∧ (plTo (rkF ns n) n n).getD x 0 = i := fun x hx => by
    obtain ⟨i, hi, e⟩ := List.mem_iff_getElem.mp (h1.mem_iff.mpr (List.mem_range.mpr hx))
    have hi' : i < (rkF ns n).length := hi
    have e' : (rkF ns n).getD i 0 = x := by
      rw [List.getD_eq_getElem?_getD, List.getElem?_eq_getElem hi']
      exact e
    refine ⟨i, by omega, e', ?_⟩
    rw [← e']
    exact hpl i (by omega)
  have lt : ∀ i, i < n → (rkF ns n).getD i 0 < n := fun i hi => hb _ (getD_mem (by omega))
  refine tb_of_inj t (fun i => (rkF ns n).getD i 0) t.pos lt (fun i j hi hj e => getD_inj nd (by omega) (by omega) e) ?_ (fun i j hi hj => ?_) (fun i j hi hj => ?_)
  · show (rkF ns n).getD 0 0 = 0
    rw [List.getD_eq_getElem?_getD, show (rkF ns n)[0]? = some 0 from h2]
    rfl
  · obtain ⟨k, hk, _, e⟩ := key _ (t.cl _ _ (lt i hi) (lt j hj))
    show (plTo (rkF ns n) n n).getD _ 0 < n
    rw [e]
    exact hk
  · obtain ⟨k, hk, e1, e2⟩ := key _ (t.cl _ _ (lt i hi) (lt j hj))
    show (rkF ns n).getD ((plTo (rkF ns n) n n).getD _ 0) 0 = _
    rw [e2, e1]
/-! ### moves -/
theorem mv_getD {g x : List Nat} {y : Nat} (hy : y < x.length) : (moveL g x).getD y 0 = g.getD (x.getD y 0) 0 := by
  unfold moveL
  rw [List.getD_eq_getElem?_getD, List.getElem?_map, List.getElem?_eq_getElem hy, List.getD_eq_getElem?_getD (l := x), List.getElem?_eq_getElem hy]
  rfl
theorem mv_ext {p : Nat} {x y : List Nat} (hx : x.length = p) (hy : y.length = p) (h : ∀ z, z < p → x.getD z 0 = y.getD z 0) : x = y := by
  apply List.ext_getElem (by omega)
  intro i h1 h2
  have := h i (by omega)
  rw [List.getD_eq_getElem?_getD, List.getD_eq_getElem?_getD, List.getElem?_eq_getElem h1, List.getElem?_eq_getElem h2] at this
  exact this
theorem mv_lt {p : Nat} {x : List Nat} (h : MvOk p x) {z : Nat} (hz : z < p) : x.getD z 0 < p := h.2 _ (getD_mem (by rw [h.1]; exact hz))
theorem mv_assoc {p : Nat} {a b c : List Nat} (hb : MvOk p b) (hc : MvOk p c) : moveL (moveL a b) c = moveL a (moveL b c) := by
  refine mv_ext (p := p) (by simp [moveL, hc.1]) (by simp [moveL, hc.1]) fun z hz => ?_
  rw [mv_getD (by rw [hc.1]; exact hz), mv_getD (by rw [hb.1]; exact mv_lt hc hz), mv_getD (by rw [moveL, List.length_map, hc.1]; exact hz), mv_getD (by rw [hc.1]; exact hz)]
theorem one_ok (p : Nat) : MvOk p (List.range p) := ⟨List.length_range, fun y h => List.mem_range.mp h⟩
theorem rng_getD {p z : Nat} (h : z < p) : (List.range p).getD z 0 = z := by
  rw [List.getD_eq_getElem?_getD, List.getElem?_range h]
  rfl
theorem mv_one_l {p : Nat} {a : List Nat} (ha : MvOk p a) : moveL (List.range p) a = a := mv_ext (p := p) (by simp [moveL, ha.1]) ha.1 fun z hz => by
  rw [mv_getD (by rw [ha.1]; exact hz), rng_getD (mv_lt ha hz)]
theorem mv_one_r {p : Nat} {a : List Nat} (ha : MvOk p a) : moveL a (List.range p) = a := mv_ext (p := p) (by simp [moveL]) ha.1 fun z hz => by
  rw [mv_getD (by simpa using hz), rng_getD hz]
/-- what is asked of the moves and of a list of all that they make -/
structure Wit (p : Nat) (gs W : List (List Nat)) : Prop where
  pos : 1 ≤ p
  ne : gs.getD 0 [] ∈ gs
  len : (gs.getD 0 []).length = p
  ok : ∀ g ∈ gs, MvOk p g
  one : List.range p ∈ W
  cl : ∀ x ∈ W, ∀ g ∈ gs, moveL g x ∈ W
  few : W.length ≤ 60
  nd : ∀ x ∈ W, x.Nodup
  least : ∀ x ∈ W, leC (p : Int) (List.range p) x
section
variable {p : Nat} {gs W : List (List Nat)}
theorem closeIn_in (h : Wit p gs W) {x : List Nat} (hx : x ∈ W) : ∀ {gs' fd : List (List Nat)}, (∀ g ∈ gs', g ∈ gs) → (∀ y ∈ fd, y ∈ W) → ∀ y ∈ closeIn gs' fd x, y ∈ W
  | [], fd, _, hf => hf
  | g :: gs', fd, hg, hf => closeIn_in h hx (gs' := gs') (fd := addNew fd (moveL g x)) (fun g' h' => hg g' (List.mem_cons_of_mem _ h')) (fun y hy => by
    unfold addNew at hy
    split at hy
    · exact hf y hy
    · rcases List.mem_append.mp hy with hy | hy
      · exact hf y hy
      · rw [List.mem_singleton] at hy
        exact hy ▸ h.cl x hx g (hg g (List.mem_cons_self ..)))
theorem closeTo_in (h : Wit p gs W) : ∀ k, ∀ y ∈ closeTo gs k, y ∈ W
  | 0 => fun y hy => by
    rw [closeTo, List.mem_singleton, h.len] at hy
    exact hy ▸ h.one
  | k + 1 => by
    have ih := closeTo_in h k
    rw [closeTo]
    split
    · rename_i hk
      refine closeIn_in h ?_ (fun g hg => hg) ih
      rw [List.getD_eq_getElem?_getD, List.getElem?_eq_getElem hk]
      exact ih _ (List.getElem_mem hk)
    · exact ih
theorem Wit.gens (h : Wit p gs W) : (closeF gs).length ≤ W.length := by
  obtain ⟨_, nd⟩ := closeTo_ok h.len h.ok 60
  exact List.Nodup.length_le_of_subset nd (fun y hy => closeTo_in h 60 y hy)
/-- reached by the moves -/
inductive Gen (p : Nat) (gs : List (List Nat)) : List Nat → Prop
  | one : Gen p gs (List.range p)
  | step {x g : List Nat} : Gen p gs x → g ∈ gs → Gen p gs (moveL g x)
theorem closeIn_gen {x : List Nat} (hx : Gen p gs x) : ∀ {gs' fd : List (List Nat)}, (∀ g ∈ gs', g ∈ gs) → (∀ y ∈ fd, Gen p gs y) → ∀ y ∈ closeIn gs' fd x, Gen p gs y
  | [], fd, _, hf => hf
  | g :: gs', fd, hg, hf => closeIn_gen hx (gs' := gs') (fd := addNew fd (moveL g x)) (fun g' h' => hg g' (List.mem_cons_of_mem _ h')) (fun y hy => by
    unfold addNew at hy
    split at hy
    · exact hf y hy
    · rcases List.mem_append.mp hy with hy | hy
      · exact hf y hy
      · rw [List.mem_singleton] at hy
        exact hy ▸ .step hx (hg g (List.mem_cons_self ..)))
theorem closeTo_gen (h : Wit p gs W) : ∀ k, ∀ y ∈ closeTo gs k, Gen p gs y
  | 0 => fun y hy => by
    rw [closeTo, List.mem_singleton, h.len] at hy
    exact hy ▸ .one
  | k + 1 => by
    have ih := closeTo_gen h k
    rw [closeTo]
    split
    · rename_i hk
      refine closeIn_gen ?_ (fun g hg => hg) ih
      rw [List.getD_eq_getElem?_getD, List.getElem?_eq_getElem hk]
      exact ih _ (List.getElem_mem hk)
    · exact ih
theorem closeIn_has {x : List Nat} : ∀ {gs' fd : List (List Nat)}, ∀ g ∈ gs', moveL g x ∈ closeIn gs' fd x
  | [], fd, g, hg => by cases hg
  | g0 :: gs', fd, g, hg => by
    show moveL g x ∈ closeIn gs' (addNew fd (moveL g0 x)) x
    rcases List.mem_cons.mp hg with rfl | hg
    · obtain ⟨t, e⟩ := closeIn_pre gs' x (addNew fd (moveL g x))
      rw [e]
      refine List.mem_append_left _ ?_
      unfold addNew
      split
      · assumption
      · simp
    · exact closeIn_has g hg
theorem closeTo_done (gs : List (List Nat)) : ∀ k i (x : List Nat), i < k → (closeTo gs k)[i]? = some x → ∀ g ∈ gs, moveL g x ∈ closeTo gs k
  | 0, i, x, h, _ => by omega
  | k + 1, i, x, h, hx => by
    intro g hg
    obtain ⟨t, e⟩ := closeTo_pre gs k
    by_cases hk : k < (closeTo gs k).length
    · by_cases hi : i < k
      · have hx' : (closeTo gs k)[i]? = some x := by
          rw [e, List.getElem?_append_left (by omega)] at hx
          exact hx
        rw [e]
        exact List.mem_append_left _ (closeTo_done gs k i x hi hx' g hg)
      · have : i = k := by omega
        subst this
        have hx' : (closeTo gs i)[i]? = some x := by
          rw [e, List.getElem?_append_left hk] at hx
          exact hx
        rw [closeTo, if_pos hk, List.getD_eq_getElem?_getD, hx']
        exact closeIn_has g hg
    · have e2 : closeTo gs (k + 1) = closeTo gs k := by rw [closeTo, if_neg hk]
      rw [e2] at hx ⊢
      have hl := (List.getElem?_eq_some_iff.mp hx).1
      exact closeTo_done gs k i x (by omega) hx g hg
theorem closeF_cl (h : Wit p gs W) : ∀ x ∈ closeF gs, ∀ g ∈ gs, moveL g x ∈ closeF gs := fun x hx g hg => by
  obtain ⟨i, hi⟩ := List.mem_iff_getElem?.mp hx
  have hl := (List.getElem?_eq_some_iff.mp hi).1
  have hg' := h.gens
  have hf := h.few
  exact closeTo_done gs 60 i x (by omega) hi g hg
theorem closeF_one (h : Wit p gs W) : List.range p ∈ closeF gs := by
  have : ∀ k, List.range p ∈ closeTo gs k := fun k => by
    induction k with
    | zero => rw [closeTo, h.len]; simp
    | succ k ih =>
      obtain ⟨t, e⟩ := closeTo_pre gs k
      rw [e]
      exact List.mem_append_left _ ih
  exact this 60
theorem closeF_mul (h : Wit p gs W) : ∀ a ∈ closeF gs, ∀ b ∈ closeF gs, moveL b a ∈ closeF gs := fun a ha b hb => by
  have hok := (closeTo_ok h.len h.ok 60).1
  have gb := closeTo_gen h 60 b hb
  clear hb
  have aux : ∀ {b : List Nat}, Gen p gs b → MvOk p b ∧ moveL b a ∈ closeF gs := by
    intro b r
    induction r with
    | one => exact ⟨one_ok p, by rw [mv_one_l (hok a ha)]; exact ha⟩
    | step r hg ih => exact ⟨(h.ok _ hg).move ih.1, by rw [mv_assoc ih.1 (hok a ha)]; exact closeF_cl h _ ih.2 _ hg⟩
  exact (aux gb).2
theorem Wit.table (h : Wit p gs W) : Tb (tlN gs) (tlM gs) ∧ (∀ a ∈ closeS gs, ∀ b ∈ closeS gs, moveL b a ∈ closeS gs) := by
  have hpm := closeS_perm gs
  have hok : ∀ x ∈ closeS gs, MvOk p x := fun x hx => (closeTo_ok h.len h.ok 60).1 x (hpm.mem_iff.mp hx)
  have nd : (closeS gs).Nodup := hpm.nodup_iff.mpr (closeTo_ok h.len h.ok 60).2
  have hone : List.range p ∈ closeS gs := hpm.mem_iff.mpr (closeF_one h)
  have hcl : ∀ a ∈ closeS gs, ∀ b ∈ closeS gs, moveL b a ∈ closeS gs := fun a ha b hb => hpm.mem_iff.mpr (closeF_mul h a (hpm.mem_iff.mp ha) b (hpm.mem_iff.mp hb))
  have hnd : ∀ x ∈ closeS gs, x.Nodup := fun x hx => h.nd x (closeTo_in h 60 x (hpm.mem_iff.mp hx))
  have hmin : ∀ x ∈ closeS gs, leC (p : Int) (List.range p) x := fun x hx => h.least x (closeTo_in h 60 x (hpm.mem_iff.mp hx))
  have hsrt := closeS_srt gs
  rw [h.len] at hsrt
  refine ⟨?_, hcl⟩
  have hlen : (closeS gs).length = tlN gs := closeS_len gs
  rw [← hlen]
  unfold tlM
  generalize closeS gs = L at *
  have hpos : 0 < L.length := List.length_pos_of_mem hone
  have gm : ∀ i, i < L.length → L.getD i [] ∈ L := fun i hi => by
    rw [List.getD_eq_getElem?_getD, List.getElem?_eq_getElem hi]
    exact List.getElem_mem hi
  have ginj : ∀ i j, i < L.length → j < L.length → L.getD i [] = L.getD j [] → i = j := fun i j hi hj e => by
    rw [List.getD_eq_getElem?_getD, List.getD_eq_getElem?_getD, List.getElem?_eq_getElem hi, List.getElem?_eq_getElem hj] at e
    exact (List.getElem?_inj hi nd).mp (by rw [List.getElem?_eq_getElem hi, List.getElem?_eq_getElem hj]; exact congrArg some e)
  have hom : ∀ i j, i < L.length → j < L.length → L.getD (pt L i j) [] = moveL (L.getD j []) (L.getD i []) ∧ pt L i j < L.length := fun i j hi hj => by
    obtain ⟨h1, h2⟩ := idxL_at (hcl _ (gm i hi) _ (gm j hj))
    refine ⟨?_, h2⟩
    unfold pt
    rw [List.getD_eq_getElem?_getD, h1]
    rfl
  have bd : ∀ x ∈ L, TS.Bd (p : Int) (zL x) := fun x hx z hz => by
    obtain ⟨y, hy, rfl⟩ := List.mem_map.mp hz
    have := (hok x hx).2 y hy
    omega
  have h0 : L.getD 0 [] = List.range p := by
    obtain ⟨i, hi, e⟩ := List.mem_iff_getElem.mp hone
    have m0 := gm 0 hpos
    have le1 : leC (p : Int) (L.getD 0 []) (List.range p) := by
      by_cases q : i = 0
      · subst q
        rw [List.getD_eq_getElem?_getD, List.getElem?_eq_getElem hi]
        show leC (p : Int) L[0] (List.range p)
        rw [e]
        exact Int.le_refl _
      · rw [List.pairwise_iff_getElem] at hsrt
        have := hsrt 0 i hpos hi (by omega)
        rw [e] at this
        rw [List.getD_eq_getElem?_getD, List.getElem?_eq_getElem hpos]
        exact this
    have le2 := hmin _ m0
    exact zL_inj (code_inj (bd _ m0) (bd _ hone) (by rw [zL, zL, List.length_map, List.length_map, (hok _ m0).1, List.length_range]) (Int.le_antisymm le1 le2))
  have onto : ∀ x ∈ L, ∀ y, y < p → ∃ z, z < p ∧ x.getD z 0 = y := fun x hx y hy => inj_onto (f := fun z => x.getD z 0) (fun z hz => mv_lt (hok x hx) hz) (fun a b ha hb e => getD_inj (hnd x hx) (by rw [(hok x hx).1]; exact ha) (by rw [(hok x hx).1]; exact hb) e) hy
  refine ⟨hpos, fun a b ha hb => (hom a b ha hb).2, fun a ha => ?_, fun a ha => ?_, fun a b c ha hb hc => ?_, fun a b c ha hb hc e => ?_, fun a b c ha hb hc e => ?_⟩
  · exact ginj _ _ (hom 0 a hpos ha).2 ha (by rw [(hom 0 a hpos ha).1, h0, mv_one_r (hok _ (gm a ha))])
  · exact ginj _ _ (hom a 0 ha hpos).2 ha (by rw [(hom a 0 ha hpos).1, h0, mv_one_l (hok _ (gm a ha))])
  · have hab := (hom a b ha hb).2
    have hbc := (hom b c hb hc).2
    refine ginj _ _ (hom _ c hab hc).2 (hom a _ ha hbc).2 ?_
    rw [(hom _ c hab hc).1, (hom a b ha hb).1, (hom a _ ha hbc).1, (hom b c hb hc).1, mv_assoc (hok _ (gm b hb)) (hok _ (gm a ha))]
  · refine ginj _ _ hb hc ?_
    have e2 : moveL (L.getD b []) (L.getD a []) = moveL (L.getD c []) (L.getD a []) := by rw [← (hom a b ha hb).1, e, (hom a c ha hc).1]
    refine mv_ext (hok _ (gm b hb)).1 (hok _ (gm c hc)).1 fun y hy => ?_
    obtain ⟨z, hz, rfl⟩ := onto _ (gm a ha) y hy
    have hza : z < (L.getD a []).length := by rw [(hok _ (gm a ha)).1]; exact hz
    rw [← mv_getD hza, ← mv_getD hza, e2]
  · refine ginj _ _ hb hc ?_
    have e2 : moveL (L.getD a []) (L.getD b []) = moveL (L.getD a []) (L.getD c []) := by rw [← (hom b a hb ha).1, e, (hom c a hc ha).1]
    refine mv_ext (hok _ (gm b hb)).1 (hok _ (gm c hc)).1 fun y hy => ?_
    have hyb : y < (L.getD b []).length := by rw [(hok _ (gm b hb)).1]; exact hy
    have hyc : y < (L.getD c []).length := by rw [(hok _ (gm c hc)).1]; exact hy
    have e3 : (L.getD a []).getD ((L.getD b []).getD y 0) 0 = (L.getD a []).getD ((L.getD c []).getD y 0) 0 := by rw [← mv_getD hyb, ← mv_getD hyc, e2]
    exact getD_inj (hnd _ (gm a ha)) (by rw [(hok _ (gm a ha)).1]; exact mv_lt (hok _ (gm b hb)) hy) (by rw [(hok _ (gm a ha)).1]; exact mv_lt (hok _ (gm c hc)) hy) e3
end
end CM
set_option Elab.async false
set_option linter.all false
set_option maxRecDepth 100000
set_option maxHeartbeats 1000000
/-! The helper's groups: witnesses, looked through by the kernel. Printed by gen/wit.py. -/
namespace CM
open PySem PySem.Spec PyProof.Rows L2
def witB (p : Nat) (gs W : List (List Nat)) : Bool :=
  decide (1 ≤ p) && gs.contains (gs.getD 0 []) && decide ((gs.getD 0 []).length = p) && (gs.all fun g => decide (g.length = p) && g.all fun y => decide (y < p)) && W.contains (List.range p) &&
  (W.all fun x => gs.all fun g => W.contains (moveL g x)) && decide (W.length ≤ 60) && (W.all fun x => decide x.Nodup) && (W.all fun x => decide (TS.code (p : Int) (zL (List.range p)) ≤ TS.code (p : Int) (zL x)))
theorem wit_of {p : Nat} {gs W : List (List Nat)} (h : witB p gs W = true) : Wit p gs W := by
  unfold witB at h
  simp only [Bool.and_eq_true, decide_eq_true_eq, List.all_eq_true, List.contains_iff_mem] at h
  obtain ⟨⟨⟨⟨⟨⟨⟨⟨h1, h2⟩, h3⟩, h4⟩, h5⟩, h6⟩, h7⟩, h8⟩, h9⟩ := h
  exact ⟨h1, h2, h3, fun g hg => ⟨(h4 g hg).1, (h4 g hg).2⟩, h5, h6, h7, h8, h9⟩
theorem good_of {p : Nat} {gs W : List (List Nat)} (h : Wit p gs W) (hg : gs.length ≤ 1000) (hp : p ≤ 1000) : GoodG gs := by
  obtain ⟨h1, h2⟩ := h.table
  exact ⟨p, ⟨h.pos, h.ne, h.len, h.ok, Nat.le_trans h.gens h.few⟩, hg, hp, h1, h2⟩
def menuW : List (List (List Nat)) := [[[0]], [[0, 1], [1, 0]], [[0, 1, 2], [1, 2, 0], [2, 0, 1]], [[0, 1, 2, 3], [1, 2, 3, 0], [2, 3, 0, 1], [3, 0, 1, 2]], [[0, 1, 2, 3], [1, 0, 2, 3], [0, 1, 3, 2], [1, 0, 3, 2]], [[0, 1, 2, 3, 4], [1, 2, 3, 4, 0], [2, 3, 4, 0, 1], [3, 4, 0, 1, 2], [4, 0, 1, 2, 3]], [[0, 1, 2], [1, 2, 0], [1, 0, 2], [2, 0, 1], [0, 2, 1], [2, 1, 0]], [[0, 1, 2, 3, 4], [1, 2, 0, 3, 4], [0, 1, 2, 4, 3], [2, 0, 1, 3, 4], [1, 2, 0, 4, 3], [2, 0, 1, 4, 3]], [[0, 1, 2, 3], [1, 2, 3, 0], [0, 3, 2, 1], [2, 3, 0, 1], [3, 2, 1, 0], [1, 0, 3, 2], [3, 0, 1, 2], [2, 1, 0, 3]], [[0, 1, 2, 3, 4, 5, 6, 7], [2, 3, 1, 0, 7, 6, 4, 5], [4, 5, 6, 7, 1, 0, 3, 2], [1, 0, 3, 2, 5, 4, 7, 6], [6, 7, 5, 4, 2, 3, 1, 0], [7, 6, 4, 5, 3, 2, 0, 1], [3, 2, 0, 1, 6, 7, 5, 4], [5, 4, 7, 6, 0, 1, 2, 3]], [[0, 1, 2, 3, 4, 5], [1, 2, 3, 0, 4, 5], [0, 1, 2, 3, 5, 4], [2, 3, 0, 1, 4, 5], [1, 2, 3, 0, 5, 4], [3, 0, 1, 2, 4, 5], [2, 3, 0, 1, 5, 4], [3, 0, 1, 2, 5, 4]], [[0, 1, 2, 3, 4, 5], [1, 0, 2, 3, 4, 5], [0, 1, 3, 2, 4, 5], [0, 1, 2, 3, 5, 4], [1, 0, 3, 2, 4, 5], [1, 0, 2, 3, 5, 4], [0, 1, 3, 2, 5, 4], [1, 0, 3, 2, 5, 4]], [[0, 1, 2, 3, 4, 5, 6, 7], [1, 2, 3, 4, 5, 6, 7, 0], [2, 3, 4, 5, 6, 7, 0, 1], [3, 4, 5, 6, 7, 0, 1, 2], [4, 5, 6, 7, 0, 1, 2, 3], [5, 6, 7, 0, 1, 2, 3, 4], [6, 7, 0, 1, 2, 3, 4, 5], [7, 0, 1, 2, 3, 4, 5, 6]], [[0, 1, 2, 3, 4, 5], [1, 2, 0, 3, 4, 5], [0, 1, 2, 4, 5, 3], [2, 0, 1, 3, 4, 5], [1, 2, 0, 4, 5, 3], [0, 1, 2, 5, 3, 4], [2, 0, 1, 4, 5, 3], [1, 2, 0, 5, 3, 4], [2, 0, 1, 5, 3, 4]], [[0, 1, 2, 3, 4], [1, 2, 3, 4, 0], [0, 4, 3, 2, 1], [2, 3, 4, 0, 1], [4, 3, 2, 1, 0], [1, 0, 4, 3, 2], [3, 4, 0, 1, 2], [3, 2, 1, 0, 4], [2, 1, 0, 4, 3], [4, 0, 1, 2, 3]], [[0, 1, 2, 3], [1, 2, 0, 3], [1, 0, 3, 2], [2, 0, 1, 3], [0, 3, 1, 2], [2, 1, 3, 0], [3, 1, 0, 2], [1, 3, 2, 0], [0, 2, 3, 1], [3, 0, 2, 1], [3, 2, 1, 0], [2, 3, 0, 1]], [[0, 1, 2, 3, 4, 5, 6], [1, 2, 0, 3, 4, 5, 6], [0, 2, 1, 4, 5, 6, 3], [2, 0, 1, 3, 4, 5, 6], [2, 1, 0, 4, 5, 6, 3], [1, 0, 2, 4, 5, 6, 3], [0, 1, 2, 5, 6, 3, 4], [1, 2, 0, 5, 6, 3, 4], [2, 0, 1, 5, 6, 3, 4], [0, 2, 1, 6, 3, 4, 5], [2, 1, 0, 6, 3, 4, 5], [1, 0, 2, 6, 3, 4, 5]], [[0, 1, 2, 3, 4], [1, 2, 0, 3, 4], [1, 0, 2, 3, 4], [0, 1, 2, 4, 3], [2, 0, 1, 3, 4], [0, 2, 1, 3, 4], [1, 2, 0, 4, 3], [2, 1, 0, 3, 4], [1, 0, 2, 4, 3], [2, 0, 1, 4, 3], [0, 2, 1, 4, 3], [2, 1, 0, 4, 3]], [[0, 1, 2, 3, 4, 5, 6, 7], [1, 2, 3, 4, 5, 6, 7, 0], [0, 7, 6, 5, 4, 3, 2, 1], [2, 3, 4, 5, 6, 7, 0, 1], [7, 6, 5, 4, 3, 2, 1, 0], [1, 0, 7, 6, 5, 4, 3, 2], [3, 4, 5, 6, 7, 0, 1, 2], [6, 5, 4, 3, 2, 1, 0, 7], [2, 1, 0, 7, 6, 5, 4, 3], [7, 0, 1, 2, 3, 4, 5, 6], [4, 5, 6, 7, 0, 1, 2, 3], [5, 4, 3, 2, 1, 0, 7, 6], [3, 2, 1, 0, 7, 6, 5, 4], [6, 7, 0, 1, 2, 3, 4, 5], [5, 6, 7, 0, 1, 2, 3, 4], [4, 3, 2, 1, 0, 7, 6, 5]], [[0, 1, 2, 3, 4], [1, 2, 3, 4, 0], [0, 2, 4, 1, 3], [2, 3, 4, 0, 1], [2, 4, 1, 3, 0], [1, 3, 0, 2, 4], [0, 4, 3, 2, 1], [3, 4, 0, 1, 2], [4, 1, 3, 0, 2], [3, 0, 2, 4, 1], [4, 3, 2, 1, 0], [2, 1, 0, 4, 3], [1, 0, 4, 3, 2], [0, 3, 1, 4, 2], [4, 0, 1, 2, 3], [3, 2, 1, 0, 4], [3, 1, 4, 2, 0], [4, 2, 0, 3, 1], [2, 0, 3, 1, 4], [1, 4, 2, 0, 3]], [[0, 1, 2, 3, 4, 5, 6], [1, 2, 3, 4, 5, 6, 0], [0, 2, 4, 6, 1, 3, 5], [2, 3, 4, 5, 6, 0, 1], [2, 4, 6, 1, 3, 5, 0], [1, 3, 5, 0, 2, 4, 6], [0, 4, 1, 5, 2, 6, 3], [3, 4, 5, 6, 0, 1, 2], [4, 6, 1, 3, 5, 0, 2], [3, 5, 0, 2, 4, 6, 1], [4, 1, 5, 2, 6, 3, 0], [2, 6, 3, 0, 4, 1, 5], [1, 5, 2, 6, 3, 0, 4], [4, 5, 6, 0, 1, 2, 3], [6, 1, 3, 5, 0, 2, 4], [5, 0, 2, 4, 6, 1, 3], [6, 3, 0, 4, 1, 5, 2], [5, 2, 6, 3, 0, 4, 1], [3, 0, 4, 1, 5, 2, 6], [5, 6, 0, 1, 2, 3, 4], [6, 0, 1, 2, 3, 4, 5]], [[0, 1, 2, 3], [1, 2, 3, 0], [1, 0, 2, 3], [2, 3, 0, 1], [0, 2, 3, 1], [2, 1, 3, 0], [3, 0, 1, 2], [2, 3, 1, 0], [1, 3, 0, 2], [3, 2, 0, 1], [2, 0, 3, 1], [3, 1, 0, 2], [3, 0, 2, 1], [2, 0, 1, 3], [0, 3, 1, 2], [3, 2, 1, 0], [0, 2, 1, 3], [0, 1, 3, 2], [3, 1, 2, 0], [2, 1, 0, 3], [0, 3, 2, 1], [1, 3, 2, 0], [1, 2, 0, 3], [1, 0, 3, 2]]]
def sizeL : List Nat := [1, 2, 3, 4, 4, 5, 6, 6, 8, 8, 8, 8, 8, 9, 10, 12, 12, 12, 16, 20, 21, 24]
theorem menu_ok : ((List.range 22).all fun k => witB ((menuN.getD k []).getD 0 []).length (menuN.getD k []) (menuW.getD k []) && decide ((menuW.getD k []).length ≤ sizeL.getD k 0) && decide ((menuN.getD k []).length ≤ 1000) && decide (((menuN.getD k []).getD 0 []).length ≤ 1000)) = true := by decide +kernel
theorem menu_good (k : Nat) (hk : k < 22) : GoodG (menuN.getD k []) ∧ tlN (menuN.getD k []) ≤ sizeL.getD k 0 := by
  have h := List.all_eq_true.mp menu_ok k (List.mem_range.mpr hk)
  simp only [Bool.and_eq_true, decide_eq_true_eq] at h
  obtain ⟨⟨⟨h1, h2⟩, h3⟩, h4⟩ := h
  have w := wit_of h1
  exact ⟨good_of w h3 h4, Nat.le_trans w.gens h2⟩
theorem menuG_good (z : Int) : GoodG (menuG z) := by
  have h1 := Int.emod_nonneg z (show (22 : Int) ≠ 0 by decide)
  have h2 := Int.emod_lt_of_pos z (show (0 : Int) < 22 by decide)
  exact (menu_good (z % 22).toNat (by omega)).1
def affT : List (Nat × Nat × List Nat) := [(2, 1, [1]), (3, 1, [1]), (3, 2, [1, 2]), (4, 1, [1]), (4, 3, [1, 3]), (5, 1, [1]), (5, 2, [1, 2, 4, 3]), (5, 3, [1, 3, 4, 2]), (5, 4, [1, 4]), (6, 1, [1]), (6, 5, [1, 5]), (7, 1, [1]), (7, 2, [1, 2, 4]), (7, 4, [1, 4, 2]), (7, 6, [1, 6]), (8, 1, [1]), (8, 3, [1, 3]), (8, 5, [1, 5]), (8, 7, [1, 7]), (9, 1, [1]), (9, 4, [1, 4, 7]), (9, 7, [1, 7, 4]), (9, 8, [1, 8]), (10, 1, [1]), (10, 9, [1, 9]), (11, 1, [1]), (11, 10, [1, 10]), (12, 1, [1]), (12, 5, [1, 5]), (12, 7, [1, 7]), (12, 11, [1, 11]), (13, 1, [1]), (13, 12, [1, 12]), (14, 1, [1]), (14, 13, [1, 13]), (15, 1, [1]), (15, 4, [1, 4]), (15, 11, [1, 11]), (15, 14, [1, 14]), (16, 1, [1]), (16, 7, [1, 7]), (16, 9, [1, 9]), (16, 15, [1, 15])]
def affW (p : Nat) (pw : List Nat) : List (List Nat) := pw.flatMap fun c => (List.range p).map fun b => (List.range p).map fun x => (c * x + b) % p
def affGens (p a : Nat) : List (List Nat) := [(List.range p).map fun x => (x + 1) % p, mulL p a]
theorem aff_wit : (affT.all fun r => witB r.1 (affGens r.1 r.2.1) (affW r.1 r.2.2) && decide ((affW r.1 r.2.2).length ≤ 32)) = true := by decide +kernel
theorem aff_cov : ((List.range 17).all fun p => (List.range p).all fun f => decide (p < 2) || affT.any fun r => decide (r.1 = p) && decide (r.2.1 = affF p f)) = true := by decide +kernel
theorem aff_good (p f : Nat) (h1 : 2 ≤ p) (h2 : p ≤ 16) (h3 : f < p) : GoodG (affG p f) ∧ tlN (affG p f) ≤ 32 := by
  have h := List.all_eq_true.mp (List.all_eq_true.mp aff_cov p (List.mem_range.mpr (by omega))) f (List.mem_range.mpr h3)
  rw [Bool.or_eq_true] at h
  rcases h with h | h
  · have := of_decide_eq_true h
    omega
  · obtain ⟨r, hr, hq⟩ := List.any_eq_true.mp h
    simp only [Bool.and_eq_true, decide_eq_true_eq] at hq
    obtain ⟨e1, e2⟩ := hq
    have hw := List.all_eq_true.mp aff_wit r hr
    simp only [Bool.and_eq_true, decide_eq_true_eq] at hw
    have w := wit_of hw.1
    have eg : affG p f = affGens r.1 r.2.1 := by rw [e1, e2]; rfl
    rw [eg]
    refine ⟨good_of w (by show 2 ≤ 1000; decide) (by omega), Nat.le_trans w.gens hw.2⟩
end CM
set_option Elab.async false
set_option linter.all false
set_option maxRecDepth 100000
set_option maxHeartbeats 1000000
/-! What the law's defs are handed is as they ask. -/
namespace CM
open PySem PySem.Spec PyProof.Rows L2
theorem ser_ex {n : Nat} {m : Op} (t : Tb n m) (hn : n ≤ 60) : ∃ rl rd ru, Ser n m rl rd ru := by
  obtain ⟨rl, h1, h2⟩ := low_row t (by omega)
  obtain ⟨rd, h3, h4⟩ := der_row t (by omega)
  obtain ⟨ru, h5, h6⟩ := up_row t (by omega)
  exact ⟨rl, rd, ru, h1, h3, h5, h2, h4, h6⟩
theorem single_ok {n : Nat} {m : Op} (t : Tb n m) (hn : n ≤ 60) : R_law_single_told [tabD n m] (.bl true) := by
  obtain ⟨rl, rd, ru, S⟩ := ser_ex t hn
  exact ⟨n, m, rl, rd, ru, rfl, t, hn, S, rfl⟩
theorem product_ok {n1 n2 : Nat} {m1 m2 : Op} (t1 : Tb n1 m1) (t2 : Tb n2 m2) (hn : n1 * n2 ≤ 60) {ns : List Int} (h3 : 3 ≤ ns.length) : R_law_product_told [tabD n1 m1, tabD n2 m2, lI ns] (.bl true) := by
  have p1 := t1.pos
  have p2 := t2.pos
  have hle1 : n1 ≤ 60 := Nat.le_trans (Nat.le_mul_of_pos_right n1 p2) hn
  have hle2 : n2 ≤ 60 := Nat.le_trans (Nat.le_mul_of_pos_left n2 p1) hn
  obtain ⟨rl1, rd1, ru1, S1⟩ := ser_ex t1 hle1
  obtain ⟨rl2, rd2, ru2, S2⟩ := ser_ex t2 hle2
  have t12 := tb_pm t1 t2
  have L := low_pair t1 t2 S1.low S2.low
  have D := der_pair t1 t2 S1.der S2.der
  have U := up_pair t1 t2 S1.up S2.up
  exact ⟨n1, m1, n2, m2, rl1, rd1, ru1, rl2, rd2, ru2, ns, rfl, h3, t1, t2, hn, t12, S1, S2, ⟨L, D, U, fun i j hij => com_told t12 U L i j hij⟩, rfl⟩
theorem SubL.Sub {n : Nat} {m : Op} {t : Tb n m} {S : List Nat} (s : SubL t S) : Sub n m S := ⟨s.lt, s.clo⟩
theorem quotient_ok {n : Nat} {m : Op} (t : Tb n m) (hn : n ≤ 60) {S : List Nat} (s : NorL t S) {d : Dt} (hd : IsTup d S) {rl rd ru : List (List Nat)} (Sr : Ser n m rl rd ru) : R_law_quotient_told [grpD n m, tabD n m, d, .lst (rowD rl), .lst (rowD rd)] (.bl true) :=
  ⟨n, m, d, S, rl, rd, ru, rfl, t, hn, hd, Sr, ⟨s.sub.Sub, fun a ha b hb => by
    have := s.nor.con ⟨a, s.lt a ha⟩ ⟨b, hb⟩ ha
    have e : (Gp.con (⟨a, s.lt a ha⟩ : El t) ⟨b, hb⟩).val ∈ S := this
    rw [val_con] at e
    exact e, tb_qt s, low_quot s Sr.low, der_quot s Sr.der⟩, rfl⟩
theorem subgroup_ok {n : Nat} {m : Op} (t : Tb n m) (hn : n ≤ 60) {S : List Nat} (s : SubL t S) {rl rd ru : List (List Nat)} (Sr : Ser n m rl rd ru) : R_law_subgroup_told [grpD n m, tabD n m, .xtp (nD S), .lst (rowD rl), .lst (rowD rd)] (.bl true) := by
  have hl := s.len
  obtain ⟨sl, sd, su, Q⟩ := ser_ex (tb_sb s) (by omega)
  refine ⟨n, m, S, rl, rd, ru, sl, sd, rfl, t, hn, Sr, ⟨s.Sub, fun a ha b hb => ?_, tb_sb s, Q.low, Q.der, Q.ll, Q.dl, fun k hk x hx => ?_, fun k hk x hx => ?_⟩, rfl⟩
  · exact s.sub.mul ⟨a, s.lt a ha⟩ ⟨b, s.lt b hb⟩ ha hb
  · rw [← endF_get hk] at hx
    exact low_sub s Sr.low Q.low k x hx
  · rw [← endF_get hk] at hx
    exact der_sub s Sr.der Q.der k x hx
/-! ### the groups of the law -/
theorem grp_tb (c : Int) (ch : List Nat) (h : GoodG (grpG c ch)) : Tb (tlN (grpG c ch)) (grpM c ch) := by
  unfold grpM
  split
  · exact h.tb
  · exact tb_rnm h.tb _
theorem grp_ok (c : Int) (ch : List Nat) (hc : 0 < ch.length) (hb : ∀ x ∈ ch, x < 22) : GoodG (grpG c ch) ∧ ∃ k ∈ ch, tlN (grpG c ch) ≤ sizeL.getD k 0 := by
  have h := (sel_at (z := (numF c 24).getD 0 0) hc).2
  have hk := hb _ h
  have e : grpG c ch = menuN.getD (selG ((numF c 24).getD 0 0) ch) [] := by
    unfold grpG menuG
    congr 1
    omega
  obtain ⟨h1, h2⟩ := menu_good _ hk
  rw [e]
  exact ⟨h1, _, h, h2⟩
theorem any2_ok (ns : List Int) : Tb (any2 ns).1 (any2 ns).2 ∧ (any2 ns).1 ≤ 60 := by
  have q1 := Int.emod_nonneg (ns.getD 1 0) (show (15 : Int) ≠ 0 by decide)
  have q2 := Int.emod_lt_of_pos (ns.getD 1 0) (show (0 : Int) < 15 by decide)
  have hp : 2 ≤ anyP ns ∧ anyP ns ≤ 16 := by unfold anyP; omega
  have q3 := Int.emod_nonneg (ns.getD 2 0) (show (anyP ns : Int) ≠ 0 by omega)
  have q4 := Int.emod_lt_of_pos (ns.getD 2 0) (show (0 : Int) < (anyP ns : Int) by omega)
  have hf : anyF ns < anyP ns := by unfold anyF; omega
  have g1 := menuG_good (ns.getD 1 0)
  have g2 := menuG_good (ns.getD 2 0)
  have g3 := (aff_good _ _ hp.1 hp.2 hf).1
  have b1 := g1.tb
  have b2 := g2.tb
  have b3 := g3.tb
  have f1 := g1.few
  have f2 := g2.few
  have f3 := g3.few
  have e1 : any1 ns = if ns.getD 0 0 % 4 = 1 then (tlN (affG (anyP ns) (anyF ns)), tlM (affG (anyP ns) (anyF ns))) else (tlN (menuG (ns.getD 1 0)), tlM (menuG (ns.getD 1 0))) := rfl
  have e2 : any2 ns = if 2 ≤ ns.getD 0 0 % 4 then (if (any1 ns).1 * tlN (menuG (ns.getD 2 0)) ≤ 24 then ((any1 ns).1 * tlN (menuG (ns.getD 2 0)), pm (tlN (menuG (ns.getD 2 0))) (any1 ns).2 (tlM (menuG (ns.getD 2 0)))) else any1 ns) else any1 ns := rfl
  clear g1 g2 g3
  generalize any2 ns = A2 at *
  generalize any1 ns = A1 at *
  generalize tlN (menuG (ns.getD 1 0)) = N1 at *
  generalize tlM (menuG (ns.getD 1 0)) = M1 at *
  generalize tlN (menuG (ns.getD 2 0)) = N2 at *
  generalize tlM (menuG (ns.getD 2 0)) = M2 at *
  generalize tlN (affG (anyP ns) (anyF ns)) = NA at *
  generalize tlM (affG (anyP ns) (anyF ns)) = MA at *
  have h1 : Tb A1.1 A1.2 ∧ A1.1 ≤ 60 := by
    rw [e1]
    split
    · exact ⟨b3, f3⟩
    · exact ⟨b1, f1⟩
  rw [e2]
  split
  · split
    · rename_i h
      exact ⟨tb_pm h1.1 b2, by show _ * _ ≤ 60; omega⟩
    · exact h1
  · exact h1
theorem any3_ok (ns : List Int) : Tb (any3 ns).1 (any3 ns).2 ∧ (any3 ns).1 ≤ 60 := by
  obtain ⟨h1, h2⟩ := any2_ok ns
  unfold any3
  split
  · exact ⟨h1, h2⟩
  · exact ⟨tb_rnm h1 _, h2⟩
theorem any_ok (c : Int) : R_law_any_group [.int c] (tabD (any3 (numF c 37)).1 (any3 (numF c 37)).2) :=
  ⟨c, numF c 37, rfl, rfl, menuG_good, fun p f h1 h2 h3 => (aff_good p f h1 h2 h3).1, (any2_ok _).1, (any2_ok _).2, rfl⟩
end CM
set_option Elab.async false
set_option linter.all false
set_option maxRecDepth 100000
set_option maxHeartbeats 2000000
/-! min(xs, key=f) over what the hand layer keeps: the list tracked, the iterator and the best one pinned. -/
namespace CM
open PySem PySem.Spec PyProof.Rows L2
section
variable {X : Cx} {pins : List (Addr × Obj)} {σ : L2.St} {H : Hp} {s : Shared}
/-- a pinned object is written -/
theorem rep_pin {o o' : Obj} {a : Addr} {h' : Heap} {t' : Nat} (I : Inv X ((a, o) :: pins) σ H s) (hf : FpOk X pins H a) (k : ∀ b u, b ≠ a → s.heap.get? b = some u → h'.get? b = some u) (ho : h'.get? a = some o') (hc : ∀ v, o'.data ≠ .cell v) : Inv X ((a, o') :: pins) σ H { s with heap := h', toks := t' } := by
  obtain ⟨f0, f1, f2, f3, f4, f5⟩ := hf
  have J := (ClX.unpin I).turned (t' := t') k f0 f1 f3 f4 f5
  refine J.pins_of fun p hp => ?_
  rcases List.mem_cons.mp hp with rfl | hp
  · exact ⟨ho, f0, f1, f2, hc⟩
  · exact J.pin p (List.mem_append_right _ hp)
theorem swap_pin {p r : Addr × Obj} (I : Inv X (p :: r :: pins) σ H s) : Inv X (r :: p :: pins) σ H s := I.pins_of fun z hz => I.pin z (List.mem_append_right _ (by
  rcases List.mem_cons.mp hz with rfl | hz
  · exact List.mem_cons_of_mem _ (List.mem_cons_self ..)
  · rcases List.mem_cons.mp hz with rfl | hz
    · exact List.mem_cons_self ..
    · exact List.mem_cons_of_mem _ (List.mem_cons_of_mem _ hz)))
theorem fp_add {a b : Addr} {o : Obj} (h : FpOk X pins H a) (ne : b ≠ a) : FpOk X ((b, o) :: pins) H a := by
  obtain ⟨f0, f1, f2, f3, f4, f5⟩ := h
  refine ⟨f0, f1, f2, f3, f4, fun p hp => ?_⟩
  rcases List.mem_append.mp hp with hp | hp
  · exact f5 p (List.mem_append_left _ hp)
  · rcases List.mem_cons.mp hp with rfl | hp
    · exact ne
    · exact f5 p (List.mem_append_right _ hp)
end
section
variable {X : Cx} {pins : List (Addr × Obj)} {σ : L2.St} {H : Hp} {l q I0 S0 : Addr} {vs : List V} {R : Result → Shared → Prop}
/-- the first least item -/
def Best (kf : Nat → Int) (n i : Nat) : Prop := ∀ j, j < n → kf i ≤ kf j ∧ (j < i → kf i < kf j)
theorem min_loopI (kf : Nat → Int) (hh : X.A.in1.handled = none) (hl : SqL X.K H l vs) (hI : FpOk X pins H I0) (hS : FpOk X pins H S0) (hSI : S0 ≠ I0)
    (turn : ∀ (i : Nat) (v : V) (u : Value) (p1 p2 : Addr × Obj) (s : Shared), vs[i]? = some v → RelV v u → Inv X (p1 :: p2 :: pins) σ H s → wpAny (model X.prog X.w) X.A.in1 (call (.ref q) [u]) (fun x s' => ∃ t, x = .int (kf i) t ∧ Inv X (p1 :: p2 :: pins) σ H s') (fun _ _ => False) s)
    (hR : ∀ i v u s', vs[i]? = some v → RelV v u → Best kf vs.length i → Inv X pins σ H s' → R (.ok (.ret u)) s') :
    ∀ (r j i : Nat) (s : Shared) (ub : Value) (tb : Tok) (c : Nat) (oI : Obj), vs.length - (j + 1) = r → j + 1 ≤ vs.length → Inv X ((I0, oI) :: (S0, seqObj "list" #[ub, .int (kf i) tb] c) :: pins) σ H s → s.heap.IsListIter I0 l (j + 1) → (∃ vb, vs[i]? = some vb ∧ RelV vb ub) → i ≤ j → Best kf (j + 1) i →
      codeAny (model X.prog X.w) X.A (.builtin "min.loop" ⟨[.ref I0, .ref q, .ref S0], []⟩) R s := by
  have hname : (toString "min" ++ toString ".loop" : String) = "min.loop" := by decide
  intro r
  induction r with
  | zero =>
    intro j i s ub tb c oI hr hj I hit hvb hij hb
    have hin : j + 1 = vs.length := by omega
    obtain ⟨its, rv, p, hz⟩ := I.list hl
    have nS := ClX.pin_at (ClX.unpin I)
    refine codeAny_builtin PySem.F.entry_min_loop ?_
    rw [Around.under_plainId PySem.F.plain_min_loop _]
    show wpAny _ X.A.in1 (seqItems? (.ref S0) >>= _) _ _ s
    refine wpAny_bind (wpAny_seqItems nS rfl ?_)
    show wpAny _ X.A.in1 (tryCatch (pyNext (.ref I0)) _ >>= _) _ _ s
    have hlen := rv.length
    refine wpAny_bind (wpAny_tryCatch (wpAny_pyNext_list_end hh hit p.isList (by simp; omega) fun h' eb => ?_))
    have J := (ClX.unpin I).turned (t' := s.toks) (it := I0) (fun b o hb e => eb b o hb e) (fp_add hI (o := seqObj "list" #[ub, .int (kf i) tb] c) hSI).1 hI.2.1 hI.2.2.2.1 hI.2.2.2.2.1 (fp_add hI (o := seqObj "list" #[ub, .int (kf i) tb] c) hSI).2.2.2.2.2
    have hS' := ClX.pin_at J
    have s1 := Heap.SameBut.update h' S0 (Obj.mapSeq fun _ => (#[] : Array Value))
    show wpAny _ X.A.in1 (updateSeq S0 (fun _ => #[]) >>= _) _ _ _
    refine wpAny_bind ?_
    refine wpAny_updateSeq hS' rfl (wpAny_bind (wpAny_letGo (wpAny_pure ?_)))
    obtain ⟨vb, h1, h2⟩ := hvb
    refine hR i vb ub _ h1 h2 (by rw [← hin]; exact hb) ?_
    exact (ClX.unpin J).turned (it := S0) (fun b o hb e => (s1.2 b hb).trans e) hS.1 hS.2.1 hS.2.2.2.1 hS.2.2.2.2.1 hS.2.2.2.2.2
  | succ r ih =>
    intro j i s ub tb c oI hr hj I hit hvb hij hb
    have hlt : j + 1 < vs.length := by omega
    obtain ⟨its, rv, p, hz⟩ := I.list hl
    have hlen := rv.length
    have nS := ClX.pin_at (ClX.unpin I)
    have hx := List.getElem?_eq_getElem hlt
    obtain ⟨u, hu, ru⟩ := rv.get hx
    refine codeAny_builtin PySem.F.entry_min_loop ?_
    rw [Around.under_plainId PySem.F.plain_min_loop _]
    show wpAny _ X.A.in1 (seqItems? (.ref S0) >>= _) _ _ s
    refine wpAny_bind (wpAny_seqItems nS rfl ?_)
    show wpAny _ X.A.in1 (tryCatch (pyNext (.ref I0)) _ >>= _) _ _ s
    refine wpAny_bind (wpAny_tryCatch (wpAny_pyNext_list_item hit p.isList (x := u) (by simpa using hu) fun h' hst' sb => ?_))
    obtain ⟨oI', hoI', hoc, hod⟩ := id hst'
    have J := rep_pin (t' := s.toks) (h' := h') I (fp_add hI hSI) (fun b o hb e => (sb.2 b hb).trans e) hoI' (fun v z => by rw [hod] at z; cases z)
    show wpAny _ X.A.in1 (tryCatch (holding [u] (call (.ref q) [u])) _ >>= _) _ _ _
    refine wpAny_bind (wpAny_tryCatch (wpAny_holding (wpAny_mono (turn (j + 1) _ u _ _ _ hx ru J) (fun x s'' he => ?_) fun _ _ hF => hF.elim)))
    obtain ⟨t2, rfl, J2⟩ := he
    have nI2 := ClX.pin_at J2
    have nS2 := ClX.pin_at (ClX.unpin J2)
    have hit2 : s''.heap.IsListIter I0 l (j + 1 + 1) := ⟨oI', nI2, hoc, hod⟩
    show wpAny _ X.A.in1 (tryCatch (holding [u, .int (kf (j + 1)) t2] (richCompare .Lt (.int (kf (j + 1)) t2) (.int (kf i) tb) >>= _)) _ >>= _) _ _ s''
    refine wpAny_bind (wpAny_tryCatch (wpAny_holding (wpAny_bind (CmpOf.ints_lt (prog := X.prog) (w := X.w) (A := X.A.in1) (P := fun i v => ∃ t, v = .int (kf i) t) kf (fun i v h => h) (j + 1) i _ _ _ _ _ ⟨t2, rfl⟩ ⟨tb, rfl⟩ ?_))))
    refine wpAny_bind (wpAny_holding (wpAny_truthy_bool ?_))
    refine wpAny_bind (wpAny_letGo (wpAny_pure ?_))
    by_cases hb' : kf (j + 1) < kf i
    · have s1 := Heap.SameBut.update s''.heap S0 (Obj.mapSeq fun _ => #[u, .int (kf (j + 1)) t2])
      obtain ⟨c2, hc2⟩ : ∃ c2, (s''.heap.update S0 (Obj.mapSeq fun _ => #[u, .int (kf (j + 1)) t2])).get? S0 = some (seqObj "list" #[u, .int (kf (j + 1)) t2] c2) := ⟨_, get?_update_seq nS2 fun _ => #[u, .int (kf (j + 1)) t2]⟩
      simp only [hb', decide_true, if_true]
      refine wpAny_bind ?_
      refine wpAny_updateSeq nS2 rfl (wpAny_bind (wpAny_letGo ?_))
      rw [hname]
      have J3 := swap_pin (rep_pin (t' := s''.toks) (swap_pin J2) (fp_add hS (o := oI') (Ne.symm hSI)) (fun b o hb e => (s1.2 b hb).trans e) hc2 (fun v z => by cases z))
      refine wpAny_pure ⟨plainId_quiet PySem.F.plain_min_loop _, ih (j + 1) (j + 1) _ u t2 c2 oI' (by omega) hlt J3 ⟨oI', (s1.2 I0 hSI.symm).trans nI2, hoc, hod⟩ ⟨_, hx, ru⟩ (Nat.le_refl _) fun j' hj' => ?_⟩
      by_cases e : j' = j + 1
      · subst e
        exact ⟨by omega, fun _ => by omega⟩
      · have hb1 := (hb j' (by omega)).1
        exact ⟨by omega, fun _ => by omega⟩
    · simp only [hb', decide_false, Bool.false_eq_true, if_false]
      refine wpAny_bind (wpAny_letGo ?_)
      rw [hname]
      refine wpAny_pure ⟨plainId_quiet PySem.F.plain_min_loop _, ih (j + 1) i _ ub tb c oI' (by omega) hlt J2 hit2 hvb (by omega) fun j' hj' => ?_⟩
      by_cases e : j' = j + 1
      · subst e
        exact ⟨by omega, fun _ => by omega⟩
      · exact hb j' (by omega)
theorem min_callI {s : Shared} {Q : Value → Shared → Prop} (kf : Nat → Int) (hh : X.A.in1.handled = none) (I : Inv X pins σ H s) (hl : SqL X.K H l vs) (hne : 0 < vs.length)
    (turn : ∀ (i : Nat) (v : V) (u : Value) (p1 p2 : Addr × Obj) (s : Shared), vs[i]? = some v → RelV v u → Inv X (p1 :: p2 :: pins) σ H s → wpAny (model X.prog X.w) X.A.in1 (call (.ref q) [u]) (fun x s' => ∃ t, x = .int (kf i) t ∧ Inv X (p1 :: p2 :: pins) σ H s') (fun _ _ => False) s)
    (hQ : ∀ i v u s', vs[i]? = some v → RelV v u → Best kf vs.length i → Inv X pins σ H s' → Q u s') :
    wpAny (model X.prog X.w) X.A (call (.builtin "min") [.ref l] [(Str.ofString "key", .ref q)]) Q X.xe s := by
  have hname : (toString "min" ++ toString ".loop" : String) = "min.loop" := by decide
  obtain ⟨its, rv, p, hz⟩ := I.list hl
  refine kmk_tree PySem.F.kind_min PySem.F.plain_min PySem.F.entry_min (kmk_min_key _ _) ?_
  show wpAny _ X.A.in1 (Builtin.Builtins.bindParams "min" ["key", "default"] 0 ⟨[], [(Str.ofString "key", .ref q)]⟩ >>= _) _ _ s
  refine wpAny_bind (wpAny_of_eq (show Builtin.Builtins.bindParams "min" ["key", "default"] 0 ⟨[], [(Str.ofString "key", .ref q)]⟩ = pure [some (.ref q), none] from rfl) ?_)
  refine wpAny_bind (wpAny_pure ?_)
  refine wpAny_bind (wpAny_pyIter_list p.isList ?_)
  refine wpAny_bind (wpAny_newList ?_ (Nat.zero_le _))
  rw [hname]
  generalize hoI : ({ cls := .type "list_iterator", data := .fields #[.ref l, .int 0 0] } : Obj) = oI0
  have fI : oI0.isFreed = false := by rw [← hoI] <;> rfl
  have dI : oI0.data = .fields #[.ref l, .int 0 0] := by rw [← hoI]
  have cI : oI0.cls = .type "list_iterator" := by rw [← hoI]
  have hS : (s.heap.push oI0).objs.size = s.heap.objs.size + 1 := size_push' ..
  have hSI : (s.heap.push oI0).objs.size ≠ s.heap.objs.size := by rw [hS]; exact Nat.ne_of_gt (Nat.lt_succ_self _)
  have gI : ((s.heap.push oI0).push (seqObj "list" #[] 0)).get? s.heap.objs.size = some oI0 := Heap.get?_push_of_some _ (Heap.get?_push_size _ fI)
  have gS : ((s.heap.push oI0).push (seqObj "list" #[] 0)).get? (s.heap.push oI0).objs.size = some (seqObj "list" #[] 0) := Heap.get?_push_size _ rfl
  have nI : FpOk X pins H s.heap.objs.size := I.fpOk (Nat.le_refl _) (I.hok.fresh (Nat.le_refl _))
  have nS : FpOk X pins H (s.heap.push oI0).objs.size := I.fpOk (by rw [hS]; omega) (I.hok.fresh (by rw [hS]; omega))
  refine wpAny_pure ⟨plainId_quiet PySem.F.plain_min_loop _, ?_⟩
  have kp : ∀ b u, s.heap.get? b = some u → ((s.heap.push oI0).push (seqObj "list" #[] 0)).get? b = some u := fun b u e => Heap.get?_push_of_some _ (Heap.get?_push_of_some _ e)
  have J0 : Inv X ((s.heap.objs.size, oI0) :: ((s.heap.push oI0).objs.size, seqObj "list" #[] 0) :: pins) σ H { s with heap := (s.heap.push oI0).push (seqObj "list" #[] 0) } := by
    have K1 := I.kept (t' := s.toks) kp
    refine K1.pins_of fun r hr => ?_
    rcases List.mem_cons.mp hr with rfl | hr
    · exact ⟨gI, nI.1, nI.2.1, nI.2.2.1, fun v z => by rw [dI] at z; cases z⟩
    · rcases List.mem_cons.mp hr with rfl | hr
      · exact ⟨gS, nS.1, nS.2.1, nS.2.2.1, fun v z => by cases z⟩
      · exact K1.pin r (List.mem_append_right _ hr)
  obtain ⟨its0, rv0, p0, hz0⟩ := J0.list hl
  have hx := List.getElem?_eq_getElem hne
  obtain ⟨u, hu, ru⟩ := rv0.get hx
  refine codeAny_builtin PySem.F.entry_min_loop ?_
  rw [Around.under_plainId PySem.F.plain_min_loop _]
  show wpAny _ X.A.in1 (seqItems? (.ref _) >>= _) _ _ _
  refine wpAny_bind (wpAny_seqItems gS rfl ?_)
  show wpAny _ X.A.in1 (tryCatch (pyNext (.ref s.heap.objs.size)) _ >>= _) _ _ _
  have hit0 : ((s.heap.push oI0).push (seqObj "list" #[] 0)).IsListIter s.heap.objs.size l 0 := ⟨oI0, gI, cI, dI⟩
  refine wpAny_bind (wpAny_tryCatch (wpAny_pyNext_list_item hit0 p0.isList (x := u) (by simpa using hu) fun h' hst' sb => ?_))
  obtain ⟨oI', hoI', hoc, hod⟩ := id hst'
  have J := rep_pin (t' := s.toks) (h' := h') J0 (fp_add nI hSI) (fun b o hb e => (sb.2 b hb).trans e) hoI' (fun v z => by rw [hod] at z; cases z)
  show wpAny _ X.A.in1 (tryCatch (holding [u] (call (.ref q) [u])) _ >>= _) _ _ _
  refine wpAny_bind (wpAny_tryCatch (wpAny_holding (wpAny_mono (turn 0 _ u _ _ _ hx ru J) (fun x s'' he => ?_) fun _ _ hF => hF.elim)))
  obtain ⟨t2, rfl, J2⟩ := he
  have nI2 := ClX.pin_at J2
  have nS2 := ClX.pin_at (ClX.unpin J2)
  generalize (s.heap.push oI0).objs.size = S0 at *
  generalize s.heap.objs.size = I0 at *
  have s1 := Heap.SameBut.update s''.heap S0 (Obj.mapSeq fun _ => #[u, .int (kf 0) t2])
  obtain ⟨c2, hc2⟩ : ∃ c2, (s''.heap.update S0 (Obj.mapSeq fun _ => #[u, .int (kf 0) t2])).get? S0 = some (seqObj "list" #[u, .int (kf 0) t2] c2) := ⟨_, get?_update_seq nS2 fun _ => #[u, .int (kf 0) t2]⟩
  show wpAny _ X.A.in1 (updateSeq S0 (fun _ => #[u, .int (kf 0) t2]) >>= _) _ _ s''
  refine wpAny_bind ?_
  refine wpAny_updateSeq nS2 rfl ?_
  rw [hname]
  have J3 := swap_pin (rep_pin (t' := s''.toks) (swap_pin J2) (fp_add nS (o := oI') (Ne.symm hSI)) (fun b o hb e => (s1.2 b hb).trans e) hc2 (fun v z => by cases z))
  refine wpAny_pure ⟨plainId_quiet PySem.F.plain_min_loop _, min_loopI kf hh hl nI nS hSI turn (fun i v u s' h1 h2 h3 h4 => hQ i v u s' h1 h2 h3 h4) _ 0 0 _ u t2 c2 oI' rfl hne J3 ⟨oI', (s1.2 I0 hSI.symm).trans nI2, hoc, hod⟩ ⟨_, hx, ru⟩ (Nat.le_refl _) fun j' hj' => ?_⟩
  have : j' = 0 := by omega
  subst this
  exact ⟨Int.le_refl _, fun h => absurd h (Nat.lt_irrefl _)⟩
end
end CM
set_option Elab.async false
set_option linter.all false
set_option maxRecDepth 100000
set_option maxHeartbeats 2000000
/-! A lambda of one parameter, without free names, called. -/
namespace CM
open PySem PySem.Spec PyProof.Rows L2
section
variable {X : Cx} {pins : List (Addr × Obj)} {σ : L2.St} {H : Hp} {s : Shared}
theorem lam1 {f c' : Addr} {nm qual x : Str} {params : Arguments} {body : Expr} {scope : Scope} {pm ctv u : Value} {v : V} {N : List Str} {k : Nat} {kf : Int} {tb : TE} (I : Inv X pins σ H s)
    (hf : s.heap.get? f = some (PySem.W.kla_obj nm qual params body scope [] pm c' ctv)) (S : FnScope N [x] scope) (hc : H c' = some (LamX.CodeO c' qual))
    (hbind : bindArgs (PySem.W.kla_fn nm qual params body scope [] pm (.ref c') ctv) ⟨[u], []⟩ = pure [(x, u)]) (hr : Room (k + 2) X.A)
    (hbody : ∀ (A : Around) (outer : List Env) (s : Shared) (H : Hp), Room k (A.deeper (envOfC qual scope s.heap.objs.size f (.ref c'))) → PE (cxOf C8.CX0 X.prog X.w X.K X.mg X.base N qual scope f (.ref c') A outer s H C8.E0) body tb)
    (ru : RelV v u) (hq : tb (L2.start N [v]) H (fun v' H' => v' = .int kf ∧ H' = H)) :
    wpAny (model X.prog X.w) X.A.in1 (call (.ref f) [u]) (fun y s' => ∃ t, y = .int kf t ∧ Inv X pins σ H s') (fun _ _ => False) s := by
  have e0 := I.env0.in1
  have hr1 : Room (k + 1) X.A.in1 := hr.in1
  have rc : codeAny (model X.prog X.w) X.A.in1 (.call (.ref f) ⟨[u], []⟩) (CR C8.CX0 X.stack X.prog X.w H s (fun v' H' => v' = .int kf ∧ H' = H) C8.E0) s := by
    obtain ⟨⟨oc, cs, t, hoc, hdc, hvc⟩, _, _⟩ := I.hok c' _ hc
    have lim : s.heap.NoLimit := e0.mod.nolimit.keeps fun b o e => (e0.bs b o e).1
    have hkind : ∀ y ∈ [x].zip [u], scope.names.lookup y.1 = some .local ∨ (scope.names.lookup y.1 = some .cell ∧ ((cellsFrom (s.heap.objs.size + 1) scope.names []).lookup y.1).isSome = true) := fun ⟨n, v⟩ hy => by
      rcases S.par n (List.of_mem_zip hy).1 with q | q
      · exact .inl q
      · exact .inr ⟨q, PySem.W.cellsFrom_some _ _ _ (.inl q)⟩
    refine PySem.W.kla_callFunE hr1.depth hf rfl S.co S.gen rfl ⟨c', oc, cs, t, rfl, hoc, hdc, hvc⟩ ?_
    rw [hbind]
    refine wpAny_pure ?_
    refine wpAny_newFunctionEnv_cells S.kind hkind fun env he s1 xx => ?_
    subst he
    refine ⟨lim.keeps xx.toInCall.keep, ?_⟩
    have J : Inv (cxOf C8.CX0 X.prog X.w X.K X.mg X.base N qual scope f (.ref c') X.A.in1 X.stack s H C8.E0) [] (L2.start N [v]) H s1 := inv_start S hr1.hd e0 rfl (.cons ru .nil) xx
    refine PySem.W.kla_codeExpr (wpAny_mono ((hbody X.A.in1 X.stack s H (hr1.deeper _)).run [] s1 _ H _ J hq) (fun y s' hs => ?_) fun e s' hs => hs)
    obtain ⟨v', H', J', rv', q'⟩ := hs
    exact ⟨v', H', J'.os, J'.bare, J'.base, J'.hok, rv', q'⟩
  refine wpAny_call (codeAny_mono rc fun r s' hs => ?_)
  cases r with
  | error e => exact (show False from hs).elim
  | ok fl =>
    cases fl with
    | ret y =>
      obtain ⟨v', H', J, rv', e1, e2⟩ := I.after hs
      subst e1
      subst e2
      obtain ⟨t, ht⟩ := rv'
      exact ⟨t, ht, J⟩
    | next => exact False.elim hs
    | brk => exact False.elim hs
    | cont => exact False.elim hs
end
end CM
set_option Elab.async false
set_option linter.all false
set_option maxRecDepth 100000
set_option maxHeartbeats 2000000
/-! min(xs, key=lambda x: ..), as an expression. -/
namespace CM
open PySem PySem.Spec PyProof.Rows L2
theorem sqL_extN {K : PySem.W.Frag} {H H' : Hp} {a : Addr} {xs : List V} (h : SqL K H a xs) (e : LamX.ExtN H H') : SqL K H' a xs := by
  rcases h with (h | ⟨o, h⟩) | h
  · exact .inl (.inl (e _ _ h (fun ps z => by cases z)))
  · exact .inl (.inr ⟨o, e _ _ h (fun ps z => by cases z)⟩)
  · exact .inr h
def tMinL (K : PySem.W.Frag) (T : List (Addr × Str)) (N : List Str) (tb : TE) (t : TA) : TE := fun σ H Q => t σ H fun us H1 => ∃ l vs, us = [.ref l] ∧ SqL K H1 l vs ∧ 0 < vs.length ∧ LamX.Tabs T H1 ∧ ∀ H2, LamX.ExtN H1 H2 → LamX.Tabs T H2 → ∃ kf : Nat → Int,
  (∀ i v, vs[i]? = some v → tb (L2.start N [v]) H2 (fun v' H' => v' = .int (kf i) ∧ H' = H2)) ∧ ∀ i v, vs[i]? = some v → Best kf vs.length i → Q v H2
theorem pe_minL {X : Cx} {T : List (Addr × Str)} {c P : Addr} {x : Str} {N : List Str} {k : Nat} {a : Expr} {t : TA} {params : Arguments} {body : Expr} {scope : Scope} {lpos kpos p pos : Pos} {tb : TE} (hg : Gl X "min") (hm : X.mg "min" = none) (ha : PA X [a] t)
    (TB : LamX.TabB X.base X.mg c P) (hcode : X.env.code = .ref c) (hmT : (P, X.env.qual ++ "<lambda>") ∈ T) (hu : ∀ p ∈ T, p.1 = P → p.2 = X.env.qual ++ "<lambda>") (hdef : defaultsOf params X.env = ([], [])) (hno : ∀ y ∈ scope.names, y.2 = .free → False) (hcl : ∀ cells, cloFrom cells scope.names [] = [])
    (hfs : ∀ b ∈ X.fs, b ∈ frs X.stack) (hlo : X.env.locals ∈ frs X.stack) (hd : X.A.in1.handled = none) (S : FnScope N [x] scope) (hr : Room (k + 2) X.A)
    (hbind : ∀ (q : Str) (pm cv ctv u : Value), bindArgs (PySem.W.kla_fn "<lambda>" q params body scope [] pm cv ctv) ⟨[u], []⟩ = pure [(x, u)])
    (hbody : ∀ (qual : Str) (f c' : Addr) (A : Around) (outer : List Env) (s : Shared) (H : Hp), Room k (A.deeper (envOfC qual scope s.heap.objs.size f (.ref c'))) → PE (cxOf C8.CX0 X.prog X.w X.K X.mg X.base N qual scope f (.ref c') A outer s H C8.E0) body tb)
    (he : backTo pos (starEach [a] X.env) = (false, eval a X.env) :: backTo pos (starEach [] X.env) := by rfl) (hpl : (backTo pos (starEach [a] X.env)).any (·.1) = false := by rfl) :
    PE X (.Call (.Name "min" p) [a] [⟨some "key", .Lambda params body scope lpos, kpos⟩] pos) (tMinL X.K T N tb t) := by
  refine ⟨fun pins s σ H Q I h => ?_⟩
  refine wpAny_Call_Name_kw (ld_blt I hg hm PyProof.Rows.boot_min ?_ (by decide) (by decide))
  refine PyProof.Rows.callWith_kw (thn (ha.run pos pins s σ H _ I h) fun us s1 ⟨vs1, H1, I1, r1, q1⟩ => ?_) he hpl (by rfl) (by rfl)
  obtain ⟨l, vs, e1, hl, hne, hT, hk⟩ := q1
  subst e1
  show wpAny _ _ (evalAll [(do let v ← eval (.Lambda params body scope lpos) X.env; standAt pos; pure v)]) _ _ s1
  refine wpAny_evalAll_cons (wpAny_bind (LamX.lam_make2 I1 TB hcode hmT hu hT hdef (fun y hy q => (hno y hy q).elim) fun f c' pm ctv H2 s2 I2 eN T2 hf hfn hfr hco => wpAny_bind (wpAny_standAt (wpAny_pure (wpAny_evalAll_nil ?_)))))
  rw [hcl] at hf
  obtain ⟨kf, hkf, hbest⟩ := hk H2 eN T2
  have eu : us = [.ref l] := by
    cases r1 with
    | cons r r' =>
      cases r'
      have r0 : _ = Value.ref l := r
      rw [r0]
  subst eu
  show wpAny _ _ (call (.builtin "min") [.ref l] [(Str.ofString "key", .ref f)]) _ _ s2
  have I3 : Inv X ((f, PySem.W.kla_obj "<lambda>" (X.env.qual ++ "<lambda>") params body scope [] pm c' ctv) :: pins) σ H2 s2 := by
    refine I2.pins_of fun r hr => ?_
    rcases List.mem_cons.mp hr with rfl | hr
    · exact ⟨hf, hfn, fun z => hfr (by have z2 : f = X.env.locals := z; rw [z2]; exact hlo), fun z => hfr (hfs _ z), fun v z => by cases z⟩
    · exact I2.pin r (List.mem_append_right _ hr)
  refine min_callI kf hd I3 (sqL_extN hl eN) hne (fun i v u p1 p2 s' h1 h2 J => ?_) fun i v u s' h1 h2 h3 J => ⟨v, H2, ClX.unpin J, h2, hbest i v h1 h3⟩
  exact lam1 J (ClX.pin_at (ClX.unpin (ClX.unpin J))) S hco (hbind _ _ _ _ _) hr (fun A outer s H hr' => hbody _ f c' A outer s H hr') h2 (hkf i v h1)
end CM
set_option Elab.async false
set_option linter.all false
set_option maxRecDepth 100000
set_option maxHeartbeats 1000000
/-! Bodies whose ends are fixed; the def that makes a lambda. -/
namespace CM
open PySem PySem.Spec PyProof.Rows L2
section
variable {K : PySem.W.Frag} {C : Addr} {H H' : Hp} {P P' : Addr → Prop}
mutual
theorem Rs.monoN (h : ∀ a o, (∀ ps, o ≠ .tbl ps) → P a → H a = some o → P' a ∧ H' a = some o) : ∀ {v : V} {d : Dt}, Rs K C H P v d → Rs K C H' P' v d
  | _, _, .non => .non
  | _, _, .bl b => .bl b
  | _, _, .int i => .int i
  | _, _, .str x => .str x
  | _, _, .lst p e r => .lst (h _ _ (fun _ z => by cases z) p e).1 (h _ _ (fun _ z => by cases z) p e).2 (RsL.monoN h r)
  | _, _, .tup p e r => .tup (h _ _ (fun _ z => by cases z) p e).1 (h _ _ (fun _ z => by cases z) p e).2 (RsL.monoN h r)
  | _, _, .xtp p d e r => .xtp (h _ _ (fun _ z => by cases z) p e).1 d (h _ _ (fun _ z => by cases z) p e).2 (RsL.monoN h r)
  | _, _, .grp p e r1 r2 r3 => .grp (h _ _ (fun _ z => by cases z) p e).1 (h _ _ (fun _ z => by cases z) p e).2 (Rs.monoN h r1) (Rs.monoN h r2) (Rs.monoN h r3)
  | _, _, .scr p e => .scr (h _ _ (fun _ z => by cases z) p e).1 (h _ _ (fun _ z => by cases z) p e).2
  | _, _, .scrL p e => .scrL (h _ _ (fun _ z => by cases z) p e).1 (h _ _ (fun _ z => by cases z) p e).2
  | _, _, .scrK e => .scrK e
theorem RsL.monoN (h : ∀ a o, (∀ ps, o ≠ .tbl ps) → P a → H a = some o → P' a ∧ H' a = some o) : ∀ {vs : List V} {ds : List Dt}, RsL K C H P vs ds → RsL K C H' P' vs ds
  | _, _, .nil => .nil
  | _, _, .cons r t => .cons (Rs.monoN h r) (RsL.monoN h t)
end
end
structure DSsK (X : Cx) (C : Addr) (HE H0 : Hp) (P0 : Addr → Prop) (D : Ends) (st : List Stmt) (p : En → Prop) : Prop where
  ex : ∃ t, PSs X st t ∧ ∀ σ H env, Stt X.K C HE H0 P0 σ H env → p env → t D σ H
section
variable {X : Cx} {C : Addr} {HE H0 : Hp} {P0 : Addr → Prop} {D : Ends} {st : Stmt} {rest : List Stmt} {d1 : DT} {p : En → Prop}
theorem dssK_cons (rt : Dt → Prop) (hrt : ∀ v H' d, Ex H0 H' → Rs X.K C H' P0 v d → rt d → D.rt v H') (h1 : DS X C st d1) (h2 : DSsK X C HE H0 P0 D rest p) : DSsK X C HE H0 P0 D (st :: rest) (fun env => d1 { nx := p, rt := rt } env) := by
  obtain ⟨t1, p1, k1⟩ := h1
  obtain ⟨t2, p2, k2⟩ := h2
  exact ⟨_, pss_cons p1 p2, fun σ H env s q => k1 HE H0 P0 _ { nx := p, rt := rt } σ H env ⟨fun σ' H' env' s' q' => k2 σ' H' env' s' q', fun v H' d e r q' => hrt v H' d e r q', fun _ _ _ _ q' => q'.elim, fun _ _ _ _ q' => q'.elim⟩ s q⟩
/-- the return of the first least of a list of tuples, by their lengths -/
theorem dssK_min {T : List (Addr × Str)} {N : List Str} {tb : TE} {a : Expr} {pos : Pos} {e : Expr} {f : En → Dt → Prop} (rt : Dt → Prop) (hT : LamX.Tabs T H0)
    (hrt : ∀ v H' d, LamX.ExtN H0 H' → Rs X.K C H' P0 v d → rt d → D.rt v H') (ha : DE X C a f) (hmin : ∀ {ta : TE}, PE X a ta → PE X e (tMinL X.K T N tb (tCons ta tNil)))
    (htb : ∀ (b : Addr) (H : Hp) (ys : List V), SqT X.K H b ys → tb (L2.start N [.ref b]) H (fun v' H' => v' = .int (ys.length : Int) ∧ H' = H)) :
    DSsK X C HE H0 P0 D [.Return (some e) pos] (fun env => ∃ rows : List (List Nat), f env (.lst (rowD rows)) ∧ 0 < rows.length ∧ ∀ i c, rows[i]? = some c → Best (fun i => ((rows.getD i []).length : Int)) rows.length i → rt (tN c)) := by
  obtain ⟨ta, pa, ka⟩ := ha
  refine ⟨_, pss_one (ps_ret (hmin pa)), fun σ H env s q => ?_⟩
  obtain ⟨rows, q1, q2, q3⟩ := q
  obtain ⟨P, ow, h1, h2, h3, F⟩ := s
  refine ka env _ q1 _ σ H _ F fun v H1 e1 r1 => ?_
  cases r1 with
  | lst p0 p1 p2 =>
    rename_i l xs
    have hlen := p2.length
    rw [List.length_map] at hlen
    refine ⟨l, xs, rfl, .of p1, by omega, hT.ext (h3.trans e1), fun H2 eN T2 => ⟨fun i => ((rows.getD i []).length : Int), fun i v hv => ?_, fun i v hv hb => ?_⟩⟩
    · obtain ⟨d, hd, r⟩ := p2.getV hv
      rw [List.getElem?_map] at hd
      obtain ⟨c, hc, rfl⟩ := Option.map_eq_some_iff.mp hd
      cases r with
      | tup s0 s1 s2 =>
        rename_i b ys
        have hy := s2.length
        rw [nD_len] at hy
        have e : ((rows.getD i []).length : Int) = (ys.length : Int) := by
          rw [List.getD_eq_getElem?_getD, hc, hy]
          rfl
        have := htb b H2 ys (.of (eN _ _ s1 (fun ps z => by cases z)))
        show tb _ _ (fun v' H' => v' = .int ((rows.getD i []).length : Int) ∧ H' = H2)
        rw [e]
        exact this
    · obtain ⟨d, hd, r⟩ := p2.getV hv
      rw [List.getElem?_map] at hd
      obtain ⟨c, hc, rfl⟩ := Option.map_eq_some_iff.mp hd
      rw [hlen] at hb
      refine hrt v H2 (tN c) ((LamX.ExtN.of (h3.trans e1)).trans eN) ?_ (q3 i c hc hb)
      exact r.monoN fun b o nt pb ho => ⟨h1 b pb, eN _ _ ho nt⟩
end
end CM
set_option Elab.async false
set_option linter.all false
set_option maxRecDepth 100000
set_option maxHeartbeats 1000000
/-! The walk of the def with the lambda. Printed by gen/nor.py. -/
namespace CM
open PySem PySem.Spec PyProof.Rows L2
theorem sc_law_normal : FnScope ["_law_table_here", "_law_numbers_here", "_law_lots", "_law_number", "_law_larger", "_law_lot"] ["_law_table_here", "_law_numbers_here"] (defScope s_law_normal) := ⟨rfl, rfl, rfl, by decide +kernel, rfl, by decide +kernel, by decide +kernel⟩
def lamS : Scope := { kind := ScopeKind.function, names := [("_law_lot", NameKind.local), ("len", NameKind.globalImplicit)], isGenerator := false, isCoroutine := false, more := [] }
theorem sc_lam : FnScope ["_law_lot"] ["_law_lot"] lamS := ⟨rfl, rfl, rfl, by decide +kernel, rfl, by decide +kernel, by decide +kernel⟩
def tB (K : PySem.W.Frag) : TE := tCB (fun xs H Q => ∃ p ys, xs = [.ref p] ∧ (SqL K H p ys ∨ SqT K H p ys) ∧ Q (.int ys.length) H) (tCons (tVar 0) tNil)
theorem tB_ok {K : PySem.W.Frag} (b : Addr) (H : Hp) (ys : List V) (h : SqT K H b ys) : tB K (L2.start ["_law_lot"] [.ref b]) H (fun v' H' => v' = .int (ys.length : Int) ∧ H' = H) := ⟨_, rfl, b, ys, rfl, .inr h, rfl, rfl⟩
noncomputable def lotF (n : Nat) (m : Op) (z : Int) : List Nat := clo n m (conL n m [(z % (n : Int)).toNat])
def R_nor (n : Nat) (m : Op) (ns : List Int) (r : Dt) : Prop := ∃ z ∈ ns, r = tN (lotF n m z)
def okN (n : Nat) (m : Op) (ns : List Int) : Prop := Tb n m ∧ n ≤ 60 ∧ 4 ≤ ns.length
/-- a promise that may write tables, and whose result is any that the relation tells -/
def spN (K : PySem.W.Frag) (C : Addr) (T : List (Addr × Str)) : Sp := fun vs H Q _ => LamX.Tabs T H ∧ ∃ (P : Addr → Prop) (n : Nat) (m : Op) (ns : List Int), (∀ b, H b = none → P b) ∧ ArgsOk K C H P [false, false] vs [tabD n m, lI ns] ∧ okN n m ns ∧ ∀ r v H', R_nor n m ns r → LamX.ExtN H H' → Rs K C H' P v r → Q v H'
section
variable {P : Program} {w : World} {K : PySem.W.Frag} {mg : Str → Option Value} {base : Heap} {C : Addr}
theorem w_law_normal (T0 : Tx K mg C) (F__law_closed : Fn P w K mg base C "_law_closed" 1 [false, false] R_law_closed) (F__law_conjugates : Fn P w K mg base C "_law_conjugates" 1 [false, false] R_law_conjugates) {T : List (Addr × Str)} {c PT : Addr} (TB : LamX.TabB base mg c PT)
    (hmT : (PT, ("_law_normal" : Str) ++ ".<locals>." ++ "<lambda>") ∈ T) (hu0 : ∀ q ∈ T, q.1 = PT → q.2 = ("_law_normal" : Str) ++ ".<locals>." ++ "<lambda>") {f : Addr} {dV kV doc pm ct oc : Value} {an od : Option Addr} {osl : Array (Option Value)}
    (lk : K.lookup f = some ⟨oc, od, .func (PySem.W.fnOf "_law_normal" "_law_normal" (defArgs s_law_normal) (defBody s_law_normal) (defScope s_law_normal) dV kV doc pm an (.ref c) ct), osl⟩) (hcd : PySem.W.codeIn K (.ref c) "_law_normal" = true)
    (hbd : ∀ us : List Value, us.length = 2 → bindArgs (PySem.W.fnOf "_law_normal" "_law_normal" (defArgs s_law_normal) (defBody s_law_normal) (defScope s_law_normal) dV kV doc pm an (.ref c) ct) ⟨us, []⟩ = pure ((["_law_table_here", "_law_numbers_here"] : List Str).zip us)) : FnR P w K mg base CX0 3 f (spN K C T) := by
  intro A outer s H us vs Q E hr0 e0 rv hsp
  have S := sc_law_normal
  have T := T0
  obtain ⟨hT, Pp, n, m, ns, hf, ha, ⟨tb, hn, hns⟩, hk⟩ := hsp
  have hvl : vs.length = 2 := ha.len.1
  refine LamX.run_ofS (k := 2) lk hcd S hr0 e0 (.of_eq (hbd us (by rw [← rv.length]; exact hvl))) rv hvl fun hr => ?_
  have hu := hu_of hr
  have hrt : ∀ v H' d, Ex H H' → Rs K C H' Pp v d → R_nor n m ns d → Q v H' := fun v H' d e r q => hk d v H' q (LamX.ExtN.of e) r
  have hrt2 : ∀ v H' d, LamX.ExtN H H' → Rs K C H' Pp v d → R_nor n m ns d → Q v H' := fun v H' d e r q => hk d v H' q e r
  let rt : Dt → Prop := R_nor n m ns
  have key : ∀ {p : En → Prop}, DSsK (cxOf CX0 P w K mg base ["_law_table_here", "_law_numbers_here", "_law_lots", "_law_number", "_law_larger", "_law_lot"] "_law_normal" (defScope s_law_normal) f (.ref c) A outer s H E).nox C H H Pp { nx := fun _ H' => Q .non H', rt := Q } (defBody s_law_normal) p → p (startE 6 [false, false] [tabD n m, lI ns]) → ∃ t, PSs (cxOf CX0 P w K mg base ["_law_table_here", "_law_numbers_here", "_law_lots", "_law_number", "_law_larger", "_law_lot"] "_law_normal" (defScope s_law_normal) f (.ref c) A outer s H E) (defBody s_law_normal) t ∧ t { nx := fun _ H' => Q .non H', rt := Q } (L2.start ["_law_table_here", "_law_numbers_here", "_law_lots", "_law_number", "_law_larger", "_law_lot"] vs) H := by
    rintro p ⟨t, pt, kt⟩ hp
    exact ⟨t, PSs.nox pt, kt _ H _ (start_ok ha trivial (by decide) hf) hp⟩
  refine key (dssK_cons rt hrt (ds_own 2 S.nd (df_lst da_nil))
      (dssK_cons rt hrt (ds_for PassesOwn.never rfl (di_seq ((df_slice ((dv 1).r) do_none (do_some de_int)).tree)) (dg_name 3 S.nd) (dss_one (ds_app 2 (de_tupL T.tuple ((de_call F__law_closed (hr.mono (by decide)) (da_sh (dv 0) (da_sh (de_call F__law_conjugates (hr.mono (by decide)) (da_sh (dv 0) (da_sh ((df_lst (da_sh (de_mod (de_toInt T.int (dv 3)) (de_len T.len ((dv 0).r))) da_nil)).tree) da_nil))) da_nil))).r)))))
      (dssK_cons rt hrt (ds_lcSh (dl_lc 4 rfl S.nd [("_law_lot", 5)] 5 rfl rfl (sw_true rfl rfl rfl (by decide +kernel)) (di_seqR (dvo 2)) (blkOk_by (by rfl)) (by decide) (fun _ => pg_name (i := 5) S.nd rfl (by first | exact Or.inl rfl | exact Or.inr rfl)) (dts_one fun _ => db_gt (de_len T.len ((dv 5).r)) de_int) (fun _ => dv 5)))
      (dssK_cons rt hrt (ds_if ((dw_or (db_eqS (de_len T.len ((dv 4).r)) de_int) (dw_or1 (db_eqS (de_mod (de_toInt T.int (de_ix ((dv 1).r) de_int)) de_int) de_int))).test) (dss_one (ds_ret (de_ix (dvo 2) de_int))) dss_nil)
      (dssK_min (T := _) (N := ["_law_lot"]) (tb := tB K) rt hT hrt2 (dv 4) (fun pa => pe_minL (k := 0) rfl T0.min (pa_cons pa pa_nil) TB rfl hmT hu0 rfl (by decide) (fun _ => rfl) (fun b hb => List.mem_cons_of_mem _ hb) (List.mem_cons_self ..) hr.hd sc_lam (hr.mono (by decide)) (fun _ _ _ _ _ => rfl) (fun _ _ _ _ _ _ _ _ => pe_callB call_len_seq rfl T0.len PySem.boot_len (pa_cons (pv 0) pa_nil))) tB_ok))))) ?_
  have hl := tabL_len n m
  have hpos := tb.pos
  have hcut : cutT (ns.map Dt.int) none (some 3) = (ns.take 3).map Dt.int := by rw [cut_head (z := 3) (k := 3) (by simp; omega) rfl, ← List.map_take]
  have a3 : atI (ns.map Dt.int) 3 = some (.int (ns.getD 3 0)) := int_at (k := 3) (by omega)
  have hml : (ns.take 3).length = 3 := by simp; omega
  have hmem : ∀ z ∈ ns.take 3, z ∈ ns := fun z hz => List.mem_of_mem_take hz
  generalize ns.take 3 = ms at hcut hml hmem
  refine ⟨_, ⟨rfl, (by first | (simp; done) | omega | (simp; omega))⟩, ?_⟩
  refine ⟨_, ⟨_, ⟨_, ⟨_, _, _, rfl, rfl, ⟨_, rfl, rfl⟩, rfl⟩, rfl⟩, (rfl)⟩, fun k env => ∃ s3, env = [.sh (tabD n m), .sh (lI ns), .own (rowD ((ms.take k).map (lotF n m))), s3, .un, .un], ?_, fun k t env' hk hw => ?_, fun env' hw => ?_⟩
  · exact ⟨_, rfl⟩
  · obtain ⟨s3, rfl⟩ := hw
    rw [hcut, List.getElem?_map] at hk
    obtain ⟨z, hz, rfl⟩ := Option.map_eq_some_iff.mp hk
    have q1 := Int.emod_nonneg z (show (n : Int) ≠ 0 by omega)
    have q2 := Int.emod_lt_of_pos z (show (0 : Int) < (n : Int) by omega)
    have ez : z % ((tabL n m).length : Int) = (((z % (n : Int)).toNat : Nat) : Int) := by rw [hl]; omega
    have hxn : (z % (n : Int)).toNat < n := by omega
    have c1 : R_law_conjugates [tabD n m, .lst [.int (z % ((tabL n m).length : Int))]] (lN (conL n m [(z % (n : Int)).toNat])) := ⟨n, m, _, [(z % (n : Int)).toNat], by rw [ez], tb, by omega, rfl, fun x hx => by rw [List.mem_singleton] at hx; omega, rfl⟩
    have c2 : R_law_closed [tabD n m, lN (conL n m [(z % (n : Int)).toNat])] (lN (lotF n m z)) := ⟨n, m, _, _, rfl, hpos, by omega, tb.cl, rfl, fun x hx => mem_lt hx, rfl⟩
    refine ⟨_, rfl, ?_⟩
    refine ⟨_, _, rfl, ⟨_, ⟨_, ⟨_, _, rfl, ⟨_, _, ⟨_, ⟨_, _, rfl, ⟨_, _, ⟨_, ⟨⟨_, _, ⟨_, _, ⟨_, rfl, rfl⟩, ⟨_, _, rfl, (by first | rfl | assumption), rfl⟩, (by omega), rfl⟩, rfl, rfl⟩, (by first | (simp; done) | omega | (simp; omega))⟩, rfl⟩, rfl, rfl⟩, rfl⟩, (c1)⟩, rfl, rfl⟩, rfl⟩, (c2)⟩, rfl⟩, (by have hkl := (List.getElem?_eq_some_iff.mp hz).1; rw [List.length_map, List.length_map, List.length_take]; omega), ?_⟩
    refine ⟨.sh (.int z), ?_⟩
    rw [List.take_add_one, hz, List.map_append, rowD_app]
    rfl
  obtain ⟨s3, rfl⟩ := hw
  rw [hcut, List.length_map, List.take_length]
  have hlots : ∀ c ∈ ms.map (lotF n m), ∃ z ∈ ns, c = lotF n m z := fun c hc => by
    obtain ⟨z, hz, rfl⟩ := List.mem_map.mp hc
    exact ⟨z, hmem z hz, rfl⟩
  have h0 : 0 < (ms.map (lotF n m)).length := by rw [List.length_map]; omega
  have hll : (ms.map (lotF n m)).length ≤ 3 := by rw [List.length_map]; omega
  generalize ms.map (lotF n m) = lots at hlots h0 hll ⊢
  refine ⟨_, ⟨_, ⟨rowD lots, fun t => match t.sq with | some l => decide (1 < (l.length : Int)) | none => false, fun t => t, ⟨_, (Or.inl ⟨_, rfl, rfl⟩), (by first | rfl | assumption)⟩, fun t ht => (by obtain ⟨c, _, rfl⟩ := List.mem_map.mp ht; exact ⟨_, _, ⟨_, _, rfl, (by first | rfl | assumption), rfl⟩, rfl, rfl⟩), fun t ht _ => rfl, by rw [List.length_map]; omega, rfl⟩, rfl⟩, ?_⟩
  have ef : ((rowD lots).filter fun t => match t.sq with | some l => decide (1 < (l.length : Int)) | none => false).map (fun t => t) = rowD (lots.filter fun c => decide (1 < ((nD c).length : Int))) := by
    rw [List.map_id', rowD, rowD, List.filter_map]
    rfl
  rw [ef]
  have hz0 := List.getElem?_eq_getElem h0
  refine ⟨_, (fOr_i ⟨_, _, ⟨_, _, rfl, (by first | rfl | assumption), rfl⟩, rfl, (by exact .int _ _)⟩ (fun hc => ⟨_, _, ⟨_, _, ⟨_, ⟨_, _, _, rfl, (by first | rfl | assumption), rfl, (by first | assumption | exact nD_at ‹_› | exact atI_nat ‹_› | exact bD_at ‹_›)⟩, rfl⟩, rfl, (by first | omega | (simp at *; omega) | (simp; omega)), rfl⟩, rfl, (by exact .int _ _)⟩)), fun hb => ?_, fun hb => ?_⟩
  · have hat : atI (rowD lots) 0 = some (tN lots[0]) := atI_zero (by rw [List.getElem?_map, hz0]; rfl)
    refine ⟨_, ⟨_, _, _, (Or.inl ⟨_, rfl, rfl⟩), (by first | rfl | assumption), rfl, (by first | assumption | exact nD_at ‹_› | exact atI_nat ‹_› | exact bD_at ‹_›)⟩, ?_⟩
    obtain ⟨z, hz, e⟩ := hlots _ (List.getElem_mem h0)
    exact ⟨z, hz, by rw [e]⟩
  · refine ⟨lots.filter fun c => decide (1 < ((nD c).length : Int)), rfl, ?_, fun i c hc _ => ?_⟩
    · rw [Bool.or_eq_false_iff] at hb
      have := of_decide_eq_false hb.1
      rw [List.length_map] at this
      omega
    · obtain ⟨z, hz, e⟩ := hlots c ((List.mem_filter.mp (List.mem_of_getElem? hc)).1)
      exact ⟨z, hz, by rw [e]⟩
end
end CM
set_option Elab.async false
set_option linter.all false
set_option maxRecDepth 100000
set_option maxHeartbeats 1000000
/-! The walk of `law`. Printed by gen/law.py. -/
namespace CM
open PySem PySem.Spec PyProof.Rows L2
section
variable {K : PySem.W.Frag} {C : Addr} {φ : Fra} {σ : L2.St} {H H' : Hp} {env : En}
/-- all but the tables stand: a frame of trees goes on in the new heap -/
theorem fok_anew (F : Fok K C φ σ H env) (hs : ∀ s ∈ env, (∃ d, s = .sh d) ∨ s = .un) (eN : LamX.ExtN H H') : Fok K C ⟨H', H', fun b => φ.P b ∨ H' b = none, fun b => φ.P b ∨ H' b = none, φ.ow⟩ σ H' env := by
  refine ⟨F.len, fun i s h => ?_, fun i j s t h1 h2 q1 _ _ => ?_, fun b hb => .inr hb, Ex.refl H', Ex.refl H'⟩
  · rcases hs s (List.mem_of_getElem? h) with ⟨d, rfl⟩ | rfl
    · obtain ⟨v, h1, h2⟩ := F.slot i _ h
      exact ⟨v, h1, h2.monoN fun a o nt p e => ⟨.inl p, eN a o e nt⟩⟩
    · trivial
  · rcases hs s (List.mem_of_getElem? h1) with ⟨d, rfl⟩ | rfl <;> cases q1
end
section
variable {X : Cx} {C : Addr} {HE H0 : Hp} {P0 : Addr → Prop} {D : Ends}
/-- if not _law_quotient_told(a, b, _law_normal(c, d), e, f): .. -/
theorem dssK_ifq {T : List (Addr × Str)} {kq kn : Nat} {fn : Addr} {a b c d e f : Expr} {p1 p2 p3 p4 p5 p6 : Pos} {body rest : List Stmt} {fa fb fc fd fe ff : En → Dt → Prop} {d1 d2 : DT}
    (FQ : Fn X.prog X.w X.K X.mg X.base C "_law_quotient_told" kq [false, false, false, false, false] R_law_quotient_told) (hrq : Room kq X.A)
    (hmN : X.mg "_law_normal" = some (.ref fn)) (hkN : PySem.W.keepIn X.K (.ref fn) = true) (FN : FnR X.prog X.w X.K X.mg X.base CX0 kn fn (spN X.K C T)) (hrn : Room kn X.A)
    (ha : DE X C a fa) (hb : DE X C b fb) (hc : DE X C c fc) (hd : DE X C d fd) (he : DE X C e fe) (hf : DE X C f ff) (hbody : DSs X C body d1) (hrest : DSs X C rest d2)
    (hgq : Gl X "_law_quotient_told") (hgn : Gl X "_law_normal") (hT : LamX.Tabs T H0) (hrt : ∀ v H', v = V.bl true → D.rt v H')
    (htr : ∀ whole, isTrue (.Call (.Name "_law_quotient_told" p1) [a, b, .Call (.Name "_law_normal" p2) [c, d] [] p3, e, f] [] p4) X.env whole = (do let v ← whole; standAt (Expr.pos (.Call (.Name "_law_quotient_told" p1) [a, b, .Call (.Name "_law_normal" p2) [c, d] [] p3, e, f] [] p4)); holding [v] (truthy v)) := by intro _; rfl)
    (s1 : starEach [a, b, .Call (.Name "_law_normal" p2) [c, d] [] p3, e, f] X.env = (false, eval a X.env) :: starEach [b, .Call (.Name "_law_normal" p2) [c, d] [] p3, e, f] X.env := by rfl)
    (s2 : starEach [b, .Call (.Name "_law_normal" p2) [c, d] [] p3, e, f] X.env = (false, eval b X.env) :: starEach [.Call (.Name "_law_normal" p2) [c, d] [] p3, e, f] X.env := by rfl)
    (s3 : starEach [.Call (.Name "_law_normal" p2) [c, d] [] p3, e, f] X.env = (false, eval (.Call (.Name "_law_normal" p2) [c, d] [] p3) X.env) :: starEach [e, f] X.env := by rfl)
    (s4 : starEach [e, f] X.env = (false, eval e X.env) :: starEach [f] X.env := by rfl)
    (s5 : starEach [f] X.env = (false, eval f X.env) :: starEach [] X.env := by rfl)
    (s6 : starEach [c, d] X.env = (false, eval c X.env) :: starEach [d] X.env := by rfl)
    (s7 : starEach [d] X.env = (false, eval d X.env) :: starEach [] X.env := by rfl)
    (l1 : (backTo p4 (starEach [b, .Call (.Name "_law_normal" p2) [c, d] [] p3, e, f] X.env)).any (·.1) = false := by rfl)
    (l2 : (backTo p3 (starEach [d] X.env)).any (·.1) = false := by rfl) :
    DSsK X C HE H0 P0 D (.If (.UnaryOp .Not (.Call (.Name "_law_quotient_told" p1) [a, b, .Call (.Name "_law_normal" p2) [c, d] [] p3, e, f] [] p4) p5) body [] p6 :: rest)
      (fun env => (∀ s ∈ env, (∃ d, s = .sh d) ∨ s = .un) ∧ ∃ (n : Nat) (m : Op) (ns : List Int) (rl rd : List (List Nat)), fa env (grpD n m) ∧ fb env (tabD n m) ∧ fc env (tabD n m) ∧ fd env (lI ns) ∧ fe env (.lst (rowD rl)) ∧ ff env (.lst (rowD rd)) ∧ okN n m ns ∧
        (∀ r, R_nor n m ns r → R_law_quotient_told [grpD n m, tabD n m, r, .lst (rowD rl), .lst (rowD rd)] (.bl true)) ∧ d2 { nx := fun _ => False, rt := fun d => d = .bl true } env) := by
  obtain ⟨fq, hmQ, hkQ, FQ⟩ := FQ
  obtain ⟨ta, pa, ka⟩ := ha
  obtain ⟨tb, pb, kb⟩ := hb
  obtain ⟨tc, pc, kc⟩ := hc
  obtain ⟨td, pd, kd⟩ := hd
  obtain ⟨te, pe, ke⟩ := he
  obtain ⟨tf, pf, kf⟩ := hf
  obtain ⟨t1, q1, k1⟩ := hbody
  obtain ⟨t2, q2, k2⟩ := hrest
  have pn := pe_callF (p := p2) (pos := p3) FN hrn hgn hmN hkN (pa_cons pc (pa_cons pd pa_nil s7) s6) (by decide) s6 l2
  have pq := pe_callF (p := p1) (pos := p4) FQ hrq hgq hmQ hkQ (pa_cons pa (pa_cons pb (pa_cons pn (pa_cons pe (pa_cons pf pa_nil s5) s4) s3) s2) s1) (by decide) s1 l1
  refine ⟨_, pss_cons (ps_if (pt_not (pt_val pq htr)) q1 pss_nil) q2, fun σ H env s q => ?_⟩
  obtain ⟨hs, n, m, ns, rl, rd, va, vb, vc, vd, ve, vf, hN, hQ, hgo⟩ := q
  obtain ⟨P, ow, h1, h2, h3, F⟩ := s
  refine ka env _ va _ σ H _ F fun v1 H1 e1 r1 => kb env _ vb _ σ H1 _ (F.ex e1) fun v2 H2 e2 r2 => kc env _ vc _ σ H2 _ (F.ex (e1.trans e2)) fun v3 H3 e3 r3 => kd env _ vd _ σ H3 _ (F.ex ((e1.trans e2).trans e3)) fun v4 H4 e4 r4 => ?_
  have e14 := ((e1.trans e2).trans e3).trans e4
  have F4 := F.ex e14
  refine ⟨hT.ext (h3.trans e14), P, n, m, ns, fun b hb => F4.fresh b hb, .sh (r3.ex e4) (.sh r4 .nil), hN, fun r v5 H5 hr eN r5 => ?_⟩
  have F5 := fok_anew F4 hs eN
  have mv : ∀ {v d}, Rs X.K C H4 P v d → Rs X.K C H5 (fun b => P b ∨ H5 b = none) v d := fun h => h.monoN fun a o nt p e => ⟨.inl p, eN a o e nt⟩
  refine ke env _ ve _ σ H5 _ F5 fun v6 H6 e6 r6 => kf env _ vf _ σ H6 _ (F5.ex e6) fun v7 H7 e7 r7 => ?_
  have e57 := e6.trans e7
  refine ⟨fun b => P b ∨ H5 b = none, _, .bl true, fun b hb => .inr (e57.back hb), .sh ((mv (r1.ex ((e2.trans e3).trans e4))).ex e57) (.sh ((mv (r2.ex (e3.trans e4))).ex e57) (.sh ((r5.wid fun b p => .inl p).ex e57) (.sh (r6.ex e7) (.sh r7 .nil)))), hQ r hr, fun v8 H8 e8 r8 => ?_⟩
  cases r8
  refine ⟨true, rfl, ?_⟩
  refine iteF (k2 H5 H5 (fun b => P b ∨ H5 b = none) D { nx := fun _ => False, rt := fun d => d = .bl true } σ H8 env ⟨fun _ _ _ _ z => z.elim, fun v H' d _ rv z => ?_, fun _ _ _ _ z => z.elim, fun _ _ _ _ z => z.elim⟩ ⟨_, ow, fun _ p => p, fun _ _ p => p, e57.trans e8, F5.ex (e57.trans e8)⟩ hgo)
  subst z
  cases rv
  exact hrt _ _ rfl
end
theorem sc_law : FnScope ["_law_script", "_law_numbers_here", "_law_limit", "_law_first", "_law_sizes", "_law_second", "_law_table_here", "_law_group_here", "_law_lows", "_law_derived", "_law_members", "_law_subgroup", "_law_k", "_law_number"] ["_law_script"] (defScope s_law) := ⟨rfl, rfl, rfl, by decide +kernel, rfl, by decide +kernel, by decide +kernel⟩
def spL (K : PySem.W.Frag) (T : List (Addr × Str)) : Sp := fun vs H Q _ => ∃ (a : Addr) (zs : List Int), vs = [.ref a] ∧ LamX.Tabs T H ∧ SqL K H a (zs.map V.int) ∧ ∀ H', Q (.bl true) H'
theorem env_eqP {p : En → Prop} {env : En} (env' : En) (h : env = env') (k : p env') : p env := h ▸ k
def ch1 : List Nat := List.range 19 ++ [6, 8, 8, 9, 9, 18, 18, 21]
def lims : List Nat := [24, 24, 24, 24, 24, 24, 36, 48]
section
variable {P : Program} {w : World} {K : PySem.W.Frag} {mg : Str → Option Value} {base : Heap} {C : Addr}
theorem w_law (T0 : Tx K mg C) (F__law_numbers : Fn P w K mg base C "_law_numbers" 1 [false, false] R_law_numbers) (F__law_cell : Fn P w K mg base C "_law_cell" 1 [false, false] R_law_cell) (F__law_group : Fn P w K mg base C "_law_group" 2 [false, false] R_law_group) (F__law_single_told : Fn P w K mg base C "_law_single_told" 7 [false] R_law_single_told) (F__law_product_told : Fn P w K mg base C "_law_product_told" 8 [false, false, false] R_law_product_told) (F__law_any_group : Fn P w K mg base C "_law_any_group" 3 [false] R_law_any_group) (F__law_series : Fn P w K mg base C "_law_series" 2 [false, false] R_law_series) (F__law_same : Fn P w K mg base C "_law_same" 3 [false, false] R_law_same) (F_derived_row : Fn P w K mg base C "derived_row" 4 [false] R_derived_row) (F_lower_row : Fn P w K mg base C "lower_row" 4 [false] R_lower_row) (F__law_quotient_told : Fn P w K mg base C "_law_quotient_told" 8 [false, false, false, false, false] R_law_quotient_told) (F__law_closed : Fn P w K mg base C "_law_closed" 1 [false, false] R_law_closed) (F__law_subgroup_told : Fn P w K mg base C "_law_subgroup_told" 8 [false, false, false, false, false] R_law_subgroup_told) (GM : Made P w K mg base C 5 R_init_m) {T : List (Addr × Str)} {fN : Addr} (hmN : mg "_law_normal" = some (.ref fN)) (hkN : PySem.W.keepIn K (.ref fN) = true) (FN : FnR P w K mg base CX0 3 fN (spN K C T))
    {f : Addr} {fd : FuncData} (F : FunD K "law" "law" (defArgs s_law) (defBody s_law) (defScope s_law) [] [] f fd) : FnOk P w K mg base CX0 9 f fd ["_law_script"] (spL K T) := by
  have S := sc_law
  refine F.ok (k := 8) S (fun vs H Q E h => by obtain ⟨a, zs, rfl, _⟩ := h; rfl) (fun cdv A outer s H vs Q E hr h => ?_)
  obtain ⟨a, zs, rfl, hT, hS, hQ⟩ := h
  have hu := hu_of hr
  have T := T0
  have rs : Rs K C H (fun _ => True) (.ref a) (.scr zs) := by
    rcases hS with (h | ⟨o, h⟩) | h
    · exact .scrL trivial h
    · exact .scr trivial h
    · exact .scrK fun H' => .inr h
  have ha : ArgsOk K C H (fun _ => True) [false] [.ref a] [.scr zs] := .sh rs .nil
  let rt : Dt → Prop := fun d => d = .bl true
  have hrt1 : ∀ (v : V) (H' : Hp), v = V.bl true → Q v H' := fun v H' e => by rw [e]; exact hQ H'
  have hrt : ∀ v H' d, Ex H H' → Rs K C H' (fun _ => True) v d → rt d → Q v H' := fun v H' d _ r q => by
    have q' : d = .bl true := q
    subst q'
    cases r
    exact hQ H'
  have key : ∀ {p : En → Prop}, DSsK (cxOf CX0 P w K mg base ["_law_script", "_law_numbers_here", "_law_limit", "_law_first", "_law_sizes", "_law_second", "_law_table_here", "_law_group_here", "_law_lows", "_law_derived", "_law_members", "_law_subgroup", "_law_k", "_law_number"] "law" (defScope s_law) f cdv A outer s H E).nox C H H (fun _ => True) { nx := fun _ H' => Q .non H', rt := Q } (defBody s_law) p → p (startE 14 [false] [.scr zs]) → ∃ t, PSs (cxOf CX0 P w K mg base ["_law_script", "_law_numbers_here", "_law_limit", "_law_first", "_law_sizes", "_law_second", "_law_table_here", "_law_group_here", "_law_lows", "_law_derived", "_law_members", "_law_subgroup", "_law_k", "_law_number"] "law" (defScope s_law) f cdv A outer s H E) (defBody s_law) t ∧ t { nx := fun _ H' => Q .non H', rt := Q } (L2.start ["_law_script", "_law_numbers_here", "_law_limit", "_law_first", "_law_sizes", "_law_second", "_law_table_here", "_law_group_here", "_law_lows", "_law_derived", "_law_members", "_law_subgroup", "_law_k", "_law_number"] [.ref a]) H := by
    rintro p ⟨t, pt, kt⟩ hp
    exact ⟨t, PSs.nox pt, kt _ H _ (start_ok ha trivial (by decide) (fun _ _ => trivial)) hp⟩
  refine key (dssK_cons rt hrt (ds_set 1 S.nd (de_call F__law_numbers (hr.mono (by decide)) (da_sh (de_call F__law_cell (hr.mono (by decide)) (da_sh (dv 0) (da_sh de_int da_nil))) (da_sh de_int da_nil))))
      (dssK_cons rt hrt (ds_set 2 S.nd (de_ix (((df_lst (da_sh de_int (da_sh de_int (da_sh de_int (da_sh de_int (da_sh de_int (da_sh de_int (da_sh de_int (da_sh de_int da_nil))))))))).tree).r) (de_mod (de_toInt T.int (de_ix ((dv 1).r) de_int)) de_int)))
      (dssK_cons rt hrt (ds_set 3 S.nd (de_call F__law_group (hr.mono (by decide)) (da_sh (de_call F__law_cell (hr.mono (by decide)) (da_sh (dv 0) (da_sh de_int da_nil))) (da_sh ((df_cat (((df_listRg rfl T.list T.range de_int).tree).r) (((df_lst (da_sh de_int (da_sh de_int (da_sh de_int (da_sh de_int (da_sh de_int (da_sh de_int (da_sh de_int (da_sh de_int da_nil))))))))).tree).r)).tree) da_nil))))
      (dssK_cons rt hrt (ds_set 4 S.nd ((df_lst (da_sh de_int (da_sh de_int (da_sh de_int (da_sh de_int (da_sh de_int (da_sh de_int (da_sh de_int (da_sh de_int (da_sh de_int (da_sh de_int (da_sh de_int (da_sh de_int (da_sh de_int (da_sh de_int (da_sh de_int (da_sh de_int (da_sh de_int (da_sh de_int (da_sh de_int (da_sh de_int (da_sh de_int (da_sh de_int da_nil))))))))))))))))))))))).tree))
      (dssK_cons rt hrt (ds_set 5 S.nd (de_call F__law_group (hr.mono (by decide)) (da_sh (de_add (de_call F__law_cell (hr.mono (by decide)) (da_sh (dv 0) (da_sh de_int da_nil))) de_int) (da_sh ((df_lc rfl S.nd [("_law_k", 12)] 12 (di_rng1 T.range de_int) (blkOk_by (by rfl)) (by decide) (fun _ => pg_name (i := 12) S.nd rfl (by first | exact Or.inl rfl | exact Or.inr rfl)) (dts_one fun _ => db_le (de_mul (de_ix ((dv 4).r) (dv 12)) (de_len T.len ((dv 3).r))) (dv 2)) (fun _ => dv 12)).tree) da_nil))))
      (dssK_cons rt hrt (ds_if ((dw_or (db_not (db_val (de_call F__law_single_told (hr.mono (by decide)) (da_sh (dv 3) da_nil)))) (dw_or1 (db_not (db_val (de_call F__law_single_told (hr.mono (by decide)) (da_sh (dv 5) da_nil)))))).test) (dss_one (ds_ret de_bl)) dss_nil)
      (dssK_cons rt hrt (ds_if (db_not (db_val (de_call F__law_product_told (hr.mono (by decide)) (da_sh (dv 3) (da_sh (dv 5) (da_sh ((df_slice ((dv 1).r) (do_some de_int) do_none).tree) da_nil)))))) (dss_one (ds_ret de_bl)) dss_nil)
      (dssK_cons rt hrt (ds_set 6 S.nd (de_call F__law_any_group (hr.mono (by decide)) (da_sh (de_add (de_call F__law_cell (hr.mono (by decide)) (da_sh (dv 0) (da_sh de_int da_nil))) de_int) da_nil)))
      (dssK_cons rt hrt (ds_set 7 S.nd (de_group GM (hr.mono (by decide)) (dv 6)))
      (dssK_cons rt hrt (ds_set 8 S.nd (de_call F__law_series (hr.mono (by decide)) (da_sh (dv 6) (da_sh de_bl da_nil))))
      (dssK_cons rt hrt (ds_set 9 S.nd (de_call F__law_series (hr.mono (by decide)) (da_sh (dv 6) (da_sh de_bl da_nil))))
      (dssK_cons rt hrt (ds_if ((dw_or (db_not (db_val (de_call F__law_same (hr.mono (by decide)) (da_sh (de_call F_lower_row (hr.mono (by decide)) (da_sh (dv 7) da_nil)) (da_sh (dv 8) da_nil))))) (dw_or1 (db_not (db_val (de_call F__law_same (hr.mono (by decide)) (da_sh (de_call F_derived_row (hr.mono (by decide)) (da_sh (dv 7) da_nil)) (da_sh (dv 9) da_nil))))))).test) (dss_one (ds_ret de_bl)) dss_nil)
      (dssK_ifq F__law_quotient_told (hr.mono (by decide)) hmN hkN FN (hr.mono (by decide)) (dv 7) (dv 6) (dv 6) ((df_slice ((dv 1).r) (do_some de_int) do_none).tree) (dv 8) (dv 9) (dss_one (ds_ret de_bl)) (dss_cons (ds_for PassesOwn.never rfl (di_seq ((df_lst (da_sh ((df_slice ((dv 1).r) (do_some de_int) (do_some de_int)).tree) (da_sh ((df_slice ((dv 1).r) (do_some de_int) (do_some de_int)).tree) da_nil))).tree)) (dg_name 10 S.nd) (dss_cons (ds_set 11 S.nd (de_tupX T.tuple ((de_call F__law_closed (hr.mono (by decide)) (da_sh (dv 6) (da_sh ((df_lc rfl S.nd [("_law_number", 13)] 13 (di_seqR ((dv 10).r)) (blkOk_by (by rfl)) (by decide) (fun _ => pg_name (i := 13) S.nd rfl (by first | exact Or.inl rfl | exact Or.inr rfl)) dts_nil (fun _ => de_mod (de_toInt T.int (dv 13)) (de_len T.len ((dv 6).r)))).tree) da_nil))).r)))
      (dss_one (ds_if (db_not (db_val (de_call F__law_subgroup_told (hr.mono (by decide)) (da_sh (dv 7) (da_sh (dv 6) (da_sh (dv 11) (da_sh (dv 8) (da_sh (dv 9) da_nil)))))))) (dss_one (ds_ret de_bl)) dss_nil)))) (dss_one (ds_ret de_bl))) rfl rfl hT hrt1))))))))))))) ?_
  have ccell : ∀ k : Nat, R_law_cell [.scr zs, .int (k : Int)] (.int (cellF zs k)) := fun k => ⟨zs, k, rfl, rfl⟩
  have c3 := ccell 3
  have c0 := ccell 0
  have c1 := ccell 1
  have c2 := ccell 2
  generalize cellF zs 3 = z3 at *
  generalize cellF zs 0 = z0 at *
  generalize cellF zs 1 = z1 at *
  generalize cellF zs 2 = z2 at *
  have cn : R_law_numbers [.int z3, .int 12] (lI (numF z3 12)) := ⟨_, 12, rfl, by decide, rfl⟩
  have hns : (numF z3 12).length = 12 := numF_len _ _
  generalize numF z3 12 = ns at *
  have a0 : atI (ns.map Dt.int) 0 = some (.int (ns.getD 0 0)) := int_at (k := 0) (by omega)
  have alim : atI (nD lims) (ns.getD 0 0 % 8) = some (.int ((selG (ns.getD 0 0) lims : Nat) : Int)) := (sel_at (z := ns.getD 0 0) (ch := lims) (by decide)).1
  have hlim : selG (ns.getD 0 0) lims ≤ 48 ∧ 24 ≤ selG (ns.getD 0 0) lims := by
    have h := (sel_at (z := ns.getD 0 0) (ch := lims) (by decide)).2
    have k : ∀ x ∈ lims, x ≤ 48 ∧ 24 ≤ x := by decide
    exact k _ h
  generalize selG (ns.getD 0 0) lims = lim at *
  obtain ⟨g1, k1, hk1, hs1⟩ := grp_ok z0 ch1 (by decide) (by decide)
  have t1 := grp_tb z0 ch1 g1
  have hsz : ∀ k ∈ ch1, sizeL.getD k 0 ≤ 24 := by decide
  have hn1 : tlN (grpG z0 ch1) ≤ 24 := Nat.le_trans hs1 (hsz k1 hk1)
  have cg1 : R_law_group [.int z0, lN ch1] (tabD (tlN (grpG z0 ch1)) (grpM z0 ch1)) := ⟨_, ch1, rfl, by decide, g1, rfl⟩
  have e0 : rngD 19 ++ [.int 6, .int 8, .int 8, .int 9, .int 9, .int 18, .int 18, .int 21] = nD ch1 := rfl
  generalize grpM z0 ch1 = m1 at *
  generalize tlN (grpG z0 ch1) = n1 at *
  have hch : ∃ ch2, ch2 = (List.range 22).filter (fun k => decide (((sizeL.getD k 0 : Nat) : Int) * ((tabL n1 m1).length : Int) ≤ (lim : Int))) := ⟨_, rfl⟩
  obtain ⟨ch2, ech2⟩ := hch
  have hl1 := tabL_len n1 m1
  have hch2 : ∀ k ∈ ch2, k < 22 ∧ sizeL.getD k 0 * n1 ≤ 48 := fun k hk => by
    rw [ech2] at hk
    obtain ⟨h1, h2⟩ := List.mem_filter.mp hk
    have h3 := of_decide_eq_true h2
    rw [hl1] at h3
    have h4 : sizeL.getD k 0 * n1 ≤ lim := by exact_mod_cast h3
    exact ⟨List.mem_range.mp h1, by omega⟩
  have hch0 : 0 < ch2.length := by
    refine List.length_pos_of_mem (a := 0) ?_
    rw [ech2, List.mem_filter]
    refine ⟨by decide, decide_eq_true ?_⟩
    rw [hl1]
    have : sizeL.getD 0 0 = 1 := rfl
    rw [this]
    omega
  obtain ⟨g2, k2, hk2, hs2⟩ := grp_ok (z1 + 1) ch2 hch0 (fun k hk => (hch2 k hk).1)
  have t2 := grp_tb (z1 + 1) ch2 g2
  have hn12 : n1 * tlN (grpG (z1 + 1) ch2) ≤ 60 := by
    have h1 := (hch2 k2 hk2).2
    have h2 : n1 * tlN (grpG (z1 + 1) ch2) ≤ n1 * sizeL.getD k2 0 := Nat.mul_le_mul_left _ hs2
    rw [Nat.mul_comm] at h1
    omega
  have cg2 : R_law_group [.int (z1 + 1), lN ch2] (tabD (tlN (grpG (z1 + 1) ch2)) (grpM (z1 + 1) ch2)) := ⟨_, ch2, rfl, hch0, g2, rfl⟩
  generalize grpM (z1 + 1) ch2 = m2 at *
  generalize tlN (grpG (z1 + 1) ch2) = n2 at *
  have p1 := t1.pos
  have p2 := t2.pos
  have b1 : n1 ≤ 60 := by omega
  have b2 : n2 ≤ 60 := Nat.le_trans (Nat.le_mul_of_pos_left n2 p1) hn12
  have cs1 := single_ok t1 b1
  have cs2 := single_ok t2 b2
  have hcut1 : cutT (ns.map Dt.int) (some 1) none = (ns.drop 1).map Dt.int := by rw [cut_drop (z := 1) (k := 1) (by simp; omega) rfl, ← List.map_drop]
  have cp := product_ok t1 t2 hn12 (ns := ns.drop 1) (by simp; omega)
  have ca := any_ok (z2 + 2)
  obtain ⟨t3, b3⟩ := any3_ok (numF (z2 + 2) 37)
  generalize (any3 (numF (z2 + 2) 37)).2 = m at *
  generalize (any3 (numF (z2 + 2) 37)).1 = n at *
  have p3 := t3.pos
  obtain ⟨rl, rd, ru, Sr⟩ := ser_ex t3 b3
  have gi : R_init_m [tabD n m] (grpD n m) := ⟨n, m, rfl, b3, t3, rfl⟩
  have l1 : R_lower_row [grpD n m] (.lst (rowD rl)) := ⟨n, m, rl, rfl, t3, b3, Sr.low, by have := Sr.ll; omega, rfl⟩
  have l2 : R_derived_row [grpD n m] (.lst (rowD rd)) := ⟨n, m, rd, rfl, t3, b3, Sr.der, by have := Sr.dl; omega, rfl⟩
  have s1 : R_law_series [tabD n m, .bl false] (.lst (rowD rl)) := ⟨n, m, false, rl, rfl, t3, by omega, Sr.low, Sr.ll, rfl⟩
  have s2 : R_law_series [tabD n m, .bl true] (.lst (rowD rd)) := ⟨n, m, true, rd, rfl, t3, by omega, Sr.der, Sr.dl, rfl⟩
  have e1 := same_low b3 (by have := Sr.ll; omega) (low_sz Sr.low)
  have e2 := same_low b3 (by have := Sr.dl; omega) (der_sz Sr.der)
  have h22 : ∀ j, j < 22 → sizeL[j]? = some (sizeL.getD j 0) ∧ sizeL.getD j 0 ≤ 24 := by decide
  have hcut4 : cutT (ns.map Dt.int) (some 4) none = (ns.drop 4).map Dt.int := by rw [cut_drop (z := 4) (k := 4) (by simp; omega) rfl, ← List.map_drop]
  have hcut8 : cutT (ns.map Dt.int) (some 8) (some 9) = ((ns.drop 8).take 1).map Dt.int := by rw [cut_mid (y := 8) (z := 9) (j := 8) (k := 9) (by simp; omega) (by simp; omega) rfl rfl, ← List.map_drop, ← List.map_take]
  have hcut9 : cutT (ns.map Dt.int) (some 8) (some 10) = ((ns.drop 8).take 2).map Dt.int := by rw [cut_mid (y := 8) (z := 10) (j := 8) (k := 10) (by simp; omega) (by simp; omega) rfl rfl, ← List.map_drop, ← List.map_take]
  have hq8 : ((ns.drop 8).take 1).length ≤ 100 := by simp; omega
  have hq9 : ((ns.drop 8).take 2).length ≤ 100 := by simp; omega
  generalize (ns.drop 8).take 1 = q8 at *
  generalize (ns.drop 8).take 2 = q9 at *
  refine ⟨_, ⟨_, ⟨_, _, ⟨_, ⟨_, _, rfl, ⟨_, _, rfl, rfl, rfl⟩, rfl⟩, (c3)⟩, ⟨_, _, rfl, rfl, rfl⟩, rfl⟩, (cn)⟩, ?_⟩
  refine ⟨_, ⟨_, _, _, ⟨_, ⟨⟨_, _, rfl, ⟨_, _, rfl, ⟨_, _, rfl, ⟨_, _, rfl, ⟨_, _, rfl, ⟨_, _, rfl, ⟨_, _, rfl, ⟨_, _, rfl, rfl, rfl⟩, rfl⟩, rfl⟩, rfl⟩, rfl⟩, rfl⟩, rfl⟩, rfl⟩, (by first | (simp; done) | omega | (simp; omega))⟩, rfl⟩, (by first | rfl | assumption), ⟨_, _, ⟨_, ⟨_, _, _, rfl, (by first | rfl | assumption), rfl, (a0)⟩, rfl⟩, rfl, (by first | omega | (simp at *; omega) | (simp; omega)), rfl⟩, (alim)⟩, ?_⟩
  refine ⟨_, ⟨_, ⟨_, _, ⟨_, ⟨_, _, rfl, ⟨_, _, rfl, rfl, rfl⟩, rfl⟩, (c0)⟩, ⟨_, _, ⟨_, ⟨_, _, ⟨_, ⟨_, rfl, (by first | omega | (simp at *; omega) | (simp; omega)), (by first | omega | (simp at *; omega) | (simp; omega)), rfl⟩, rfl⟩, ⟨_, ⟨⟨_, _, rfl, ⟨_, _, rfl, ⟨_, _, rfl, ⟨_, _, rfl, ⟨_, _, rfl, ⟨_, _, rfl, ⟨_, _, rfl, ⟨_, _, rfl, rfl, rfl⟩, rfl⟩, rfl⟩, rfl⟩, rfl⟩, rfl⟩, rfl⟩, rfl⟩, (by first | (simp; done) | decide)⟩, rfl⟩, (by first | (simp; done) | decide), rfl⟩, rfl⟩, rfl, rfl⟩, rfl⟩, ((by rw [e0]; exact cg1))⟩, ?_⟩
  refine ⟨_, ⟨_, ⟨⟨_, _, rfl, ⟨_, _, rfl, ⟨_, _, rfl, ⟨_, _, rfl, ⟨_, _, rfl, ⟨_, _, rfl, ⟨_, _, rfl, ⟨_, _, rfl, ⟨_, _, rfl, ⟨_, _, rfl, ⟨_, _, rfl, ⟨_, _, rfl, ⟨_, _, rfl, ⟨_, _, rfl, ⟨_, _, rfl, ⟨_, _, rfl, ⟨_, _, rfl, ⟨_, _, rfl, ⟨_, _, rfl, ⟨_, _, rfl, ⟨_, _, rfl, ⟨_, _, rfl, rfl, rfl⟩, rfl⟩, rfl⟩, rfl⟩, rfl⟩, rfl⟩, rfl⟩, rfl⟩, rfl⟩, rfl⟩, rfl⟩, rfl⟩, rfl⟩, rfl⟩, rfl⟩, rfl⟩, rfl⟩, rfl⟩, rfl⟩, rfl⟩, rfl⟩, rfl⟩, (by first | (simp; done) | omega | (simp; omega))⟩, rfl⟩, ?_⟩
  refine ⟨_, ⟨_, ⟨_, _, ⟨_, _, ⟨_, ⟨_, _, rfl, ⟨_, _, rfl, rfl, rfl⟩, rfl⟩, (c1)⟩, rfl, rfl⟩, ⟨_, _, ⟨_, (fLc_f (M := List.range 22) ⟨_, rfl, (by first | omega | (simp at *; omega) | (simp; omega)), (by first | omega | (simp at *; omega) | (simp; omega)), rfl⟩ (fun k => decide (((sizeL.getD k 0 : Nat) : Int) * ((tabL n1 m1).length : Int) ≤ (lim : Int))) (fun j hj => by have hj' := h22 j (List.mem_range.mp hj); have hj2 := nD_at hj'.1; exact ⟨_, _, ⟨_, _, ⟨_, _, _, rfl, (by first | rfl | assumption), rfl, (hj2)⟩, ⟨_, _, rfl, (by first | rfl | assumption), rfl⟩, (Or.inl ⟨by omega, by omega⟩), rfl⟩, rfl, rfl⟩) (fun j hj => rfl) (by simp)), rfl⟩, rfl, rfl⟩, rfl⟩, ((by rw [← ech2]; exact cg2))⟩, ?_⟩
  refine ⟨_, (fOr_i ⟨_, ⟨_, ⟨_, _, rfl, rfl, rfl⟩, (cs1)⟩, rfl⟩ (fun hc => ⟨_, ⟨_, ⟨_, _, rfl, rfl, rfl⟩, (cs2)⟩, rfl⟩)), fun hb => ?_, fun hb => ?_⟩
  · cases hb
  refine ⟨_, ⟨_, ⟨_, ⟨_, _, rfl, ⟨_, _, rfl, ⟨_, _, ⟨_, ⟨_, _, _, rfl, ⟨_, rfl, rfl⟩, rfl, rfl⟩, rfl⟩, rfl, rfl⟩, rfl⟩, rfl⟩, ((by rw [hcut1]; exact cp))⟩, rfl⟩, fun hb => ?_, fun hb => ?_⟩
  · cases hb
  refine ⟨_, ⟨_, ⟨_, _, ⟨_, _, ⟨_, ⟨_, _, rfl, ⟨_, _, rfl, rfl, rfl⟩, rfl⟩, (c2)⟩, rfl, rfl⟩, rfl, rfl⟩, (ca)⟩, ?_⟩
  refine ⟨_, ⟨_, _, _, _, rfl, (gi), rfl⟩, ?_⟩
  refine ⟨_, ⟨_, ⟨_, _, rfl, ⟨_, _, rfl, rfl, rfl⟩, rfl⟩, (s1)⟩, ?_⟩
  refine ⟨_, ⟨_, ⟨_, _, rfl, ⟨_, _, rfl, rfl, rfl⟩, rfl⟩, (s2)⟩, ?_⟩
  refine ⟨_, (fOr_i ⟨_, ⟨_, ⟨_, _, ⟨_, ⟨_, _, rfl, rfl, rfl⟩, (l1)⟩, ⟨_, _, rfl, rfl, rfl⟩, rfl⟩, (e1)⟩, rfl⟩ (fun hc => ⟨_, ⟨_, ⟨_, _, ⟨_, ⟨_, _, rfl, rfl, rfl⟩, (l2)⟩, ⟨_, _, rfl, rfl, rfl⟩, rfl⟩, (e2)⟩, rfl⟩)), fun hb => ?_, fun hb => ?_⟩
  · cases hb
  refine env_eqP [.sh (.scr zs), .sh (lI ns), .sh (.int (lim : Int)), .sh (tabD n1 m1), .sh (lN sizeL), .sh (tabD n2 m2), .sh (tabD n m), .sh (grpD n m), .sh (.lst (rowD rl)), .sh (.lst (rowD rd)), .un, .un, .un, .un] rfl ?_
  refine ⟨?_, n, m, ns.drop 4, rl, rd, rfl, rfl, rfl, ⟨_, ⟨_, _, _, rfl, ⟨_, rfl, rfl⟩, rfl, hcut4.symm⟩, rfl⟩, rfl, rfl, ⟨t3, b3, by simp; omega⟩, fun r hr => ?_, ?_⟩
  · intro s hs
    simp only [List.mem_cons, List.not_mem_nil, or_false] at hs
    rcases hs with h | h | h | h | h | h | h | h | h | h | h | h | h | h <;> first | exact .inl ⟨_, h⟩ | exact .inr h
  · obtain ⟨z, hz, rfl⟩ := hr
    have q1 := Int.emod_nonneg z (show (n : Int) ≠ 0 by omega)
    have q2 := Int.emod_lt_of_pos z (show (0 : Int) < (n : Int) by omega)
    have hN : NorL t3 (lotF n m z) := con_nor [(z % (n : Int)).toNat] fun x hx => by rw [List.mem_singleton] at hx; omega
    exact quotient_ok t3 b3 hN (.inl rfl) Sr
  refine ⟨_, ⟨_, ⟨_, ⟨⟨_, _, ⟨_, ⟨_, _, _, rfl, ⟨_, rfl, rfl⟩, ⟨_, rfl, rfl⟩, rfl⟩, rfl⟩, ⟨_, _, ⟨_, ⟨_, _, _, rfl, ⟨_, rfl, rfl⟩, ⟨_, rfl, rfl⟩, rfl⟩, rfl⟩, rfl, rfl⟩, rfl⟩, (by first | (simp; done) | omega | (simp; omega))⟩, rfl⟩, (by first | rfl | assumption)⟩, fun k env => ∃ s10 s11, env = [.sh (.scr zs), .sh (lI ns), .sh (.int (lim : Int)), .sh (tabD n1 m1), .sh (lN sizeL), .sh (tabD n2 m2), .sh (tabD n m), .sh (grpD n m), .sh (.lst (rowD rl)), .sh (.lst (rowD rd)), s10, s11, .un, .un], ?_, fun k t env' hk hw => ?_, fun env' hw => ?_⟩
  · exact ⟨_, _, rfl⟩
  · obtain ⟨s10, s11, rfl⟩ := hw
    rw [hcut8, hcut9] at hk
    have hq : ∃ q : List Int, t = lI q ∧ q.length ≤ 100 := by
      rcases List.mem_cons.mp (List.mem_of_getElem? hk) with h | h
      · exact ⟨q8, h, hq8⟩
      · rw [List.mem_singleton] at h
        exact ⟨q9, h, hq9⟩
    obtain ⟨q, rfl, hql⟩ := hq
    have hM : ∀ x ∈ q.map (fun z => (z % (n : Int)).toNat), x < n := fun x hx => by
      obtain ⟨z, _, rfl⟩ := List.mem_map.mp hx
      have q1 := Int.emod_nonneg z (show (n : Int) ≠ 0 by omega)
      have q2 := Int.emod_lt_of_pos z (show (0 : Int) < (n : Int) by omega)
      show (z % (n : Int)).toNat < n
      omega
    have cc : R_law_closed [tabD n m, lN (q.map fun z => (z % (n : Int)).toNat)] (lN (clo n m (q.map fun z => (z % (n : Int)).toNat))) := ⟨n, m, _, _, rfl, p3, by omega, t3.cl, rfl, hM, rfl⟩
    have ct := subgroup_ok t3 b3 (clo_sub (t := t3) hM) Sr
    have hl3 := tabL_len n m
    have hmod : ∀ z : Int, Dt.int (((z % (n : Int)).toNat : Nat) : Int) = Dt.int (z % ((tabL n m).length : Int)) := fun z => by
      have q1 := Int.emod_nonneg z (show (n : Int) ≠ 0 by omega)
      rw [hl3]
      congr 1
      omega
    refine ⟨_, rfl, ?_⟩
    refine ⟨_, ⟨_, ⟨_, ⟨_, _, rfl, ⟨_, _, ⟨_, (fLc_iN (M := q) (gg := Dt.int) ⟨_, rfl, (by first | rfl | assumption)⟩ (fun z => (z % (n : Int)).toNat) (fun a ha b hb h => by injection h with h; rw [h]) (fun z hz => by rw [hmod]; exact ⟨_, _, ⟨_, rfl, rfl⟩, ⟨_, _, rfl, (by first | rfl | assumption), rfl⟩, (by first | omega | (simp at *; omega) | (simp; omega)), rfl⟩) (by omega)), rfl⟩, rfl, rfl⟩, rfl⟩, (cc)⟩, rfl⟩, ?_⟩
    refine ⟨_, ⟨_, ⟨_, ⟨_, _, rfl, ⟨_, _, rfl, ⟨_, _, rfl, ⟨_, _, rfl, ⟨_, _, rfl, rfl, rfl⟩, rfl⟩, rfl⟩, rfl⟩, rfl⟩, (ct)⟩, rfl⟩, fun hb => ?_, fun hb => ?_⟩
    · cases hb
    exact ⟨_, _, rfl⟩
  obtain ⟨s10, s11, rfl⟩ := hw
  refine ⟨_, rfl, ?_⟩
  rfl
end
end CM
set_option Elab.async false
set_option linter.all false
set_option maxRecDepth 100000
set_option maxHeartbeats 0
/-! The head: what the top leaves, by names. Printed by gen/head.py. -/
namespace CM
open PySem PySem.Spec PyProof.Rows L2

def d_reached : He.DefD := ⟨("reached", none), "reached", "reached", defArgs s_reached, defBody s_reached, defScope s_reached, [], []⟩
def d_generating_members : He.DefD := ⟨("generating_members", none), "generating_members", "generating_members", defArgs s_generating_members, defBody s_generating_members, defScope s_generating_members, [], []⟩
def d_is_associative : He.DefD := ⟨("is_associative", none), "is_associative", "is_associative", defArgs s_is_associative, defBody s_is_associative, defScope s_is_associative, [], []⟩
def d_table_fault : He.DefD := ⟨("table_fault", none), "table_fault", "table_fault", defArgs s_table_fault, defBody s_table_fault, defScope s_table_fault, [], []⟩
def d_init_m : He.DefD := ⟨("Group", some "__init__"), "__init__", "Group.__init__", defArgs s_init_m, defBody s_init_m, defScope s_init_m, [], []⟩
def d_check_m : He.DefD := ⟨("Group", some "check"), "check", "Group.check", defArgs s_check_m, defBody s_check_m, defScope s_check_m, [], []⟩
def d_conjugated_m : He.DefD := ⟨("Group", some "conjugated"), "conjugated", "Group.conjugated", defArgs s_conjugated_m, defBody s_conjugated_m, defScope s_conjugated_m, [], []⟩
def d_commutator_m : He.DefD := ⟨("Group", some "commutator"), "commutator", "Group.commutator", defArgs s_commutator_m, defBody s_commutator_m, defScope s_commutator_m, [], []⟩
def d_generated : He.DefD := ⟨("generated", none), "generated", "generated", defArgs s_generated, defBody s_generated, defScope s_generated, [], []⟩
def d_check_subgroup : He.DefD := ⟨("check_subgroup", none), "check_subgroup", "check_subgroup", defArgs s_check_subgroup, defBody s_check_subgroup, defScope s_check_subgroup, [], []⟩
def d_commutator_subgroup : He.DefD := ⟨("commutator_subgroup", none), "commutator_subgroup", "commutator_subgroup", defArgs s_commutator_subgroup, defBody s_commutator_subgroup, defScope s_commutator_subgroup, [], []⟩
def d_is_normal : He.DefD := ⟨("is_normal", none), "is_normal", "is_normal", defArgs s_is_normal, defBody s_is_normal, defScope s_is_normal, [], []⟩
def d_cosets : He.DefD := ⟨("cosets", none), "cosets", "cosets", defArgs s_cosets, defBody s_cosets, defScope s_cosets, [], [("left", .bl false)]⟩
def d_paired_rows : He.DefD := ⟨("paired_rows", none), "paired_rows", "paired_rows", defArgs s_paired_rows, defBody s_paired_rows, defScope s_paired_rows, [], []⟩
def d_product_group : He.DefD := ⟨("product_group", none), "product_group", "product_group", defArgs s_product_group, defBody s_product_group, defScope s_product_group, [], []⟩
def d_subgroup_group : He.DefD := ⟨("subgroup_group", none), "subgroup_group", "subgroup_group", defArgs s_subgroup_group, defBody s_subgroup_group, defScope s_subgroup_group, [], []⟩
def d_quotient_group : He.DefD := ⟨("quotient_group", none), "quotient_group", "quotient_group", defArgs s_quotient_group, defBody s_quotient_group, defScope s_quotient_group, [], []⟩
def d_derived_row : He.DefD := ⟨("derived_row", none), "derived_row", "derived_row", defArgs s_derived_row, defBody s_derived_row, defScope s_derived_row, [], []⟩
def d_perfect_subgroup : He.DefD := ⟨("perfect_subgroup", none), "perfect_subgroup", "perfect_subgroup", defArgs s_perfect_subgroup, defBody s_perfect_subgroup, defScope s_perfect_subgroup, [], []⟩
def d_lower_row : He.DefD := ⟨("lower_row", none), "lower_row", "lower_row", defArgs s_lower_row, defBody s_lower_row, defScope s_lower_row, [], []⟩
def d_subgroup_at : He.DefD := ⟨("subgroup_at", none), "subgroup_at", "subgroup_at", defArgs s_subgroup_at, defBody s_subgroup_at, defScope s_subgroup_at, [], []⟩
def d_lower : He.DefD := ⟨("lower", none), "lower", "lower", defArgs s_lower, defBody s_lower, defScope s_lower, [], []⟩
def d_class_of : He.DefD := ⟨("class_of", none), "class_of", "class_of", defArgs s_class_of, defBody s_class_of, defScope s_class_of, [], []⟩
def d_central_members : He.DefD := ⟨("central_members", none), "central_members", "central_members", defArgs s_central_members, defBody s_central_members, defScope s_central_members, [], []⟩
def d_centre : He.DefD := ⟨("centre", none), "centre", "centre", defArgs s_centre, defBody s_centre, defScope s_centre, [], []⟩
def d_upper_row : He.DefD := ⟨("upper_row", none), "upper_row", "upper_row", defArgs s_upper_row, defBody s_upper_row, defScope s_upper_row, [], []⟩
def d_law_cell : He.DefD := ⟨("_law_cell", none), "_law_cell", "_law_cell", defArgs s_law_cell, defBody s_law_cell, defScope s_law_cell, [], []⟩
def d_law_numbers : He.DefD := ⟨("_law_numbers", none), "_law_numbers", "_law_numbers", defArgs s_law_numbers, defBody s_law_numbers, defScope s_law_numbers, [], []⟩
def d_law_same : He.DefD := ⟨("_law_same", none), "_law_same", "_law_same", defArgs s_law_same, defBody s_law_same, defScope s_law_same, [], []⟩
def d_law_generators : He.DefD := ⟨("_law_generators", none), "_law_generators", "_law_generators", defArgs s_law_generators, defBody s_law_generators, defScope s_law_generators, [], []⟩
def d_law_close : He.DefD := ⟨("_law_close", none), "_law_close", "_law_close", defArgs s_law_close, defBody s_law_close, defScope s_law_close, [], []⟩
def d_law_table : He.DefD := ⟨("_law_table", none), "_law_table", "_law_table", defArgs s_law_table, defBody s_law_table, defScope s_law_table, [], []⟩
def d_law_renumbered : He.DefD := ⟨("_law_renumbered", none), "_law_renumbered", "_law_renumbered", defArgs s_law_renumbered, defBody s_law_renumbered, defScope s_law_renumbered, [], []⟩
def d_law_group : He.DefD := ⟨("_law_group", none), "_law_group", "_law_group", defArgs s_law_group, defBody s_law_group, defScope s_law_group, [], []⟩
def d_law_product : He.DefD := ⟨("_law_product", none), "_law_product", "_law_product", defArgs s_law_product, defBody s_law_product, defScope s_law_product, [], []⟩
def d_law_affine : He.DefD := ⟨("_law_affine", none), "_law_affine", "_law_affine", defArgs s_law_affine, defBody s_law_affine, defScope s_law_affine, [], []⟩
def d_law_any_group : He.DefD := ⟨("_law_any_group", none), "_law_any_group", "_law_any_group", defArgs s_law_any_group, defBody s_law_any_group, defScope s_law_any_group, [], []⟩
def d_law_conjugates : He.DefD := ⟨("_law_conjugates", none), "_law_conjugates", "_law_conjugates", defArgs s_law_conjugates, defBody s_law_conjugates, defScope s_law_conjugates, [], []⟩
def d_law_closed : He.DefD := ⟨("_law_closed", none), "_law_closed", "_law_closed", defArgs s_law_closed, defBody s_law_closed, defScope s_law_closed, [], []⟩
def d_law_cosets : He.DefD := ⟨("_law_cosets", none), "_law_cosets", "_law_cosets", defArgs s_law_cosets, defBody s_law_cosets, defScope s_law_cosets, [], []⟩
def d_law_picture : He.DefD := ⟨("_law_picture", none), "_law_picture", "_law_picture", defArgs s_law_picture, defBody s_law_picture, defScope s_law_picture, [], []⟩
def d_law_subtable : He.DefD := ⟨("_law_subtable", none), "_law_subtable", "_law_subtable", defArgs s_law_subtable, defBody s_law_subtable, defScope s_law_subtable, [], []⟩
def d_law_commutators : He.DefD := ⟨("_law_commutators", none), "_law_commutators", "_law_commutators", defArgs s_law_commutators, defBody s_law_commutators, defScope s_law_commutators, [], []⟩
def d_law_series : He.DefD := ⟨("_law_series", none), "_law_series", "_law_series", defArgs s_law_series, defBody s_law_series, defScope s_law_series, [], []⟩
def d_law_central : He.DefD := ⟨("_law_central", none), "_law_central", "_law_central", defArgs s_law_central, defBody s_law_central, defScope s_law_central, [], []⟩
def d_law_upper : He.DefD := ⟨("_law_upper", none), "_law_upper", "_law_upper", defArgs s_law_upper, defBody s_law_upper, defScope s_law_upper, [], []⟩
def d_law_end : He.DefD := ⟨("_law_end", none), "_law_end", "_law_end", defArgs s_law_end, defBody s_law_end, defScope s_law_end, [], []⟩
def d_law_pairs : He.DefD := ⟨("_law_pairs", none), "_law_pairs", "_law_pairs", defArgs s_law_pairs, defBody s_law_pairs, defScope s_law_pairs, [], []⟩
def d_law_lies_in : He.DefD := ⟨("_law_lies_in", none), "_law_lies_in", "_law_lies_in", defArgs s_law_lies_in, defBody s_law_lies_in, defScope s_law_lies_in, [], []⟩
def d_law_product_told : He.DefD := ⟨("_law_product_told", none), "_law_product_told", "_law_product_told", defArgs s_law_product_told, defBody s_law_product_told, defScope s_law_product_told, [], []⟩
def d_law_single_told : He.DefD := ⟨("_law_single_told", none), "_law_single_told", "_law_single_told", defArgs s_law_single_told, defBody s_law_single_told, defScope s_law_single_told, [], []⟩
def d_law_cut : He.DefD := ⟨("_law_cut", none), "_law_cut", "_law_cut", defArgs s_law_cut, defBody s_law_cut, defScope s_law_cut, [], []⟩
def d_law_pictured : He.DefD := ⟨("_law_pictured", none), "_law_pictured", "_law_pictured", defArgs s_law_pictured, defBody s_law_pictured, defScope s_law_pictured, [], []⟩
def d_law_quotient_told : He.DefD := ⟨("_law_quotient_told", none), "_law_quotient_told", "_law_quotient_told", defArgs s_law_quotient_told, defBody s_law_quotient_told, defScope s_law_quotient_told, [], []⟩
def d_law_stands : He.DefD := ⟨("_law_stands", none), "_law_stands", "_law_stands", defArgs s_law_stands, defBody s_law_stands, defScope s_law_stands, [], []⟩
def d_law_subgroup_told : He.DefD := ⟨("_law_subgroup_told", none), "_law_subgroup_told", "_law_subgroup_told", defArgs s_law_subgroup_told, defBody s_law_subgroup_told, defScope s_law_subgroup_told, [], []⟩
def d_law_normal : He.DefD := ⟨("_law_normal", none), "_law_normal", "_law_normal", defArgs s_law_normal, defBody s_law_normal, defScope s_law_normal, [], []⟩
def d_law : He.DefD := ⟨("law", none), "law", "law", defArgs s_law, defBody s_law, defScope s_law, [], []⟩
def fn : List He.DefD := ([d_reached, d_generating_members, d_is_associative, d_table_fault, d_init_m, d_check_m, d_conjugated_m, d_commutator_m, d_generated, d_check_subgroup, d_commutator_subgroup, d_is_normal, d_cosets, d_paired_rows, d_product_group, d_subgroup_group] : List He.DefD) ++ ([d_quotient_group, d_derived_row, d_perfect_subgroup, d_lower_row, d_subgroup_at, d_lower, d_class_of, d_central_members, d_centre, d_upper_row, d_law_cell, d_law_numbers, d_law_same, d_law_generators, d_law_close, d_law_table] : List He.DefD) ++ ([d_law_renumbered, d_law_group, d_law_product, d_law_affine, d_law_any_group, d_law_conjugates, d_law_closed, d_law_cosets, d_law_picture, d_law_subtable, d_law_commutators, d_law_series, d_law_central, d_law_upper, d_law_end, d_law_pairs] : List He.DefD) ++ ([d_law_lies_in, d_law_product_told, d_law_single_told, d_law_cut, d_law_pictured, d_law_quotient_told, d_law_stands, d_law_subgroup_told, d_law_normal, d_law] : List He.DefD)
def fa : List He.Fa := ([.glo "reached", .glo "generating_members", .glo "is_associative", .glo "table_fault", .glo "generated", .glo "check_subgroup", .glo "commutator_subgroup", .glo "is_normal", .glo "cosets", .glo "paired_rows", .glo "product_group", .glo "subgroup_group", .glo "quotient_group", .glo "derived_row", .glo "perfect_subgroup", .glo "lower_row"] : List He.Fa) ++ ([.glo "subgroup_at", .glo "lower", .glo "class_of", .glo "central_members", .glo "centre", .glo "upper_row", .glo "_law_cell", .glo "_law_numbers", .glo "_law_same", .glo "_law_generators", .glo "_law_close", .glo "_law_table", .glo "_law_renumbered", .glo "_law_group", .glo "_law_product", .glo "_law_affine"] : List He.Fa) ++ ([.glo "_law_any_group", .glo "_law_conjugates", .glo "_law_closed", .glo "_law_cosets", .glo "_law_picture", .glo "_law_subtable", .glo "_law_commutators", .glo "_law_series", .glo "_law_central", .glo "_law_upper", .glo "_law_end", .glo "_law_pairs", .glo "_law_lies_in", .glo "_law_product_told", .glo "_law_single_told", .glo "_law_cut"] : List He.Fa) ++ ([.glo "_law_pictured", .glo "_law_quotient_told", .glo "_law_stands", .glo "_law_subgroup_told", .glo "_law_normal", .glo "law", .glo "Group", .int "MOST_MEMBERS" 60, .cls "Group", .noat "Group" "rows", .noat "Group" "size", .noat "Group" "inverses", .mkr "Group", .meth "Group" "check", .meth "Group" "conjugated", .meth "Group" "commutator"] : List He.Fa) ++ ([.free "len", .free "sorted", .free "range", .free "list", .free "all", .free "set", .free "tuple", .free "enumerate", .free "isinstance", .free "int", .free "bool", .free "str", .free "abs", .free "min", .free "max"] : List He.Fa)
def names : List Str := (["_wall", "MovesError", "BadGroup", "NotMember", "NotSubgroup", "NotNormal", "TooLarge", "MOST_MEMBERS", "reached", "generating_members", "is_associative", "table_fault", "Group", "generated", "check_subgroup", "commutator_subgroup"] : List Str) ++ (["is_normal", "cosets", "paired_rows", "product_group", "subgroup_group", "quotient_group", "derived_row", "perfect_subgroup", "lower_row", "subgroup_at", "lower", "class_of", "central_members", "centre", "upper_row", "_law_cell"] : List Str) ++ (["_law_numbers", "_law_same", "_law_generators", "_law_close", "_law_table", "_law_renumbered", "_law_group", "_law_product", "_law_affine", "_law_any_group", "_law_conjugates", "_law_closed", "_law_cosets", "_law_picture", "_law_subtable", "_law_commutators"] : List Str) ++ (["_law_series", "_law_central", "_law_upper", "_law_end", "_law_pairs", "_law_lies_in", "_law_product_told", "_law_single_told", "_law_cut", "_law_pictured", "_law_quotient_told", "_law_stands", "_law_subgroup_told", "_law_normal"] : List Str)
abbrev i_d_reached : Nat := 0
abbrev i_d_generating_members : Nat := 1
abbrev i_d_is_associative : Nat := 2
abbrev i_d_table_fault : Nat := 3
abbrev i_d_init_m : Nat := 4
abbrev i_d_check_m : Nat := 5
abbrev i_d_conjugated_m : Nat := 6
abbrev i_d_commutator_m : Nat := 7
abbrev i_d_generated : Nat := 8
abbrev i_d_check_subgroup : Nat := 9
abbrev i_d_commutator_subgroup : Nat := 10
abbrev i_d_is_normal : Nat := 11
abbrev i_d_cosets : Nat := 12
abbrev i_d_paired_rows : Nat := 13
abbrev i_d_product_group : Nat := 14
abbrev i_d_subgroup_group : Nat := 15
abbrev i_d_quotient_group : Nat := 16
abbrev i_d_derived_row : Nat := 17
abbrev i_d_perfect_subgroup : Nat := 18
abbrev i_d_lower_row : Nat := 19
abbrev i_d_subgroup_at : Nat := 20
abbrev i_d_lower : Nat := 21
abbrev i_d_class_of : Nat := 22
abbrev i_d_central_members : Nat := 23
abbrev i_d_centre : Nat := 24
abbrev i_d_upper_row : Nat := 25
abbrev i_d_law_cell : Nat := 26
abbrev i_d_law_numbers : Nat := 27
abbrev i_d_law_same : Nat := 28
abbrev i_d_law_generators : Nat := 29
abbrev i_d_law_close : Nat := 30
abbrev i_d_law_table : Nat := 31
abbrev i_d_law_renumbered : Nat := 32
abbrev i_d_law_group : Nat := 33
abbrev i_d_law_product : Nat := 34
abbrev i_d_law_affine : Nat := 35
abbrev i_d_law_any_group : Nat := 36
abbrev i_d_law_conjugates : Nat := 37
abbrev i_d_law_closed : Nat := 38
abbrev i_d_law_cosets : Nat := 39
abbrev i_d_law_picture : Nat := 40
abbrev i_d_law_subtable : Nat := 41
abbrev i_d_law_commutators : Nat := 42
abbrev i_d_law_series : Nat := 43
abbrev i_d_law_central : Nat := 44
abbrev i_d_law_upper : Nat := 45
abbrev i_d_law_end : Nat := 46
abbrev i_d_law_pairs : Nat := 47
abbrev i_d_law_lies_in : Nat := 48
abbrev i_d_law_product_told : Nat := 49
abbrev i_d_law_single_told : Nat := 50
abbrev i_d_law_cut : Nat := 51
abbrev i_d_law_pictured : Nat := 52
abbrev i_d_law_quotient_told : Nat := 53
abbrev i_d_law_stands : Nat := 54
abbrev i_d_law_subgroup_told : Nat := 55
abbrev i_d_law_normal : Nat := 56
abbrev i_d_law : Nat := 57
abbrev R : PySem.W.OpenRow := PySem.W.OpenLaw.row PySem.Challenge.rw_chosenmoves_k16_whole_series_of_built_gr
/-- the def whose code object has a table that the law writes -/
def tf : List He.Defn := [("_law_normal", none)]
def ex (_ : PySem.W.Frag) : Bool := true
abbrev hk : PySem.W.Hook := He.hookX 5 fa fn [] tf ex
def ob (s : PySem.W.SharedT) : He.AlX := He.obsX 5 fa fn [] tf ex (HandSHeadRun.getT s)
theorem ob_eq (s : PySem.W.SharedT) : ob s = hk.obs s.abs := He.obsX_eq (HandSHeadRun.getT_eq s)
theorem run (w : World) : HandSHeadRun.RunEq R (PySem.W.view R.prog [70]) hk ob 6000 names w := by
  intro os
  kernel_rfl
end CM
set_option Elab.async false
set_option linter.all false
set_option maxRecDepth 100000
set_option maxHeartbeats 0
/-! The head's facts handed to the walks. Printed by gen/end.py. -/
namespace CM
open PySem PySem.Spec PyProof.Rows L2
/-- the def with the lambda: its code object, its table -/
abbrev pN (K : PySem.W.Frag) : Addr × Addr := He.cT K ("_law_normal", none)
abbrev TN (K : PySem.W.Frag) : List (Addr × Str) := [((pN K).2, ("_law_normal" : Str) ++ ".<locals>." ++ "<lambda>")]
theorem all_ok {P : Program} {w : World} {K : PySem.W.Frag} {base : Heap} {mg : Str → Option Value} (X : K.In base) (G : base.Ns mainGlobals mg) (c : He.SaysD fa fn K) (TB : LamX.TabB base mg (pN K).1 (pN K).2)
    {f : Addr} {fd : FuncData} (FL : FunD K "law" "law" (defArgs s_law) (defBody s_law) (defScope s_law) [] [] f fd) : FnOk P w K mg base CX0 9 f fd ["_law_script"] (spL K (TN K)) := by
  have T : Tx K mg (He.ga K "Group") := ⟨He.cls_ok (c.fact 56 (f := .cls "Group") rfl), He.noat_ok (c.fact 57 (f := .noat "Group" "rows") rfl), He.noat_ok (c.fact 58 (f := .noat "Group" "size") rfl), He.noat_ok (c.fact 59 (f := .noat "Group" "inverses") rfl), He.free_ok X G (c.fact 64 (f := .free "len") rfl), He.free_ok X G (c.fact 65 (f := .free "sorted") rfl), He.free_ok X G (c.fact 66 (f := .free "range") rfl), He.free_ok X G (c.fact 67 (f := .free "list") rfl), He.free_ok X G (c.fact 68 (f := .free "all") rfl), He.free_ok X G (c.fact 69 (f := .free "set") rfl), He.free_ok X G (c.fact 70 (f := .free "tuple") rfl), He.free_ok X G (c.fact 71 (f := .free "enumerate") rfl), He.free_ok X G (c.fact 72 (f := .free "isinstance") rfl), He.free_ok X G (c.fact 73 (f := .free "int") rfl), He.free_ok X G (c.fact 74 (f := .free "bool") rfl), He.free_ok X G (c.fact 75 (f := .free "str") rfl), He.free_ok X G (c.fact 76 (f := .free "abs") rfl), He.free_ok X G (c.fact 77 (f := .free "min") rfl), He.free_ok X G (c.fact 78 (f := .free "max") rfl), He.int_ok X G (c.fact 55 (f := .int "MOST_MEMBERS" 60) rfl)⟩
  obtain ⟨fd_reached, D_reached⟩ := c.def_ 0 (d := d_reached) rfl
  have F_reached := w_reached (P := P) (w := w) (base := base) (C := He.ga K "Group") T ⟨_, _, D_reached, He.glo_ok X G (c.fact 0 (f := .glo "reached") rfl)⟩
  obtain ⟨fd_generating_members, D_generating_members⟩ := c.def_ 1 (d := d_generating_members) rfl
  have F_generating_members := w_generating_members (P := P) (w := w) (base := base) (C := He.ga K "Group") T ⟨_, _, D_generating_members, He.glo_ok X G (c.fact 1 (f := .glo "generating_members") rfl)⟩ F_reached
  obtain ⟨fd_is_associative, D_is_associative⟩ := c.def_ 2 (d := d_is_associative) rfl
  have F_is_associative := w_is_associative (P := P) (w := w) (base := base) (C := He.ga K "Group") T ⟨_, _, D_is_associative, He.glo_ok X G (c.fact 2 (f := .glo "is_associative") rfl)⟩ F_generating_members
  obtain ⟨fd_table_fault, D_table_fault⟩ := c.def_ 3 (d := d_table_fault) rfl
  have F_table_fault := w_table_fault (P := P) (w := w) (base := base) (C := He.ga K "Group") T ⟨_, _, D_table_fault, He.glo_ok X G (c.fact 3 (f := .glo "table_fault") rfl)⟩ F_is_associative
  obtain ⟨fd_init_m, D_init_m⟩ := c.def_ 4 (d := d_init_m) rfl
  have GM := w_init_m (P := P) (w := w) (base := base) (C := He.ga K "Group") T ⟨_, _, D_init_m, He.mkr_ok (c.fact 60 (f := .mkr "Group") rfl)⟩ (He.glo_ok X G (c.fact 54 (f := .glo "Group") rfl)) F_table_fault
  obtain ⟨fd_check_m, D_check_m⟩ := c.def_ 5 (d := d_check_m) rfl
  have M_check := w_check_m (P := P) (w := w) (base := base) (C := He.ga K "Group") T ⟨_, _, D_check_m, He.meth_ok (c.fact 61 (f := .meth "Group" "check") rfl)⟩
  obtain ⟨fd_conjugated_m, D_conjugated_m⟩ := c.def_ 6 (d := d_conjugated_m) rfl
  have M_conjugated := w_conjugated_m (P := P) (w := w) (base := base) (C := He.ga K "Group") T ⟨_, _, D_conjugated_m, He.meth_ok (c.fact 62 (f := .meth "Group" "conjugated") rfl)⟩ M_check M_check
  obtain ⟨fd_commutator_m, D_commutator_m⟩ := c.def_ 7 (d := d_commutator_m) rfl
  have M_commutator := w_commutator_m (P := P) (w := w) (base := base) (C := He.ga K "Group") T ⟨_, _, D_commutator_m, He.meth_ok (c.fact 63 (f := .meth "Group" "commutator") rfl)⟩ M_check M_check
  obtain ⟨fd_generated, D_generated⟩ := c.def_ 8 (d := d_generated) rfl
  have F_generated := w_generated (P := P) (w := w) (base := base) (C := He.ga K "Group") T ⟨_, _, D_generated, He.glo_ok X G (c.fact 4 (f := .glo "generated") rfl)⟩ M_check F_reached
  obtain ⟨fd_check_subgroup, D_check_subgroup⟩ := c.def_ 9 (d := d_check_subgroup) rfl
  have F_check_subgroup := w_check_subgroup (P := P) (w := w) (base := base) (C := He.ga K "Group") T ⟨_, _, D_check_subgroup, He.glo_ok X G (c.fact 5 (f := .glo "check_subgroup") rfl)⟩ F_generated
  obtain ⟨fd_commutator_subgroup, D_commutator_subgroup⟩ := c.def_ 10 (d := d_commutator_subgroup) rfl
  have F_commutator_subgroup := w_commutator_subgroup (P := P) (w := w) (base := base) (C := He.ga K "Group") T ⟨_, _, D_commutator_subgroup, He.glo_ok X G (c.fact 6 (f := .glo "commutator_subgroup") rfl)⟩ M_check M_commutator F_generated
  obtain ⟨fd_is_normal, D_is_normal⟩ := c.def_ 11 (d := d_is_normal) rfl
  have F_is_normal := w_is_normal (P := P) (w := w) (base := base) (C := He.ga K "Group") T ⟨_, _, D_is_normal, He.glo_ok X G (c.fact 7 (f := .glo "is_normal") rfl)⟩ F_check_subgroup M_conjugated M_conjugated
  obtain ⟨fd_cosets, D_cosets⟩ := c.def_ 12 (d := d_cosets) rfl
  have F_cosets := w_cosets (P := P) (w := w) (base := base) (C := He.ga K "Group") T ⟨_, _, D_cosets, He.glo_ok X G (c.fact 8 (f := .glo "cosets") rfl)⟩ F_check_subgroup
  obtain ⟨fd_paired_rows, D_paired_rows⟩ := c.def_ 13 (d := d_paired_rows) rfl
  have F_paired_rows := w_paired_rows (P := P) (w := w) (base := base) (C := He.ga K "Group") T ⟨_, _, D_paired_rows, He.glo_ok X G (c.fact 9 (f := .glo "paired_rows") rfl)⟩
  obtain ⟨fd_product_group, D_product_group⟩ := c.def_ 14 (d := d_product_group) rfl
  have F_product_group := w_product_group (P := P) (w := w) (base := base) (C := He.ga K "Group") T ⟨_, _, D_product_group, He.glo_ok X G (c.fact 10 (f := .glo "product_group") rfl)⟩ F_paired_rows GM
  obtain ⟨fd_subgroup_group, D_subgroup_group⟩ := c.def_ 15 (d := d_subgroup_group) rfl
  have F_subgroup_group := w_subgroup_group (P := P) (w := w) (base := base) (C := He.ga K "Group") T ⟨_, _, D_subgroup_group, He.glo_ok X G (c.fact 11 (f := .glo "subgroup_group") rfl)⟩ F_check_subgroup GM
  obtain ⟨fd_quotient_group, D_quotient_group⟩ := c.def_ 16 (d := d_quotient_group) rfl
  have F_quotient_group := w_quotient_group (P := P) (w := w) (base := base) (C := He.ga K "Group") T ⟨_, _, D_quotient_group, He.glo_ok X G (c.fact 12 (f := .glo "quotient_group") rfl)⟩ F_is_normal F_cosets GM
  obtain ⟨fd_derived_row, D_derived_row⟩ := c.def_ 17 (d := d_derived_row) rfl
  have F_derived_row := w_derived_row (P := P) (w := w) (base := base) (C := He.ga K "Group") T ⟨_, _, D_derived_row, He.glo_ok X G (c.fact 13 (f := .glo "derived_row") rfl)⟩ F_commutator_subgroup
  obtain ⟨fd_perfect_subgroup, D_perfect_subgroup⟩ := c.def_ 18 (d := d_perfect_subgroup) rfl
  have F_perfect_subgroup := w_perfect_subgroup (P := P) (w := w) (base := base) (C := He.ga K "Group") T ⟨_, _, D_perfect_subgroup, He.glo_ok X G (c.fact 14 (f := .glo "perfect_subgroup") rfl)⟩ F_derived_row
  obtain ⟨fd_lower_row, D_lower_row⟩ := c.def_ 19 (d := d_lower_row) rfl
  have F_lower_row := w_lower_row (P := P) (w := w) (base := base) (C := He.ga K "Group") T ⟨_, _, D_lower_row, He.glo_ok X G (c.fact 15 (f := .glo "lower_row") rfl)⟩ F_commutator_subgroup
  obtain ⟨fd_subgroup_at, D_subgroup_at⟩ := c.def_ 20 (d := d_subgroup_at) rfl
  have F_subgroup_at := w_subgroup_at (P := P) (w := w) (base := base) (C := He.ga K "Group") T ⟨_, _, D_subgroup_at, He.glo_ok X G (c.fact 16 (f := .glo "subgroup_at") rfl)⟩
  obtain ⟨fd_lower, D_lower⟩ := c.def_ 21 (d := d_lower) rfl
  have F_lower := w_lower (P := P) (w := w) (base := base) (C := He.ga K "Group") T ⟨_, _, D_lower, He.glo_ok X G (c.fact 17 (f := .glo "lower") rfl)⟩ F_subgroup_at F_lower_row
  obtain ⟨fd_class_of, D_class_of⟩ := c.def_ 22 (d := d_class_of) rfl
  have F_class_of := w_class_of (P := P) (w := w) (base := base) (C := He.ga K "Group") T ⟨_, _, D_class_of, He.glo_ok X G (c.fact 18 (f := .glo "class_of") rfl)⟩ F_lower_row
  obtain ⟨fd_central_members, D_central_members⟩ := c.def_ 23 (d := d_central_members) rfl
  have F_central_members := w_central_members (P := P) (w := w) (base := base) (C := He.ga K "Group") T ⟨_, _, D_central_members, He.glo_ok X G (c.fact 19 (f := .glo "central_members") rfl)⟩ M_commutator M_commutator M_commutator
  obtain ⟨fd_centre, D_centre⟩ := c.def_ 24 (d := d_centre) rfl
  have F_centre := w_centre (P := P) (w := w) (base := base) (C := He.ga K "Group") T ⟨_, _, D_centre, He.glo_ok X G (c.fact 20 (f := .glo "centre") rfl)⟩ F_central_members
  obtain ⟨fd_upper_row, D_upper_row⟩ := c.def_ 25 (d := d_upper_row) rfl
  have F_upper_row := w_upper_row (P := P) (w := w) (base := base) (C := He.ga K "Group") T ⟨_, _, D_upper_row, He.glo_ok X G (c.fact 21 (f := .glo "upper_row") rfl)⟩ F_central_members
  obtain ⟨fd_law_cell, D_law_cell⟩ := c.def_ 26 (d := d_law_cell) rfl
  have F__law_cell := w_law_cell (P := P) (w := w) (base := base) (C := He.ga K "Group") T ⟨_, _, D_law_cell, He.glo_ok X G (c.fact 22 (f := .glo "_law_cell") rfl)⟩
  obtain ⟨fd_law_numbers, D_law_numbers⟩ := c.def_ 27 (d := d_law_numbers) rfl
  have F__law_numbers := w_law_numbers (P := P) (w := w) (base := base) (C := He.ga K "Group") T ⟨_, _, D_law_numbers, He.glo_ok X G (c.fact 23 (f := .glo "_law_numbers") rfl)⟩
  obtain ⟨fd_law_generators, D_law_generators⟩ := c.def_ 29 (d := d_law_generators) rfl
  have F__law_generators := w_law_generators (P := P) (w := w) (base := base) (C := He.ga K "Group") T ⟨_, _, D_law_generators, He.glo_ok X G (c.fact 25 (f := .glo "_law_generators") rfl)⟩
  obtain ⟨fd_law_close, D_law_close⟩ := c.def_ 30 (d := d_law_close) rfl
  have F__law_close := w_law_close (P := P) (w := w) (base := base) (C := He.ga K "Group") T ⟨_, _, D_law_close, He.glo_ok X G (c.fact 26 (f := .glo "_law_close") rfl)⟩
  obtain ⟨fd_law_table, D_law_table⟩ := c.def_ 31 (d := d_law_table) rfl
  have F__law_table := w_law_table (P := P) (w := w) (base := base) (C := He.ga K "Group") T ⟨_, _, D_law_table, He.glo_ok X G (c.fact 27 (f := .glo "_law_table") rfl)⟩
  obtain ⟨fd_law_renumbered, D_law_renumbered⟩ := c.def_ 32 (d := d_law_renumbered) rfl
  have F__law_renumbered := w_law_renumbered (P := P) (w := w) (base := base) (C := He.ga K "Group") T ⟨_, _, D_law_renumbered, He.glo_ok X G (c.fact 28 (f := .glo "_law_renumbered") rfl)⟩
  obtain ⟨fd_law_product, D_law_product⟩ := c.def_ 34 (d := d_law_product) rfl
  have F__law_product := w_law_product (P := P) (w := w) (base := base) (C := He.ga K "Group") T ⟨_, _, D_law_product, He.glo_ok X G (c.fact 30 (f := .glo "_law_product") rfl)⟩
  obtain ⟨fd_law_closed, D_law_closed⟩ := c.def_ 38 (d := d_law_closed) rfl
  have F__law_closed := w_law_closed (P := P) (w := w) (base := base) (C := He.ga K "Group") T ⟨_, _, D_law_closed, He.glo_ok X G (c.fact 34 (f := .glo "_law_closed") rfl)⟩
  obtain ⟨fd_law_commutators, D_law_commutators⟩ := c.def_ 42 (d := d_law_commutators) rfl
  have F__law_commutators := w_law_commutators (P := P) (w := w) (base := base) (C := He.ga K "Group") T ⟨_, _, D_law_commutators, He.glo_ok X G (c.fact 38 (f := .glo "_law_commutators") rfl)⟩
  obtain ⟨fd_law_conjugates, D_law_conjugates⟩ := c.def_ 37 (d := d_law_conjugates) rfl
  have F__law_conjugates := w_law_conjugates (P := P) (w := w) (base := base) (C := He.ga K "Group") T ⟨_, _, D_law_conjugates, He.glo_ok X G (c.fact 33 (f := .glo "_law_conjugates") rfl)⟩
  obtain ⟨fd_law_cosets, D_law_cosets⟩ := c.def_ 39 (d := d_law_cosets) rfl
  have F__law_cosets := w_law_cosets (P := P) (w := w) (base := base) (C := He.ga K "Group") T ⟨_, _, D_law_cosets, He.glo_ok X G (c.fact 35 (f := .glo "_law_cosets") rfl)⟩
  obtain ⟨fd_law_picture, D_law_picture⟩ := c.def_ 40 (d := d_law_picture) rfl
  have F__law_picture := w_law_picture (P := P) (w := w) (base := base) (C := He.ga K "Group") T ⟨_, _, D_law_picture, He.glo_ok X G (c.fact 36 (f := .glo "_law_picture") rfl)⟩ F__law_cosets
  obtain ⟨fd_law_subtable, D_law_subtable⟩ := c.def_ 41 (d := d_law_subtable) rfl
  have F__law_subtable := w_law_subtable (P := P) (w := w) (base := base) (C := He.ga K "Group") T ⟨_, _, D_law_subtable, He.glo_ok X G (c.fact 37 (f := .glo "_law_subtable") rfl)⟩
  obtain ⟨fd_law_series, D_law_series⟩ := c.def_ 43 (d := d_law_series) rfl
  have F__law_series := w_law_series (P := P) (w := w) (base := base) (C := He.ga K "Group") T ⟨_, _, D_law_series, He.glo_ok X G (c.fact 39 (f := .glo "_law_series") rfl)⟩ F__law_closed F__law_commutators
  obtain ⟨fd_law_central, D_law_central⟩ := c.def_ 44 (d := d_law_central) rfl
  have F__law_central := w_law_central (P := P) (w := w) (base := base) (C := He.ga K "Group") T ⟨_, _, D_law_central, He.glo_ok X G (c.fact 40 (f := .glo "_law_central") rfl)⟩
  obtain ⟨fd_law_upper, D_law_upper⟩ := c.def_ 45 (d := d_law_upper) rfl
  have F__law_upper := w_law_upper (P := P) (w := w) (base := base) (C := He.ga K "Group") T ⟨_, _, D_law_upper, He.glo_ok X G (c.fact 41 (f := .glo "_law_upper") rfl)⟩ F__law_central
  obtain ⟨fd_law_end, D_law_end⟩ := c.def_ 46 (d := d_law_end) rfl
  have F__law_end := w_law_end (P := P) (w := w) (base := base) (C := He.ga K "Group") T ⟨_, _, D_law_end, He.glo_ok X G (c.fact 42 (f := .glo "_law_end") rfl)⟩
  obtain ⟨fd_law_lies_in, D_law_lies_in⟩ := c.def_ 48 (d := d_law_lies_in) rfl
  have F__law_lies_in := w_law_lies_in (P := P) (w := w) (base := base) (C := He.ga K "Group") T ⟨_, _, D_law_lies_in, He.glo_ok X G (c.fact 44 (f := .glo "_law_lies_in") rfl)⟩
  obtain ⟨fd_law_pairs, D_law_pairs⟩ := c.def_ 47 (d := d_law_pairs) rfl
  have F__law_pairs := w_law_pairs (P := P) (w := w) (base := base) (C := He.ga K "Group") T ⟨_, _, D_law_pairs, He.glo_ok X G (c.fact 43 (f := .glo "_law_pairs") rfl)⟩ F__law_end
  obtain ⟨fd_law_cut, D_law_cut⟩ := c.def_ 51 (d := d_law_cut) rfl
  have F__law_cut := w_law_cut (P := P) (w := w) (base := base) (C := He.ga K "Group") T ⟨_, _, D_law_cut, He.glo_ok X G (c.fact 47 (f := .glo "_law_cut") rfl)⟩
  obtain ⟨fd_law_same, D_law_same⟩ := c.def_ 28 (d := d_law_same) rfl
  have F__law_same := w_law_same (P := P) (w := w) (base := base) (C := He.ga K "Group") T ⟨_, _, D_law_same, He.glo_ok X G (c.fact 24 (f := .glo "_law_same") rfl)⟩
  obtain ⟨fd_law_pictured, D_law_pictured⟩ := c.def_ 52 (d := d_law_pictured) rfl
  have F__law_pictured := w_law_pictured (P := P) (w := w) (base := base) (C := He.ga K "Group") T ⟨_, _, D_law_pictured, He.glo_ok X G (c.fact 48 (f := .glo "_law_pictured") rfl)⟩ F__law_cut
  obtain ⟨fd_law_stands, D_law_stands⟩ := c.def_ 54 (d := d_law_stands) rfl
  have F__law_stands := w_law_stands (P := P) (w := w) (base := base) (C := He.ga K "Group") T ⟨_, _, D_law_stands, He.glo_ok X G (c.fact 50 (f := .glo "_law_stands") rfl)⟩ F__law_lies_in F__law_end
  obtain ⟨fd_law_group, D_law_group⟩ := c.def_ 33 (d := d_law_group) rfl
  have F__law_group := w_law_group (P := P) (w := w) (base := base) (C := He.ga K "Group") T ⟨_, _, D_law_group, He.glo_ok X G (c.fact 29 (f := .glo "_law_group") rfl)⟩ F__law_numbers F__law_table F__law_close F__law_generators F__law_renumbered
  obtain ⟨fd_law_affine, D_law_affine⟩ := c.def_ 35 (d := d_law_affine) rfl
  have F__law_affine := w_law_affine (P := P) (w := w) (base := base) (C := He.ga K "Group") T ⟨_, _, D_law_affine, He.glo_ok X G (c.fact 31 (f := .glo "_law_affine") rfl)⟩ F__law_table F__law_close
  obtain ⟨fd_law_any_group, D_law_any_group⟩ := c.def_ 36 (d := d_law_any_group) rfl
  have F__law_any_group := w_law_any_group (P := P) (w := w) (base := base) (C := He.ga K "Group") T ⟨_, _, D_law_any_group, He.glo_ok X G (c.fact 32 (f := .glo "_law_any_group") rfl)⟩ F__law_numbers F__law_table F__law_close F__law_generators F__law_affine F__law_product F__law_renumbered
  obtain ⟨fd_law_single_told, D_law_single_told⟩ := c.def_ 50 (d := d_law_single_told) rfl
  have F__law_single_told := w_law_single_told (P := P) (w := w) (base := base) (C := He.ga K "Group") T ⟨_, _, D_law_single_told, He.glo_ok X G (c.fact 46 (f := .glo "_law_single_told") rfl)⟩ F__law_same F__law_series F_lower_row F__law_upper F_upper_row F_derived_row GM
  obtain ⟨fd_law_product_told, D_law_product_told⟩ := c.def_ 49 (d := d_law_product_told) rfl
  have F__law_product_told := w_law_product_told (P := P) (w := w) (base := base) (C := He.ga K "Group") T ⟨_, _, D_law_product_told, He.glo_ok X G (c.fact 45 (f := .glo "_law_product_told") rfl)⟩ F_product_group F__law_pairs F__law_series F__law_upper F__law_same F_derived_row F_lower_row F__law_end F_centre F_upper_row F_perfect_subgroup F_class_of F_lower F__law_commutators F__law_product F__law_lies_in GM
  obtain ⟨fd_law_quotient_told, D_law_quotient_told⟩ := c.def_ 53 (d := d_law_quotient_told) rfl
  have F__law_quotient_told := w_law_quotient_told (P := P) (w := w) (base := base) (C := He.ga K "Group") T ⟨_, _, D_law_quotient_told, He.glo_ok X G (c.fact 49 (f := .glo "_law_quotient_told") rfl)⟩ F_quotient_group F__law_picture F__law_same F__law_pictured F_lower_row F_derived_row
  obtain ⟨fd_law_subgroup_told, D_law_subgroup_told⟩ := c.def_ 55 (d := d_law_subgroup_told) rfl
  have F__law_subgroup_told := w_law_subgroup_told (P := P) (w := w) (base := base) (C := He.ga K "Group") T ⟨_, _, D_law_subgroup_told, He.glo_ok X G (c.fact 51 (f := .glo "_law_subgroup_told") rfl)⟩ F_subgroup_group F__law_subtable F_lower_row F_derived_row F__law_same F__law_series F__law_stands
  obtain ⟨fN, DN⟩ := c.def_ 56 (d := d_law_normal) rfl
  have hmN := He.glo_ok X G (c.fact 52 (f := .glo "_law_normal") rfl)
  have hkN := DN.kp
  obtain ⟨oc, od, dV, kV, doc, pm, an, cdv, ct, osl, rfl, lk, hcd, hD, hK⟩ := DN.ex
  obtain ⟨cN, rfl⟩ := He.codeIn_ref hcd
  have ec : He.codeOf K ("_law_normal", none) = cN := He.codeOf_eq lk rfl
  have FN : FnR P w K mg base CX0 3 (He.fAd K ("_law_normal", none)) (spN K (He.ga K "Group") (TN K)) := by
    rcases hD with ⟨_, rfl⟩ | ⟨e, _⟩
    · refine w_law_normal (T := TN K) T F__law_closed F__law_conjugates (c := cN) (PT := (pN K).2) (by rw [← ec]; exact TB) (List.mem_cons_self ..) (fun q hq _ => ?_) lk hcd (fun us hl => match us, hl with | [_, _], _ => rfl)
      rw [List.mem_singleton] at hq
      rw [hq]
    · exact absurd rfl e
  exact w_law T F__law_numbers F__law_cell F__law_group F__law_single_told F__law_product_told F__law_any_group F__law_series F__law_same F_derived_row F_lower_row F__law_quotient_told F__law_closed F__law_subgroup_told GM hmN hkN FN FL
end CM
open PySem PySem.W PySem.Calls PyProof.Rows
theorem PySem.Challenge.cw_chosenmoves_k16_whole_series_of_built_gr_holds : PySem.Challenge.rw_chosenmoves_k16_whole_series_of_built_gr.Holds := by
  w_on; o_law
  refine HandSHeadRun.head_any (r := OpenLaw.row PySem.Challenge.rw_chosenmoves_k16_whole_series_of_built_gr) (q := view (OpenLaw.row PySem.Challenge.rw_chosenmoves_k16_whole_series_of_built_gr).prog [70]) (H := CM.hk) (ob := CM.ob) (M := 6000) (loose := CM.names) (d := HandSHeadRun.topDef (OpenLaw.row PySem.Challenge.rw_chosenmoves_k16_whole_series_of_built_gr).prog 70) (kwd := []) CM.ob_eq
    (by kernel_rfl) (fun s => by kernel_rfl) CM.run (by kernel_rfl) (by kernel_rfl) (by kernel_rfl) (by rfl) (by first | assumption | decide +kernel) (by decide +kernel) ⟨rfl, rfl, rfl, rfl, rfl, by decide +kernel⟩ ?hw ?hc
  case hw => w_witness2
  case hc =>
    refine LamX.walk_ofTsE (l := PySem.Challenge.rw_chosenmoves_k16_whole_series_of_built_gr) (n := 63) (k := 9) (x := "_law_script") (CX := fun _ => L2.CX0) rfl (by decide) (by kernel_rfl) ⟨rfl, by decide, by decide⟩ ?F (fun _ _ _ _ _ z => z)
    intro w mg fa h Y G hmg0
    obtain ⟨K, KX, c⟩ := Y
    have hmg : mg ("law" : PySem.Str) = some (.ref fa) := by
      have e : (HandSHeadRun.topDef (OpenLaw.row PySem.Challenge.rw_chosenmoves_k16_whole_series_of_built_gr).prog 70).name = ("law" : PySem.Str) := by kernel_rfl
      rw [← e]
      exact hmg0
    have cd : He.SaysD CM.fa CM.fn K := c.t.d
    obtain ⟨fd, FL⟩ := cd.def_ 57 (d := CM.d_law) rfl
    have e := hmg.symm.trans (He.glo_ok KX G (cd.fact 53 (f := .glo "law") rfl))
    cases e
    have hin : (("_law_normal", none) : He.Defn) ∈ CM.tf := List.mem_cons_self ..
    refine ⟨K, KX, fd, [CM.pN K], CM.spL K (CM.TN K), fun p hp => ?_, fun p hp => ?_, fun p hp => ?_, fun s v => L2.FunD.bindsA (ps := ["_law_script"]) FL (fun _ _ _ _ _ _ us hl => match us, hl with | [_], _ => rfl) s [v] rfl, fun H a ns _ _ hH hS => ⟨a, ns, rfl, fun p hp => ?_, hS, fun _ => rfl⟩, fun base X G' TB => CM.all_ok X G' cd (TB _ (List.mem_cons_self ..)) FL⟩
    · rw [List.mem_singleton] at hp
      rw [hp]
      exact c.empty _ hin
    · rw [List.mem_singleton] at hp
      rw [hp]
      exact c.out _ hin
    · rw [List.mem_singleton] at hp
      rw [hp]
      exact PySem.W.codeHd_of_K KX (c.hd _ hin)
    · rw [List.mem_singleton] at hp
      rw [hp]
      exact LamX.TabS.nil (hH _ (List.mem_cons_self ..))
#print axioms PySem.Challenge.cw_chosenmoves_k16_whole_series_of_built_gr_holds
