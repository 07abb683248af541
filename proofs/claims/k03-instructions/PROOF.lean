import PyProof.Rows.All
import Wide.All
import OpenK.AllK
import Wide.FinOn
import HandS.ForMost
import HandS.Exc
import HandS.Head0
import HandS.HeadEnd
import HandS.HeadHook1
import HandS.Lambda
import HandS.Flow
import HandS.IsInst
import HandS.TupAny
import HandS.Walk
import HandS.Text
import HandS.Codes
import HandS.WordsExc
import HandS.Zip
import HandS.Defaults
import HandS.WordsDict
import HandS.Words
import KE.KStateDown
import HandS.Wide
import KE.KExcSuper
import KE.KExcIs
import HandS.ForExc
import HandS.ExcIs
import HandS.ExcSuper
import HandS.ExcValue
import PyProof.ReprRoads
import KE.KDictZip
import HandS.Dict
import HandS.More
import HandS.Iter
import HandS.LawCells
import KE.KIsAll
import HandS.Head1
import HandS.Head2
import HandS.HeadHook2
import HandS.Steps
import PyProof.DictUpdate
import HandS.Style
import HandS.Conv
import PyProof.P3Eq
import HandS.EndTab
import HandS.HeadHook3
import HandS.HeadWalk
import PySem.Challenge.RW_neverstand_k03_instructions_taken_and_re
set_option Elab.async false
set_option linter.all false
set_option maxRecDepth 100000
set_option maxHeartbeats 4000000
/-! A def's body as a function: values, states, judgements. -/
namespace ME
open PySem PySem.Spec PyProof.Rows L2
/-! ### values -/
inductive D where
  | non | bl (b : Bool) | int (i : Int) | str (x : Str)
  | tup (xs : List D) | lst (xs : List D) | dct (ks : List Key) (xs : List D) | ins (C : Str) (ns : List Str) (xs : List D)
  | ob (i : Nat) | raw (a : Addr) | ty (n : String) | scr (ns : List Int) | lsk (xs : List D)
/-- what may change -/
inductive SO where
  | lst (xs : List D) | dct (ks : List Key) (xs : List D) | ins (C : Str) (ns : List Str) (xs : List D) | pen (b : Nat) | tbl (T : Addr) (q : Str)
/-- where the objects that may change stand; addresses set aside -/
structure Rs where
  ob : List Addr
  rs : List Addr
def Rs.fz (ρ : Rs) (a : Addr) : Prop := a ∉ ρ.ob ∧ a ∉ ρ.rs
def WrT (K : PySem.W.Frag) (a : Addr) (xs : List V) : Prop := ∃ (o : Obj) (its : Array Value) (n : Nat), K.lookup a = some o ∧ o.cls = .type "tuple" ∧ o.data = .seq its n ∧ its.size ≤ sizeLine ∧ Vals xs its.toList
def FzL (K : PySem.W.Frag) (H : Hp) (ρ : Rs) (a : Addr) (xs : List V) : Prop := ρ.fz a ∧ H a = some (.lst xs)
def FzT (K : PySem.W.Frag) (H : Hp) (ρ : Rs) (a : Addr) (xs : List V) : Prop := (ρ.fz a ∧ Rd H a (.tup xs)) ∨ WrT K a xs
theorem FzL.sq {K : PySem.W.Frag} {H : Hp} {ρ : Rs} {a : Addr} {xs : List V} (h : FzL K H ρ a xs) : SqL K H a xs := SqL.of h.2
theorem FzT.sq {K : PySem.W.Frag} {H : Hp} {ρ : Rs} {a : Addr} {xs : List V} : FzT K H ρ a xs → SqT K H a xs
  | .inl h => .inl h.2
  | .inr h => .inr h
/-- a list that may be locked or written -/
def ScrL (K : PySem.W.Frag) (H : Hp) (ρ : Rs) (a : Addr) (xs : List V) : Prop := (ρ.fz a ∧ Rd H a (.lst xs)) ∨ ∃ (o : Obj) (its : Array Value) (n : Nat), K.lookup a = some o ∧ o.cls = .type "list" ∧ o.dict = none ∧ o.data = .seq its n ∧ its.size ≤ sizeLine ∧ Vals xs its.toList
theorem ScrL.sq {K : PySem.W.Frag} {H : Hp} {ρ : Rs} {a : Addr} {xs : List V} : ScrL K H ρ a xs → SqL K H a xs
  | .inl h => .inl h.2
  | .inr h => .inr h
mutual
inductive VR (K : PySem.W.Frag) (H : Hp) (ρ : Rs) : D → V → Prop
  | non : VR K H ρ .non .non
  | bl (b : Bool) : VR K H ρ (.bl b) (.bl b)
  | int (i : Int) : VR K H ρ (.int i) (.int i)
  | str (x : Str) : VR K H ρ (.str x) (.str x)
  | ty (n : String) : VR K H ρ (.ty n) (.ty n)
  | raw (a : Addr) : VR K H ρ (.raw a) (.ref a)
  | ob {i : Nat} {a : Addr} : ρ.ob[i]? = some a → VR K H ρ (.ob i) (.ref a)
  | tup {a : Addr} {xs : List V} {ds : List D} : FzT K H ρ a xs → VRs K H ρ ds xs → VR K H ρ (.tup ds) (.ref a)
  | lst {a : Addr} {xs : List V} {ds : List D} : FzL K H ρ a xs → VRs K H ρ ds xs → VR K H ρ (.lst ds) (.ref a)
  | dct {a : Addr} {kvs : List (Key × V)} {ds : List D} : ρ.fz a → H a = some (.dK kvs) → VRs K H ρ ds (kvs.map Prod.snd) → VR K H ρ (.dct (kvs.map Prod.fst) ds) (.ref a)
  | ins {a dx : Addr} {C : Str} {fs : List (Str × V)} {ds : List D} : ρ.fz a → H a = some (.ins (He.ga K C) dx fs) → VRs K H ρ ds (fs.map Prod.snd) → VR K H ρ (.ins C (fs.map Prod.fst) ds) (.ref a)
  | scr {a : Addr} {ns : List Int} : ScrL K H ρ a (ns.map V.int) → VR K H ρ (.scr ns) (.ref a)
  | lsk {a : Addr} {xs : List V} {ds : List D} : ScrL K H ρ a xs → VRs K H ρ ds xs → VR K H ρ (.lsk ds) (.ref a)
inductive VRs (K : PySem.W.Frag) (H : Hp) (ρ : Rs) : List D → List V → Prop
  | nil : VRs K H ρ [] []
  | cons {v : V} {vs : List V} {d : D} {ds : List D} : VR K H ρ d v → VRs K H ρ ds vs → VRs K H ρ (d :: ds) (v :: vs)
end
/-- no table of code objects -/
def ntb (o : HO) : Prop := ∀ ps, o ≠ .tbl ps
/-- nothing, but for such a table -/
def Nn (H : Hp) (a : Addr) : Prop := ∀ o, ntb o → H a ≠ some o
theorem Nn.of {H : Hp} {a : Addr} (h : H a = none) : Nn H a := fun o _ e => by rw [h] at e; cases e
/-- from one state to a later one -/
structure Step (ρ : Rs) (H : Hp) (ρ' : Rs) (H' : Hp) : Prop where
  ob : ∃ tl, ρ'.ob = ρ.ob ++ tl ∧ ∀ a ∈ tl, Nn H a
  rs : ∀ a ∈ ρ.rs, a ∈ ρ'.rs
  rsn : ∀ a ∈ ρ'.rs, a ∈ ρ.rs ∨ Nn H a
  keep : ∀ a o, a ∉ ρ.ob → ntb o → H a = some o → H' a = some o
  live : ∀ a o, ntb o → H a = some o → ∃ o', ntb o' ∧ H' a = some o'
section
variable {K : PySem.W.Frag} {H H' H2 : Hp} {ρ ρ' ρ2 : Rs} {a : Addr} {o : HO}
theorem ntb_lst {xs : List V} : ntb (.lst xs) := fun _ z => by cases z
theorem ntb_tup {xs : List V} : ntb (.tup xs) := fun _ z => by cases z
theorem ntb_dK {xs : List (Key × V)} : ntb (.dK xs) := fun _ z => by cases z
theorem ntb_ins {C dx : Addr} {fs : List (Str × V)} : ntb (.ins C dx fs) := fun _ z => by cases z
theorem ntb_frz {o : Obj} {u : HO} : ntb (.frz o u) := fun _ z => by cases z
theorem ntb_own {x : Addr} : ntb (.own x) := fun _ z => by cases z
theorem ntb_xd {fs : List (Str × V)} : ntb (.xd fs) := fun _ z => by cases z
theorem Step.refl : Step ρ H ρ H := ⟨⟨[], by simp, fun a h => nomatch h⟩, fun _ h => h, fun _ h => .inl h, fun _ _ _ _ h => h, fun a o n h => ⟨o, n, h⟩⟩
theorem Step.notob (t : Step ρ H ρ' H') (w : ntb o) (h : H a = some o) (n : a ∉ ρ.ob) : a ∉ ρ'.ob := fun z => by
  obtain ⟨tl, e, hn⟩ := t.ob
  rw [e] at z
  rcases List.mem_append.mp z with q | q
  · exact n q
  · exact hn a q o w h
theorem Step.nn (t : Step ρ H ρ' H') (h : Nn H' a) : Nn H a := fun o w e => by
  obtain ⟨o', w', h'⟩ := t.live a o w e
  exact h o' w' h'
theorem Step.trans (t : Step ρ H ρ' H') (u : Step ρ' H' ρ2 H2) : Step ρ H ρ2 H2 := by
  refine ⟨?_, fun a h => u.rs a (t.rs a h), fun a h => ?_, fun a o n w h => u.keep a o (t.notob w h n) w (t.keep a o n w h), fun a o w h => ?_⟩
  · obtain ⟨t1, e1, n1⟩ := t.ob
    obtain ⟨t2, e2, n2⟩ := u.ob
    refine ⟨t1 ++ t2, by rw [e2, e1, List.append_assoc], fun a ha => ?_⟩
    rcases List.mem_append.mp ha with q | q
    · exact n1 a q
    · exact t.nn (n2 a q)
  · rcases u.rsn a h with q | q
    · exact t.rsn a q
    · exact .inr (t.nn q)
  · obtain ⟨o', w', h'⟩ := t.live a o w h
    exact u.live a o' w' h'
theorem Step.fz (t : Step ρ H ρ' H') (w : ntb o) (h : H a = some o) (f : ρ.fz a) : ρ'.fz a := ⟨t.notob w h f.1, fun z => (t.rsn a z).elim f.2 fun e => e o w h⟩
theorem Step.rd {u : HO} (t : Step ρ H ρ' H') (w : ntb u) (f : ρ.fz a) (r : Rd H a u) : ρ'.fz a ∧ Rd H' a u := by
  rcases r with h | ⟨o, h⟩
  · exact ⟨t.fz w h f, .inl (t.keep _ _ f.1 w h)⟩
  · exact ⟨t.fz ntb_frz h f, .inr ⟨o, t.keep _ _ f.1 ntb_frz h⟩⟩
theorem Step.get {i : Nat} (t : Step ρ H ρ' H') (h : ρ.ob[i]? = some a) : ρ'.ob[i]? = some a := by
  obtain ⟨tl, e, _⟩ := t.ob
  have hi := (List.getElem?_eq_some_iff.mp h).1
  rw [e, List.getElem?_append_left hi]
  exact h
theorem FzL.mono {xs : List V} (t : Step ρ H ρ' H') (h : FzL K H ρ a xs) : FzL K H' ρ' a xs := ⟨t.fz ntb_lst h.2 h.1, t.keep _ _ h.1.1 ntb_lst h.2⟩
theorem FzT.mono {xs : List V} (t : Step ρ H ρ' H') : FzT K H ρ a xs → FzT K H' ρ' a xs
  | .inl h => .inl (t.rd ntb_tup h.1 h.2)
  | .inr h => .inr h
theorem ScrL.mono {xs : List V} (t : Step ρ H ρ' H') : ScrL K H ρ a xs → ScrL K H' ρ' a xs
  | .inl h => .inl (t.rd ntb_lst h.1 h.2)
  | .inr h => .inr h
theorem VR.mono {d : D} {v : V} (t : Step ρ H ρ' H') (h : VR K H ρ d v) : VR K H' ρ' d v :=
  VR.rec (motive_1 := fun d v _ => VR K H' ρ' d v) (motive_2 := fun ds vs _ => VRs K H' ρ' ds vs) .non .bl .int .str .ty .raw (fun e => .ob (t.get e)) (fun e _ q => .tup (e.mono t) q) (fun e _ q => .lst (e.mono t) q)
    (fun f e _ q => .dct (t.fz ntb_dK e f) (t.keep _ _ f.1 ntb_dK e) q) (fun f e _ q => .ins (t.fz ntb_ins e f) (t.keep _ _ f.1 ntb_ins e) q) (fun e => .scr (e.mono t)) (fun e _ q => .lsk (e.mono t) q) .nil (fun _ _ p q => .cons p q) h
theorem VRs.mono (t : Step ρ H ρ' H') : ∀ {ds : List D} {vs : List V}, VRs K H ρ ds vs → VRs K H' ρ' ds vs
  | _, _, .nil => .nil
  | _, _, .cons p q => .cons (p.mono t) (VRs.mono t q)
theorem VRs.len : ∀ {ds : List D} {vs : List V}, VRs K H ρ ds vs → vs.length = ds.length
  | _, _, .nil => rfl
  | _, _, .cons _ q => by rw [List.length_cons, List.length_cons, q.len]
theorem VRs.get : ∀ {ds : List D} {vs : List V} {i : Nat} {d : D}, VRs K H ρ ds vs → ds[i]? = some d → ∃ v, vs[i]? = some v ∧ VR K H ρ d v
  | _, _, _, _, .nil, e => by simp at e
  | _, _, 0, _, .cons p _, e => ⟨_, rfl, by rw [← Option.some.inj e]; exact p⟩
  | _, _, i + 1, _, .cons _ q, e => VRs.get (i := i) q (by simpa using e)
theorem VRs.got : ∀ {ds : List D} {vs : List V} {i : Nat} {v : V}, VRs K H ρ ds vs → vs[i]? = some v → ∃ d, ds[i]? = some d ∧ VR K H ρ d v
  | _, _, _, _, .nil, e => by simp at e
  | _, _, 0, _, .cons p _, e => ⟨_, rfl, by rw [← Option.some.inj e]; exact p⟩
  | _, _, i + 1, _, .cons _ q, e => VRs.got (i := i) q (by simpa using e)
theorem VRs.app {es : List D} {us : List V} (h : VRs K H ρ es us) : ∀ {ds : List D} {vs : List V}, VRs K H ρ ds vs → VRs K H ρ (ds ++ es) (vs ++ us)
  | _, _, .nil => h
  | _, _, .cons p q => .cons p (VRs.app h q)
theorem VRs.take : ∀ {ds : List D} {vs : List V} (n : Nat), VRs K H ρ ds vs → VRs K H ρ (ds.take n) (vs.take n)
  | _, _, 0, _ => .nil
  | _, _, _ + 1, .nil => .nil
  | _, _, n + 1, .cons p q => .cons p (VRs.take n q)
theorem VRs.drop : ∀ {ds : List D} {vs : List V} (n : Nat), VRs K H ρ ds vs → VRs K H ρ (ds.drop n) (vs.drop n)
  | _, _, 0, h => h
  | _, _, _ + 1, .nil => .nil
  | _, _, n + 1, .cons _ q => VRs.drop n q
theorem VRs.set {d : D} {v : V} (h : VR K H ρ d v) : ∀ {ds : List D} {vs : List V} (i : Nat), VRs K H ρ ds vs → VRs K H ρ (ds.set i d) (vs.set i v)
  | _, _, _, .nil => .nil
  | _, _, 0, .cons _ q => .cons h q
  | _, _, i + 1, .cons p q => .cons p (VRs.set h i q)
/-- what stands for an object that may change -/
def OR (K : PySem.W.Frag) (H : Hp) (ρ : Rs) (a : Addr) : SO → Prop
  | .lst ds => ∃ vs, H a = some (.lst vs) ∧ VRs K H ρ ds vs
  | .dct ks ds => ∃ kvs, H a = some (.dK kvs) ∧ kvs.map Prod.fst = ks ∧ VRs K H ρ ds (kvs.map Prod.snd)
  | .ins C ns ds => ∃ dx fs, H a = some (.ins (He.ga K C) dx fs) ∧ fs.map Prod.fst = ns ∧ VRs K H ρ ds (fs.map Prod.snd)
  | .pen b => ∃ (c : Addr) (ns : List Int) (t r : Int), H a = some (.lst [.ref c, .int t, .int r]) ∧ ρ.fz c ∧ H c = some (.lst (ns.map V.int)) ∧ ns.length ≤ 63 ∧ 0 ≤ t ∧ t + b ≤ 1048576 ∧ 0 ≤ r
  | .tbl T q => T = a ∧ ∃ ps : Array Value, H a = some (.tbl ps) ∧ TriplesOk ps.toList ∧ ∀ (pos : Pos) (cv : Value), codeAmong pos ps.toList = some cv → ∃ c, cv = .ref c ∧ ρ.fz c ∧ H c = some (LamX.CodeO c q)
end
end ME
namespace ME
open PySem PySem.Spec PyProof.Rows L2
section
variable {K : PySem.W.Frag} {H H' H2 : Hp} {ρ ρ' ρ2 : Rs} {a : Addr}
theorem OR.mono {o : SO} (t : Step ρ H ρ' H') (e : H' a = H a) (h : OR K H ρ a o) : OR K H' ρ' a o := by
  cases o with
  | lst ds =>
    obtain ⟨vs, h1, h2⟩ := h
    exact ⟨vs, e.trans h1, h2.mono t⟩
  | dct ks ds =>
    obtain ⟨vs, h1, h2, h3⟩ := h
    exact ⟨vs, e.trans h1, h2, h3.mono t⟩
  | ins C ns ds =>
    obtain ⟨dx, fs, h1, h2, h3⟩ := h
    exact ⟨dx, fs, e.trans h1, h2, h3.mono t⟩
  | pen b =>
    obtain ⟨c, ns, x, r, h1, h2, h3, h4⟩ := h
    exact ⟨c, ns, x, r, e.trans h1, t.fz ntb_lst h3 h2, t.keep _ _ h2.1 ntb_lst h3, h4⟩
  | tbl T q =>
    obtain ⟨h0, ps, h1, h2, h3⟩ := h
    refine ⟨h0, ps, e.trans h1, h2, fun pos cv hc => ?_⟩
    obtain ⟨c, e1, e2, e3⟩ := h3 pos cv hc
    exact ⟨c, e1, t.fz LamX.codeO_ne e3 e2, t.keep _ _ e2.1 LamX.codeO_ne e3⟩
/-- a list or a dict -/
def plainO (o : HO) : Prop := (∃ xs, o = .lst xs) ∨ ∃ kvs, o = .dK kvs
theorem plainO.ntb {o : HO} (h : plainO o) : ntb o := by
  rcases h with ⟨_, rfl⟩ | ⟨_, rfl⟩
  · exact ntb_lst
  · exact ntb_dK
/-- the states' objects stand in the heap -/
structure SR (K : PySem.W.Frag) (ρ : Rs) (S : List SO) (H : Hp) : Prop where
  nd : ρ.ob.Nodup
  len : ρ.ob.length = S.length
  ok : ∀ (i : Nat) (a : Addr) (o : SO), ρ.ob[i]? = some a → S[i]? = some o → OR K H ρ a o
  live : ∀ a ∈ ρ.ob, ∃ o, H a = some o
  set : ∀ a ∈ ρ.rs, (∃ o, plainO o ∧ H a = some o) ∧ a ∉ ρ.ob
theorem SR.new {S : List SO} {p : Addr} (sr : SR K ρ S H) (h : H p = none) : p ∉ ρ.ob ∧ p ∉ ρ.rs := by
  refine ⟨fun z => ?_, fun z => ?_⟩
  · obtain ⟨o, e⟩ := sr.live p z
    rw [h] at e
    cases e
  · obtain ⟨o, _, e⟩ := (sr.set p z).1
    rw [h] at e
    cases e
/-- a step that leaves the objects as they were -/
theorem SR.stay {S : List SO} (sr : SR K ρ S H) (t : Step ρ H ρ H') (e : ∀ a ∈ ρ.ob, H' a = H a) : SR K ρ S H' := by
  refine ⟨sr.nd, sr.len, fun i a o h1 h2 => (sr.ok i a o h1 h2).mono t (e a (List.mem_of_getElem? h1)), fun a h => ?_, fun a h => ⟨?_, (sr.set a h).2⟩⟩
  · obtain ⟨o, q⟩ := sr.live a h
    exact ⟨o, (e a h).trans q⟩
  · obtain ⟨o, w, q⟩ := (sr.set a h).1
    exact ⟨o, w, t.keep a o (sr.set a h).2 w.ntb q⟩
theorem Step.add {p : Addr} {o : HO} (h : H p = none) : Step ρ H ρ (upd H p o) := ⟨⟨[], by simp, fun a h => nomatch h⟩, fun _ h => h, fun _ h => .inl h, fun a u _ _ e => by rw [upd_ne (ne_of_none e h)]; exact e, fun a u w e => ⟨u, w, by rw [upd_ne (ne_of_none e h)]; exact e⟩⟩
theorem SR.add {S : List SO} {p : Addr} {o : HO} (sr : SR K ρ S H) (h : H p = none) : SR K ρ S (upd H p o) := sr.stay (Step.add h) fun a ha => upd_ne fun z => (sr.new h).1 (z ▸ ha)
/-- a new object that may change -/
def Rs.more (ρ : Rs) (p : Addr) : Rs := ⟨ρ.ob ++ [p], ρ.rs⟩
theorem Step.more {S : List SO} {p : Addr} {o : HO} (h : H p = none) : Step ρ H (ρ.more p) (upd H p o) :=
  ⟨⟨[p], rfl, fun a ha => by rw [List.mem_singleton.mp ha]; exact Nn.of h⟩, fun _ h => h, fun _ h => .inl h, (Step.add (ρ := ρ) h).keep, (Step.add (ρ := ρ) h).live⟩
theorem SR.more {S : List SO} {p : Addr} {o : HO} {u : SO} (sr : SR K ρ S H) (h : H p = none) (q : OR K (upd H p o) (ρ.more p) p u) : SR K (ρ.more p) (S ++ [u]) (upd H p o) := by
  have st : Step ρ H (ρ.more p) (upd H p o) := Step.more (S := S) h
  have nw := sr.new h
  refine ⟨?_, by show (ρ.ob ++ [p]).length = _; rw [List.length_append, List.length_append, sr.len]; rfl, fun i a x h1 h2 => ?_, fun a ha => ?_, fun a ha => ?_⟩
  · refine List.nodup_append.mpr ⟨sr.nd, by simp, fun a ha b hb e => ?_⟩
    rw [List.mem_singleton.mp hb] at e
    exact nw.1 (e ▸ ha)
  · have h1' : (ρ.ob ++ [p])[i]? = some a := h1
    by_cases hi : i < ρ.ob.length
    · rw [List.getElem?_append_left hi] at h1'
      rw [List.getElem?_append_left (by rw [← sr.len]; exact hi)] at h2
      exact (sr.ok i a x h1' h2).mono st (upd_ne fun z => nw.1 (z ▸ List.mem_of_getElem? h1'))
    · rw [List.getElem?_append_right (by omega)] at h1'
      rw [List.getElem?_append_right (by rw [← sr.len]; omega), ← sr.len] at h2
      have hz : i - ρ.ob.length = 0 := by
        have := (List.getElem?_eq_some_iff.mp h1').1
        simp at this
        omega
      rw [hz] at h1' h2
      have e1 : p = a := Option.some.inj h1'
      have e2 : u = x := Option.some.inj h2
      rw [← e1, ← e2]
      exact q
  · rcases List.mem_append.mp (show a ∈ ρ.ob ++ [p] from ha) with z | z
    · obtain ⟨x, e⟩ := sr.live a z
      exact ⟨x, by rw [upd_ne (ne_of_none e h)]; exact e⟩
    · rw [List.mem_singleton.mp z]
      exact ⟨o, upd_same⟩
  · obtain ⟨⟨x, w, e⟩, n⟩ := sr.set a ha
    refine ⟨⟨x, w, st.keep a x n w.ntb e⟩, fun z => ?_⟩
    rcases List.mem_append.mp (show a ∈ ρ.ob ++ [p] from z) with y | y
    · exact n y
    · rw [List.mem_singleton.mp y, h] at e
      cases e
/-- an object that may change is written -/
theorem Step.put {i : Nat} {o : HO} (h : ρ.ob[i]? = some a) (w : ntb o := by intro _ z; cases z) : Step ρ H ρ (upd H a o) :=
  ⟨⟨[], by simp, fun a h => nomatch h⟩, fun _ h => h, fun _ h => .inl h, fun b u n _ e => by rw [upd_ne fun z => n (by rw [z]; exact List.mem_of_getElem? h)]; exact e, fun b u w2 e => by
    by_cases z : b = a
    · rw [z, upd_same]
      exact ⟨o, w, rfl⟩
    · rw [upd_ne z]
      exact ⟨u, w2, e⟩⟩
theorem nodup_at {α : Type} {l : List α} (h : l.Nodup) {i j : Nat} {x : α} (a : l[i]? = some x) (b : l[j]? = some x) : i = j := by
  obtain ⟨hi, e1⟩ := List.getElem?_eq_some_iff.mp a
  obtain ⟨hj, e2⟩ := List.getElem?_eq_some_iff.mp b
  rcases Nat.lt_trichotomy i j with q | q | q
  · exact absurd (e1.trans e2.symm) (List.pairwise_iff_getElem.mp h i j hi hj q)
  · exact q
  · exact absurd (e2.trans e1.symm) (List.pairwise_iff_getElem.mp h j i hj hi q)
theorem SR.put {S : List SO} {i : Nat} {o : HO} {u : SO} (sr : SR K ρ S H) (h : ρ.ob[i]? = some a) (q : OR K (upd H a o) ρ a u) (w : ntb o := by intro _ z; cases z) : SR K ρ (S.set i u) (upd H a o) := by
  have st : Step ρ H ρ (upd H a o) := Step.put h w
  refine ⟨sr.nd, by rw [List.length_set]; exact sr.len, fun j b x h1 h2 => ?_, fun b hb => ?_, fun b hb => ⟨?_, (sr.set b hb).2⟩⟩
  · by_cases e : i = j
    · subst e
      have hi : i < S.length := by rw [← sr.len]; exact (List.getElem?_eq_some_iff.mp h).1
      rw [List.getElem?_set_self hi] at h2
      rw [h] at h1
      rw [← Option.some.inj h1, ← Option.some.inj h2]
      exact q
    · rw [List.getElem?_set_ne e] at h2
      exact (sr.ok j b x h1 h2).mono st (upd_ne fun z => e (nodup_at sr.nd h (z ▸ h1)))
  · obtain ⟨x, e⟩ := sr.live b hb
    by_cases z : b = a
    · rw [z]; exact ⟨o, upd_same⟩
    · exact ⟨x, by rw [upd_ne z]; exact e⟩
  · obtain ⟨x, w2, e⟩ := (sr.set b hb).1
    exact ⟨x, w2, st.keep b x (sr.set b hb).2 w2.ntb e⟩
/-! ### slots -/
abbrev Env := List (Option D)
def ER (K : PySem.W.Frag) (H : Hp) (ρ : Rs) (env : Env) (σ : L2.St) : Prop := env.length = σ.length ∧ ∀ (i : Nat) (d : D), env[i]? = some (some d) → ∃ v, σ[i]? = some (some v) ∧ VR K H ρ d v
theorem ER.mono {env : Env} {σ : L2.St} (t : Step ρ H ρ' H') (h : ER K H ρ env σ) : ER K H' ρ' env σ := ⟨h.1, fun i d e => let ⟨v, a, b⟩ := h.2 i d e; ⟨v, a, b.mono t⟩⟩
theorem ER.put {env : Env} {σ : L2.St} {i : Nat} {d : D} {v : V} (h : ER K H ρ env σ) (r : VR K H ρ d v) : ER K H ρ (env.set i (some d)) (σ.set i (some v)) := by
  refine ⟨by rw [List.length_set, List.length_set]; exact h.1, fun j e he => ?_⟩
  by_cases q : i = j
  · subst q
    have hi : i < env.length := by
      have := (List.getElem?_eq_some_iff.mp he).1
      rwa [List.length_set] at this
    rw [List.getElem?_set_self hi] at he
    rw [← Option.some.inj (Option.some.inj he)]
    exact ⟨v, by rw [List.getElem?_set_self (by rw [← h.1]; exact hi)], r⟩
  · rw [List.getElem?_set_ne q] at he
    rw [List.getElem?_set_ne q]
    exact h.2 j e he
theorem ER.start {N : List Str} {ds : List D} {vs : List V} (h : VRs K H ρ ds vs) : ER K H ρ (ds.map some ++ List.replicate (N.length - ds.length) none) (L2.start N vs) := by
  have hl := h.len
  refine ⟨by simp only [L2.start, List.length_append, List.length_map, List.length_replicate, hl], fun i d e => ?_⟩
  by_cases hi : i < ds.length
  · rw [List.getElem?_append_left (by rw [List.length_map]; exact hi), List.getElem?_map] at e
    obtain ⟨d', e1, e2⟩ := Option.map_eq_some_iff.mp e
    cases e2
    obtain ⟨v, e3, r⟩ := h.get e1
    refine ⟨v, ?_, r⟩
    show (vs.map some ++ _)[i]? = _
    rw [List.getElem?_append_left (by rw [List.length_map, hl]; exact hi), List.getElem?_map, e3]
    rfl
  · rw [List.getElem?_append_right (by rw [List.length_map]; omega), List.getElem?_replicate] at e
    split at e <;> cases e
end
/-! ### what a piece of the program does -/
structure Ex where
  cls : Str
  ns : List Str
  vs : List D
structure M (α : Type) where
  run : List SO → (α → List SO → Prop) → (Ex → List SO → Prop) → Prop
  mono : ∀ S Q Q' E E', (∀ a S', Q a S' → Q' a S') → (∀ e S', E e S' → E' e S') → run S Q E → run S Q' E'
theorem M.ext {α : Type} : ∀ {a b : M α}, (∀ S Q E, a.run S Q E ↔ b.run S Q E) → a = b
  | ⟨r, m⟩, ⟨r', m'⟩, h => by
    have e : r = r' := funext fun S => funext fun Q => funext fun E => propext (h S Q E)
    subst e
    rfl
namespace M
variable {α β : Type}
def pure (a : α) : M α := ⟨fun S Q _ => Q a S, fun S _ _ _ _ h _ q => h a S q⟩
def bind (m : M α) (f : α → M β) : M β := ⟨fun S Q E => m.run S (fun a S' => (f a).run S' Q E) E, fun S Q Q' E E' h g q => m.mono S _ _ _ _ (fun a S' z => (f a).mono S' _ _ _ _ h g z) g q⟩
def fail : M α := ⟨fun _ _ _ => False, fun _ _ _ _ _ _ _ q => q⟩
def raise (x : Ex) : M α := ⟨fun S _ E => E x S, fun S _ _ _ _ _ g q => g x S q⟩
/-- b holds, else nothing is told -/
def grd (b : Bool) : M Unit := ⟨fun S Q _ => cond b (Q () S) False, fun S _ _ _ _ h _ q => by cases b with | true => exact h () S q | false => exact q⟩
def get : M (List SO) := ⟨fun S Q _ => Q S S, fun S _ _ _ _ h _ q => h S S q⟩
def put (T : List SO) : M Unit := ⟨fun _ Q _ => Q () T, fun _ _ _ _ _ h _ q => h () T q⟩
/-- any of what p allows -/
def any (p : α → Prop) : M α := ⟨fun S Q _ => ∀ a, p a → Q a S, fun S _ _ _ _ h _ q a ha => h a S (q a ha)⟩
/-- what is raised is caught -/
def catchX (m : M α) (f : Ex → M α) : M α := ⟨fun S Q E => m.run S Q (fun x S' => (f x).run S' Q E), fun S Q Q' E E' h g q => m.mono S _ _ _ _ h (fun x S' z => (f x).mono S' _ _ _ _ h g z) q⟩
theorem pure_bind (a : α) (f : α → M β) : bind (pure a) f = f a := rfl
theorem bind_pure (m : M α) : bind m pure = m := rfl
theorem bind_assoc {γ : Type} (m : M α) (f : α → M β) (g : β → M γ) : bind (bind m f) g = bind m fun a => bind (f a) g := rfl
theorem raise_bind (x : Ex) (f : α → M β) : bind (raise x) f = raise x := rfl
theorem grd_true {b : Bool} (h : b = true) : grd b = pure () := by subst h; rfl
end M
/-! ### readings -/
section
variable {α β : Type} (K : PySem.W.Frag) (R : Rs → Hp → α → β → Prop) (ρ : Rs) (H : Hp)
def post (Q : β → Hp → Prop) : α → List SO → Prop := fun d S' => ∀ (ρ' : Rs) (H' : Hp) (v : β), Step ρ H ρ' H' → SR K ρ' S' H' → R ρ' H' d v → Q v H'
def XR (H : Hp) (ρ : Rs) (x : Ex) (d : Option Addr) : Prop := (x.ns = [] ∧ d = none) ∨ ∃ dx fs, d = some dx ∧ H dx = some (.xd fs) ∧ fs.map Prod.fst = x.ns ∧ VRs K H ρ x.vs (fs.map Prod.snd)
def epost (E : XK) : Ex → List SO → Prop := fun x S' => ∀ (ρ' : Rs) (H' : Hp) (d : Option Addr), Step ρ H ρ' H' → SR K ρ' S' H' → XR K H' ρ' x d → E (.ref (He.ga K x.cls)) d H'
def rd (E : XK) (m : Env → M α) : L2.St → Hp → (β → Hp → Prop) → Prop := fun σ H Q => ∃ (ρ : Rs) (S : List SO) (env : Env), SR K ρ S H ∧ ER K H ρ env σ ∧ (m env).run S (post K R ρ H Q) (epost K ρ H E)
end
section
variable {α β γ δ : Type} {K : PySem.W.Frag} {R : Rs → Hp → α → β → Prop} {R2 : Rs → Hp → γ → δ → Prop} {ρ ρ1 : Rs} {H H1 : Hp} {E : XK} {S : List SO} {env : Env} {σ : L2.St}
theorem post.step {Q : β → Hp → Prop} (t : Step ρ H ρ1 H1) {d : α} {S' : List SO} (h : post K R ρ H Q d S') : post K R ρ1 H1 Q d S' := fun ρ' H' v u sr r => h ρ' H' v (t.trans u) sr r
theorem epost.step (t : Step ρ H ρ1 H1) {d : Ex} {S' : List SO} (h : epost K ρ H E d S') : epost K ρ1 H1 E d S' := fun ρ' H' v u sr r => h ρ' H' v (t.trans u) sr r
theorem run_step {m : M α} {Q : β → Hp → Prop} (t : Step ρ H ρ1 H1) (h : m.run S (post K R ρ H Q) (epost K ρ H E)) : m.run S (post K R ρ1 H1 Q) (epost K ρ1 H1 E) := m.mono _ _ _ _ _ (fun _ _ q => q.step t) (fun _ _ q => q.step t) h
/-- one thing, then another -/
theorem run_bind {m : Env → M α} {f : α → M γ} {Q : δ → Hp → Prop} {C : β → Hp → Prop} (sr : SR K ρ S H) (er : ER K H ρ env σ) (h : ((m env).bind f).run S (post K R2 ρ H Q) (epost K ρ H E))
    (hC : ∀ (ρ1 : Rs) (S1 : List SO) (H1 : Hp) (x : α) (v : β), Step ρ H ρ1 H1 → SR K ρ1 S1 H1 → ER K H1 ρ1 env σ → R ρ1 H1 x v → (f x).run S1 (post K R2 ρ1 H1 Q) (epost K ρ1 H1 E) → C v H1) : rd K R E m σ H C :=
  ⟨ρ, S, env, sr, er, (m env).mono _ _ _ _ _ (fun a S' q ρ1 H1 v t sr1 r => hC ρ1 S' H1 a v t sr1 (er.mono t) r (run_step t q)) (fun _ _ q => q) h⟩
end
def rV (K : PySem.W.Frag) : Rs → Hp → D → V → Prop := fun ρ H d v => VR K H ρ d v
def rVs (K : PySem.W.Frag) : Rs → Hp → List D → List V → Prop := fun ρ H d v => VRs K H ρ d v
def rB : Rs → Hp → Bool → Bool → Prop := fun _ _ a b => a = b
/-- the judgements: an expression, a test, arguments -/
def ME (X : Cx) (K : PySem.W.Frag) (E : XK) (e : Expr) (m : Env → M D) : Prop := PE X e (rd K (rV K) E m)
def MT (X : Cx) (K : PySem.W.Frag) (E : XK) (e : Expr) (m : Env → M Bool) : Prop := PT X e (rd K rB E m)
def MW (X : Cx) (K : PySem.W.Frag) (E : XK) (e : Expr) (m : Env → M Bool) : Prop := PW X e (rd K rB E m)
def MA (X : Cx) (K : PySem.W.Frag) (E : XK) (es : List Expr) (m : Env → M (List D)) : Prop := PA X es (rd K (rVs K) E m)
theorem PE.imp {X : Cx} {e : Expr} {t t' : TE} (h : PE X e t) (i : ∀ σ H Q, t' σ H Q → t σ H Q) : PE X e t' := ⟨fun p s σ H Q I q => h.run p s σ H Q I (i σ H Q q)⟩
theorem PT.imp {X : Cx} {e : Expr} {t t' : TT} (h : PT X e t) (i : ∀ σ H Q, t' σ H Q → t σ H Q) : PT X e t' := ⟨fun p s σ H Q I q => h.run p s σ H Q I (i σ H Q q)⟩
theorem PW.imp {X : Cx} {e : Expr} {t t' : TT} (h : PW X e t) (i : ∀ σ H Q, t' σ H Q → t σ H Q) : PW X e t' := ⟨fun w p s σ H Q I q => h.run w p s σ H Q I (i σ H Q q)⟩
theorem PA.imp {X : Cx} {e : List Expr} {t t' : TA} (h : PA X e t) (i : ∀ σ H Q, t' σ H Q → t σ H Q) : PA X e t' := ⟨fun w p s σ H Q I q => h.run w p s σ H Q I (i σ H Q q)⟩
theorem PS.imp {X : Cx} {e : Stmt} {t t' : TS} (h : PS X e t) (i : ∀ D σ H, t' D σ H → t D σ H) : PS X e t' := ⟨fun p s σ H D I q => h.run p s σ H D I (i D σ H q)⟩
theorem PSs.imp {X : Cx} {e : List Stmt} {t t' : TS} (h : PSs X e t) (i : ∀ D σ H, t' D σ H → t D σ H) : PSs X e t' := ⟨fun p s σ H D I q => h.run p s σ H D I (i D σ H q)⟩
end ME
namespace ME
open PySem PySem.Spec PyProof.Rows L2
/-! ### a value as it stands now -/
def view (S : List SO) : D → D
  | .ob i => match S[i]? with
    | some (.lst ds) => .lst ds
    | some (.dct ks ds) => .dct ks ds
    | some (.ins C ns ds) => .ins C ns ds
    | _ => .ob i
  | d => d
inductive VW (K : PySem.W.Frag) (H : Hp) (ρ : Rs) : D → V → Prop
  | non : VW K H ρ .non .non
  | bl (b : Bool) : VW K H ρ (.bl b) (.bl b)
  | int (i : Int) : VW K H ρ (.int i) (.int i)
  | str (x : Str) : VW K H ρ (.str x) (.str x)
  | ty (n : String) : VW K H ρ (.ty n) (.ty n)
  | raw (a : Addr) : VW K H ρ (.raw a) (.ref a)
  | ob {i : Nat} {a : Addr} : ρ.ob[i]? = some a → VW K H ρ (.ob i) (.ref a)
  | tup {a : Addr} {xs : List V} {ds : List D} : SqT K H a xs → VRs K H ρ ds xs → VW K H ρ (.tup ds) (.ref a)
  | lst {a : Addr} {xs : List V} {ds : List D} : H a = some (.lst xs) → VRs K H ρ ds xs → VW K H ρ (.lst ds) (.ref a)
  | dct {a : Addr} {kvs : List (Key × V)} {ds : List D} : H a = some (.dK kvs) → VRs K H ρ ds (kvs.map Prod.snd) → VW K H ρ (.dct (kvs.map Prod.fst) ds) (.ref a)
  | ins {a dx : Addr} {C : Str} {fs : List (Str × V)} {ds : List D} : H a = some (.ins (He.ga K C) dx fs) → VRs K H ρ ds (fs.map Prod.snd) → VW K H ρ (.ins C (fs.map Prod.fst) ds) (.ref a)
  | scr {a : Addr} {ns : List Int} : SqL K H a (ns.map V.int) → VW K H ρ (.scr ns) (.ref a)
  | lsk {a : Addr} {xs : List V} {ds : List D} : SqL K H a xs → VRs K H ρ ds xs → VW K H ρ (.lsk ds) (.ref a)
section
variable {K : PySem.W.Frag} {H : Hp} {ρ : Rs} {S : List SO}
theorem view_ok {d : D} {v : V} (sr : SR K ρ S H) (h : VR K H ρ d v) : VW K H ρ (view S d) v := by
  cases h with
  | non => exact .non
  | bl b => exact .bl b
  | int i => exact .int i
  | str x => exact .str x
  | ty n => exact .ty n
  | raw a => exact .raw a
  | tup e q => exact .tup e.sq q
  | lst e q => exact .lst e.2 q
  | dct f e q => exact .dct e q
  | ins f e q => exact .ins e q
  | scr e => exact .scr e.sq
  | lsk e q => exact .lsk e.sq q
  | @ob i a e =>
    show VW K H ρ (match S[i]? with | some (.lst ds) => D.lst ds | some (.dct ks ds) => D.dct ks ds | some (.ins C ns ds) => D.ins C ns ds | _ => D.ob i) (V.ref a)
    split
    · next ds h => obtain ⟨vs, e1, e2⟩ := sr.ok i a _ e h; exact .lst e1 e2
    · next ks ds h =>
      obtain ⟨kvs, e1, e2, e3⟩ := sr.ok i a _ e h
      subst e2
      exact .dct e1 e3
    · next C ns ds h =>
      obtain ⟨dx, fs, e1, e2, e3⟩ := sr.ok i a _ e h
      subst e2
      exact .ins e1 e3
    · exact .ob e
end
def see (d : D) : M D := ⟨fun S Q _ => Q (view S d) S, fun S _ _ _ _ h _ q => h _ S q⟩
/-! ### operations by values -/
def Lnk (K : PySem.W.Frag) (r : L2.R2) (g : D → D → M D) : Prop := ∀ (ρ : Rs) (S : List SO) (H : Hp) (x y : D) (v u : V) (Q : VK) (E : XK), SR K ρ S H → VR K H ρ x v → VR K H ρ y u → (g x y).run S (post K (rV K) ρ H Q) (epost K ρ H E) → r v u H Q
def mOp (g : D → D → M D) (a b : Env → M D) : Env → M D := fun env => (a env).bind fun x => (b env).bind fun y => g x y
def mOne (g : D → M D) (a : Env → M D) : Env → M D := fun env => (a env).bind g
def mCall (g : List D → M D) (a : Env → M (List D)) : Env → M D := fun env => (a env).bind g
def LnkU (K : PySem.W.Frag) (r : V → Hp → VK → Prop) (g : D → M D) : Prop := ∀ (ρ : Rs) (S : List SO) (H : Hp) (x : D) (v : V) (Q : VK) (E : XK), SR K ρ S H → VR K H ρ x v → (g x).run S (post K (rV K) ρ H Q) (epost K ρ H E) → r v H Q
def LnkC (K : PySem.W.Frag) (r : List V → Hp → VK → Prop) (g : List D → M D) : Prop := ∀ (ρ : Rs) (S : List SO) (H : Hp) (x : List D) (v : List V) (Q : VK) (E : XK), SR K ρ S H → VRs K H ρ x v → (g x).run S (post K (rV K) ρ H Q) (epost K ρ H E) → r v H Q
section
variable {X : Cx} {K : PySem.W.Frag} {E : XK} {a b e : Expr} {ma mb : Env → M D} {pos : Pos} {σ : L2.St} {H : Hp} {Q : VK}
theorem Lnk.or {r r' : L2.R2} {g g' : D → D → M D} (h : Lnk K r g) (h' : Lnk K r' g') (p : List SO → D → D → Bool) : Lnk K (fun x y H Q => r x y H Q ∨ r' x y H Q) (fun x y => M.get.bind fun S => cond (p S x y) (g x y) (g' x y)) := by
  intro ρ S H x y v u Q E sr rx ry q
  have q' : (cond (p S x y) (g x y) (g' x y)).run S (post K (rV K) ρ H Q) (epost K ρ H E) := q
  cases hp : p S x y with
  | true => rw [hp] at q'; exact .inl (h ρ S H x y v u Q E sr rx ry q')
  | false => rw [hp] at q'; exact .inr (h' ρ S H x y v u Q E sr rx ry q')
theorem imp_op {r : L2.R2} {g : D → D → M D} (L : Lnk K r g) (h : rd K (rV K) E (mOp g ma mb) σ H Q) : tOp r (rd K (rV K) E ma) (rd K (rV K) E mb) σ H Q := by
  obtain ⟨ρ, S, env, sr, er, h⟩ := h
  refine run_bind sr er h fun ρ1 S1 H1 x v t1 sr1 er1 hx h1 => ?_
  refine run_bind (m := mb) sr1 er1 h1 fun ρ2 S2 H2 y u t2 sr2 er2 hy h2 => ?_
  exact L ρ2 S2 H2 x y v u Q E sr2 (VR.mono t2 hx) hy h2
theorem me_op {op : Operator} {r : L2.R2} {g : D → D → M D} (ho : OpR X (binaryOp op) r) (L : Lnk K r g) (ha : ME X K E a ma) (hb : ME X K E b mb) : ME X K E (.BinOp a op b pos) (mOp g ma mb) := PE.imp (pe_op ho ha hb) fun _ _ _ => imp_op L
theorem me_cmp {op : CmpOp} {r : L2.R2} {g : D → D → M D} (ho : OpR X (compareOp op) r) (L : Lnk K r g) (ha : ME X K E a ma) (hb : ME X K E b mb) (hm : behindInMarks op b = false) : ME X K E (.Compare a [op] [b] pos) (mOp g ma mb) := PE.imp (pe_cmpR ho ha hb hm) fun _ _ _ => imp_op L
theorem me_ix {r : L2.R2} {g : D → D → M D} (hr : IxR X r) (L : Lnk K r g) (ha : ME X K E a ma) (hb : ME X K E b mb) (hs : PlainIx b) : ME X K E (.Subscript a b pos) (mOp g ma mb) := PE.imp (pe_ix hr ha hb hs) fun _ _ _ => imp_op L
theorem me_un {op : UnaryOp} {r : V → Hp → VK → Prop} {g : D → M D} (ho : UnR X (unaryOp op) r) (L : LnkU K r g) (ha : ME X K E a ma) : ME X K E (.UnaryOp op a pos) (mOne g ma) := PE.imp (pe_un ho ha) fun σ H Q ⟨ρ, S, env, sr, er, h⟩ =>
  run_bind sr er h fun ρ1 S1 H1 x v t1 sr1 er1 hx h1 => L ρ1 S1 H1 x v Q E sr1 hx h1
theorem imp_call {r : List V → Hp → VK → Prop} {g : List D → M D} {m : Env → M (List D)} (L : LnkC K r g) (h : rd K (rV K) E (mCall g m) σ H Q) : tCB r (rd K (rVs K) E m) σ H Q := by
  obtain ⟨ρ, S, env, sr, er, h⟩ := h
  exact run_bind sr er h fun ρ1 S1 H1 x v t1 sr1 er1 hx h1 => L ρ1 S1 H1 x v Q E sr1 hx h1
/-- a < b < c -/
def mChain (g g' : D → D → M D) (a b c : Env → M D) : Env → M D := fun env => (a env).bind fun x => (b env).bind fun y => (g x y).bind fun z => match z with
  | .bl true => (c env).bind fun w => g' y w
  | .bl false => M.pure (.bl false)
  | _ => M.fail
/-- an operation that only looks, and gives a truth value -/
def Lnk1 (K : PySem.W.Frag) (r : L2.R2) (g : D → D → M D) : Prop := Lnk K r g
def mVar (i : Nat) : Env → M D := fun env => match env[i]? with
  | some (some d) => M.pure d
  | _ => M.fail
theorem me_var {i : Nat} (h : PE X e (tVar i)) : ME X K E e (mVar i) := PE.imp h (by
  rintro σ H Q ⟨ρ, S, env, sr, er, h⟩
  unfold mVar at h
  split at h
  · next d hd =>
    obtain ⟨v, e1, r⟩ := er.2 i d hd
    exact ⟨v, e1, h ρ H v Step.refl sr r⟩
  · exact h.elim)
def mC (d : D) : Env → M D := fun _ => M.pure d
theorem me_c {v : V} {d : D} (h : PE X e (tC v)) (r : ∀ H ρ, VR K H ρ d v) : ME X K E e (mC d) := PE.imp h (by
  rintro σ H Q ⟨ρ, S, env, sr, er, h⟩
  exact h ρ H v Step.refl sr (r H ρ))
theorem me_int {i : Int} {j} : ME X K E (.Constant (.int i) j pos) (mC (.int i)) := me_c pe_int fun _ _ => .int i
theorem me_bl {i : Bool} {j} : ME X K E (.Constant (.bool i) j pos) (mC (.bl i)) := me_c pe_bl fun _ _ => .bl i
theorem me_non {j} : ME X K E (.Constant .none j pos) (mC .non) := me_c pe_non fun _ _ => .non
theorem me_str {i : Str} {j} : ME X K E (.Constant (.str i) j pos) (mC (.str i)) := me_c pe_str fun _ _ => .str i
/-- a constant of the module -/
structure Gc (K : PySem.W.Frag) (mg : Str → Option Value) (x : Str) (d : D) : Prop where
  ex : ∃ v u, mg x = some u ∧ RelV v u ∧ ∀ H ρ, VR K H ρ d v
theorem me_gl {x : Str} {d : D} (hg : Gl X x) (h : Gc K X.mg x d) (hd : (x == ("__debug__" : Str)) = false := by decide) : ME X K E (.Name x pos) (mC d) := by
  obtain ⟨v, u, e, r, k⟩ := h.ex
  exact me_c (pe_glob hg e r hd) k
theorem me_ty {x : Str} {T : String} (hg : Gl X x) (hm : X.mg x = none) (hv : bootBuiltins x = some (.type T)) (hn : x ≠ "__name__" := by decide) (hd : (x == ("__debug__" : Str)) = false := by decide) : ME X K E (.Name x pos) (mC (.ty T)) :=
  me_c (pe_bltn (v := .ty T) hg hm hv rfl hn hd) fun _ _ => .ty T
/-! ### tests -/
def asB : D → M Bool
  | .bl b => M.pure b
  | _ => M.fail
def mTest (m : Env → M D) : Env → M Bool := fun env => (m env).bind asB
theorem asB_run {Q : Bool → List SO → Prop} {E' : Ex → List SO → Prop} {d : D} {S : List SO} (h : (asB d).run S Q E') : ∃ b, d = .bl b ∧ Q b S := by
  cases d with
  | bl b => exact ⟨b, rfl, h⟩
  | _ => exact h.elim
theorem mt_val (h : ME X K E e ma) (he : ∀ whole, isTrue e X.env whole = (do let v ← whole; standAt e.pos; holding [v] (truthy v)) := by intro _; rfl) : MT X K E e (mTest ma) := PT.imp (pt_val h he) (by
  rintro σ H Q ⟨ρ, S, env, sr, er, h⟩
  refine run_bind (R2 := rB) sr er h fun ρ1 S1 H1 x v t1 sr1 er1 hx h1 => ?_
  obtain ⟨b, rfl, q⟩ := asB_run h1
  cases hx
  exact ⟨b, rfl, q ρ1 H1 b Step.refl sr1 rfl⟩)
def mAnd (a b : Env → M Bool) : Env → M Bool := fun env => (a env).bind fun k => cond k (b env) (M.pure false)
def mOr (a b : Env → M Bool) : Env → M Bool := fun env => (a env).bind fun k => cond k (M.pure true) (b env)
def mNot (a : Env → M Bool) : Env → M Bool := fun env => (a env).bind fun k => M.pure (!k)
variable {ta tb : Env → M Bool} {rest : List Expr}
theorem mt_pw (h : MW X K E e ta) : MT X K E e ta := PW.pt h
theorem mw_and1 (ha : MT X K E a ta) : MW X K E (.BoolOp .And [a] pos) ta := pw_and1 ha
theorem mw_or1 (ha : MT X K E a ta) : MW X K E (.BoolOp .Or [a] pos) ta := pw_or1 ha
theorem mw_and (ha : MT X K E a ta) (hb : MW X K E (.BoolOp .And (b :: rest) pos) tb) : MW X K E (.BoolOp .And (a :: b :: rest) pos) (mAnd ta tb) := PW.imp (pw_and ha hb) (by
  rintro σ H Q ⟨ρ, S, env, sr, er, h⟩
  refine run_bind (R2 := rB) sr er h fun ρ1 S1 H1 x v t1 sr1 er1 hx h1 => ?_
  cases hx
  cases x with
  | true => exact iteT ⟨ρ1, S1, env, sr1, er1, h1⟩
  | false => exact iteF (h1 ρ1 H1 false Step.refl sr1 rfl))
theorem mw_or (ha : MT X K E a ta) (hb : MW X K E (.BoolOp .Or (b :: rest) pos) tb) : MW X K E (.BoolOp .Or (a :: b :: rest) pos) (mOr ta tb) := PW.imp (pw_or ha hb) (by
  rintro σ H Q ⟨ρ, S, env, sr, er, h⟩
  refine run_bind (R2 := rB) sr er h fun ρ1 S1 H1 x v t1 sr1 er1 hx h1 => ?_
  cases hx
  cases x with
  | true => exact iteT (h1 ρ1 H1 true Step.refl sr1 rfl)
  | false => exact iteF ⟨ρ1, S1, env, sr1, er1, h1⟩)
theorem mt_not (ha : MT X K E a ta) : MT X K E (.UnaryOp .Not a pos) (mNot ta) := PT.imp (pt_not ha) (by
  rintro σ H Q ⟨ρ, S, env, sr, er, h⟩
  refine run_bind (R2 := rB) sr er h fun ρ1 S1 H1 x v t1 sr1 er1 hx h1 => ?_
  cases hx
  exact h1 ρ1 H1 _ Step.refl sr1 rfl)
/-! ### truth of a value -/
def truD : D → M Bool
  | .non => M.pure false
  | .bl b => M.pure b
  | .int i => M.pure (i != 0)
  | .str x => (M.grd (decide (x.length ≤ sizeLine))).bind fun _ => M.pure ((x.length : Int) != 0)
  | .tup ds => M.pure (!ds.isEmpty)
  | .lst ds => M.pure (!ds.isEmpty)
  | .dct ks _ => M.pure (!ks.isEmpty)
  | _ => M.fail
def mTru (m : Env → M D) : Env → M Bool := fun env => (m env).bind fun d => (see d).bind truD
theorem grd_run {α : Type} {f : Unit → M α} {Q : α → List SO → Prop} {E' : Ex → List SO → Prop} {c : Bool} {S : List SO} (h : ((M.grd c).bind f).run S Q E') : c = true ∧ (f ()).run S Q E' := by
  cases c with
  | true => exact ⟨rfl, h⟩
  | false => exact h.elim
theorem VRs.isE {H : Hp} {ρ : Rs} {ds : List D} {vs : List V} (h : VRs K H ρ ds vs) : (!vs.isEmpty) = !ds.isEmpty := by cases h <;> rfl
theorem tru_run {ρ : Rs} {S : List SO} {H : Hp} {d : D} {v : V} {Q : Bool → List SO → Prop} {E' : Ex → List SO → Prop} (sr : SR K ρ S H) (hx : VR K H ρ d v) (h : ((see d).bind truD).run S Q E') : ∃ k, TruV K v H k ∧ Q k S := by
  have hw := view_ok sr hx
  have h' : (truD (view S d)).run S Q E' := h
  revert h' hw
  generalize view S d = d'
  intro hw h'
  cases hw with
  | non => exact ⟨_, rfl, h'⟩
  | bl b => exact ⟨_, rfl, h'⟩
  | int i => exact ⟨_, rfl, h'⟩
  | str x =>
    obtain ⟨e, q⟩ := grd_run h'
    exact ⟨_, ⟨of_decide_eq_true e, rfl⟩, q⟩
  | tup e q => exact ⟨_, .inr (.inl ⟨_, e, rfl⟩), by rw [q.isE]; exact h'⟩
  | lst e q => exact ⟨_, .inl ⟨_, SqL.of e, rfl⟩, by rw [q.isE]; exact h'⟩
  | @dct a kvs ds e q =>
    refine ⟨_, .inr (.inr ⟨_, e, rfl⟩), ?_⟩
    have z : (!(kvs.map Prod.fst).isEmpty) = !kvs.isEmpty := by cases kvs <;> rfl
    rw [← z]
    exact h'
  | _ => exact h'.elim
theorem mt_tru (hK : X.K = K) (h : ME X K E e ma) (he : ∀ whole, isTrue e X.env whole = (do let v ← whole; standAt e.pos; holding [v] (truthy v)) := by intro _; rfl) : MT X K E e (mTru ma) := PT.imp (pt_truth h he) (by
  subst hK
  rintro σ H Q ⟨ρ, S, env, sr, er, h⟩
  refine run_bind (R2 := rB) sr er h fun ρ1 S1 H1 x v t1 sr1 er1 hx h1 => ?_
  obtain ⟨k, e1, q⟩ := tru_run sr1 hx h1
  exact ⟨k, e1, q ρ1 H1 k Step.refl sr1 rfl⟩)
/-! ### and, or as values -/
def mAndV (a b : Env → M D) : Env → M D := fun env => (a env).bind fun x => ((see x).bind truD).bind fun k => cond k (b env) (M.pure x)
def mOrV (a b : Env → M D) : Env → M D := fun env => (a env).bind fun x => ((see x).bind truD).bind fun k => cond k (M.pure x) (b env)
def mNotV (a : Env → M D) : Env → M D := fun env => (a env).bind fun x => ((see x).bind truD).bind fun k => M.pure (.bl (!k))
theorem me_one {op} (h : ME X K E a ma) : ME X K E (.BoolOp op [a] pos) ma := pe_one h
theorem me_and (hK : X.K = K) (ha : ME X K E a ma) (hb : ME X K E (.BoolOp .And (b :: rest) pos) mb) : ME X K E (.BoolOp .And (a :: b :: rest) pos) (mAndV ma mb) := PE.imp (pe_andT ha hb) (by
  subst hK
  rintro σ H Q ⟨ρ, S, env, sr, er, h⟩
  refine run_bind (R2 := rV X.K) sr er h fun ρ1 S1 H1 x v t1 sr1 er1 hx h1 => ?_
  obtain ⟨k, e1, q⟩ := tru_run sr1 hx h1
  refine ⟨k, e1, ?_⟩
  cases k with
  | true => exact iteT ⟨ρ1, S1, env, sr1, er1, q⟩
  | false => exact iteF (q ρ1 H1 v Step.refl sr1 hx))
theorem me_or (hK : X.K = K) (ha : ME X K E a ma) (hb : ME X K E (.BoolOp .Or (b :: rest) pos) mb) : ME X K E (.BoolOp .Or (a :: b :: rest) pos) (mOrV ma mb) := PE.imp (pe_orT ha hb) (by
  subst hK
  rintro σ H Q ⟨ρ, S, env, sr, er, h⟩
  refine run_bind (R2 := rV X.K) sr er h fun ρ1 S1 H1 x v t1 sr1 er1 hx h1 => ?_
  obtain ⟨k, e1, q⟩ := tru_run sr1 hx h1
  refine ⟨k, e1, ?_⟩
  cases k with
  | true => exact iteT (q ρ1 H1 v Step.refl sr1 hx)
  | false => exact iteF ⟨ρ1, S1, env, sr1, er1, q⟩)
theorem me_not (hK : X.K = K) (ha : ME X K E a ma) : ME X K E (.UnaryOp .Not a pos) (mNotV ma) := PE.imp (pe_notT ha) (by
  subst hK
  rintro σ H Q ⟨ρ, S, env, sr, er, h⟩
  refine run_bind (R2 := rV X.K) sr er h fun ρ1 S1 H1 x v t1 sr1 er1 hx h1 => ?_
  obtain ⟨k, e1, q⟩ := tru_run sr1 hx h1
  exact ⟨k, e1, q ρ1 H1 _ Step.refl sr1 (.bl _)⟩)
def mIf (c : Env → M Bool) (a b : Env → M D) : Env → M D := fun env => (c env).bind fun k => cond k (a env) (b env)
theorem me_if {c : Expr} (hc : MT X K E c ta) (ha : ME X K E a ma) (hb : ME X K E b mb) : ME X K E (.IfExp c a b pos) (mIf ta ma mb) := PE.imp (pe_ifExp hc ha hb) (by
  rintro σ H Q ⟨ρ, S, env, sr, er, h⟩
  refine run_bind (R2 := rV K) sr er h fun ρ1 S1 H1 x v t1 sr1 er1 hx h1 => ?_
  cases hx
  cases x with
  | true => exact iteT ⟨ρ1, S1, env, sr1, er1, h1⟩
  | false => exact iteF ⟨ρ1, S1, env, sr1, er1, h1⟩)
/-! ### arguments, displays -/
def mNil : Env → M (List D) := fun _ => M.pure []
def mCons (a : Env → M D) (r : Env → M (List D)) : Env → M (List D) := fun env => (a env).bind fun x => (r env).bind fun xs => M.pure (x :: xs)
variable {es : List Expr} {ms : Env → M (List D)}
theorem ma_nil : MA X K E [] mNil := PA.imp pa_nil fun σ H Q ⟨ρ, S, env, sr, er, h⟩ => h ρ H [] Step.refl sr .nil
theorem ma_cons (ha : ME X K E e ma) (hr : MA X K E es ms) (hs : starEach (e :: es) X.env = (false, eval e X.env) :: starEach es X.env := by rfl) : MA X K E (e :: es) (mCons ma ms) := PA.imp (pa_cons ha hr hs) (by
  rintro σ H Q ⟨ρ, S, env, sr, er, h⟩
  refine run_bind (R2 := rVs K) sr er h fun ρ1 S1 H1 x v t1 sr1 er1 hx h1 => ?_
  refine run_bind (m := ms) (R2 := rVs K) sr1 er1 h1 fun ρ2 S2 H2 y u t2 sr2 er2 hy h2 => ?_
  exact h2 ρ2 H2 (v :: u) Step.refl sr2 (.cons (VR.mono t2 hx) hy))
def mTup (m : Env → M (List D)) : Env → M D := fun env => (m env).bind fun ds => (M.grd (decide (ds.length ≤ sizeLine))).bind fun _ => M.pure (.tup ds)
def mLst (m : Env → M (List D)) : Env → M D := fun env => (m env).bind fun ds => (M.grd (decide (ds.length ≤ sizeLine))).bind fun _ => M.pure (.lst ds)
def mLstO (m : Env → M (List D)) : Env → M D := fun env => (m env).bind fun ds => (M.grd (decide (ds.length ≤ sizeLine))).bind fun _ => M.get.bind fun S => (M.put (S ++ [.lst ds])).bind fun _ => M.pure (.ob S.length)
theorem newT {ρ : Rs} {S : List SO} {H : Hp} {ds : List D} {vs : List V} {p : Addr} (sr : SR K ρ S H) (h : VRs K H ρ ds vs) (hp : H p = none) : VR K (upd H p (.tup vs)) ρ (.tup ds) (.ref p) := .tup (.inl ⟨sr.new hp, .inl upd_same⟩) (h.mono (Step.add hp))
theorem newL {ρ : Rs} {S : List SO} {H : Hp} {ds : List D} {vs : List V} {p : Addr} (sr : SR K ρ S H) (h : VRs K H ρ ds vs) (hp : H p = none) : VR K (upd H p (.lst vs)) ρ (.lst ds) (.ref p) := .lst ⟨sr.new hp, upd_same⟩ (h.mono (Step.add hp))
theorem newO {ρ : Rs} {S : List SO} {H : Hp} {p : Addr} {o : HO} (sr : SR K ρ S H) : VR K (upd H p o) (ρ.more p) (.ob S.length) (.ref p) := .ob (by
  show (ρ.ob ++ [p])[S.length]? = some p
  rw [← sr.len, List.getElem?_append_right (Nat.le_refl _), Nat.sub_self]
  rfl)
theorem me_tup {x1} (h : MA X K E es ms) : ME X K E (.Tuple es x1 pos) (mTup ms) := PE.imp (pe_tup h) (by
  rintro σ H Q ⟨ρ, S, env, sr, er, h⟩
  refine run_bind (R2 := rV K) sr er h fun ρ1 S1 H1 x v t1 sr1 er1 hx h1 => ?_
  obtain ⟨e1, q⟩ := grd_run h1
  exact ⟨by rw [VRs.len hx]; exact of_decide_eq_true e1, fun p hp => q ρ1 _ _ (Step.add hp) (sr1.add hp) (newT sr1 hx hp)⟩)
theorem me_lst (h : MA X K E es ms) : ME X K E (.List es pos) (mLst ms) := PE.imp (pe_lst h) (by
  rintro σ H Q ⟨ρ, S, env, sr, er, h⟩
  refine run_bind (R2 := rV K) sr er h fun ρ1 S1 H1 x v t1 sr1 er1 hx h1 => ?_
  obtain ⟨e1, q⟩ := grd_run h1
  exact ⟨by rw [VRs.len hx]; exact of_decide_eq_true e1, fun p hp => q ρ1 _ _ (Step.add hp) (sr1.add hp) (newL sr1 hx hp)⟩)
theorem me_lstO (h : MA X K E es ms) : ME X K E (.List es pos) (mLstO ms) := PE.imp (pe_lst h) (by
  rintro σ H Q ⟨ρ, S, env, sr, er, h⟩
  refine run_bind (R2 := rV K) sr er h fun ρ1 S1 H1 x v t1 sr1 er1 hx h1 => ?_
  obtain ⟨e1, q⟩ := grd_run h1
  have hx : VRs K H1 ρ1 x v := hx
  exact ⟨by rw [VRs.len hx]; exact of_decide_eq_true e1, fun p hp => q (ρ1.more p) _ _ (Step.more (S := S1) hp) (sr1.more hp ⟨v, upd_same, hx.mono (Step.more (S := S1) hp)⟩) (newO sr1)⟩)
end
end ME
namespace ME
open PySem PySem.Spec PyProof.Rows L2
section
variable {K : PySem.W.Frag}
/-! ### whole numbers -/
def gI (f : Int → Int → D) : D → D → M D
  | .int i, .int j => M.pure (f i j)
  | _, _ => M.fail
def gIc (c : Int → Int → Bool) (f : Int → Int → D) : D → D → M D
  | .int i, .int j => (M.grd (c i j)).bind fun _ => M.pure (f i j)
  | _, _ => M.fail
theorem l_int (f : Int → Int → Int) : Lnk K (rI0 fun i j => .int (f i j)) (gI fun i j => .int (f i j)) := by
  intro ρ S H x y v u Q E sr hx hy q
  cases hx with
  | int i => cases hy with
    | int j => exact ⟨i, j, rfl, rfl, q ρ H _ Step.refl sr (.int _)⟩
    | _ => exact q.elim
  | _ => exact q.elim
theorem l_intC {C : Int → Int → Prop} (c : Int → Int → Bool) (f : Int → Int → Int) (hc : ∀ i j, c i j = true → C i j) : Lnk K (rI C fun i j => .int (f i j)) (gIc c fun i j => .int (f i j)) := by
  intro ρ S H x y v u Q E sr hx hy q
  cases hx with
  | int i => cases hy with
    | int j =>
      obtain ⟨e, q⟩ := grd_run q
      exact ⟨i, j, rfl, rfl, hc i j e, q ρ H _ Step.refl sr (.int _)⟩
    | _ => exact q.elim
  | _ => exact q.elim
def gMul : D → D → M D := gIc (fun i j => (decide (-(2 ^ 64) < i) && decide (i < 2 ^ 64)) || (decide (-(2 ^ 64) < j) && decide (j < 2 ^ 64))) fun i j => .int (i * j)
def gMod : D → D → M D := gIc (fun _ j => decide (0 < j)) fun i j => .int (i % j)
def gDiv : D → D → M D := gIc (fun _ j => decide (0 < j) && decide (j < 1073741824)) fun i j => .int (i / j)
def gPow : D → D → M D := gIc (fun i j => (decide (0 ≤ j) && decide (j ≤ 1000000)) && decide (i.natAbs < 2 ^ 64)) fun i j => .int (i ^ j.toNat)
def gSub : D → D → M D := gI fun i j => .int (i - j)
theorem l_mul : Lnk K (rI CMul fun i j => .int (i * j)) gMul := l_intC _ _ fun i j h => by
  simp only [Bool.or_eq_true, Bool.and_eq_true, decide_eq_true_eq] at h
  exact h
theorem l_mod : Lnk K (rI (fun _ j => 0 < j) fun i j => .int (i % j)) gMod := l_intC _ _ fun i j h => of_decide_eq_true h
theorem l_div : Lnk K (rI CDiv fun i j => .int (i / j)) gDiv := l_intC _ _ fun i j h => by
  simp only [Bool.and_eq_true, decide_eq_true_eq] at h
  exact h
theorem l_pow : Lnk K (rI CPow fun i j => .int (i ^ j.toNat)) gPow := l_intC _ _ fun i j h => by
  simp only [Bool.and_eq_true, decide_eq_true_eq] at h
  exact ⟨h.1.1, h.1.2, h.2⟩
/-! ### what a list holds now -/
def lstV (S : List SO) (d : D) : Option (List D) := match view S d with
  | .lst ds => some ds
  | _ => none
def seqV (S : List SO) (d : D) : Option (List D) := match view S d with
  | .lst ds => some ds
  | .tup ds => some ds
  | _ => none
variable {ρ : Rs} {S : List SO} {H : Hp}
theorem lst_ok {d : D} {v : V} {ds : List D} (sr : SR K ρ S H) (h : VR K H ρ d v) (e : lstV S d = some ds) : ∃ a vs, v = .ref a ∧ H a = some (.lst vs) ∧ VRs K H ρ ds vs := by
  have hw := view_ok sr h
  unfold lstV at e
  revert hw e
  generalize view S d = d'
  intro e hw
  cases hw with
  | lst e1 q => cases e; exact ⟨_, _, rfl, e1, q⟩
  | _ => cases e
theorem seq_ok {d : D} {v : V} {ds : List D} (sr : SR K ρ S H) (h : VR K H ρ d v) (e : seqV S d = some ds) : ∃ a vs, v = .ref a ∧ (SqL K H a vs ∨ SqT K H a vs) ∧ VRs K H ρ ds vs := by
  have hw := view_ok sr h
  unfold seqV at e
  revert hw e
  generalize view S d = d'
  intro e hw
  cases hw with
  | lst e1 q => cases e; exact ⟨_, _, rfl, .inl (SqL.of e1), q⟩
  | tup e1 q => cases e; exact ⟨_, _, rfl, .inr e1, q⟩
  | _ => cases e
/-! ### + -/
def addL (x y : D) : M D := M.get.bind fun S => match lstV S x, lstV S y with
  | some ds, some es => (M.grd (decide (ds.length + es.length ≤ sizeLine))).bind fun _ => M.pure (.lst (ds ++ es))
  | _, _ => M.fail
def gAdd (x y : D) : M D := match x with
  | .int i => (match y with | .int j => M.pure (.int (i + j)) | _ => M.fail)
  | .str a => (match y with | .str b => (M.grd (decide (a.length + b.length ≤ sizeLine))).bind fun _ => M.pure (.str (a ++ b)) | _ => M.fail)
  | .tup ds => (match y with | .tup es => (M.grd (decide (ds.length + es.length ≤ sizeLine))).bind fun _ => M.pure (.tup (ds ++ es)) | _ => M.fail)
  | x => addL x y
def rAddA (K : PySem.W.Frag) : L2.R2 := fun x y H Q => (rI0 fun i j => .int (i + j)) x y H Q ∨ (∃ i j, x = .str i ∧ y = .str j ∧ i.length + j.length ≤ sizeLine ∧ Q (.str (i ++ j)) H) ∨ rCatA K x y H Q ∨ rCat x y H Q
theorem op_addA {X : Cx} : OpR X (binaryOp .Add) (rAddA X.K) := op_add.or (op_add_str.or (op_catA.or op_cat))
theorem l_addL {x y : D} {v u : V} {Q : VK} {E : XK} (sr : SR K ρ S H) (hx : VR K H ρ x v) (hy : VR K H ρ y u) (q : (addL x y).run S (post K (rV K) ρ H Q) (epost K ρ H E)) : rCat v u H Q := by
  have q' : (match lstV S x, lstV S y with
    | some ds, some es => (M.grd (decide (ds.length + es.length ≤ sizeLine))).bind fun _ => M.pure (D.lst (ds ++ es))
    | _, _ => M.fail).run S (post K (rV K) ρ H Q) (epost K ρ H E) := q
  cases h1 : lstV S x with
  | none => rw [h1] at q'; exact q'.elim
  | some ds => cases h2 : lstV S y with
    | none => rw [h1, h2] at q'; exact q'.elim
    | some es =>
      rw [h1, h2] at q'
      obtain ⟨e, q'⟩ := grd_run q'
      obtain ⟨a, vs, rfl, ha, ra⟩ := lst_ok sr hx h1
      obtain ⟨b, us, rfl, hb, rb⟩ := lst_ok sr hy h2
      refine ⟨a, b, vs, us, rfl, rfl, ha, hb, by rw [ra.len, rb.len]; exact of_decide_eq_true e, fun p hp => q' ρ _ _ (Step.add hp) (sr.add hp) (newL sr (rb.app ra) hp)⟩
theorem l_add : Lnk K (rAddA K) gAdd := by
  intro ρ S H x y v u Q E sr hx hy q
  have hx0 := hx
  cases hx with
  | int i => cases hy with
    | int j => exact .inl ⟨i, j, rfl, rfl, q ρ H _ Step.refl sr (.int _)⟩
    | _ => exact q.elim
  | str a => cases hy with
    | str b =>
      obtain ⟨e, q⟩ := grd_run q
      exact .inr (.inl ⟨a, b, rfl, rfl, of_decide_eq_true e, q ρ H _ Step.refl sr (.str _)⟩)
    | _ => exact q.elim
  | @tup a vs ds ea ra =>
    have hy0 := hy
    cases hy with
    | @tup b us es eb rb =>
      obtain ⟨e, q⟩ := grd_run q
      refine .inr (.inr (.inl ⟨a, b, vs, us, rfl, rfl, ea.sq, eb.sq, by rw [ra.len, rb.len]; exact of_decide_eq_true e, fun z => ?_, fun _ z => ?_, fun _ _ p hp => ?_⟩))
      · subst z
        cases ra
        exact q ρ H _ Step.refl sr hy0
      · subst z
        cases rb
        rw [List.append_nil] at q
        exact q ρ H _ Step.refl sr hx0
      · exact q ρ _ _ (Step.add hp) (sr.add hp) (newT sr (rb.app ra) hp)
    | _ => exact q.elim
  | _ => exact .inr (.inr (.inr (l_addL sr hx0 hy q)))
/-! ### == -/
mutual
def toPy : D → Option PyData
  | .non => some .none
  | .bl b => some (.bool b)
  | .int i => some (.int i)
  | .str x => some (.str x)
  | .tup ds => match toPys ds with | some ps => some (.tuple ps) | none => none
  | .lst ds => match toPys ds with | some ps => some (.list ps) | none => none
  | _ => none
def toPys : List D → Option (List PyData)
  | [] => some []
  | d :: ds => match toPy d with | some p => (match toPys ds with | some ps => some (p :: ps) | none => none) | none => none
end
theorem dp_of {d : D} {v : V} (h : VR K H ρ d v) : ∀ p, toPy d = some p → Dp K H v p := by
  refine VR.rec (motive_1 := fun d v _ => ∀ p, toPy d = some p → Dp K H v p) (motive_2 := fun ds vs _ => ∀ ps, toPys ds = some ps → DpAll K H vs ps)
    (fun p e => ?_) (fun b p e => ?_) (fun i p e => ?_) (fun x p e => ?_) (fun n p e => ?_) (fun a p e => ?_) (fun _ p e => ?_) (fun {a xs ds} e1 _ q p e => ?_) (fun {a xs ds} e1 _ q p e => ?_) (fun _ _ _ _ p e => ?_) (fun _ _ _ _ p e => ?_) (fun _ p e => ?_) (fun _ _ _ p e => ?_) (fun ps e => ?_) (fun {v vs d ds} _ _ p q ps e => ?_) h
  · cases e; exact .non
  · cases e; exact .bl b
  · cases e; exact .int i
  · cases e; exact .str x
  · cases e
  · cases e
  · cases e
  · unfold toPy at e
    cases z : toPys ds with
    | none => rw [z] at e; cases e
    | some ps => rw [z] at e; cases e; exact .tup e1.sq (q ps z)
  · unfold toPy at e
    cases z : toPys ds with
    | none => rw [z] at e; cases e
    | some ps => rw [z] at e; cases e; exact .lst e1.sq (q ps z)
  · cases e
  · cases e
  · cases e
  · cases e
  · cases e; exact .nil
  · unfold toPys at e
    cases z : toPy d with
    | none => rw [z] at e; cases e
    | some x => cases y : toPys ds with
      | none => rw [z, y] at e; cases e
      | some xs => rw [z, y] at e; cases e; exact .cons (p x z) (q xs y)
theorem dps_of : ∀ {ds : List D} {vs : List V}, VRs K H ρ ds vs → ∀ ps, toPys ds = some ps → DpAll K H vs ps
  | _, _, .nil, ps, e => by cases e; exact .nil
  | d :: ds, v :: vs, .cons p q, ps, e => by
    unfold toPys at e
    cases z : toPy d with
    | none => rw [z] at e; cases e
    | some x => cases y : toPys ds with
      | none => rw [z, y] at e; cases e
      | some xs => rw [z, y] at e; cases e; exact .cons (dp_of p x z) (dps_of q xs y)
theorem dp_see {d : D} {v : V} {p : PyData} (sr : SR K ρ S H) (h : VR K H ρ d v) (e : toPy (view S d) = some p) : Dp K H v p := by
  have hw := view_ok sr h
  revert hw e
  generalize view S d = d'
  intro e hw
  cases hw with
  | non => cases e; exact .non
  | bl b => cases e; exact .bl b
  | int i => cases e; exact .int i
  | str x => cases e; exact .str x
  | @tup a xs ds e1 q =>
    unfold toPy at e
    cases z : toPys ds with
    | none => rw [z] at e; cases e
    | some ps => rw [z] at e; cases e; exact .tup e1 (dps_of q ps z)
  | @lst a xs ds e1 q =>
    unfold toPy at e
    cases z : toPys ds with
    | none => rw [z] at e; cases e
    | some ps => rw [z] at e; cases e; exact .lst (SqL.of e1) (dps_of q ps z)
  | _ => cases e
/-- == of two flat values (of such kinds as compare at once) -/
def scalE : D → D → Option Bool
  | .non, .non => some true | .non, .int _ => some false | .int _, .non => some false | .non, .bl _ => some false | .bl _, .non => some false | .non, .str _ => some false | .str _, .non => some false
  | .int a, .int b => some (decide (a = b)) | .bl a, .bl b => some (decide (a = b)) | .str a, .str b => some (decide (a = b))
  | .int _, .str _ => some false | .str _, .int _ => some false | .bl _, .str _ => some false | .str _, .bl _ => some false
  | _, _ => none
theorem scalE_ok {x y : D} {v u : V} {b : Bool} (hx : VR K H ρ x v) (hy : VR K H ρ y u) (h : scalE x y = some b) : L2.scal v u = true ∧ decide (v = u) = b := by
  cases hx <;> cases hy <;> first | exact nomatch (show (none : Option Bool) = some b from h) | (have e := Option.some.inj (show some _ = some b from h); subst e; exact ⟨rfl, by simp⟩)
def eqM (f : Bool → Bool) (x y : D) : M D := M.get.bind fun S => match scalE x y with
  | some b => M.pure (.bl (f b))
  | none => match toPy (view S x), toPy (view S y) with
    | some p, some q => (M.grd (SeqAt.shaped p && SeqAt.shaped q)).bind fun _ => M.pure (.bl (f (PyData.eqv p q)))
    | _, _ => M.fail
def gEq : D → D → M D := eqM id
def gNe : D → D → M D := eqM not
theorem eqM_ok (f : Bool → Bool) {x y : D} {v u : V} {Q : VK} {E : XK} (sr : SR K ρ S H) (hx : VR K H ρ x v) (hy : VR K H ρ y u) (q : (eqM f x y).run S (post K (rV K) ρ H Q) (epost K ρ H E)) :
    (L2.scal v u = true ∧ Q (.bl (f (decide (v = u)))) H) ∨ ∃ d e, Dp K H v d ∧ Dp K H u e ∧ SeqAt.shaped d = true ∧ SeqAt.shaped e = true ∧ Q (.bl (f (PyData.eqv d e))) H := by
  have q' : (match scalE x y with
    | some b => M.pure (D.bl (f b))
    | none => match toPy (view S x), toPy (view S y) with
      | some p, some q => (M.grd (SeqAt.shaped p && SeqAt.shaped q)).bind fun _ => M.pure (D.bl (f (PyData.eqv p q)))
      | _, _ => M.fail).run S (post K (rV K) ρ H Q) (epost K ρ H E) := q
  cases h : scalE x y with
  | some b =>
    rw [h] at q'
    obtain ⟨e1, e2⟩ := scalE_ok hx hy h
    exact .inl ⟨e1, by rw [e2]; exact q' ρ H _ Step.refl sr (.bl _)⟩
  | none =>
    rw [h] at q'
    cases h1 : toPy (view S x) with
    | none => rw [h1] at q'; exact q'.elim
    | some p => cases h2 : toPy (view S y) with
      | none => rw [h1, h2] at q'; exact q'.elim
      | some r =>
        rw [h1, h2] at q'
        obtain ⟨e, q'⟩ := grd_run q'
        obtain ⟨e1, e2⟩ := Bool.and_eq_true_iff.mp e
        exact .inr ⟨p, r, dp_see sr hx h1, dp_see sr hy h2, e1, e2, q' ρ H _ Step.refl sr (.bl _)⟩
theorem l_eq : Lnk K (fun x y H Q => rEq x y H Q ∨ rEqD K x y H Q) gEq := fun ρ S H x y v u Q E sr hx hy q => eqM_ok id sr hx hy q
theorem l_ne : Lnk K (fun x y H Q => rNe x y H Q ∨ rNeD K x y H Q) gNe := fun ρ S H x y v u Q E sr hx hy q => eqM_ok not sr hx hy q
/-! ### is None, <, in -/
def isNon : D → Bool
  | .non => true
  | _ => false
def gIsN (f : Bool → Bool) (x y : D) : M D := match y with
  | .non => M.pure (.bl (f (isNon x)))
  | _ => M.fail
theorem isNon_ok {x : D} {v : V} (hx : VR K H ρ x v) : isNon x = decide (v = .non) := by cases hx <;> simp [isNon]
theorem l_isN : Lnk K (fun x y H Q => y = .non ∧ Q (.bl (decide (x = .non))) H) (gIsN id) := by
  intro ρ S H x y v u Q E sr hx hy q
  cases hy with
  | non => exact ⟨rfl, by rw [← isNon_ok hx]; exact q ρ H _ Step.refl sr (.bl _)⟩
  | _ => exact q.elim
theorem l_notN : Lnk K (fun x y H Q => y = .non ∧ Q (.bl (!decide (x = .non))) H) (gIsN not) := by
  intro ρ S H x y v u Q E sr hx hy q
  cases hy with
  | non => exact ⟨rfl, by rw [← isNon_ok hx]; exact q ρ H _ Step.refl sr (.bl _)⟩
  | _ => exact q.elim
def gC (f : Int → Int → Bool) (g : Str → Str → Bool) : D → D → M D
  | .int i, .int j => M.pure (.bl (f i j))
  | .str a, .str b => M.pure (.bl (g a b))
  | _, _ => M.fail
theorem l_cmp (f : Int → Int → Bool) (g : Str → Str → Bool) : Lnk K (fun x y H Q => (rI0 fun i j => .bl (f i j)) x y H Q ∨ ∃ i j, x = .str i ∧ y = .str j ∧ Q (.bl (g i j)) H) (gC f g) := by
  intro ρ S H x y v u Q E sr hx hy q
  cases hx with
  | int i => cases hy with
    | int j => exact .inl ⟨i, j, rfl, rfl, q ρ H _ Step.refl sr (.bl _)⟩
    | _ => exact q.elim
  | str i => cases hy with
    | str j => exact .inr ⟨i, j, rfl, rfl, q ρ H _ Step.refl sr (.bl _)⟩
    | _ => exact q.elim
  | _ => exact q.elim
def gLt : D → D → M D := gC (fun i j => decide (i < j)) fun a b => decide (a.cps.toList < b.cps.toList)
def gLe : D → D → M D := gC (fun i j => decide (i ≤ j)) fun a b => !decide (b.cps.toList < a.cps.toList)
def gGt : D → D → M D := gC (fun i j => decide (j < i)) fun a b => decide (b.cps.toList < a.cps.toList)
def gGe : D → D → M D := gC (fun i j => decide (j ≤ i)) fun a b => !decide (a.cps.toList < b.cps.toList)
/-- flat values as they stand -/
def flV : D → Option V
  | .non => some .non
  | .bl b => some (.bl b)
  | .int i => some (.int i)
  | .str x => some (.str x)
  | _ => none
def flVs : List D → Option (List V)
  | [] => some []
  | d :: ds => match flV d with | some v => (match flVs ds with | some vs => some (v :: vs) | none => none) | none => none
theorem flV_ok {d : D} {v w : V} (h : VR K H ρ d v) (e : flV d = some w) : v = w ∧ flatV w = true := by
  cases h <;> first | (cases e; exact ⟨rfl, rfl⟩) | cases e
theorem flVs_ok : ∀ {ds : List D} {vs ws : List V}, VRs K H ρ ds vs → flVs ds = some ws → vs = ws ∧ ws.all flatV = true
  | _, _, _, .nil, e => by cases e; exact ⟨rfl, rfl⟩
  | d :: ds, _, ws, .cons p q, e => by
    unfold flVs at e
    cases z : flV d with
    | none => rw [z] at e; cases e
    | some x => cases y : flVs ds with
      | none => rw [z, y] at e; cases e
      | some xs =>
        rw [z, y] at e
        cases e
        obtain ⟨e1, e2⟩ := flV_ok p z
        obtain ⟨e3, e4⟩ := flVs_ok q y
        exact ⟨by rw [e1, e3], by rw [List.all_cons, e2, e4]; rfl⟩
/-- one sign -/
def sign1 (x : Str) : Option Nat := match x.cps.toList with
  | [c] => some c
  | _ => none
theorem sign1_ok {x : Str} {c : Nat} (h : sign1 x = some c) : x = ⟨#[c]⟩ := by
  unfold sign1 at h
  obtain ⟨⟨l⟩⟩ := x
  match l, h with
  | [c'], h => cases h; rfl
def inSeq (f : Bool → Bool) (x y : D) : M D := M.get.bind fun S => match flV x, seqV S y with
  | some v, some ds => (match flVs ds with | some vs => M.pure (.bl (f (inV v vs))) | none => M.fail)
  | _, _ => M.fail
def gIn (f : Bool → Bool) (x y : D) : M D := match y with
  | .str z => (match x with | .str a => (match sign1 a with | some c => M.pure (.bl (f (decide (c ∈ z.cps.toList)))) | none => M.pure (.bl (f (!(Builtin.Str.occurrences z a 0 z.length 1).isEmpty)))) | _ => M.fail)
  | y => inSeq f x y
def rInA (K : PySem.W.Frag) (f : Bool → Bool) : L2.R2 := fun x y H Q => (∃ i j, x = .str i ∧ y = .str j ∧ Q (.bl (f (!(Builtin.Str.occurrences j i 0 j.length 1).isEmpty))) H) ∨ (∃ (c : Nat) (z : Str), x = .str ⟨#[c]⟩ ∧ y = .str z ∧ Q (.bl (f (decide (c ∈ z.cps.toList)))) H) ∨
  ∃ p xs, y = .ref p ∧ (SqL K H p xs ∨ SqT K H p xs) ∧ flatV x = true ∧ xs.all flatV = true ∧ Q (.bl (f (inV x xs))) H
theorem inSeq_ok (f : Bool → Bool) {x y : D} {v u : V} {Q : VK} {E : XK} (sr : SR K ρ S H) (hx : VR K H ρ x v) (hy : VR K H ρ y u) (q : (inSeq f x y).run S (post K (rV K) ρ H Q) (epost K ρ H E)) : rInA K f v u H Q := by
  have q' : (match flV x, seqV S y with
    | some v, some ds => (match flVs ds with | some vs => M.pure (D.bl (f (inV v vs))) | none => M.fail)
    | _, _ => M.fail).run S (post K (rV K) ρ H Q) (epost K ρ H E) := q
  cases h1 : flV x with
  | none => rw [h1] at q'; exact q'.elim
  | some w => cases h2 : seqV S y with
    | none => rw [h1, h2] at q'; exact q'.elim
    | some ds =>
      rw [h1, h2] at q'
      obtain ⟨a, vs, rfl, hs, r⟩ := seq_ok sr hy h2
      have q2 : (match flVs ds with | some vs => M.pure (D.bl (f (inV w vs))) | none => M.fail).run S (post K (rV K) ρ H Q) (epost K ρ H E) := q'
      cases h3 : flVs ds with
      | none => rw [h3] at q2; exact q2.elim
      | some ws =>
        rw [h3] at q2
        obtain ⟨e1, e2⟩ := flV_ok hx h1
        obtain ⟨e3, e4⟩ := flVs_ok r h3
        subst e1 e3
        exact .inr (.inr ⟨a, vs, rfl, hs, e2, e4, q2 ρ H _ Step.refl sr (.bl _)⟩)
theorem l_in (f : Bool → Bool) : Lnk K (rInA K f) (gIn f) := by
  intro ρ S H x y v u Q E sr hx hy q
  have hy0 := hy
  cases hy with
  | str z => cases hx with
    | str a =>
      have q' : (match sign1 a with | some c => M.pure (D.bl (f (decide (c ∈ z.cps.toList)))) | none => M.pure (.bl (f (!(Builtin.Str.occurrences z a 0 z.length 1).isEmpty)))).run S (post K (rV K) ρ H Q) (epost K ρ H E) := q
      cases h : sign1 a with
      | some c =>
        rw [h] at q'
        exact .inr (.inl ⟨c, z, by rw [sign1_ok h], rfl, q' ρ H _ Step.refl sr (.bl _)⟩)
      | none =>
        rw [h] at q'
        exact .inl ⟨a, z, rfl, rfl, q' ρ H _ Step.refl sr (.bl _)⟩
    | _ => exact q.elim
  | _ => exact inSeq_ok f sr hx hy0 q
end
/-! ### the rules -/
section
variable {X : Cx} {K : PySem.W.Frag} {E : XK} {a b e : Expr} {ma mb : Env → M D} {pos : Pos}
theorem me_add (hK : X.K = K) (ha : ME X K E a ma) (hb : ME X K E b mb) : ME X K E (.BinOp a .Add b pos) (mOp gAdd ma mb) := by subst hK; exact me_op op_addA l_add ha hb
theorem me_sub (ha : ME X K E a ma) (hb : ME X K E b mb) : ME X K E (.BinOp a .Sub b pos) (mOp gSub ma mb) := me_op op_sub (l_int _) ha hb
theorem me_mul (ha : ME X K E a ma) (hb : ME X K E b mb) : ME X K E (.BinOp a .Mult b pos) (mOp gMul ma mb) := me_op op_mul l_mul ha hb
theorem me_mod (ha : ME X K E a ma) (hb : ME X K E b mb) : ME X K E (.BinOp a .Mod b pos) (mOp gMod ma mb) := me_op op_mod l_mod ha hb
theorem me_div (ha : ME X K E a ma) (hb : ME X K E b mb) : ME X K E (.BinOp a .FloorDiv b pos) (mOp gDiv ma mb) := me_op op_fdiv l_div ha hb
theorem me_pow (ha : ME X K E a ma) (hb : ME X K E b mb) : ME X K E (.BinOp a .Pow b pos) (mOp gPow ma mb) := me_op op_pow l_pow ha hb
theorem me_eq (hu : X.A.units + 64 < cLine) (hK : X.K = K) (ha : ME X K E a ma) (hb : ME X K E b mb) : ME X K E (.Compare a [.Eq] [b] pos) (mOp gEq ma mb) := by subst hK; exact me_cmp (op_eq.or (op_eqD hu)) l_eq ha hb (nomark _)
theorem me_ne (hu : X.A.units + 64 < cLine) (hK : X.K = K) (ha : ME X K E a ma) (hb : ME X K E b mb) : ME X K E (.Compare a [.NotEq] [b] pos) (mOp gNe ma mb) := by subst hK; exact me_cmp (op_ne.or (op_neD hu)) l_ne ha hb (nomark _)
theorem me_isN (ha : ME X K E a ma) (hb : ME X K E b mb) : ME X K E (.Compare a [.Is] [b] pos) (mOp (gIsN id) ma mb) := me_cmp op_isN l_isN ha hb (nomark _)
theorem me_notN (ha : ME X K E a ma) (hb : ME X K E b mb) : ME X K E (.Compare a [.IsNot] [b] pos) (mOp (gIsN not) ma mb) := me_cmp op_notN l_notN ha hb (nomark _)
theorem me_lt (ha : ME X K E a ma) (hb : ME X K E b mb) : ME X K E (.Compare a [.Lt] [b] pos) (mOp gLt ma mb) := me_cmp (op_lt.or op_lt_str) (l_cmp _ _) ha hb (nomark _)
theorem me_le (ha : ME X K E a ma) (hb : ME X K E b mb) : ME X K E (.Compare a [.LtE] [b] pos) (mOp gLe ma mb) := me_cmp (op_le.or op_le_str) (l_cmp _ _) ha hb (nomark _)
theorem me_gt (ha : ME X K E a ma) (hb : ME X K E b mb) : ME X K E (.Compare a [.Gt] [b] pos) (mOp gGt ma mb) := me_cmp (op_gt.or op_gt_str) (l_cmp _ _) ha hb (nomark _)
theorem me_ge (ha : ME X K E a ma) (hb : ME X K E b mb) : ME X K E (.Compare a [.GtE] [b] pos) (mOp gGe ma mb) := me_cmp (op_ge.or op_ge_str) (l_cmp _ _) ha hb (nomark _)
theorem op_inA : OpR X (compareOp .In) (rInA X.K id) := op_in_str.or (op_in_sign.or op_in_seq)
theorem op_notInA : OpR X (compareOp .NotIn) (rInA X.K not) := op_notin_str.or (op_notIn_sign.or op_notIn_seq)
theorem me_in (hK : X.K = K) (ha : ME X K E a ma) (hb : ME X K E b mb) (hm : behindInMarks .In b = false) : ME X K E (.Compare a [.In] [b] pos) (mOp (gIn id) ma mb) := by subst hK; exact me_cmp op_inA (l_in _) ha hb hm
theorem me_notIn (hK : X.K = K) (ha : ME X K E a ma) (hb : ME X K E b mb) (hm : behindInMarks .NotIn b = false) : ME X K E (.Compare a [.NotIn] [b] pos) (mOp (gIn not) ma mb) := by subst hK; exact me_cmp op_notInA (l_in _) ha hb hm
end
end ME
namespace ME
open PySem PySem.Spec PyProof.Rows L2
theorem CallR.or {X : Cx} {f : Value} {r r' : List V → Hp → VK → Prop} (h : CallR X f r) (h' : CallR X f r') : CallR X f (fun xs H Q => r xs H Q ∨ r' xs H Q) := by
  intro pins s σ H xs us Q I rx q
  rcases q with q | q
  · exact h pins s σ H xs us Q I rx q
  · exact h' pins s σ H xs us Q I rx q
section
variable {K : PySem.W.Frag} {ρ : Rs} {S : List SO} {H : Hp} {E : XK}
/-! ### subscripts -/
theorem atI_map {ds : List D} {vs : List V} {i : Int} {d : D} (h : VRs K H ρ ds vs) (e : atI ds i = some d) : ∃ v, atI vs i = some v ∧ VR K H ρ d v := by
  unfold atI at e ⊢
  rw [h.len]
  cases q : ixN ds.length i with
  | none => rw [q] at e; cases e
  | some j =>
    rw [q] at e
    obtain ⟨v, e1, r⟩ := h.get (show ds[j]? = some d from e)
    exact ⟨v, e1, r⟩
def ixD (x y : D) : M D := M.get.bind fun S => match y with
  | .int i => (match view S x with
    | .lst ds => (match atI ds i with | some d => M.pure d | none => M.fail)
    | .tup ds => (match atI ds i with | some d => M.pure d | none => M.fail)
    | .str z => (M.grd (decide (z.length ≤ sizeLine))).bind fun _ => (match atI z.cps.toList i with | some c => M.pure (.str ⟨#[c]⟩) | none => M.fail)
    | _ => M.fail)
  | _ => M.fail
theorem at_run {ds : List D} {i : Int} {Q : D → List SO → Prop} {E' : Ex → List SO → Prop} (h : (match atI ds i with | some d => M.pure d | none => M.fail).run S Q E') : ∃ d, atI ds i = some d ∧ Q d S := by
  cases e : atI ds i with
  | none => rw [e] at h; exact h.elim
  | some d => rw [e] at h; exact ⟨d, rfl, h⟩
theorem l_ix : Lnk K (rIx K) ixD := by
  intro ρ S H x y v u Q E sr hx hy q
  cases hy with
  | int i =>
    have hw := view_ok sr hx
    have q' : (match view S x with
      | .lst ds => (match atI ds i with | some d => M.pure d | none => M.fail)
      | .tup ds => (match atI ds i with | some d => M.pure d | none => M.fail)
      | .str z => (M.grd (decide (z.length ≤ sizeLine))).bind fun _ => (match atI z.cps.toList i with | some c => M.pure (.str ⟨#[c]⟩) | none => M.fail)
      | _ => M.fail).run S (post K (rV K) ρ H Q) (epost K ρ H E) := q
    revert hw q'
    generalize view S x = x'
    intro hw q'
    cases hw with
    | lst e r =>
      obtain ⟨d, e1, q2⟩ := at_run q'
      obtain ⟨w, e2, r2⟩ := atI_map r e1
      exact .inl ⟨_, _, i, w, rfl, rfl, SqL.of e, e2, q2 ρ H _ Step.refl sr r2⟩
    | tup e r =>
      obtain ⟨d, e1, q2⟩ := at_run q'
      obtain ⟨w, e2, r2⟩ := atI_map r e1
      exact .inr (.inl ⟨_, _, i, w, rfl, rfl, e, e2, q2 ρ H _ Step.refl sr r2⟩)
    | str z =>
      obtain ⟨e, q2⟩ := grd_run q'
      have q3 : (match atI z.cps.toList i with | some c => M.pure (D.str ⟨#[c]⟩) | none => M.fail).run S (post K (rV K) ρ H Q) (epost K ρ H E) := q2
      cases e3 : atI z.cps.toList i with
      | none => rw [e3] at q3; exact q3.elim
      | some c =>
        rw [e3] at q3
        exact .inr (.inr ⟨z, i, c, rfl, rfl, of_decide_eq_true e, e3, q3 ρ H _ Step.refl sr (.str _)⟩)
    | _ => exact q'.elim
  | _ => exact q.elim
/-! ### slices -/
def cutD (xs : List D) (lo hi : Option Int) : List D := (xs.drop (HT.sIx xs.length 0 lo)).take (HT.sIx xs.length xs.length hi - HT.sIx xs.length 0 lo)
theorem cut_ok {ds : List D} {vs : List V} (h : VRs K H ρ ds vs) (lo hi : Option Int) : VRs K H ρ (cutD ds lo hi) (cutV vs lo hi) := by
  unfold cutD cutV
  rw [h.len]
  exact (h.drop _).take _
def slD (x : D) (lo hi : Option Int) : M D := M.get.bind fun S => match view S x with
  | .lst ds => M.pure (.lst (cutD ds lo hi))
  | .tup ds => M.pure (.tup (cutD ds lo hi))
  | .str z => (M.grd (decide (z.length ≤ sizeLine))).bind fun _ => M.pure (.str (cutS z lo hi))
  | _ => M.fail
def rSlAll (K : PySem.W.Frag) : V → Option Int → Option Int → Hp → VK → Prop := fun x lo hi H Q => rSlL K x lo hi H Q ∨ rSlA K x lo hi H Q ∨ rSlS x lo hi H Q
theorem sl_all {X : Cx} : SlR X (rSlAll X.K) := sl_list.or (sl_tupA.or sl_str)
theorem HT_whole {n : Nat} {lo hi : Option Int} (ds : List D) (hn : ds.length = n) (h : HT.sIx n 0 lo = 0 ∧ HT.sIx n n hi = n) : cutD ds lo hi = ds := by
  subst hn
  unfold cutD
  rw [h.1, h.2]
  exact List.take_of_length_le (by simp)
theorem l_sl {x : D} {v : V} {lo hi : Option Int} {Q : VK} (sr : SR K ρ S H) (hx : VR K H ρ x v) (q : (slD x lo hi).run S (post K (rV K) ρ H Q) (epost K ρ H E)) : rSlAll K v lo hi H Q := by
  have hx0 := hx
  have hw := view_ok sr hx
  have q' : (match view S x with
    | .lst ds => M.pure (D.lst (cutD ds lo hi))
    | .tup ds => M.pure (D.tup (cutD ds lo hi))
    | .str z => (M.grd (decide (z.length ≤ sizeLine))).bind fun _ => M.pure (D.str (cutS z lo hi))
    | _ => M.fail).run S (post K (rV K) ρ H Q) (epost K ρ H E) := q
  have tupx : ∀ ds, view S x = .tup ds → x = .tup ds := fun ds e => by
    cases x with
    | ob i =>
      have e' : (match S[i]? with | some (.lst ds) => D.lst ds | some (.dct ks ds) => D.dct ks ds | some (.ins C ns ds) => D.ins C ns ds | _ => D.ob i) = D.tup ds := e
      split at e' <;> cases e'
    | _ => exact e
  revert hw q' tupx
  generalize view S x = x'
  intro hw q' tupx
  cases hw with
  | lst e r => exact .inl ⟨_, _, rfl, SqL.of e, fun p hp => q' ρ _ _ (Step.add hp) (sr.add hp) (newL sr (cut_ok r lo hi) hp)⟩
  | @tup a vs ds e r =>
    refine .inr (.inl ⟨_, _, rfl, e, fun h => ?_, fun _ p hp => q' ρ _ _ (Step.add hp) (sr.add hp) (newT sr (cut_ok r lo hi) hp)⟩)
    have z := HT_whole ds r.len.symm h
    have q2 : (M.pure (D.tup (cutD ds lo hi))).run S (post K (rV K) ρ H Q) (epost K ρ H E) := q'
    rw [z] at q2
    have y := tupx ds rfl
    subst y
    exact q2 ρ H _ Step.refl sr hx0
  | str z =>
    obtain ⟨e, q2⟩ := grd_run q'
    exact .inr (.inr ⟨z, rfl, of_decide_eq_true e, q2 ρ H _ Step.refl sr (.str _)⟩)
  | _ => exact q'.elim
/-! ### calls of built-ins -/
def gLen : List D → M D
  | [x] => (see x).bind fun x => (match x with
    | .lst ds => M.pure (.int ds.length)
    | .tup ds => M.pure (.int ds.length)
    | .str z => (M.grd (decide (z.length ≤ sizeLine))).bind fun _ => M.pure (.int z.length)
    | .dct ks _ => M.pure (.int ks.length)
    | _ => M.fail)
  | _ => M.fail
def rLen (K : PySem.W.Frag) : List V → Hp → VK → Prop := fun xs H Q => (∃ x n, xs = [x] ∧ LenV K x H n ∧ Q (.int n) H) ∨ ∃ (a : Addr) (kvs : List (Key × V)), xs = [.ref a] ∧ H a = some (.dK kvs) ∧ Q (.int kvs.length) H
theorem l_len : LnkC K (rLen K) gLen := by
  intro ρ S H x v Q E sr hx q
  match x, v, hx with
  | [x], [v], .cons h .nil =>
    have hw := view_ok sr h
    have q' : (match view S x with
      | .lst ds => M.pure (D.int ds.length)
      | .tup ds => M.pure (.int ds.length)
      | .str z => (M.grd (decide (z.length ≤ sizeLine))).bind fun _ => M.pure (.int z.length)
      | .dct ks _ => M.pure (.int ks.length)
      | _ => M.fail).run S (post K (rV K) ρ H Q) (epost K ρ H E) := q
    revert hw q'
    generalize view S x = x'
    intro hw q'
    cases hw with
    | lst e r => exact .inl ⟨_, _, rfl, .inl ⟨_, SqL.of e, rfl⟩, by rw [r.len]; exact q' ρ H _ Step.refl sr (.int _)⟩
    | tup e r => exact .inl ⟨_, _, rfl, .inr ⟨_, e, rfl⟩, by rw [r.len]; exact q' ρ H _ Step.refl sr (.int _)⟩
    | str z =>
      obtain ⟨e, q2⟩ := grd_run q'
      exact .inl ⟨_, _, rfl, ⟨of_decide_eq_true e, rfl⟩, q2 ρ H _ Step.refl sr (.int _)⟩
    | @dct a kvs ds e r =>
      refine .inr ⟨a, kvs, rfl, e, ?_⟩
      have z := q' ρ H (V.int _) Step.refl sr (.int _)
      rw [List.length_map] at z
      exact z
    | _ => exact q'.elim
  | [], _, _ => exact q.elim
  | _ :: _ :: _, _, _ => exact q.elim
def gAll (f : List Bool → Bool) : List D → M D
  | [x] => M.get.bind fun S => (match lstV S x with
    | some ds => (match blsD ds with | some bs => M.pure (.bl (f bs)) | none => M.fail)
    | none => M.fail)
  | _ => M.fail
where blsD : List D → Option (List Bool)
  | [] => some []
  | .bl b :: ds => (match blsD ds with | some bs => some (b :: bs) | none => none)
  | _ => none
theorem bls_ok : ∀ {ds : List D} {vs : List V} {bs : List Bool}, VRs K H ρ ds vs → gAll.blsD ds = some bs → vs = bs.map V.bl
  | _, _, _, .nil, e => by cases e; rfl
  | d :: ds, _, bs, .cons p q, e => by
    cases p with
    | bl b =>
      unfold gAll.blsD at e
      cases y : gAll.blsD ds with
      | none => rw [y] at e; cases e
      | some xs => rw [y] at e; cases e; rw [bls_ok q y]; rfl
    | _ => exact nomatch (show (none : Option (List Bool)) = some bs from e)
theorem l_all (f : List Bool → Bool) : LnkC K (fun vs H Q => ∃ (a : Addr) (bs : List Bool), vs = [V.ref a] ∧ SqL K H a (bs.map V.bl) ∧ Q (.bl (f bs)) H) (gAll f) := by
  intro ρ S H x v Q E sr hx q
  match x, v, hx with
  | [x], [v], .cons h .nil =>
    have q' : (match lstV S x with
      | some ds => (match gAll.blsD ds with | some bs => M.pure (D.bl (f bs)) | none => M.fail)
      | none => M.fail).run S (post K (rV K) ρ H Q) (epost K ρ H E) := q
    cases h1 : lstV S x with
    | none => rw [h1] at q'; exact q'.elim
    | some ds =>
      rw [h1] at q'
      obtain ⟨a, vs, rfl, e, r⟩ := lst_ok sr h h1
      have q2 : (match gAll.blsD ds with | some bs => M.pure (D.bl (f bs)) | none => M.fail).run S (post K (rV K) ρ H Q) (epost K ρ H E) := q'
      cases h2 : gAll.blsD ds with
      | none => rw [h2] at q2; exact q2.elim
      | some bs =>
        rw [h2] at q2
        have e2 := bls_ok r h2
        subst e2
        exact ⟨a, bs, rfl, SqL.of e, q2 ρ H _ Step.refl sr (.bl _)⟩
  | [], _, _ => exact q.elim
  | _ :: _ :: _, _, _ => exact q.elim
/-- tuple(x) -/
def gTuple : List D → M D
  | [x] => M.get.bind fun S => (match seqV S x with
    | some ds => M.pure (.tup ds)
    | none => M.fail)
  | _ => M.fail
theorem l_tuple : LnkC K (fun xs H Q => ∃ p ys, xs = [.ref p] ∧ ((SqL K H p ys ∧ ∀ l, H l = none → Q (.ref l) (upd H l (.tup ys))) ∨ (SqT K H p ys ∧ Q (.ref p) H))) gTuple := by
  intro ρ S H x v Q E sr hx q
  match x, v, hx with
  | [x], [v], .cons h .nil =>
    have hx0 := h
    have hw := view_ok sr h
    have tupx : ∀ ds, view S x = .tup ds → x = .tup ds := fun ds e => by
      cases x with
      | ob i =>
        have e' : (match S[i]? with | some (.lst ds) => D.lst ds | some (.dct ks ds) => D.dct ks ds | some (.ins C ns ds) => D.ins C ns ds | _ => D.ob i) = D.tup ds := e
        split at e' <;> cases e'
      | _ => exact e
    have q' : (match (match view S x with
      | .lst ds => some ds
      | .tup ds => some ds
      | _ => none) with
      | some ds => M.pure (D.tup ds)
      | none => M.fail).run S (post K (rV K) ρ H Q) (epost K ρ H E) := q
    revert hw q' tupx
    generalize view S x = x'
    intro hw tupx q'
    cases hw with
    | lst e r => exact ⟨_, _, rfl, .inl ⟨SqL.of e, fun l hl => q' ρ _ _ (Step.add hl) (sr.add hl) (newT sr r hl)⟩⟩
    | @tup a vs ds e r =>
      have y := tupx ds rfl
      subst y
      exact ⟨_, _, rfl, .inr ⟨e, q' ρ H _ Step.refl sr hx0⟩⟩
    | _ => exact q'.elim
  | [], _, _ => exact q.elim
  | _ :: _ :: _, _, _ => exact q.elim
/-- list(x) of a list or a tuple -/
def gList : List D → M D
  | [x] => M.get.bind fun S => (match seqV S x with
    | some ds => M.pure (.lst ds)
    | none => M.fail)
  | _ => M.fail
theorem l_list : LnkC K (fun xs H Q => ∃ p ys, xs = [.ref p] ∧ (SqL K H p ys ∨ SqT K H p ys) ∧ ∀ l, H l = none → Q (.ref l) (upd H l (.lst ys))) gList := by
  intro ρ S H x v Q E sr hx q
  match x, v, hx with
  | [x], [v], .cons h .nil =>
    have q' : (match seqV S x with
      | some ds => M.pure (D.lst ds)
      | none => M.fail).run S (post K (rV K) ρ H Q) (epost K ρ H E) := q
    cases h1 : seqV S x with
    | none => rw [h1] at q'; exact q'.elim
    | some ds =>
      rw [h1] at q'
      obtain ⟨a, vs, rfl, e, r⟩ := seq_ok sr h h1
      exact ⟨a, vs, rfl, e, fun l hl => q' ρ _ _ (Step.add hl) (sr.add hl) (newL sr r hl)⟩
  | [], _, _ => exact q.elim
  | _ :: _ :: _, _, _ => exact q.elim
def gInt : List D → M D
  | [x] => (match x with
    | .int i => M.pure (.int i)
    | .bl b => M.pure (.int (if b then 1 else 0))
    | _ => M.fail)
  | _ => M.fail
theorem l_intC1 : LnkC K (fun xs H Q => (∃ i, xs = [.int i] ∧ Q (.int i) H) ∨ ∃ k, xs = [.bl k] ∧ Q (.int (if k then 1 else 0)) H) gInt := by
  intro ρ S H x v Q E sr hx q
  match x, v, hx with
  | [x], [v], .cons h .nil => cases h with
    | int i => exact .inl ⟨i, rfl, q ρ H _ Step.refl sr (.int _)⟩
    | bl b => exact .inr ⟨b, rfl, q ρ H _ Step.refl sr (.int _)⟩
    | _ => exact q.elim
  | [], _, _ => exact q.elim
  | _ :: _ :: _, _, _ => exact q.elim
def gAbs : List D → M D
  | [x] => (match x with
    | .int i => M.pure (.int (if i < 0 then -i else i))
    | _ => M.fail)
  | _ => M.fail
theorem l_abs : LnkC K (fun xs H Q => ∃ i, xs = [.int i] ∧ Q (.int (if i < 0 then -i else i)) H) gAbs := by
  intro ρ S H x v Q E sr hx q
  match x, v, hx with
  | [x], [v], .cons h .nil => cases h with
    | int i => exact ⟨i, rfl, q ρ H _ Step.refl sr (.int _)⟩
    | _ => exact q.elim
  | [], _, _ => exact q.elim
  | _ :: _ :: _, _, _ => exact q.elim
/-! ### isinstance -/
/-- the classes of one's own, with their fields -/
structure CF (K : PySem.W.Frag) (C : Str) (fs : List Str) : Prop where
  cls : Cls K (He.ga K C)
  no : ∀ f ∈ fs, NoAttr K (He.ga K C) f
  ha : PySem.W.findIn K (.ref (He.ga K C)) "__class__" = some (some (.builtin "object.__class__"))
  hn : PySem.W.specialIn K (.builtin "object.__class__") "__get__" = some (some (.builtin "getset_descriptor.__get__"))
  htk : PySem.W.takesIn K (.builtin "object.__class__") = some true
  hm : PySem.W.mroIn K (He.ga K C) (.type "object") = some true
abbrev Tab := List (Str × List Str)
def CFs (K : PySem.W.Frag) (tab : Tab) : Prop := ∀ p ∈ tab, CF K p.1 p.2
inductive TN where
  | b (n : String) | c (C : Str)
def tnV (K : PySem.W.Frag) : TN → Value
  | .b n => .type n
  | .c C => .ref (He.ga K C)
def tnD : D → Option TN
  | .non => some (.b "NoneType")
  | .bl _ => some (.b "bool")
  | .int _ => some (.b "int")
  | .str _ => some (.b "str")
  | .tup _ => some (.b "tuple")
  | .lst _ => some (.b "list")
  | .dct _ _ => some (.b "dict")
  | .ins C _ _ => some (.c C)
  | _ => none
/-- of which types one may ask: built-in ones, those of the table -/
def tnOk (tab : Tab) : TN → Bool
  | .b n => n == "NoneType" || n == "bool" || n == "int" || n == "str" || n == "tuple" || n == "list" || n == "dict"
  | .c C => tab.any fun p => p.1 == C
theorem ty_ok {tab : Tab} {d : D} {v : V} {t : TN} (hT : CFs K tab) (h : VW K H ρ d v) (e : tnD d = some t) (o : tnOk tab t = true) : TyX K H v (tnV K t) := by
  cases h with
  | non => cases e; exact .base .non
  | bl b => cases e; exact .base (.bl b)
  | int i => cases e; exact .base (.int i)
  | str x => cases e; exact .base (.str x)
  | tup r _ =>
    cases e
    rcases r with (r | ⟨o, r⟩) | ⟨o, its, n, hk, hc, _⟩
    · exact .base (.tup r)
    · exact .fTuple r
    · exact .kTuple hk hc
  | lst r _ => cases e; exact .base (.lst r)
  | dct r _ => cases e; exact .base (.dK r)
  | @ins a dx C fs ds r _ =>
    cases e
    obtain ⟨p, hp, e2⟩ := List.any_eq_true.mp o
    have e3 := eq_of_beq e2
    have T := hT p hp
    rw [e3] at T
    exact .base (.ins r T.cls T.ha T.hn T.htk T.hm)
  | _ => cases e
def gIsi (tab : Tab) (f : TN → Bool) (x : D) : M D := (see x).bind fun x => match tnD x with
  | some t => (M.grd (tnOk tab t)).bind fun _ => M.pure (.bl (f t))
  | none => M.fail
/-- what isinstance says of a class -/
def Isa (K : PySem.W.Frag) (tab : Tab) (u : Value) (f : TN → Bool) : Prop := ∀ t, tnOk tab t = true → PySem.W.kitOne K (tnV K t) u = some (f t)
def IsaT (K : PySem.W.Frag) (tab : Tab) (us : List Value) (f : TN → Bool) : Prop := ∀ t, tnOk tab t = true → PySem.W.kitAny K (tnV K t) us = some (f t)
theorem isi_run {tab : Tab} {f : TN → Bool} {x : D} {v : V} {Q : D → List SO → Prop} {E' : Ex → List SO → Prop} (hT : CFs K tab) (sr : SR K ρ S H) (hx : VR K H ρ x v) (q : (gIsi tab f x).run S Q E') : ∃ t, TyX K H v (tnV K t) ∧ tnOk tab t = true ∧ Q (.bl (f t)) S := by
  have hw := view_ok sr hx
  have q' : (match tnD (view S x) with
    | some t => (M.grd (tnOk tab t)).bind fun _ => M.pure (D.bl (f t))
    | none => M.fail).run S Q E' := q
  cases e : tnD (view S x) with
  | none => rw [e] at q'; exact q'.elim
  | some t =>
    rw [e] at q'
    obtain ⟨o, q2⟩ := grd_run q'
    exact ⟨t, ty_ok hT hw e o, o, q2⟩
end
section
variable {X : Cx} {K : PySem.W.Frag} {E : XK} {a b e : Expr} {es : List Expr} {ma mb : Env → M D} {ms : Env → M (List D)} {pos p : Pos} {x : Str}
theorem me_sub_ (hK : X.K = K) (ha : ME X K E a ma) (hb : ME X K E b mb) (hs : PlainIx b) : ME X K E (.Subscript a b pos) (mOp ixD ma mb) := by subst hK; exact me_ix ix_seq l_ix ha hb hs
def mSl (a : Env → M D) (lo hi : Env → M (Option Int)) : Env → M D := fun env => (a env).bind fun x => (lo env).bind fun l => (hi env).bind fun h => slD x l h
def MO (X : Cx) (K : PySem.W.Frag) (E : XK) (e : Option Expr) (m : Env → M (Option Int)) : Prop := PO X e (rd K (fun _ _ a b => a = b) E m)
def mNoP : Env → M (Option Int) := fun _ => M.pure none
def asI : D → M (Option Int)
  | .int i => M.pure (some i)
  | _ => M.fail
def mP (m : Env → M D) : Env → M (Option Int) := fun env => (m env).bind asI
theorem PO.imp {X : Cx} {e : Option Expr} {t t' : TO} (h : PO X e t) (i : ∀ σ H Q, t' σ H Q → t σ H Q) : PO X e t' := ⟨fun p s σ H Q I q => h.run p s σ H Q I (i σ H Q q)⟩
theorem mo_none : MO X K E none mNoP := PO.imp po_none fun σ H Q ⟨ρ, S, env, sr, er, h⟩ => h ρ H none Step.refl sr rfl
theorem mo_some (h : ME X K E e ma) : MO X K E (some e) (mP ma) := PO.imp (po_some h) (by
  rintro σ H Q ⟨ρ, S, env, sr, er, h⟩
  refine run_bind sr er h fun ρ1 S1 H1 x v t1 sr1 er1 hx h1 => ?_
  cases hx with
  | int i => exact ⟨i, rfl, h1 ρ1 H1 _ Step.refl sr1 rfl⟩
  | _ => exact h1.elim)
theorem me_sl {lo hi : Option Expr} {ml mh : Env → M (Option Int)} {p2 : Pos} (hK : X.K = K) (he : ME X K E e ma) (hl : MO X K E lo ml) (hu : MO X K E hi mh) : ME X K E (.Subscript e (.Slice lo hi none p2) pos) (mSl ma ml mh) := PE.imp (pe_slice sl_all he hl hu) (by
  subst hK
  rintro σ H Q ⟨ρ, S, env, sr, er, h⟩
  refine run_bind sr er h fun ρ1 S1 H1 x v t1 sr1 er1 hx h1 => ?_
  refine run_bind (m := ml) sr1 er1 h1 fun ρ2 S2 H2 l l' t2 sr2 er2 hl h2 => ?_
  refine run_bind (m := mh) sr2 er2 h2 fun ρ3 S3 H3 u u' t3 sr3 er3 hu h3 => ?_
  cases hl
  cases hu
  exact l_sl sr3 ((VR.mono t2 hx).mono t3) h3)
theorem me_callB {id : String} {r : List V → Hp → VK → Prop} {g : List D → M D} (hc : CallR X (.builtin id) r) (L : LnkC K r g) (hg : Gl X x) (hm : X.mg x = none) (hv : bootBuiltins x = some (.builtin id)) (ha : MA X K E (e :: es) ms) (hn : x ≠ "__name__" := by decide) (hdb : (x == ("__debug__" : Str)) = false := by decide)
    (he : starEach (e :: es) X.env = (false, eval e X.env) :: starEach es X.env := by rfl) (hpl : (backTo pos (starEach es X.env)).any (·.1) = false := by rfl) : ME X K E (.Call (.Name x p) (e :: es) [] pos) (mCall g ms) := PE.imp (pe_callB hc hg hm hv ha hn hdb he hpl) fun _ _ _ => imp_call L
theorem me_callTy {T : String} {r : List V → Hp → VK → Prop} {g : List D → M D} (hc : CallR X (.type T) r) (L : LnkC K r g) (hg : Gl X x) (hm : X.mg x = none) (hv : bootBuiltins x = some (.type T)) (ha : MA X K E (e :: es) ms) (hn : x ≠ "__name__" := by decide) (hdb : (x == ("__debug__" : Str)) = false := by decide)
    (he : starEach (e :: es) X.env = (false, eval e X.env) :: starEach es X.env := by rfl) (hpl : (backTo pos (starEach es X.env)).any (·.1) = false := by rfl) : ME X K E (.Call (.Name x p) (e :: es) [] pos) (mCall g ms) := PE.imp (pe_callTy hc hg hm hv ha hn hdb he hpl) fun _ _ _ => imp_call L
end
end ME
namespace ME
open PySem PySem.Spec PyProof.Rows L2
/-! ### isinstance, attributes -/
section
variable {X : Cx} {K : PySem.W.Frag} {E : XK} {a b e c o : Expr} {es cs : List Expr} {ma mb : Env → M D} {ms : Env → M (List D)} {pos p p2 : Pos} {x : Str}
def mIsi (tab : Tab) (f : TN → Bool) (m : Env → M D) : Env → M D := fun env => (m env).bind (gIsi tab f)
theorem me_isi {tab : Tab} {f : TN → Bool} {u : Value} {cv : V} (hK : X.K = K) (hT : CFs K tab) (hI : Isa K tab u f) (hcv : ClsV cv u) (hg : Gl X "isinstance") (hm : X.mg "isinstance" = none) (hx : ME X K E e ma) (hc : PE X c (tC cv))
    (h1 : starEach [e, c] X.env = (false, eval e X.env) :: starEach [c] X.env := by rfl) (h2 : starEach [c] X.env = (false, eval c X.env) :: starEach [] X.env := by rfl) (hpl : (backTo pos (starEach [c] X.env)).any (·.1) = false := by rfl) :
    ME X K E (.Call (.Name "isinstance" p) [e, c] [] pos) (mIsi tab f ma) := PE.imp (pe_callB call_isi hg hm (by decide +kernel) (pa_cons hx (pa_cons hc pa_nil h2) h1) (by decide) (by decide) h1 hpl) (by
  subst hK
  rintro σ H Q ⟨ρ, S, env, sr, er, h⟩
  refine run_bind (R2 := rV X.K) sr er h fun ρ1 S1 H1 x v t1 sr1 er1 hx h1 => ?_
  obtain ⟨t, ty, o, q⟩ := isi_run hT sr1 hx h1
  exact ⟨v, cv, _, u, f t, rfl, hcv, ty, hI t o, q ρ1 H1 _ Step.refl sr1 (.bl _)⟩)
theorem me_isiT {tab : Tab} {f : TN → Bool} {us : List Value} {cvs : List V} {x1} (hK : X.K = K) (hT : CFs K tab) (hI : IsaT K tab us f) (hcv : Paired ClsV cvs us) (hl : cvs.length ≤ sizeLine) (hg : Gl X "isinstance") (hm : X.mg "isinstance" = none) (hx : ME X K E e ma) (hc : PA X cs (fun _ H Q => Q cvs H))
    (h1 : starEach [e, .Tuple cs x1 p2] X.env = (false, eval e X.env) :: starEach [.Tuple cs x1 p2] X.env := by rfl) (h2 : starEach [.Tuple cs x1 p2] X.env = (false, eval (.Tuple cs x1 p2) X.env) :: starEach [] X.env := by rfl)
    (hpl : (backTo pos (starEach [.Tuple cs x1 p2] X.env)).any (·.1) = false := by rfl) :
    ME X K E (.Call (.Name "isinstance" p) [e, .Tuple cs x1 p2] [] pos) (mIsi tab f ma) := PE.imp (pe_callB call_isiT hg hm (by decide +kernel) (pa_cons hx (pa_cons (pe_tup hc) pa_nil h2) h1) (by decide) (by decide) h1 hpl) (by
  subst hK
  rintro σ H Q ⟨ρ, S, env, sr, er, h⟩
  refine run_bind (R2 := rV X.K) sr er h fun ρ1 S1 H1 x v t1 sr1 er1 hx h1 => ?_
  refine ⟨hl, fun q hq => ?_⟩
  have st : Step ρ1 H1 ρ1 (upd H1 q (.tup cvs)) := Step.add hq
  obtain ⟨t, ty, o, z⟩ := isi_run hT (sr1.add hq) (VR.mono st hx) h1
  exact ⟨v, q, cvs, _, us, f t, rfl, upd_same, hcv, ty, hI t o, z ρ1 _ _ st (sr1.add hq) (.bl _)⟩)
/-- o.f -/
def fldOk (tab : Tab) (C f : Str) : Bool := tab.any fun p => p.1 == C && p.2.contains f
def lookN (f : Str) : List Str → List D → Option D
  | n :: ns, d :: ds => if f == n then some d else lookN f ns ds
  | _, _ => none
def gFld (tab : Tab) (f : Str) (x : D) : M D := (see x).bind fun x => match x with
  | .ins C ns ds => (M.grd (fldOk tab C f)).bind fun _ => (match lookN f ns ds with | some d => M.pure d | none => M.fail)
  | _ => M.fail
def mFld (tab : Tab) (f : Str) (m : Env → M D) : Env → M D := fun env => (m env).bind (gFld tab f)
theorem lookN_ok {H : Hp} {ρ : Rs} {f : Str} {d : D} : ∀ {fs : List (Str × V)} {ds : List D}, VRs K H ρ ds (fs.map Prod.snd) → lookN f (fs.map Prod.fst) ds = some d → ∃ v, fs.lookup f = some v ∧ VR K H ρ d v
  | [], [], _, e => by cases e
  | (n, v) :: fs, d' :: ds, .cons p q, e => by
    have e' : (if (f == n) = true then some d' else lookN f (fs.map Prod.fst) ds) = some d := e
    rw [List.lookup_cons]
    cases h : f == n with
    | true =>
      rw [h, if_pos rfl] at e'
      cases e'
      exact ⟨v, rfl, p⟩
    | false =>
      rw [h, if_neg Bool.false_ne_true] at e'
      exact lookN_ok q e'
theorem fldOk_cf {tab : Tab} {C f : Str} (hT : CFs K tab) (h : fldOk tab C f = true) : Cls K (He.ga K C) ∧ NoAttr K (He.ga K C) f := by
  obtain ⟨q, hq, e⟩ := List.any_eq_true.mp h
  obtain ⟨e1, e2⟩ := Bool.and_eq_true_iff.mp e
  have e3 := eq_of_beq e1
  have T := hT q hq
  rw [e3] at T
  exact ⟨T.cls, T.no f (List.contains_iff_mem.mp e2)⟩
theorem me_fld {tab : Tab} {f : Str} (hK : X.K = K) (hT : CFs K tab) (he : ME X K E e ma) (hb : attributeBase e f X.env (eval e X.env) = eval e X.env := by rfl) : ME X K E (.Attribute e f pos) (mFld tab f ma) := PE.imp (pe_fld he hb) (by
  subst hK
  rintro σ H Q ⟨ρ, S, env, sr, er, h⟩
  refine run_bind (R2 := rV X.K) sr er h fun ρ1 S1 H1 x v t1 sr1 er1 hx h1 => ?_
  have hw := view_ok sr1 hx
  have h2 : (match view S1 x with
    | .ins C ns ds => (M.grd (fldOk tab C f)).bind fun _ => (match lookN f ns ds with | some d => M.pure d | none => M.fail)
    | _ => M.fail).run S1 (post X.K (rV X.K) ρ1 H1 Q) (epost X.K ρ1 H1 E) := h1
  revert hw h2
  generalize view S1 x = x'
  intro hw h2
  cases hw with
  | @ins a dx C fs ds r q =>
    obtain ⟨g1, h3⟩ := grd_run h2
    have h4 : (match lookN f (fs.map Prod.fst) ds with | some d => M.pure d | none => M.fail).run S1 (post X.K (rV X.K) ρ1 H1 Q) (epost X.K ρ1 H1 E) := h3
    cases z : lookN f (fs.map Prod.fst) ds with
    | none => rw [z] at h4; exact h4.elim
    | some d =>
      rw [z] at h4
      obtain ⟨u, e1, r1⟩ := lookN_ok q z
      obtain ⟨c1, c2⟩ := fldOk_cf hT g1
      exact ⟨a, _, dx, fs, u, rfl, r, c1, c2, e1, h4 ρ1 H1 u Step.refl sr1 r1⟩
  | _ => exact h2.elim)
/-! ### promises -/
def spM (K : PySem.W.Frag) (g : List D → M D) : Sp := fun vs H Q E => ∃ (ρ : Rs) (S : List SO) (ds : List D), SR K ρ S H ∧ VRs K H ρ ds vs ∧ (g ds).run S (post K (rV K) ρ H Q) (epost K ρ H E)
/-- a def that may be called by its name; dfl: what fills up -/
structure Cl (P : Program) (w : World) (K : PySem.W.Frag) (mg : Str → Option Value) (base : Heap) (x : Str) (k : Nat) (dfl : List D) (g : List D → M D) : Prop where
  ex : ∃ (f : Addr) (fd : FuncData) (ps : List Str) (dvs : List V) (ds : List Value), FnOk P w K mg base (L2.CX P w) k f fd ps (spM K g) ∧ mg x = some (.ref f) ∧ PySem.W.keepIn K (.ref f) = true ∧ Binds K fd ps ds ∧ Vals dvs ds ∧ ∀ H ρ, VRs K H ρ dfl dvs
def mCallD (g : List D → M D) (dfl : List D) (a : Env → M (List D)) : Env → M D := fun env => (a env).bind fun ds => g (ds ++ dfl)
theorem me_callD {k : Nat} {dfl : List D} {g : List D → M D} (C : Cl X.prog X.w X.K X.mg X.base x k dfl g) (hK : X.K = K) (hr : Room k X.A) (hg : Gl X x) (hx : Passes (L2.CX X.prog X.w) X E) (ha : MA X K E (e :: es) ms) (hdb : (x == ("__debug__" : Str)) = false := by decide)
    (he : starEach (e :: es) X.env = (false, eval e X.env) :: starEach es X.env := by rfl) (hpl : (backTo pos (starEach es X.env)).any (·.1) = false := by rfl) : ME X K E (.Call (.Name x p) (e :: es) [] pos) (mCallD g dfl ms) := by
  obtain ⟨f, fd, ps, dvs, ds, F, hm, hk, hb, hd, hv⟩ := C.ex
  refine PE.imp (pe_call F hr hg hm hk hb hd hx ha hdb he hpl) ?_
  subst hK
  rintro σ H Q ⟨ρ, S, env, sr, er, h⟩
  exact run_bind (R2 := rV X.K) sr er h fun ρ1 S1 H1 x v t1 sr1 er1 hx h1 => ⟨ρ1, S1, _, sr1, VRs.app (hv H1 ρ1) hx, h1⟩
theorem me_call {k : Nat} {g : List D → M D} (C : Cl X.prog X.w X.K X.mg X.base x k [] g) (hK : X.K = K) (hr : Room k X.A) (hg : Gl X x) (hx : Passes (L2.CX X.prog X.w) X E) (ha : MA X K E (e :: es) ms) (hdb : (x == ("__debug__" : Str)) = false := by decide)
    (he : starEach (e :: es) X.env = (false, eval e X.env) :: starEach es X.env := by rfl) (hpl : (backTo pos (starEach es X.env)).any (·.1) = false := by rfl) : ME X K E (.Call (.Name x p) (e :: es) [] pos) (mCall g ms) := by
  have h := me_callD (p := p) (pos := pos) C hK hr hg hx ha hdb he hpl
  have z : mCallD g [] ms = mCall g ms := funext fun env => congrArg (M.bind (ms env)) (funext fun ds => by rw [List.append_nil])
  rw [z] at h
  exact h
theorem me_call0 {k : Nat} {dfl : List D} {g : List D → M D} (C : Cl X.prog X.w X.K X.mg X.base x k dfl g) (hK : X.K = K) (hr : Room k X.A) (hg : Gl X x) (hx : Passes (L2.CX X.prog X.w) X E) (hdb : (x == ("__debug__" : Str)) = false := by decide) :
    ME X K E (.Call (.Name x p) [] [] pos) (fun _ => g dfl) := by
  obtain ⟨f, fd, ps, dvs, ds, F, hm, hk, hb, hd, hv⟩ := C.ex
  refine PE.imp (pe_call0 F hr hg hm hk hb hd hx hdb) ?_
  subst hK
  rintro σ H Q ⟨ρ, S, env, sr, er, h⟩
  exact ⟨ρ, S, dfl, sr, hv H ρ, h⟩
end
/-! ### statements -/
inductive Out where
  | nx (e : Env) | rt (d : D) | bk (e : Env) | ct (e : Env)
def spost (K : PySem.W.Frag) (ρ : Rs) (H : Hp) (D : Ends) : Out → List SO → Prop := fun o S' => ∀ (ρ' : Rs) (H' : Hp), Step ρ H ρ' H' → SR K ρ' S' H' → match o with
  | .nx e => ∀ σ', ER K H' ρ' e σ' → D.nx σ' H'
  | .bk e => ∀ σ', ER K H' ρ' e σ' → D.bk σ' H'
  | .ct e => ∀ σ', ER K H' ρ' e σ' → D.ct σ' H'
  | .rt d => ∀ v, VR K H' ρ' d v → D.rt v H'
def rdS (K : PySem.W.Frag) (E : XK) (m : Env → M Out) : TS := fun D σ H => ∃ (ρ : Rs) (S : List SO) (env : Env), SR K ρ S H ∧ ER K H ρ env σ ∧ (m env).run S (spost K ρ H D) (epost K ρ H E)
def MS (X : Cx) (K : PySem.W.Frag) (E : XK) (s : Stmt) (m : Env → M Out) : Prop := PS X s (rdS K E m)
def MSs (X : Cx) (K : PySem.W.Frag) (E : XK) (s : List Stmt) (m : Env → M Out) : Prop := PSs X s (rdS K E m)
theorem spost.step {K : PySem.W.Frag} {ρ ρ1 : Rs} {H H1 : Hp} {D : Ends} {o : Out} {S' : List SO} (t : Step ρ H ρ1 H1) (h : spost K ρ H D o S') : spost K ρ1 H1 D o S' := fun ρ' H' u sr => h ρ' H' (t.trans u) sr
theorem run_stepS {K : PySem.W.Frag} {ρ ρ1 : Rs} {H H1 : Hp} {D : Ends} {E : XK} {m : M Out} {S : List SO} (t : Step ρ H ρ1 H1) (h : m.run S (spost K ρ H D) (epost K ρ H E)) : m.run S (spost K ρ1 H1 D) (epost K ρ1 H1 E) := m.mono _ _ _ _ _ (fun _ _ q => q.step t) (fun _ _ q => q.step t) h
theorem spost.out {K : PySem.W.Frag} {ρ : Rs} {H : Hp} {D D' : Ends} {o : Out} {S' : List SO} (h : spost K ρ H D o S') (hn : ∀ e, o ≠ .nx e) (hb : D'.bk = D.bk) (hc : D'.ct = D.ct) (hr : D'.rt = D.rt) : spost K ρ H D' o S' := fun ρ' H' u sr => by
  have z := h ρ' H' u sr
  cases o with
  | nx e => exact absurd rfl (hn e)
  | rt d => rw [hr]; exact z
  | bk e => rw [hb]; exact z
  | ct e => rw [hc]; exact z
section
variable {X : Cx} {K : PySem.W.Frag} {E : XK} {a b e c o : Expr} {st : Stmt} {sts : List Stmt} {es cs : List Expr} {ma mb : Env → M D} {mt : Env → M Bool} {m1 m2 : Env → M Out} {pos p p2 : Pos} {x : Str}
/-- an expression, then the ends -/
theorem run_bindS {α β : Type} {R : Rs → Hp → α → β → Prop} {ρ : Rs} {S : List SO} {H : Hp} {env : Env} {σ : L2.St} {m : Env → M α} {f : α → M Out} {D : Ends} {C : β → Hp → Prop} (sr : SR K ρ S H) (er : ER K H ρ env σ) (h : ((m env).bind f).run S (spost K ρ H D) (epost K ρ H E))
    (hC : ∀ (ρ1 : Rs) (S1 : List SO) (H1 : Hp) (x : α) (v : β), Step ρ H ρ1 H1 → SR K ρ1 S1 H1 → ER K H1 ρ1 env σ → R ρ1 H1 x v → (f x).run S1 (spost K ρ1 H1 D) (epost K ρ1 H1 E) → C v H1) : rd K R E m σ H C :=
  ⟨ρ, S, env, sr, er, (m env).mono _ _ _ _ _ (fun a S' q ρ1 H1 v t sr1 r => hC ρ1 S' H1 a v t sr1 (er.mono t) r (run_stepS t q)) (fun _ _ q => q) h⟩
def mNext : Env → M Out := fun env => M.pure (.nx env)
def seqK (b : Env → M Out) : Out → M Out
  | .nx e => b e
  | o => M.pure o
def mSeq (a b : Env → M Out) : Env → M Out := fun env => (a env).bind (seqK b)
theorem ms_nil : MSs X K E [] mNext := PSs.imp pss_nil fun D σ H ⟨ρ, S, env, sr, er, h⟩ => h ρ H Step.refl sr σ er
theorem imp_seq {D : Ends} {σ : L2.St} {H : Hp} (h : rdS K E (mSeq m1 m2) D σ H) : tSeq (rdS K E m1) (rdS K E m2) D σ H := by
  obtain ⟨ρ, S, env, sr, er, h⟩ := h
  refine ⟨ρ, S, env, sr, er, (m1 env).mono _ _ _ _ _ (fun o S' q => ?_) (fun _ _ q => q) h⟩
  cases o with
  | nx e => exact fun ρ' H' t sr' σ' er' => ⟨ρ', S', e, sr', er', run_stepS t q⟩
  | rt d => exact spost.out (D' := { D with nx := _ }) (show spost K ρ H D (.rt d) S' from q) (fun _ z => nomatch z) rfl rfl rfl
  | bk e => exact spost.out (D' := { D with nx := _ }) (show spost K ρ H D (.bk e) S' from q) (fun _ z => nomatch z) rfl rfl rfl
  | ct e => exact spost.out (D' := { D with nx := _ }) (show spost K ρ H D (.ct e) S' from q) (fun _ z => nomatch z) rfl rfl rfl
theorem ms_cons (h1 : MS X K E st m1) (h2 : MSs X K E sts m2) : MSs X K E (st :: sts) (mSeq m1 m2) := PSs.imp (pss_cons h1 h2) fun _ _ _ => imp_seq
theorem ms_one (h1 : MS X K E st m1) : MSs X K E [st] m1 := pss_one h1
theorem ms_pass : MS X K E (.Pass pos) mNext := PS.imp ps_pass fun D σ H ⟨ρ, S, env, sr, er, h⟩ => h ρ H Step.refl sr σ er
def mBreak : Env → M Out := fun env => M.pure (.bk env)
def mCont : Env → M Out := fun env => M.pure (.ct env)
theorem ms_break : MS X K E (.Break pos) mBreak := PS.imp ps_break fun D σ H ⟨ρ, S, env, sr, er, h⟩ => h ρ H Step.refl sr σ er
theorem ms_cont : MS X K E (.Continue pos) mCont := PS.imp ps_continue fun D σ H ⟨ρ, S, env, sr, er, h⟩ => h ρ H Step.refl sr σ er
def mExpr (m : Env → M D) : Env → M Out := fun env => (m env).bind fun _ => M.pure (.nx env)
theorem ms_expr (he : ME X K E e ma) (hs : swapsWith e none pos.line X.env = pure false := by rfl) : MS X K E (.Expr e pos) (mExpr ma) := PS.imp (ps_expr he hs) (by
  rintro D σ H ⟨ρ, S, env, sr, er, h⟩
  exact run_bindS (R := rV K) sr er h fun ρ1 S1 H1 x v t1 sr1 er1 hx h1 => h1 ρ1 H1 Step.refl sr1 σ er1)
def mRet (m : Env → M D) : Env → M Out := fun env => (m env).bind fun d => M.pure (.rt d)
theorem ms_ret (he : ME X K E e ma) : MS X K E (.Return (some e) pos) (mRet ma) := PS.imp (ps_ret he) (by
  rintro D σ H ⟨ρ, S, env, sr, er, h⟩
  exact run_bindS (R := rV K) sr er h fun ρ1 S1 H1 x v t1 sr1 er1 hx h1 => h1 ρ1 H1 Step.refl sr1 v hx)
def mRetN : Env → M Out := fun _ => M.pure (.rt .non)
theorem ms_retN : MS X K E (.Return none pos) mRetN := PS.imp ps_retN fun D σ H ⟨ρ, S, env, sr, er, h⟩ => h ρ H Step.refl sr .non .non
def mIfS (c : Env → M Bool) (a b : Env → M Out) : Env → M Out := fun env => (c env).bind fun k => cond k (a env) (b env)
theorem ms_if {as bs : List Stmt} (hc : MT X K E c mt) (ha : MSs X K E as m1) (hb : MSs X K E bs m2) : MS X K E (.If c as bs pos) (mIfS mt m1 m2) := PS.imp (ps_if hc ha hb) (by
  rintro D σ H ⟨ρ, S, env, sr, er, h⟩
  refine run_bindS (R := rB) sr er h fun ρ1 S1 H1 x v t1 sr1 er1 hx h1 => ?_
  cases hx
  cases x with
  | true => exact iteT ⟨ρ1, S1, env, sr1, er1, h1⟩
  | false => exact iteF ⟨ρ1, S1, env, sr1, er1, h1⟩)
/-! ### targets -/
def setS : L2.St → List Nat → List V → L2.St
  | σ, i :: is, v :: vs => setS (σ.set i (some v)) is vs
  | σ, _, _ => σ
def setE : Env → List Nat → List D → Env
  | σ, i :: is, v :: vs => setE (σ.set i (some v)) is vs
  | σ, _, _ => σ
theorem ER.puts {H : Hp} {ρ : Rs} : ∀ {is : List Nat} {ds : List D} {vs : List V} {env : Env} {σ : L2.St}, ER K H ρ env σ → VRs K H ρ ds vs → ER K H ρ (setE env is ds) (setS σ is vs)
  | [], _, _, _, _, h, _ => h
  | _ :: _, _, _, _, _, h, .nil => h
  | i :: is, _, _, _, _, h, .cons p q => ER.puts (is := is) (h.put p) q
def rdG (K : PySem.W.Frag) (ix : List Nat) (g : D → M (List D)) : TG := fun v σ H Q => ∃ (ρ : Rs) (S : List SO) (d : D), SR K ρ S H ∧ VR K H ρ d v ∧ (g d).run S (fun ds S' => ∀ (ρ' : Rs) (H' : Hp) (ws : List V), Step ρ H ρ' H' → SR K ρ' S' H' → VRs K H' ρ' ds ws → ws.length = ix.length → Q (setS σ ix ws) H') (fun _ _ => False)
def rdGs (K : PySem.W.Frag) (ix : List Nat) (g : List D → M (List D)) : TGs := fun vs σ H Q => ∃ (ρ : Rs) (S : List SO) (ds : List D), SR K ρ S H ∧ VRs K H ρ ds vs ∧ (g ds).run S (fun ds S' => ∀ (ρ' : Rs) (H' : Hp) (ws : List V), Step ρ H ρ' H' → SR K ρ' S' H' → VRs K H' ρ' ds ws → ws.length = ix.length → Q (setS σ ix ws) H') (fun _ _ => False)
def MG (X : Cx) (K : PySem.W.Frag) (t : Expr) (ix : List Nat) (g : D → M (List D)) : Prop := PG X t (rdG K ix g)
def MGs (X : Cx) (K : PySem.W.Frag) (ts : List Expr) (ix : List Nat) (g : List D → M (List D)) : Prop := PGs X ts (rdGs K ix g)
theorem PG.imp {t : Expr} {g g' : TG} (h : PG X t g) (i : ∀ v σ H Q, g' v σ H Q → g v σ H Q) : PG X t g' := ⟨fun pins s σ H v u Q I r q => h.run pins s σ H v u Q I r (i v σ H Q q)⟩
theorem PGs.imp {t : List Expr} {g g' : TGs} (h : PGs X t g) (i : ∀ v σ H Q, g' v σ H Q → g v σ H Q) : PGs X t g' := ⟨fun pins s σ H v u Q I r q => h.run pins s σ H v u Q I r (i v σ H Q q)⟩
end
end ME
namespace ME
open PySem PySem.Spec PyProof.Rows L2
namespace M
variable {α : Type}
/-- nothing is raised -/
def noX (m : M α) : M α := ⟨fun S Q _ => m.run S Q fun _ _ => False, fun S Q Q' E E' h g q => m.mono S _ _ _ _ h (fun _ _ z => z) q⟩
end M
section
variable {X : Cx} {K : PySem.W.Frag} {E : XK} {a b e c o t : Expr} {st : Stmt} {sts : List Stmt} {es cs ts : List Expr} {ma mb : Env → M D} {mt : Env → M Bool} {m1 m2 : Env → M Out} {pos p p2 : Pos} {x : Str}
/-! ### targets -/
def gNm (d : D) : M (List D) := M.pure [d]
theorem mg_name {i : Nat} (h : PG X t (gName i)) : MG X K t [i] gNm := PG.imp h (by
  rintro v σ H Q ⟨ρ, S, d, sr, r, h⟩
  exact h ρ H [v] Step.refl sr (.cons r .nil) rfl)
def gsNil : List D → M (List D)
  | [] => M.pure []
  | _ => M.fail
def gsCons (g : D → M (List D)) (gs : List D → M (List D)) : List D → M (List D)
  | d :: ds => (g d).bind fun xs => (gs ds).bind fun ys => M.pure (xs ++ ys)
  | _ => M.fail
def gTp (n : Nat) (gs : List D → M (List D)) : D → M (List D)
  | .tup ds => (M.grd (ds.length == n)).bind fun _ => gs ds
  | _ => M.fail
theorem setS_app : ∀ {i1 i2 : List Nat} {w1 w2 : List V} {σ : L2.St}, w1.length = i1.length → setS σ (i1 ++ i2) (w1 ++ w2) = setS (setS σ i1 w1) i2 w2
  | [], _, [], _, _, _ => rfl
  | i :: is, _, w :: ws, _, _, h => setS_app (i1 := is) (w1 := ws) (by simpa using h)
theorem mgs_nil : MGs X K [] [] gsNil := PGs.imp pgs_nil (by
  rintro vs σ H Q ⟨ρ, S, ds, sr, r, h⟩
  cases r with
  | nil => exact ⟨rfl, h ρ H [] Step.refl sr .nil rfl⟩
  | cons _ _ => exact h.elim)
theorem VRs.split {H : Hp} {ρ : Rs} : ∀ {ds es : List D} {ws : List V}, VRs K H ρ (ds ++ es) ws → ∃ w1 w2, ws = w1 ++ w2 ∧ VRs K H ρ ds w1 ∧ VRs K H ρ es w2
  | [], _, ws, h => ⟨[], ws, rfl, .nil, h⟩
  | d :: ds, es, w :: ws, .cons p q => by
    obtain ⟨w1, w2, e, h1, h2⟩ := VRs.split q
    exact ⟨w :: w1, w2, by rw [e]; rfl, .cons p h1, h2⟩
theorem mgs_cons {i1 i2 : List Nat} {g : D → M (List D)} {gs : List D → M (List D)} (h1 : MG X K t i1 g) (h2 : MGs X K ts i2 gs) (hs : (assignEach (t :: ts) X.env).map (·.2) = assign t X.env :: (assignEach ts X.env).map (·.2) := by rfl) : MGs X K (t :: ts) (i1 ++ i2) (gsCons g gs) := PGs.imp (pgs_cons h1 h2 hs) (by
  rintro vs σ H Q ⟨ρ, S, ds, sr, r, h⟩
  cases r with
  | nil => exact h.elim
  | @cons v vs d ds p q =>
    refine ⟨v, vs, rfl, ρ, S, d, sr, p, (g d).mono _ _ _ _ _ (fun xs S1 h1 ρ1 H1 w1 t1 sr1 r1 l1 => ?_) (fun _ _ z => z) h⟩
    refine ⟨ρ1, S1, ds, sr1, q.mono t1, (gs ds).mono _ _ _ _ _ (fun ys S2 h2 ρ2 H2 w2 t2 sr2 r2 l2 => ?_) (fun _ _ z => z) h1⟩
    rw [← setS_app l1]
    exact h2 ρ2 H2 (w1 ++ w2) (t1.trans t2) sr2 (r2.app (r1.mono t2)) (by rw [List.length_append, List.length_append, l1, l2]))
theorem mg_tup {k : Nat} {ix : List Nat} {gs : List D → M (List D)} {n : Nat} (hc : X.calm = true) (hK : X.K = K) (h : MGs X K es ix gs) (hn : (assignEach es X.env).length = n := by rfl) (hst : (assignEach es X.env).findIdx? (·.1) = none := by rfl) : MG X K (.Tuple es k pos) ix (gTp n gs) := PG.imp (pg_tup hc h hn hst) (by
  subst hK
  rintro v σ H Q ⟨ρ, S, d, sr, r, h⟩
  cases r with
  | @tup a vs ds e q =>
    obtain ⟨g1, h⟩ := grd_run h
    exact ⟨a, vs, rfl, e.sq, by rw [q.len]; exact eq_of_beq g1, ρ, S, ds, sr, q, h⟩
  | _ => exact h.elim)
/-! ### = -/
def mAsg (ix : List Nat) (m : Env → M D) (g : D → M (List D)) : Env → M Out := fun env => (m env).bind fun d => (M.noX (g d)).bind fun ds => M.pure (.nx (setE env ix ds))
theorem imp_asg {ix : List Nat} {g : D → M (List D)} {D : Ends} {σ : L2.St} {H : Hp} (h : rdS K E (mAsg ix ma g) D σ H) : tAsg (rd K (rV K) E ma) (rdG K ix g) D σ H := by
  obtain ⟨ρ, S, env, sr, er, h⟩ := h
  refine run_bindS (R := rV K) sr er h fun ρ1 S1 H1 x v t1 sr1 er1 hx h1 => ?_
  refine ⟨ρ1, S1, x, sr1, hx, (g x).mono _ _ _ _ _ (fun ds S2 q ρ2 H2 ws t2 sr2 r2 _ => ?_) (fun _ _ z => z) h1⟩
  exact q ρ2 H2 t2 sr2 _ (ER.puts (er1.mono t2) r2)
theorem ms_asg {tg : Expr} {ix : List Nat} {g : D → M (List D)} (he : ME X K E e ma) (hg : MG X K tg ix g) (hs : swapsWithSole [tg] e pos.line X.env = pure false := by rfl) (hw : swappedStores [tg] e X.env = pure none := by rfl) (h1 : (assignEach [tg] X.env).map (·.2) = [assign tg X.env] := by rfl) : MS X K E (.Assign [tg] e pos) (mAsg ix ma g) :=
  PS.imp (ps_asg he hg hs hw h1) fun _ _ _ => imp_asg
def mSet (i : Nat) (m : Env → M D) : Env → M Out := fun env => (m env).bind fun d => M.pure (.nx (env.set i (some d)))
theorem imp_set {i : Nat} {D : Ends} {σ : L2.St} {H : Hp} (h : rdS K E (mSet i ma) D σ H) : tAsg (rd K (rV K) E ma) (gName i) D σ H := by
  obtain ⟨ρ, S, env, sr, er, h⟩ := h
  exact run_bindS (R := rV K) sr er h fun ρ1 S1 H1 x v t1 sr1 er1 hx h1 => h1 ρ1 H1 Step.refl sr1 _ (er1.put hx)
theorem ms_set {i : Nat} {m : Env → M D} (h : PS X st (tAsg (rd K (rV K) E m) (gName i))) : MS X K E st (mSet i m) := PS.imp h fun _ _ _ => imp_set
/-- a, b = e1, e2 -/
def mPar (i j : Nat) (m : Env → M (List D)) : Env → M Out := fun env => (m env).bind fun ds => match ds with
  | [x, y] => M.pure (.nx ((env.set i (some x)).set j (some y)))
  | _ => M.fail
theorem ms_par {i j : Nat} {ms : Env → M (List D)} (h : PS X st (tPar i j (rd K (rVs K) E ms))) : MS X K E st (mPar i j ms) := PS.imp h (by
  rintro D σ H ⟨ρ, S, env, sr, er, h⟩
  refine run_bindS (R := rVs K) sr er h fun ρ1 S1 H1 x v t1 sr1 er1 hx h1 => ?_
  match x, v, hx, h1 with
  | [x, y], [v, w], .cons hx (.cons hy .nil), h1 => exact ⟨v, w, rfl, h1 ρ1 H1 Step.refl sr1 _ ((er1.put hx).put hy)⟩)
/-! ### what is walked -/
def ItR (K : PySem.W.Frag) (J : It) (ds : List D) (ρ : Rs) (H : Hp) : Prop := ∃ (G : Hp → Prop) (Y : Nat → Hp → V → Hp → Prop), Walk J ds.length G Y ∧ (∀ ρ' H', Step ρ H ρ' H' → G H') ∧
  ∀ (i : Nat) (d : D) (ρ' : Rs) (H' : Hp) (x : V) (H'' : Hp), Step ρ H ρ' H' → ds[i]? = some d → Y i H' x H'' → (∀ S, SR K ρ' S H' → Step ρ' H' ρ' H'' ∧ SR K ρ' S H'' ∧ VR K H'' ρ' d x)
def rdI (K : PySem.W.Frag) (E : XK) (m : Env → M (List D)) : TI := fun σ H R => ∃ (ρ : Rs) (S : List SO) (env : Env), SR K ρ S H ∧ ER K H ρ env σ ∧ (m env).run S (fun ds S' => ∀ (ρ' : Rs) (H' : Hp) (J : It), Step ρ H ρ' H' → SR K ρ' S' H' → ItR K J ds ρ' H' → R J H') (epost K ρ H E)
def MI (X : Cx) (K : PySem.W.Frag) (E : XK) (tg it : Expr) (m : Env → M (List D)) : Prop := PI X tg it (rdI K E m)
theorem PI.imp {tg it : Expr} {w w' : TI} (h : PI X tg it w) (i : ∀ σ H R, w' σ H R → w σ H R) : PI X tg it w' := ⟨fun pins s σ H R I q => h.run pins s σ H R I (i σ H R q)⟩
/-! ### for -/
def forGo (ix : List Nat) (g : D → M (List D)) (body : Env → M Out) : List D → Env → M Out
  | [], env => M.pure (.nx env)
  | d :: ds, env => (M.noX (g d)).bind fun bs => (body (setE env ix bs)).bind fun o => match o with
    | .nx e => forGo ix g body ds e
    | .ct e => forGo ix g body ds e
    | .bk e => M.pure (.nx e)
    | .rt d => M.pure (.rt d)
def mFor (it : Env → M (List D)) (ix : List Nat) (g : D → M (List D)) (body : Env → M Out) : Env → M Out := fun env => (it env).bind fun ds => forGo ix g body ds env
theorem imp_for {it : Env → M (List D)} {ix : List Nat} {g : D → M (List D)} {body : Env → M Out} {D : Ends} {σ : L2.St} {H : Hp} (h : rdS K E (mFor it ix g body) D σ H) : tFor (rdI K E it) (rdG K ix g) (rdS K E body) D σ H := by
  obtain ⟨ρ, S, env, sr, er, h⟩ := h
  refine ⟨ρ, S, env, sr, er, (it env).mono _ _ _ _ _ (fun ds S1 h1 ρ1 H1 J t1 sr1 hJ => ?_) (fun _ _ q => q) h⟩
  obtain ⟨G, Y, w, hG, hY⟩ := hJ
  refine for_it w (fun i σ' H' => ∃ (ρi : Rs) (Si : List SO) (ei : Env), Step ρ1 H1 ρi H' ∧ SR K ρi Si H' ∧ ER K H' ρi ei σ' ∧ (forGo ix g body (ds.drop i) ei).run Si (spost K ρi H' D) (epost K ρi H' E))
    ⟨ρ1, S1, env, Step.refl, sr1, er.mono t1, run_stepS t1 h1⟩ (fun i σ' H' _ ⟨ρi, Si, ei, ti, _⟩ => hG ρi H' ti) ?_ ?_
  · rintro i x σ' H' H'' hi ⟨ρi, Si, ei, ti, sri, eri, hr⟩ y
    obtain ⟨t2, sr2, r2⟩ := hY i (ds[i]'hi) ρi H' x H'' ti (List.getElem?_eq_getElem hi) y Si sri
    rw [List.drop_eq_getElem_cons hi] at hr
    refine ⟨ρi, Si, ds[i]'hi, sr2, r2, (g (ds[i]'hi)).mono _ _ _ _ _ (fun bs S3 h3 ρ3 H3 ws t3 sr3 r3 _ => ?_) (fun _ _ z => z) hr⟩
    have t03 := t2.trans t3
    refine ⟨ρ3, S3, _, sr3, ER.puts ((eri.mono t2).mono t3) r3, (body _).mono _ _ _ _ _ (fun o S4 h4 => ?_) (fun _ _ q => q.step t03) h3⟩
    cases o with
    | nx e4 => exact fun ρ4 H4 t4 sr4 σ4 er4 => ⟨ρ4, S4, e4, (ti.trans t03).trans t4, sr4, er4, run_stepS (t03.trans t4) h4⟩
    | ct e4 => exact fun ρ4 H4 t4 sr4 σ4 er4 => ⟨ρ4, S4, e4, (ti.trans t03).trans t4, sr4, er4, run_stepS (t03.trans t4) h4⟩
    | bk e4 => exact fun ρ4 H4 t4 sr4 σ4 er4 => h4 ρ4 H4 (t03.trans t4) sr4 σ4 er4
    | rt d4 => exact fun ρ4 H4 t4 sr4 v r4 => h4 ρ4 H4 (t03.trans t4) sr4 v r4
  · rintro σ' H' ⟨ρi, Si, ei, ti, sri, eri, hr⟩
    rw [List.drop_length] at hr
    exact hr ρi H' Step.refl sri σ' eri
theorem ms_for {tg iter : Expr} {body : List Stmt} {it : Env → M (List D)} {ix : List Nat} {g : D → M (List D)} {mbd : Env → M Out} (h : ∀ (wi : TI) (gg : TG) (tb : TS), PI X tg iter wi → PG X tg gg → PSs X body tb → PS X st (tFor wi gg tb)) (hi : MI X K E tg iter it) (hg : MG X K tg ix g) (hb : MSs X K E body mbd) :
    MS X K E st (mFor it ix g mbd) := PS.imp (h _ _ _ hi hg hb) fun _ _ _ => imp_for
/-! ### comprehensions -/
def wipeE (env : Env) : List Nat → Env
  | [] => env
  | v :: vs => (wipeE env vs).set v none
theorem ER.wipe {H : Hp} {ρ : Rs} {env : Env} {σ : L2.St} (h : ER K H ρ env σ) : ∀ vs : List Nat, ER K H ρ (wipeE env vs) (L2.wipe σ vs)
  | [] => h
  | v :: vs => by
    have z := ER.wipe h vs
    refine ⟨by show ((wipeE env vs).set v none).length = ((L2.wipe σ vs).set v none).length; rw [List.length_set, List.length_set]; exact z.1, fun i d e => ?_⟩
    have e' : ((wipeE env vs).set v none)[i]? = some (some d) := e
    by_cases q : v = i
    · subst q
      rw [List.getElem?_set] at e'
      split at e'
      · split at e' <;> cases e'
      · exact absurd rfl ‹_›
    · rw [List.getElem?_set_ne q] at e'
      obtain ⟨u, e1, r⟩ := z.2 i d e'
      exact ⟨u, by show ((L2.wipe σ vs).set v none)[i]? = _; rw [List.getElem?_set_ne q]; exact e1, r⟩
theorem wipe_at {σ : L2.St} {x : Option V} {v : Nat} : ∀ {vs : List Nat}, v ∈ vs → L2.wipe (σ.set v x) vs = L2.wipe σ vs
  | w :: vs, h => by
    show (L2.wipe (σ.set v x) vs).set w none = (L2.wipe σ vs).set w none
    by_cases q : v ∈ vs
    · rw [wipe_at q]
    · rcases List.mem_cons.mp h with e | e
      · subst e
        have z : ∀ us : List Nat, v ∉ us → L2.wipe (σ.set v x) us = (L2.wipe σ us).set v x := by
          intro us
          induction us with
          | nil => intro _; rfl
          | cons u us ih =>
            intro hu
            show (L2.wipe (σ.set v x) us).set u none = ((L2.wipe σ us).set u none).set v x
            rw [ih fun y => hu (List.mem_cons_of_mem _ y), List.set_comm _ _ fun y => hu (by rw [y]; exact List.mem_cons_self)]
        rw [z vs q, List.set_set]
      · exact absurd e q
theorem wipe_puts {vs : List Nat} : ∀ {is : List Nat} {ws : List V} {σ : L2.St}, (∀ i ∈ is, i ∈ vs) → L2.wipe (setS σ is ws) vs = L2.wipe σ vs
  | [], _, _, _ => rfl
  | _ :: _, [], _, _ => rfl
  | i :: is, w :: ws, σ, h => by
    show L2.wipe (setS (σ.set i (some w)) is ws) vs = _
    rw [wipe_puts fun j hj => h j (List.mem_cons_of_mem _ hj), wipe_at (h i List.mem_cons_self)]
theorem wipe_wipe {σ : L2.St} (vs : List Nat) : L2.wipe (L2.wipe σ vs) vs = L2.wipe σ vs := by
  have z : ∀ us : List Nat, (∀ u ∈ us, u ∈ vs) → L2.wipe (L2.wipe σ us) vs = L2.wipe σ vs := by
    intro us
    induction us with
    | nil => intro _; rfl
    | cons u us ih =>
      intro h
      show L2.wipe ((L2.wipe σ us).set u none) vs = _
      rw [wipe_at (h u List.mem_cons_self), ih fun y hy => h y (List.mem_cons_of_mem _ hy)]
  exact z vs fun _ h => h
def lcGo (ix : List Nat) (g : D → M (List D)) (t : Env → M Bool) (e : Env → M D) (env : Env) : List D → M (List D)
  | [] => M.pure []
  | d :: ds => (g d).bind fun bs => (t (setE env ix bs)).bind fun k => cond k ((e (setE env ix bs)).bind fun y => (lcGo ix g t e env ds).bind fun r => M.pure (y :: r)) (lcGo ix g t e env ds)
def mLc (it : Env → M (List D)) (ix : List Nat) (g : D → M (List D)) (t : Env → M Bool) (e : Env → M D) (vs : List Nat) : Env → M D := fun env => (it env).bind fun ds => (M.grd (decide (ds.length < sizeLine))).bind fun _ => (M.noX (lcGo ix g t e (wipeE env vs) ds)).bind fun r => M.pure (.lst r)
/-- an address set aside -/
def Rs.put (ρ : Rs) (a : Addr) : Rs := ⟨ρ.ob, a :: ρ.rs⟩
end
section
variable {K : PySem.W.Frag} {ρ ρ1 : Rs} {H H1 : Hp} {a : Addr} {S : List SO}
theorem VR.aside {d : D} {v : V} (h : VR K H ρ d v) (ha : H a = none) : VR K H (ρ.put a) d v := by
  have fz : ∀ b o, H b = some o → ρ.fz b → (ρ.put a).fz b := fun b o e f => ⟨f.1, fun z => by
    rcases List.mem_cons.mp (show b ∈ a :: ρ.rs from z) with y | y
    · rw [y, ha] at e; cases e
    · exact f.2 y⟩
  refine VR.rec (K := K) (H := H) (ρ := ρ) (motive_1 := fun d v _ => VR K H (ρ.put a) d v) (motive_2 := fun ds vs _ => VRs K H (ρ.put a) ds vs) .non .bl .int .str .ty .raw (fun e => .ob e) (fun {b xs ds} e _ q => .tup ?_ q) (fun e _ q => .lst ⟨fz _ _ e.2 e.1, e.2⟩ q)
    (fun f e _ q => .dct (fz _ _ e f) e q) (fun f e _ q => .ins (fz _ _ e f) e q) (fun {b ns} e => .scr ?_) (fun {b xs ds} e _ q => .lsk ?_ q) .nil (fun _ _ p q => .cons p q) h
  rcases e with ⟨f, r⟩ | r
  · refine .inl ⟨?_, r⟩
    rcases r with r | ⟨o, r⟩
    · exact fz _ _ r f
    · exact fz _ _ r f
  · exact .inr r
  rcases e with ⟨f, r⟩ | r
  · refine .inl ⟨?_, r⟩
    rcases r with r | ⟨o, r⟩
    · exact fz _ _ r f
    · exact fz _ _ r f
  · exact .inr r
  rcases e with ⟨f, r⟩ | r
  · refine .inl ⟨?_, r⟩
    rcases r with r | ⟨o, r⟩
    · exact fz _ _ r f
    · exact fz _ _ r f
  · exact .inr r
/-- fewer addresses set aside -/
structure Less (ρ ρ2 : Rs) : Prop where
  ob : ρ2.ob = ρ.ob
  rs : ∀ a ∈ ρ2.rs, a ∈ ρ.rs
theorem VR.back {ρ2 : Rs} {d : D} {v : V} (l : Less ρ ρ2) (h : VR K H ρ d v) : VR K H ρ2 d v := by
  have fz : ∀ b, ρ.fz b → ρ2.fz b := fun b f => ⟨by rw [l.ob]; exact f.1, fun z => f.2 (l.rs _ z)⟩
  exact VR.rec (K := K) (H := H) (ρ := ρ) (motive_1 := fun d v _ => VR K H ρ2 d v) (motive_2 := fun ds vs _ => VRs K H ρ2 ds vs) .non .bl .int .str .ty .raw (fun e => .ob (by rw [l.ob]; exact e)) (fun {b xs ds} e _ q => .tup (e.elim (fun h => .inl ⟨fz _ h.1, h.2⟩) .inr) q) (fun e _ q => .lst ⟨fz _ e.1, e.2⟩ q)
    (fun f e _ q => .dct (fz _ f) e q) (fun f e _ q => .ins (fz _ f) e q) (fun e => .scr (e.elim (fun h => .inl ⟨fz _ h.1, h.2⟩) .inr)) (fun e _ q => .lsk (e.elim (fun h => .inl ⟨fz _ h.1, h.2⟩) .inr) q) .nil (fun _ _ p q => .cons p q) h
theorem VRs.aside (ha : H a = none) : ∀ {ds : List D} {vs : List V}, VRs K H ρ ds vs → VRs K H (ρ.put a) ds vs
  | _, _, .nil => .nil
  | _, _, .cons p q => .cons (p.aside ha) (VRs.aside ha q)
theorem VRs.back {ρ2 : Rs} (l : Less ρ ρ2) : ∀ {ds : List D} {vs : List V}, VRs K H ρ ds vs → VRs K H ρ2 ds vs
  | _, _, .nil => .nil
  | _, _, .cons p q => .cons (p.back l) (VRs.back l q)
theorem ER.aside {env : Env} {σ : L2.St} (h : ER K H ρ env σ) (ha : H a = none) : ER K H (ρ.put a) env σ := ⟨h.1, fun i d e => let ⟨v, e1, r⟩ := h.2 i d e; ⟨v, e1, r.aside ha⟩⟩
theorem OR.aside {b : Addr} {o : SO} (h : OR K H ρ b o) (ha : H a = none) : OR K H (ρ.put a) b o := by
  cases o with
  | lst ds => obtain ⟨vs, h1, h2⟩ := h; exact ⟨vs, h1, h2.aside ha⟩
  | dct ks ds => obtain ⟨vs, h1, h2, h3⟩ := h; exact ⟨vs, h1, h2, h3.aside ha⟩
  | ins C ns ds => obtain ⟨dx, fs, h1, h2, h3⟩ := h; exact ⟨dx, fs, h1, h2, h3.aside ha⟩
  | pen n =>
    obtain ⟨c, ns, x, r, h1, h2, h3, h4⟩ := h
    refine ⟨c, ns, x, r, h1, ⟨h2.1, fun z => ?_⟩, h3, h4⟩
    rcases List.mem_cons.mp (show c ∈ a :: ρ.rs from z) with y | y
    · rw [y, ha] at h3; cases h3
    · exact h2.2 y
  | tbl T q =>
    obtain ⟨h0, ps, h1, h2, h3⟩ := h
    refine ⟨h0, ps, h1, h2, fun pos cv hc => ?_⟩
    obtain ⟨c, e1, e2, e3⟩ := h3 pos cv hc
    refine ⟨c, e1, ⟨e2.1, fun z => ?_⟩, e3⟩
    rcases List.mem_cons.mp (show c ∈ a :: ρ.rs from z) with y | y
    · rw [y, ha] at e3; cases e3
    · exact e2.2 y
theorem OR.back {ρ2 : Rs} {b : Addr} {o : SO} (l : Less ρ ρ2) (h : OR K H ρ b o) : OR K H ρ2 b o := by
  have fz : ∀ b, ρ.fz b → ρ2.fz b := fun b f => ⟨by rw [l.ob]; exact f.1, fun z => f.2 (l.rs _ z)⟩
  cases o with
  | lst ds => obtain ⟨vs, h1, h2⟩ := h; exact ⟨vs, h1, h2.back l⟩
  | dct ks ds => obtain ⟨vs, h1, h2, h3⟩ := h; exact ⟨vs, h1, h2, h3.back l⟩
  | ins C ns ds => obtain ⟨dx, fs, h1, h2, h3⟩ := h; exact ⟨dx, fs, h1, h2, h3.back l⟩
  | pen n =>
    obtain ⟨c, ns, x, r, h1, h2, h3, h4⟩ := h
    exact ⟨c, ns, x, r, h1, fz _ h2, h3, h4⟩
  | tbl T q =>
    obtain ⟨h0, ps, h1, h2, h3⟩ := h
    refine ⟨h0, ps, h1, h2, fun pos cv hc => ?_⟩
    obtain ⟨c, e1, e2, e3⟩ := h3 pos cv hc
    exact ⟨c, e1, fz _ e2, e3⟩
/-- a new list is laid and set aside -/
theorem SR.aside {o : HO} (sr : SR K ρ S H) (ha : H a = none) (wo : plainO o) : SR K (ρ.put a) S (upd H a o) := by
  have s1 : SR K (ρ.put a) S H → SR K (ρ.put a) S H := id
  have nw := sr.new ha
  have st : Step (ρ.put a) H (ρ.put a) (upd H a o) := Step.add ha
  refine ⟨sr.nd, sr.len, fun i b x h1 h2 => ?_, fun b hb => ?_, fun b hb => ?_⟩
  · exact ((sr.ok i b x h1 h2).aside ha).mono st (upd_ne fun z => nw.1 (z ▸ List.mem_of_getElem? h1))
  · obtain ⟨x, e⟩ := sr.live b hb
    exact ⟨x, by rw [upd_ne (ne_of_none e ha)]; exact e⟩
  · rcases List.mem_cons.mp (show b ∈ a :: ρ.rs from hb) with y | y
    · rw [y]
      exact ⟨⟨o, wo, upd_same⟩, nw.1⟩
    · obtain ⟨⟨x, w, e⟩, n⟩ := sr.set b y
      exact ⟨⟨x, w, st.keep b x n w.ntb e⟩, n⟩
theorem SR.back {ρ2 : Rs} (l : Less ρ ρ2) (sr : SR K ρ S H) : SR K ρ2 S H := ⟨by rw [l.ob]; exact sr.nd, by rw [l.ob]; exact sr.len, fun i b x h1 h2 => (sr.ok i b x (by rw [← l.ob]; exact h1) h2).back l, fun b hb => sr.live b (by rw [← l.ob]; exact hb), fun b hb => by rw [l.ob]; exact sr.set b (l.rs b hb)⟩
/-- what is set aside is written -/
theorem SR.write {o : HO} (sr : SR K ρ S H) (ha : a ∈ ρ.rs) (wo : plainO o) : (∀ d v, VR K H ρ d v → VR K (upd H a o) ρ d v) ∧ SR K ρ S (upd H a o) := by
  have na := (sr.set a ha).2
  have k : ∀ b u, b ≠ a → H b = some u → upd H a o b = some u := fun b u n e => by rw [upd_ne n]; exact e
  have nf : ∀ b, ρ.fz b → b ≠ a := fun b f z => f.2 (z ▸ ha)
  have hv : ∀ d v, VR K H ρ d v → VR K (upd H a o) ρ d v := fun d v h => by
    refine VR.rec (K := K) (H := H) (ρ := ρ) (motive_1 := fun d v _ => VR K (upd H a o) ρ d v) (motive_2 := fun ds vs _ => VRs K (upd H a o) ρ ds vs) .non .bl .int .str .ty .raw (fun e => .ob e) (fun {b xs ds} e _ q => .tup ?_ q) (fun e _ q => .lst ⟨e.1, k _ _ (nf _ e.1) e.2⟩ q)
      (fun f e _ q => .dct f (k _ _ (nf _ f) e) q) (fun f e _ q => .ins f (k _ _ (nf _ f) e) q) (fun {b ns} e => .scr ?_) (fun {b xs ds} e _ q => .lsk ?_ q) .nil (fun _ _ p q => .cons p q) h
    rcases e with ⟨f, r⟩ | r
    · refine .inl ⟨f, ?_⟩
      rcases r with r | ⟨u, r⟩
      · exact .inl (k _ _ (nf _ f) r)
      · exact .inr ⟨u, k _ _ (nf _ f) r⟩
    · exact .inr r
    rcases e with ⟨f, r⟩ | r
    · refine .inl ⟨f, ?_⟩
      rcases r with r | ⟨u, r⟩
      · exact .inl (k _ _ (nf _ f) r)
      · exact .inr ⟨u, k _ _ (nf _ f) r⟩
    · exact .inr r
    rcases e with ⟨f, r⟩ | r
    · refine .inl ⟨f, ?_⟩
      rcases r with r | ⟨u, r⟩
      · exact .inl (k _ _ (nf _ f) r)
      · exact .inr ⟨u, k _ _ (nf _ f) r⟩
    · exact .inr r
  have hvs : ∀ ds vs, VRs K H ρ ds vs → VRs K (upd H a o) ρ ds vs := fun ds vs h => by
    induction ds generalizing vs with
    | nil => cases h; exact .nil
    | cons d ds ih => cases h with | cons p q => exact .cons (hv _ _ p) (ih _ q)
  refine ⟨hv, sr.nd, sr.len, fun i b x h1 h2 => ?_, fun b hb => ?_, fun b hb => ⟨?_, (sr.set b hb).2⟩⟩
  · have nb : b ≠ a := fun z => na (z ▸ List.mem_of_getElem? h1)
    have h := sr.ok i b x h1 h2
    cases x with
    | lst ds => obtain ⟨vs, h1, h2⟩ := h; exact ⟨vs, k _ _ nb h1, hvs _ _ h2⟩
    | dct ks ds => obtain ⟨vs, h1, h2, h3⟩ := h; exact ⟨vs, k _ _ nb h1, h2, hvs _ _ h3⟩
    | ins C ns ds => obtain ⟨dx, fs, h1, h2, h3⟩ := h; exact ⟨dx, fs, k _ _ nb h1, h2, hvs _ _ h3⟩
    | pen n =>
      obtain ⟨c, ns, x, r, h1, h2, h3, h4⟩ := h
      exact ⟨c, ns, x, r, k _ _ nb h1, h2, k _ _ (nf _ h2) h3, h4⟩
    | tbl T q =>
      obtain ⟨h0, ps, h1, h2, h3⟩ := h
      refine ⟨h0, ps, k _ _ nb h1, h2, fun pos cv hc => ?_⟩
      obtain ⟨c, e1, e2, e3⟩ := h3 pos cv hc
      exact ⟨c, e1, e2, k _ _ (nf _ e2) e3⟩
  · obtain ⟨x, e⟩ := sr.live b hb
    by_cases z : b = a
    · rw [z]; exact ⟨o, upd_same⟩
    · exact ⟨x, k _ _ z e⟩
  · obtain ⟨x, w, e⟩ := (sr.set b hb).1
    by_cases z : b = a
    · rw [z]; exact ⟨o, wo, upd_same⟩
    · exact ⟨x, w, k _ _ z e⟩
end
end ME
namespace ME
open PySem PySem.Spec PyProof.Rows L2
section
variable {X : Cx} {K : PySem.W.Frag} {E : XK} {a b e c o t : Expr} {st : Stmt} {sts : List Stmt} {es cs ts : List Expr} {ma mb : Env → M D} {mt : Env → M Bool} {m1 m2 : Env → M Out} {pos p p2 : Pos} {x : Str}
/-! ### comprehensions -/
theorem lcGo_none {ix : List Nat} {g : D → M (List D)} {t : Env → M Bool} {e : Env → M D} {env : Env} {d : D} {ds : List D} : lcGo ix g t e env (d :: ds) = (g d).bind fun bs => (t (setE env ix bs)).bind fun k => cond k ((e (setE env ix bs)).bind fun y => (lcGo ix g t e env ds).bind fun r => M.pure (y :: r)) (lcGo ix g t e env ds) := rfl
theorem imp_lc {it : Env → M (List D)} {ix : List Nat} {g : D → M (List D)} {t : Env → M Bool} {e : Env → M D} {vs : List Nat} {σ : L2.St} {H : Hp} {Q : VK} (hix : ∀ i ∈ ix, i ∈ vs) (h : rd K (rV K) E (mLc it ix g t e vs) σ H Q) :
    tLc (rdI K E it) (rdG K ix g) (rd K rB L2.E0 t) (rd K (rV K) L2.E0 e) vs σ H Q := by
  obtain ⟨ρ, S, env, sr, er, h⟩ := h
  refine ⟨ρ, S, env, sr, er, (it env).mono _ _ _ _ _ (fun ds S1 h1 ρ1 H1 J t1 sr1 hJ La hD => ?_) (fun _ _ q => q) h⟩
  obtain ⟨g1, h2⟩ := grd_run h1
  have g1 := of_decide_eq_true g1
  obtain ⟨G, Y, w, hG, hY⟩ := hJ
  have nD := sr1.new hD
  have addD : Step (ρ1.put La) H1 (ρ1.put La) (upd H1 La (.lst [])) := Step.add hD
  refine lc_it w (fun i H' => ∃ (ρi : Rs) (Si : List SO) (acc : List D) (accv : List V), Step ρ1 H1 ρi H' ∧ La ∈ ρi.rs ∧ SR K ρi Si H' ∧ ER K H' ρi (wipeE env vs) (L2.wipe σ vs) ∧ H' La = some (.lst accv) ∧ VRs K H' ρi acc accv ∧ acc.length ≤ i ∧
      (lcGo ix g t e (wipeE env vs) (ds.drop i)).run Si (fun r S' => post K (rV K) ρ1 H1 Q (.lst (acc ++ r)) S') (fun _ _ => False)) ?_ (fun i H' _ ⟨ρi, Si, acc, accv, ti, _⟩ => hG ρi H' ti) ?_ ?_
  · refine ⟨ρ1.put La, S1, [], [], ?_, List.mem_cons_self, sr1.aside hD (.inl ⟨_, rfl⟩), ((((er.mono t1).wipe vs).aside hD).mono addD), upd_same, .nil, Nat.le_refl _, ?_⟩
    · refine ⟨⟨[], by show ρ1.ob = ρ1.ob ++ []; simp, fun a h => nomatch h⟩, fun a h => List.mem_cons_of_mem _ h, fun a h => ?_, addD.keep, addD.live⟩
      rcases List.mem_cons.mp (show a ∈ La :: ρ1.rs from h) with y | y
      · rw [y]; exact .inr (Nn.of hD)
      · exact .inl y
    · refine (lcGo ix g t e (wipeE env vs) (ds.drop 0)).mono _ _ _ _ _ (fun r S' q => ?_) (fun _ _ q => q) h2
      exact post.step t1 (show post K (rV K) ρ H Q (.lst r) S' from q)
  · rintro i x H' H'' hi ⟨ρi, Si, acc, accv, ti, mD, sri, eri, hDi, ra, la, hr⟩ y
    obtain ⟨t2, sr2, r2⟩ := hY i (ds[i]'hi) ρi H' x H'' ti (List.getElem?_eq_getElem hi) y Si sri
    rw [List.drop_eq_getElem_cons hi, lcGo_none] at hr
    have oD := (sri.set La mD).2
    refine ⟨ρi, Si, ds[i]'hi, sr2, r2, (g (ds[i]'hi)).mono _ _ _ _ _ (fun bs S3 h3 ρ3 H3 ws t3 sr3 r3 _ => ⟨?_, ?_⟩) (fun _ _ z => z) hr⟩
    · rw [wipe_puts hix, wipe_wipe]
    have er3 := ER.puts (is := ix) ((eri.mono t2).mono t3) r3
    have t13 := t2.trans t3
    refine ⟨ρ3, S3, _, sr3, er3, (t _).mono _ _ _ _ _ (fun k S4 h4 ρ4 H4 kb t4 sr4 hk => ?_) (fun _ _ z => z.elim) h3⟩
    cases hk
    have t14 := t13.trans t4
    have mD4 := t14.rs La mD
    have hD4 := t14.keep La _ oD ntb_lst hDi
    cases k with
    | true =>
      refine iteT ⟨ρ4, S4, _, sr4, er3.mono t4, (e _).mono _ _ _ _ _ (fun d5 S5 h5 ρ5 H5 v5 t5 sr5 r5 => ?_) (fun _ _ z => z.elim) h4⟩
      have t15 := t14.trans t5
      have mD5 := t15.rs La mD
      have hD5 := t15.keep La _ oD ntb_lst hDi
      obtain ⟨wv, wsr⟩ := SR.write (a := La) (o := .lst (accv ++ [v5])) sr5 mD5 (.inl ⟨_, rfl⟩)
      have wvs : ∀ {ds : List D} {vs : List V}, VRs K H5 ρ5 ds vs → VRs K (upd H5 La (.lst (accv ++ [v5]))) ρ5 ds vs := by
        intro ds
        induction ds with
        | nil => intro vs h; cases h; exact .nil
        | cons d ds ih => intro vs h; cases h with | cons p q => exact .cons (wv _ _ p) (ih q)
      refine ⟨accv, hD5, by rw [ra.len]; omega, ρ5, S5, acc ++ [d5], accv ++ [v5], ?_, mD5, wsr, ?_, upd_same, wvs (VRs.app (.cons r5 .nil) (ra.mono t15)), by rw [List.length_append]; show acc.length + 1 ≤ i + 1; omega, ?_⟩
      · have tt := ti.trans t15
        refine ⟨tt.ob, tt.rs, tt.rsn, fun b u n w z => ?_, fun b u w z => ?_⟩
        · rw [upd_ne (ne_of_none z hD)]
          exact tt.keep b u n w z
        · rw [upd_ne (ne_of_none z hD)]
          exact tt.live b u w z
      · have er5 := eri.mono t15
        exact ⟨er5.1, fun j d ej => let ⟨v, e1, r⟩ := er5.2 j d ej; ⟨v, e1, wv _ _ r⟩⟩
      · refine (lcGo ix g t e (wipeE env vs) (ds.drop (i + 1))).mono _ _ _ _ _ (fun r S' q => ?_) (fun _ _ q => q) h5
        rw [List.append_assoc]
        exact q
    | false => exact iteF ⟨ρ4, S4, acc, accv, ti.trans t14, mD4, sr4, eri.mono t14, hD4, ra.mono t14, by omega, h4⟩
  · rintro H' ⟨ρi, Si, acc, accv, ti, mD, sri, eri, hDi, ra, la, hr⟩
    rw [List.drop_length] at hr
    have hr' : post K (rV K) ρ1 H1 Q (.lst (acc ++ [])) Si := hr
    rw [List.append_nil] at hr'
    have ls : Less ρi ⟨ρi.ob, ρ1.rs⟩ := ⟨rfl, fun a ha => ti.rs a ha⟩
    refine hr' ⟨ρi.ob, ρ1.rs⟩ H' (.ref La) ⟨ti.ob, fun a h => h, fun a h => .inl h, ti.keep, ti.live⟩ (sri.back ls) (.lst ⟨⟨(sri.set La mD).2, nD.2⟩, hDi⟩ (ra.back ls))
def MTs (X : Cx) (K : PySem.W.Frag) (ifs : List Expr) (t : Env → M Bool) : Prop := PTs X ifs (rd K rB L2.E0 t)
def mYes : Env → M Bool := fun _ => M.pure true
theorem PTs.imp {ifs : List Expr} {t t' : TT} (h : PTs X ifs t) (i : ∀ σ H Q, t' σ H Q → t σ H Q) : PTs X ifs t' := ⟨fun p s σ H Q I q => h.run p s σ H Q I (i σ H Q q)⟩
theorem mts_nil : MTs X K [] mYes := PTs.imp pts_nil fun σ H Q ⟨ρ, S, env, sr, er, h⟩ => h ρ H true Step.refl sr rfl
theorem mts_one (h : MT X K L2.E0 c mt) : MTs X K [c] mt := pts_one h
theorem me_lc {elt tg iter : Expr} {ifs : List Expr} {scope : Scope} {own : List (Str × Nat)} {it : Env → M (List D)} {ix : List Nat} {g : D → M (List D)} {t : Env → M Bool} {m : Env → M D} (hc : X.calm = true) (hN : X.N.Nodup) (hi : MI X K E tg iter it) (ok : BlkOk X.N X.env.scope scope own) (hix : ∀ i ∈ ix, i ∈ own.map (·.2))
    (hg : ∀ (s : Shared) (H : Hp) (C : Addr) (cl : List (Str × Addr)) (fp : List Addr), MG (X.blk s H scope (compEnvC scope cl C X.env) fp) K tg ix g) (ht : ∀ (s : Shared) (H : Hp) (C : Addr) (cl : List (Str × Addr)) (fp : List Addr), MTs (X.blk s H scope (compEnvC scope cl C X.env) fp) K ifs t)
    (he : ∀ (s : Shared) (H : Hp) (C : Addr) (cl : List (Str × Addr)) (fp : List Addr), ME (X.blk s H scope (compEnvC scope cl C X.env) fp) K L2.E0 elt m) (hs : ∀ x, foldedSetIterable iter X.env x = pure x := by intro _; rfl) :
    ME X K E (.ListComp elt [⟨tg, iter, ifs, 0⟩] scope pos) (mLc it ix g t m (own.map (·.2))) := PE.imp (pe_lc hc hN hi ok hg ht he hs) fun _ _ _ => imp_lc hix
theorem ms_setLc {i : Nat} {y : Str} {py : Pos} {elt tg iter : Expr} {ifs : List Expr} {scope : Scope} {own : List (Str × Nat)} {spos : Pos} {it : Env → M (List D)} {ix : List Nat} {g : D → M (List D)} {t : Env → M Bool} {m : Env → M D} (hc : X.calm = true) (hN : X.N.Nodup) (hy : X.N[i]? = some y) (hyl : X.env.scope.names.lookup y = some .local)
    (hsw : swapsWith (.ListComp elt [⟨tg, iter, ifs, 0⟩] scope pos) (some (.Name y py)) spos.line X.env = pure true) (hi : MI X K E tg iter it) (ok : BlkOk X.N X.env.scope scope own) (hix : ∀ i ∈ ix, i ∈ own.map (·.2))
    (hg : ∀ (s : Shared) (H : Hp) (C : Addr) (cl : List (Str × Addr)) (fp : List Addr), MG (X.blk s H scope (compEnvC scope cl C X.env) fp) K tg ix g) (ht : ∀ (s : Shared) (H : Hp) (C : Addr) (cl : List (Str × Addr)) (fp : List Addr), MTs (X.blk s H scope (compEnvC scope cl C X.env) fp) K ifs t)
    (he : ∀ (s : Shared) (H : Hp) (C : Addr) (cl : List (Str × Addr)) (fp : List Addr), ME (X.blk s H scope (compEnvC scope cl C X.env) fp) K L2.E0 elt m) (hs : ∀ x, foldedSetIterable iter X.env x = pure x := by intro _; rfl) :
    MS X K E (.Assign [.Name y py] (.ListComp elt [⟨tg, iter, ifs, 0⟩] scope pos) spos) (mSet i (mLc it ix g t m (own.map (·.2)))) := ms_set (PS.imp (ps_setLc hc hN hy hyl hsw hi ok hg ht he hs) fun D σ H h => imp_lc hix h)
/-! ### what is walked -/
theorem itr_list {a : Addr} {vs : List V} {ds : List D} {ρ : Rs} {H : Hp} (f : FzL K H ρ a vs) (r : VRs K H ρ ds vs) : ItR K (Itl K a) ds ρ H := by
  refine ⟨_, _, by rw [← r.len]; exact walk_list (xs := vs), fun ρ' H' t => (f.mono t).sq, fun i d ρ' H' x H'' t hd y S sr => ?_⟩
  obtain ⟨e1, e2⟩ := y
  subst e1
  obtain ⟨v, e3, rv⟩ := (r.mono t).get hd
  rw [e2] at e3
  cases e3
  exact ⟨Step.refl, sr, rv⟩
theorem itr_tup {a : Addr} {vs : List V} {ds : List D} {ρ : Rs} {H : Hp} (f : FzT K H ρ a vs) (r : VRs K H ρ ds vs) : ItR K (Itt K a) ds ρ H := by
  refine ⟨_, _, by rw [← r.len]; exact walk_tup (xs := vs), fun ρ' H' t => (f.mono t).sq, fun i d ρ' H' x H'' t hd y S sr => ?_⟩
  obtain ⟨e1, e2⟩ := y
  subst e1
  obtain ⟨v, e3, rv⟩ := (r.mono t).get hd
  rw [e2] at e3
  cases e3
  exact ⟨Step.refl, sr, rv⟩
/-- a list or a tuple, by what comes -/
theorem pi_lt {tg l : Expr} {tl : TE} (hl : PE X l tl) : PI X tg l (fun σ H R => tl σ H fun x H1 => ∃ a, x = .ref a ∧ (((∃ xs, SqL X.K H1 a xs) ∧ R (Itl X.K a) H1) ∨ ((∃ xs, SqT X.K H1 a xs) ∧ R (Itt X.K a) H1))) := ⟨fun pins s σ H R I h =>
  thn (hl.run pins s σ H _ I h) fun v s1 ⟨x, H1, I1, r1, a, ex, q⟩ => by
    subst ex
    obtain rfl : v = Value.ref a := r1
    have fp : ∀ b ∈ [s1.heap.objs.size], FpOk X pins H1 b := fun b hb => by rw [List.mem_singleton.mp hb]; exact I1.fpOk (Nat.le_refl _) (I1.hok.fresh (Nat.le_refl _))
    rcases q with ⟨⟨xs, hq⟩, q⟩ | ⟨⟨xs, hq⟩, q⟩
    · obtain ⟨its, _, pl, _⟩ := I1.list hq
      exact wpAny_pyIter_list pl.isList ⟨_, _, _, _, H1, rfl, I1.kept (t' := s1.toks) fun b o k => Heap.get?_push_of_some _ k, turn_list a _, ⟨_, Heap.get?_push_size _ rfl, rfl, rfl⟩, fp, q⟩
    · obtain ⟨its, _, pt, _⟩ := I1.tuple hq
      exact wpAny_pyIter_tuple (show s1.heap.IsTuple a its.toArray from pt) ⟨_, _, _, _, H1, rfl, I1.kept (t' := s1.toks) fun b o k => Heap.get?_push_of_some _ k, turn_tuple a _, ⟨_, Heap.get?_push_size _ rfl, rfl, rfl⟩, fp, q⟩⟩
def itm : D → M (List D)
  | .lst ds => M.pure ds
  | .tup ds => M.pure ds
  | _ => M.fail
def mIt (m : Env → M D) : Env → M (List D) := fun env => (m env).bind itm
theorem run_it {ρ : Rs} {S : List SO} {H : Hp} {env : Env} {σ : L2.St} {α β : Type} {R : Rs → Hp → α → β → Prop} {m : Env → M α} {f : α → M (List D)} {RR : It → Hp → Prop} {C : β → Hp → Prop} (sr : SR K ρ S H) (er : ER K H ρ env σ)
    (h : ((m env).bind f).run S (fun ds S' => ∀ (ρ' : Rs) (H' : Hp) (J : It), Step ρ H ρ' H' → SR K ρ' S' H' → ItR K J ds ρ' H' → RR J H') (epost K ρ H E))
    (hC : ∀ (ρ1 : Rs) (S1 : List SO) (H1 : Hp) (x : α) (v : β), Step ρ H ρ1 H1 → SR K ρ1 S1 H1 → R ρ1 H1 x v → (f x).run S1 (fun ds S' => ∀ (ρ' : Rs) (H' : Hp) (J : It), Step ρ H ρ' H' → SR K ρ' S' H' → ItR K J ds ρ' H' → RR J H') (epost K ρ H E) → C v H1) : rd K R E m σ H C :=
  ⟨ρ, S, env, sr, er, (m env).mono _ _ _ _ _ (fun a S' q ρ1 H1 v t sr1 r => hC ρ1 S' H1 a v t sr1 r q) (fun _ _ q => q) h⟩
theorem mi_lt {tg : Expr} (hK : X.K = K) (he : ME X K E e ma) : MI X K E tg e (mIt ma) := PI.imp (pi_lt he) (by
  subst hK
  rintro σ H R ⟨ρ, S, env, sr, er, h⟩
  refine run_it (R := rV X.K) sr er h fun ρ1 S1 H1 x v t1 sr1 hx h1 => ?_
  cases hx with
  | @lst a vs ds f r => exact ⟨a, rfl, .inl ⟨⟨vs, f.sq⟩, h1 ρ1 H1 _ t1 sr1 (itr_list f r)⟩⟩
  | @tup a vs ds f r => exact ⟨a, rfl, .inr ⟨⟨vs, f.sq⟩, h1 ρ1 H1 _ t1 sr1 (itr_tup f r)⟩⟩
  | _ => exact h1.elim)
/-- sign by sign -/
def signs (z : Str) : List D := z.cps.toList.map fun c => .str ⟨#[c]⟩
def itS : D → M (List D)
  | .str z => M.pure (signs z)
  | _ => M.fail
def mItS (m : Env → M D) : Env → M (List D) := fun env => (m env).bind itS
theorem itr_str {z : Str} {ρ : Rs} {H : Hp} : ItR K (Its z) (signs z) ρ H := by
  have hl : (signs z).length = z.cps.size := by unfold signs; rw [List.length_map, Array.length_toList]
  refine ⟨_, _, by rw [hl]; exact walk_str (z := z), fun ρ' H' t => trivial, fun i d ρ' H' x H'' t hd y S sr => ?_⟩
  obtain ⟨e1, c, e2, e3⟩ := y
  subst e1 e3
  unfold signs at hd
  rw [List.getElem?_map, Array.getElem?_toList, e2] at hd
  cases hd
  exact ⟨Step.refl, sr, .str _⟩
theorem mi_str {tg : Expr} (he : ME X K E e ma) : MI X K E tg e (mItS ma) := PI.imp (pi_str he) (by
  rintro σ H R ⟨ρ, S, env, sr, er, h⟩
  refine run_it (R := rV K) sr er h fun ρ1 S1 H1 x v t1 sr1 hx h1 => ?_
  cases hx with
  | str z => exact ⟨z, rfl, h1 ρ1 H1 _ t1 sr1 itr_str⟩
  | _ => exact h1.elim)
/-- range -/
def rng (lo : Int) (n : Nat) : List D := (List.range n).map fun i => .int (lo + (i : Nat))
theorem itr_range {lo : Int} {n : Nat} {ρ : Rs} {H : Hp} : ItR K (Itr lo n) (rng lo n) ρ H := by
  have hl : (rng lo n).length = n := by unfold rng; rw [List.length_map, List.length_range]
  refine ⟨_, _, by rw [hl]; exact walk_range (lo := lo) (n := n), fun ρ' H' t => trivial, fun i d ρ' H' x H'' t hd y S sr => ?_⟩
  obtain ⟨e1, e2⟩ := y
  subst e1 e2
  unfold rng at hd
  have hi : i < n := by
    have := (List.getElem?_eq_some_iff.mp hd).1
    rwa [List.length_map, List.length_range] at this
  rw [List.getElem?_map, List.getElem?_range hi] at hd
  cases hd
  exact ⟨Step.refl, sr, .int _⟩
def in62 (i : Int) : Bool := decide (-(2 ^ 62) ≤ i) && decide (i < 2 ^ 62)
def itR1 : List D → M (List D)
  | [x] => (match x with
    | .int j => (M.grd (in62 j)).bind fun _ => M.pure (rng 0 j.toNat)
    | _ => M.fail)
  | _ => M.fail
def itR2 : List D → M (List D)
  | [x, y] => (match x with
    | .int i => (match y with
      | .int j => (M.grd (in62 i && in62 j)).bind fun _ => M.pure (rng i (j - i).toNat)
      | _ => M.fail)
    | _ => M.fail)
  | _ => M.fail
def mItA (f : List D → M (List D)) (m : Env → M (List D)) : Env → M (List D) := fun env => (m env).bind f
variable {ms : Env → M (List D)} {tg : Expr}
theorem mi_range1 (hg : Gl X "range") (hm : X.mg "range" = none) (ha : MA X K E [a] ms) (hs : starEach [a] X.env = [(false, eval a X.env)] := by rfl) : MI X K E tg (.Call (.Name "range" p) [a] [] pos) (mItA itR1 ms) := PI.imp (pi_range1 hg hm ha hs) (by
  rintro σ H R ⟨ρ, S, env, sr, er, h⟩
  refine run_it (R := rVs K) sr er h fun ρ1 S1 H1 x v t1 sr1 hx h1 => ?_
  match x, v, hx with
  | [x], [v], .cons p .nil => cases p with
    | int j =>
      obtain ⟨g, h2⟩ := grd_run h1
      obtain ⟨g1, g2⟩ := Bool.and_eq_true_iff.mp g
      exact ⟨j, rfl, of_decide_eq_true g1, of_decide_eq_true g2, h2 ρ1 H1 _ t1 sr1 itr_range⟩
    | _ => exact h1.elim
  | [], _, _ => exact h1.elim
  | _ :: _ :: _, _, _ => exact h1.elim)
theorem mi_range2 (hg : Gl X "range") (hm : X.mg "range" = none) (ha : MA X K E [a, b] ms) (hs : starEach [a, b] X.env = [(false, eval a X.env), (false, eval b X.env)] := by rfl) (hs2 : starEach [b] X.env = [(false, eval b X.env)] := by rfl) : MI X K E tg (.Call (.Name "range" p) [a, b] [] pos) (mItA itR2 ms) := PI.imp (pi_range2 hg hm ha hs hs2) (by
  rintro σ H R ⟨ρ, S, env, sr, er, h⟩
  refine run_it (R := rVs K) sr er h fun ρ1 S1 H1 x v t1 sr1 hx h1 => ?_
  match x, v, hx with
  | [x, y], [v, u], .cons p (.cons q .nil) => cases p with
    | int i => cases q with
      | int j =>
        obtain ⟨g, h2⟩ := grd_run h1
        obtain ⟨g1, g2⟩ := Bool.and_eq_true_iff.mp g
        obtain ⟨g3, g4⟩ := Bool.and_eq_true_iff.mp g1
        obtain ⟨g5, g6⟩ := Bool.and_eq_true_iff.mp g2
        exact ⟨i, j, rfl, ⟨of_decide_eq_true g3, of_decide_eq_true g4, of_decide_eq_true g5, of_decide_eq_true g6⟩, h2 ρ1 H1 _ t1 sr1 itr_range⟩
      | _ => exact h1.elim
    | _ => exact h1.elim
  | [], _, _ => exact h1.elim
  | [_], _, _ => exact h1.elim
  | _ :: _ :: _ :: _, _, _ => exact h1.elim)
/-- pairs that are laid turn by turn -/
def pairs : List D → List D → List D
  | x :: xs, y :: ys => .tup [x, y] :: pairs xs ys
  | _, _ => []
theorem pairs_len : ∀ {xs ys : List D}, (pairs xs ys).length = min xs.length ys.length
  | [], _ => by unfold pairs; simp
  | _ :: _, [] => by unfold pairs; simp
  | x :: xs, y :: ys => by unfold pairs; rw [List.length_cons, pairs_len]; simp only [List.length_cons]; omega
theorem pairs_get : ∀ {xs ys : List D} {i : Nat} {d : D}, (pairs xs ys)[i]? = some d → ∃ x y, xs[i]? = some x ∧ ys[i]? = some y ∧ d = .tup [x, y]
  | [], _, _, _, h => by unfold pairs at h; simp at h
  | _ :: _, [], _, _, h => by unfold pairs at h; simp at h
  | x :: xs, y :: ys, 0, d, h => ⟨x, y, rfl, rfl, (Option.some.inj h).symm⟩
  | x :: xs, y :: ys, i + 1, d, h => pairs_get (xs := xs) (ys := ys) (i := i) h
theorem itr_pair {J : It} {G : Hp → Prop} {xs ys : Nat → Option V} {dx dy : List D} {ρ : Rs} {H : Hp} (w : Walk J (min dx.length dy.length) G (YPair xs ys)) (hG : ∀ ρ' H', Step ρ H ρ' H' → G H')
    (hx : ∀ i d v, dx[i]? = some d → xs i = some v → VR K H ρ d v) (hy : ∀ i d v, dy[i]? = some d → ys i = some v → VR K H ρ d v) : ItR K J (pairs dx dy) ρ H := by
  refine ⟨_, _, by rw [pairs_len]; exact w, hG, fun i d ρ' H' x H'' t hd y S sr => ?_⟩
  obtain ⟨T, u, v, rfl, hT, rfl, e1, e2⟩ := y
  obtain ⟨d1, d2, f1, f2, rfl⟩ := pairs_get hd
  exact ⟨Step.add hT, sr.add hT, newT sr (.cons ((hx i d1 u f1 e1).mono t) (.cons ((hy i d2 v f2 e2).mono t) .nil)) hT⟩
def nums (lo n : Nat) : List D := (List.range' lo n).map fun i => .int (i : Nat)
def itE : List D → M (List D)
  | [x] => (match x with
    | .lst ds => M.pure (pairs (nums 0 ds.length) ds)
    | _ => M.fail)
  | _ => M.fail
theorem mi_enum {elts : List Expr} {kk : Nat} {tpos : Pos} (hK : X.K = K) (hg : Gl X "enumerate") (hm : X.mg "enumerate" = none) (ha : MA X K E [e] ms) (hs : starEach [e] X.env = [(false, eval e X.env)] := by rfl) : MI X K E (.Tuple elts kk tpos) (.Call (.Name "enumerate" p) [e] [] pos) (mItA itE ms) := PI.imp (pi_enum hg hm ha hs) (by
  subst hK
  rintro σ H R ⟨ρ, S, env, sr, er, h⟩
  refine run_it (R := rVs X.K) sr er h fun ρ1 S1 H1 x v t1 sr1 hx h1 => ?_
  match x, v, hx with
  | [x], [v], .cons p .nil => cases p with
    | @lst a vs ds f r =>
      have hl : (nums 0 ds.length).length = ds.length := by unfold nums; rw [List.length_map, List.length_range']
      refine ⟨a, vs, rfl, f.sq, h1 ρ1 H1 _ t1 sr1 (itr_pair (G := fun H => SqL X.K H a vs) (xs := fun i => some (.int (i : Nat))) (ys := fun i => vs[i]?) ?_ (fun ρ' H' t => (f.mono t).sq) (fun i d v h1 h2 => ?_) (fun i d v h1 h2 => ?_))⟩
      · rw [hl, Nat.min_self, ← r.len]
        exact walk_enum
      · unfold nums at h1
        rw [List.getElem?_map] at h1
        obtain ⟨j, e1, e2⟩ := Option.map_eq_some_iff.mp h1
        have e3 := List.getElem?_eq_some_iff.mp e1
        obtain ⟨hi, e4⟩ := e3
        rw [List.getElem_range'] at e4
        cases h2
        rw [← e2, ← e4, Nat.zero_add, Nat.one_mul]
        exact .int _
      · obtain ⟨u, e1, r1⟩ := r.get h1
        rw [h2] at e1
        cases e1
        exact r1
    | _ => exact h1.elim
  | [], _, _ => exact h1.elim
  | _ :: _ :: _, _, _ => exact h1.elim)
def itZ : List D → M (List D)
  | [x, y] => (match x with
    | .lst xs => (match y with | .lst ys => M.pure (pairs xs ys) | _ => M.fail)
    | .tup xs => (match y with | .tup ys => M.pure (pairs xs ys) | _ => M.fail)
    | _ => M.fail)
  | _ => M.fail
theorem walk_zt {a b : Addr} {xs ys : List V} : Walk (RZ.ItzT K a b) (min xs.length ys.length) (fun H => SqT K H a xs ∧ SqT K H b ys) (YPair (fun i => xs[i]?) (fun i => ys[i]?)) where
  goes := fun i H hi q => ⟨xs, ys, xs[i]'(by omega), ys[i]'(by omega), q.1, q.2, List.getElem?_eq_getElem _, List.getElem?_eq_getElem _⟩
  stops := fun H q => ⟨xs, ys, q.1, q.2, by omega⟩
  yields := fun i H v H' _ q y => by
    obtain ⟨T, x, z, y1, y2, y3, y4, y5⟩ := y
    exact ⟨T, x, z, y1, y2, y3, y4 xs q.1, y5 ys q.2⟩
theorem mi_zip {e2 : Expr} {elts : List Expr} {kk : Nat} {tpos : Pos} (hK : X.K = K) (hg : Gl X "zip") (hm : X.mg "zip" = none) (ha : MA X K E [e, e2] ms) (hs : starEach [e, e2] X.env = (false, eval e X.env) :: starEach [e2] X.env := by rfl) (hpl : (backTo pos (starEach [e2] X.env)).any (·.1) = false := by rfl) :
    MI X K E (.Tuple elts kk tpos) (.Call (.Name "zip" p) [e, e2] [] pos) (mItA itZ ms) := PI.imp (RZ.pi_zipA hg hm ha hs hpl) (by
  subst hK
  rintro σ H R ⟨ρ, S, env, sr, er, h⟩
  refine run_it (R := rVs X.K) sr er h fun ρ1 S1 H1 x v t1 sr1 hx h1 => ?_
  match x, v, hx with
  | [x, y], [v, u], .cons p (.cons q .nil) => cases p with
    | @lst a vs ds f r => cases q with
      | @lst b us es f2 r2 =>
        refine ⟨a, b, vs, us, rfl, .inl ⟨f.sq, f2.sq, h1 ρ1 H1 _ t1 sr1 (itr_pair (G := fun H => SqL X.K H a vs ∧ SqL X.K H b us) (xs := fun i => vs[i]?) (ys := fun i => us[i]?) ?_ (fun ρ' H' t => ⟨(f.mono t).sq, (f2.mono t).sq⟩) (fun i d v g1 g2 => ?_) (fun i d v g1 g2 => ?_))⟩⟩
        · rw [← r.len, ← r2.len]; exact walk_zip rfl
        · obtain ⟨w, e1, r1⟩ := r.get g1; rw [g2] at e1; cases e1; exact r1
        · obtain ⟨w, e1, r1⟩ := r2.get g1; rw [g2] at e1; cases e1; exact r1
      | _ => exact h1.elim
    | @tup a vs ds f r => cases q with
      | @tup b us es f2 r2 =>
        refine ⟨a, b, vs, us, rfl, .inr ⟨f.sq, f2.sq, h1 ρ1 H1 _ t1 sr1 (itr_pair (G := fun H => SqT X.K H a vs ∧ SqT X.K H b us) (xs := fun i => vs[i]?) (ys := fun i => us[i]?) ?_ (fun ρ' H' t => ⟨(f.mono t).sq, (f2.mono t).sq⟩) (fun i d v g1 g2 => ?_) (fun i d v g1 g2 => ?_))⟩⟩
        · rw [← r.len, ← r2.len]; exact walk_zt
        · obtain ⟨w, e1, r1⟩ := r.get g1; rw [g2] at e1; cases e1; exact r1
        · obtain ⟨w, e1, r1⟩ := r2.get g1; rw [g2] at e1; cases e1; exact r1
      | _ => exact h1.elim
    | _ => exact h1.elim
  | [], _, _ => exact h1.elim
  | [_], _, _ => exact h1.elim
  | _ :: _ :: _ :: _, _, _ => exact h1.elim)
end
end ME
namespace ME
open PySem PySem.Spec PyProof.Rows L2
/-! ### what a call leaves -/
def frzL (g : D → Option D) : List D → Option (List D)
  | [] => some []
  | d :: ds => match g d with | some e => (match frzL g ds with | some es => some (e :: es) | none => none) | none => none
/-- the objects from the n-th on, as they stand, in the value itself -/
def frz (n : Nat) (S : List SO) : Nat → D → Option D
  | 0, _ => none
  | f + 1, d => match d with
    | .ob i => if i < n then some (.ob i) else (match S[i]? with
      | some (.lst ds) => (match frzL (frz n S f) ds with | some es => some (.lst es) | none => none)
      | some (.dct ks ds) => (match frzL (frz n S f) ds with | some es => some (.dct ks es) | none => none)
      | some (.ins C ns ds) => (match frzL (frz n S f) ds with | some es => some (.ins C ns es) | none => none)
      | _ => none)
    | .tup ds => (match frzL (frz n S f) ds with | some es => some (.tup es) | none => none)
    | .lst ds => (match frzL (frz n S f) ds with | some es => some (.lst es) | none => none)
    | .dct ks ds => (match frzL (frz n S f) ds with | some es => some (.dct ks es) | none => none)
    | .ins C ns ds => (match frzL (frz n S f) ds with | some es => some (.ins C ns es) | none => none)
    | .lsk _ => none
    | d => some d
def clo (n : Nat) : Nat → D → Bool
  | 0, _ => false
  | f + 1, d => match d with
    | .ob i => decide (i < n)
    | .tup ds => ds.all (clo n f)
    | .lst ds => ds.all (clo n f)
    | .dct _ ds => ds.all (clo n f)
    | .ins _ _ ds => ds.all (clo n f)
    | .lsk _ => false
    | _ => true
def cloS (n : Nat) : SO → Bool
  | .lst ds => ds.all (clo n 40)
  | .dct _ ds => ds.all (clo n 40)
  | .ins _ _ ds => ds.all (clo n 40)
  | _ => true
def trimQ (n : Nat) (d : D) (S : List SO) (Q : D → List SO → Prop) : Prop := cond (S.length == n) (Q d S) (match frz n S 40 d with | some e => cond ((S.take n).all (cloS n)) (Q e (S.take n)) False | none => False)
def trimX (n : Nat) (x : Ex) (S : List SO) (E : Ex → List SO → Prop) : Prop := cond (S.length == n) (E x S) (match frzL (frz n S 40) x.vs with | some vs => cond ((S.take n).all (cloS n)) (E { x with vs := vs } (S.take n)) False | none => False)
theorem trimQ_mono {n : Nat} {d : D} {S : List SO} {Q Q' : D → List SO → Prop} (h : ∀ d S, Q d S → Q' d S) (q : trimQ n d S Q) : trimQ n d S Q' := by
  unfold trimQ at q ⊢
  cases e : S.length == n with
  | true => rw [e] at q; exact h _ _ q
  | false =>
    rw [e] at q
    have q' : match frz n S 40 d with | some e => cond ((S.take n).all (cloS n)) (Q e (S.take n)) False | none => False := q
    show match frz n S 40 d with | some e => cond ((S.take n).all (cloS n)) (Q' e (S.take n)) False | none => False
    cases z : frz n S 40 d with
    | none => rw [z] at q'; exact q'
    | some e' =>
      rw [z] at q'
      have q2 : cond ((S.take n).all (cloS n)) (Q e' (S.take n)) False := q'
      show cond ((S.take n).all (cloS n)) (Q' e' (S.take n)) False
      cases y : (S.take n).all (cloS n) with
      | true => rw [y] at q2; exact h _ _ q2
      | false => rw [y] at q2; exact q2
theorem trimX_mono {n : Nat} {d : Ex} {S : List SO} {Q Q' : Ex → List SO → Prop} (h : ∀ d S, Q d S → Q' d S) (q : trimX n d S Q) : trimX n d S Q' := by
  unfold trimX at q ⊢
  cases e : S.length == n with
  | true => rw [e] at q; exact h _ _ q
  | false =>
    rw [e] at q
    have q' : match frzL (frz n S 40) d.vs with | some vs => cond ((S.take n).all (cloS n)) (Q { d with vs := vs } (S.take n)) False | none => False := q
    show match frzL (frz n S 40) d.vs with | some vs => cond ((S.take n).all (cloS n)) (Q' { d with vs := vs } (S.take n)) False | none => False
    cases z : frzL (frz n S 40) d.vs with
    | none => rw [z] at q'; exact q'
    | some e' =>
      rw [z] at q'
      have q2 : cond ((S.take n).all (cloS n)) (Q { d with vs := e' } (S.take n)) False := q'
      show cond ((S.take n).all (cloS n)) (Q' { d with vs := e' } (S.take n)) False
      cases y : (S.take n).all (cloS n) with
      | true => rw [y] at q2; exact h _ _ q2
      | false => rw [y] at q2; exact q2
/-- only what was there ahead is kept -/
def trim (m : M D) : M D := ⟨fun S Q E => m.run S (fun d S' => trimQ S.length d S' Q) (fun x S' => trimX S.length x S' E), fun S Q Q' E E' h g q => m.mono S _ _ _ _ (fun _ _ z => trimQ_mono h z) (fun _ _ z => trimX_mono g z) q⟩
theorem trim_pure (d : D) : trim (M.pure d) = M.pure d := M.ext fun S Q E => by
  show trimQ S.length d S Q ↔ Q d S
  unfold trimQ
  rw [beq_self_eq_true]
  exact Iff.rfl
theorem trim_raise (x : Ex) : trim (M.raise x) = M.raise x := M.ext fun S Q E => by
  show trimX S.length x S E ↔ E x S
  unfold trimX
  rw [beq_self_eq_true]
  exact Iff.rfl
section
variable {K : PySem.W.Frag} {ρ ρ' : Rs} {H H' : Hp} {S S' : List SO} {n : Nat}
theorem take_notin {l : List Addr} (h : l.Nodup) {i n : Nat} {a : Addr} (e : l[i]? = some a) (hi : n ≤ i) : a ∉ l.take n := fun z => by
  obtain ⟨j, hj, e2⟩ := List.mem_iff_getElem.mp z
  rw [List.length_take] at hj
  rw [List.getElem_take] at e2
  have := nodup_at h e (show l[j]? = some a by rw [List.getElem?_eq_getElem (by omega), e2])
  omega
/-- the first n objects alone -/
def Rs.cut (ρ : Rs) (n : Nat) : Rs := ⟨ρ.ob.take n, ρ.rs⟩
theorem Rs.cut_fz {a : Addr} (f : ρ.fz a) : (ρ.cut n).fz a := ⟨fun z => f.1 (List.mem_of_mem_take z), f.2⟩
theorem FzT.cut {a : Addr} {vs : List V} : FzT K H ρ a vs → FzT K H (ρ.cut n) a vs
  | .inl h => .inl ⟨Rs.cut_fz h.1, h.2⟩
  | .inr h => .inr h
theorem ScrL.cut {a : Addr} {vs : List V} : ScrL K H ρ a vs → ScrL K H (ρ.cut n) a vs
  | .inl h => .inl ⟨Rs.cut_fz h.1, h.2⟩
  | .inr h => .inr h
theorem frzL_ok {g : D → Option D} {ρ2 : Rs} (ih : ∀ d v e, VR K H ρ d v → g d = some e → VR K H ρ2 e v) : ∀ {ds es : List D} {vs : List V}, VRs K H ρ ds vs → frzL g ds = some es → VRs K H ρ2 es vs
  | [], es, _, .nil, h => by cases h; exact .nil
  | d :: ds, es, v :: vs, .cons p q, h => by
    unfold frzL at h
    cases z : g d with
    | none => rw [z] at h; cases h
    | some e => cases y : frzL g ds with
      | none => rw [z, y] at h; cases h
      | some es' => rw [z, y] at h; cases h; exact .cons (ih _ _ _ p z) (frzL_ok ih q y)
theorem frz_ok (sr : SR K ρ S H) : ∀ (f : Nat) (d : D) (v : V) (e : D), VR K H ρ d v → frz n S f d = some e → VR K H (ρ.cut n) e v
  | 0, _, _, _, _, h => by cases h
  | f + 1, d, v, e, r, h => by
    have ih := frz_ok sr f
    cases r with
    | non => cases h; exact .non
    | bl b => cases h; exact .bl b
    | int i => cases h; exact .int i
    | str x => cases h; exact .str x
    | ty n => cases h; exact .ty n
    | raw a => cases h; exact .raw a
    | scr e1 => cases h; exact .scr e1.cut
    | lsk e1 q => cases h
    | @ob i a e1 =>
      have h' : (if i < n then some (D.ob i) else (match S[i]? with
        | some (.lst ds) => (match frzL (frz n S f) ds with | some es => some (.lst es) | none => none)
        | some (.dct ks ds) => (match frzL (frz n S f) ds with | some es => some (.dct ks es) | none => none)
        | some (.ins C ns ds) => (match frzL (frz n S f) ds with | some es => some (.ins C ns es) | none => none)
        | _ => none)) = some e := h
      by_cases hi : i < n
      · rw [if_pos hi] at h'
        cases h'
        exact .ob (by show (ρ.ob.take n)[i]? = some a; rw [List.getElem?_take_of_lt hi]; exact e1)
      · rw [if_neg hi] at h'
        have fz : (ρ.cut n).fz a := ⟨take_notin sr.nd e1 (by omega), fun z => (sr.set a z).2 (List.mem_of_getElem? e1)⟩
        split at h'
        · next ds hs =>
          obtain ⟨vs, g1, g2⟩ := sr.ok i a _ e1 hs
          cases z : frzL (frz n S f) ds with
          | none => rw [z] at h'; cases h'
          | some es => rw [z] at h'; cases h'; exact .lst ⟨fz, g1⟩ (frzL_ok ih g2 z)
        · next ks ds hs =>
          obtain ⟨kvs, g1, g2, g3⟩ := sr.ok i a _ e1 hs
          subst g2
          cases z : frzL (frz n S f) ds with
          | none => rw [z] at h'; cases h'
          | some es => rw [z] at h'; cases h'; exact .dct fz g1 (frzL_ok ih g3 z)
        · next C ns ds hs =>
          obtain ⟨dx, fs, g1, g2, g3⟩ := sr.ok i a _ e1 hs
          subst g2
          cases z : frzL (frz n S f) ds with
          | none => rw [z] at h'; cases h'
          | some es => rw [z] at h'; cases h'; exact .ins fz g1 (frzL_ok ih g3 z)
        · cases h'
    | @tup a vs ds e1 q =>
      have h' : (match frzL (frz n S f) ds with | some es => some (D.tup es) | none => none) = some e := h
      cases z : frzL (frz n S f) ds with
      | none => rw [z] at h'; cases h'
      | some es => rw [z] at h'; cases h'; exact .tup e1.cut (frzL_ok ih q z)
    | @lst a vs ds e1 q =>
      have h' : (match frzL (frz n S f) ds with | some es => some (D.lst es) | none => none) = some e := h
      cases z : frzL (frz n S f) ds with
      | none => rw [z] at h'; cases h'
      | some es => rw [z] at h'; cases h'; exact .lst ⟨Rs.cut_fz e1.1, e1.2⟩ (frzL_ok ih q z)
    | @dct a kvs ds f1 e1 q =>
      have h' : (match frzL (frz n S f) ds with | some es => some (D.dct _ es) | none => none) = some e := h
      cases z : frzL (frz n S f) ds with
      | none => rw [z] at h'; cases h'
      | some es => rw [z] at h'; cases h'; exact .dct (Rs.cut_fz f1) e1 (frzL_ok ih q z)
    | @ins a dx C fs ds f1 e1 q =>
      have h' : (match frzL (frz n S f) ds with | some es => some (D.ins C _ es) | none => none) = some e := h
      cases z : frzL (frz n S f) ds with
      | none => rw [z] at h'; cases h'
      | some es => rw [z] at h'; cases h'; exact .ins (Rs.cut_fz f1) e1 (frzL_ok ih q z)
theorem cloL_ok {g : D → Bool} {ρ2 : Rs} (ih : ∀ d v, VR K H ρ d v → g d = true → VR K H ρ2 d v) : ∀ {ds : List D} {vs : List V}, VRs K H ρ ds vs → ds.all g = true → VRs K H ρ2 ds vs
  | [], _, .nil, h => .nil
  | d :: ds, v :: vs, .cons p q, h => by
    rw [List.all_cons] at h
    obtain ⟨h1, h2⟩ := Bool.and_eq_true_iff.mp h
    exact .cons (ih _ _ p h1) (cloL_ok ih q h2)
theorem clo_ok : ∀ (f : Nat) (d : D) (v : V), VR K H ρ d v → clo n f d = true → VR K H (ρ.cut n) d v
  | 0, _, _, _, h => by cases h
  | f + 1, d, v, r, h => by
    have ih := clo_ok f
    cases r with
    | non => exact .non
    | bl b => exact .bl b
    | int i => exact .int i
    | str x => exact .str x
    | ty n => exact .ty n
    | raw a => exact .raw a
    | scr e1 => exact .scr e1.cut
    | lsk e1 q => cases h
    | @ob i a e1 => exact .ob (by show (ρ.ob.take n)[i]? = some a; rw [List.getElem?_take_of_lt (of_decide_eq_true h)]; exact e1)
    | @tup a vs ds e1 q => exact .tup e1.cut (cloL_ok ih q h)
    | @lst a vs ds e1 q => exact .lst ⟨Rs.cut_fz e1.1, e1.2⟩ (cloL_ok ih q h)
    | @dct a kvs ds f1 e1 q => exact .dct (Rs.cut_fz f1) e1 (cloL_ok ih q h)
    | @ins a dx C fs ds f1 e1 q => exact .ins (Rs.cut_fz f1) e1 (cloL_ok ih q h)
theorem cloS_ok {a : Addr} {o : SO} (h : OR K H ρ a o) (c : cloS n o = true) : OR K H (ρ.cut n) a o := by
  cases o with
  | lst ds => obtain ⟨vs, h1, h2⟩ := h; exact ⟨vs, h1, cloL_ok (clo_ok 40) h2 c⟩
  | dct ks ds => obtain ⟨vs, h1, h2, h3⟩ := h; exact ⟨vs, h1, h2, cloL_ok (clo_ok 40) h3 c⟩
  | ins C ns ds => obtain ⟨dx, fs, h1, h2, h3⟩ := h; exact ⟨dx, fs, h1, h2, cloL_ok (clo_ok 40) h3 c⟩
  | pen b => obtain ⟨c, ns, x, r, h1, h2, h3, h4⟩ := h; exact ⟨c, ns, x, r, h1, Rs.cut_fz h2, h3, h4⟩
  | tbl T q =>
    obtain ⟨h0, ps, h1, h2, h3⟩ := h
    refine ⟨h0, ps, h1, h2, fun pos cv hc => ?_⟩
    obtain ⟨c, e1, e2, e3⟩ := h3 pos cv hc
    exact ⟨c, e1, Rs.cut_fz e2, e3⟩
theorem SR.cut (sr : SR K ρ S H) (c : (S.take n).all (cloS n) = true) : SR K (ρ.cut n) (S.take n) H := by
  refine ⟨sr.nd.sublist (List.take_sublist n ρ.ob), by show (ρ.ob.take n).length = _; rw [List.length_take, List.length_take, sr.len], fun i a o h1 h2 => ?_, fun a ha => sr.live a (List.mem_of_mem_take ha), fun a ha => ⟨(sr.set a ha).1, fun z => (sr.set a ha).2 (List.mem_of_mem_take z)⟩⟩
  have h1' : (ρ.ob.take n)[i]? = some a := h1
  rw [List.getElem?_take] at h1' h2
  by_cases hi : i < n
  · rw [if_pos hi] at h1' h2
    exact cloS_ok (sr.ok i a o h1' h2) (List.all_eq_true.mp c o (List.mem_of_getElem? (i := i) (by rw [List.getElem?_take, if_pos hi]; exact h2)))
  · rw [if_neg hi] at h2
    cases h2
theorem Step.cut (t : Step ρ H ρ' H') (hn : ρ.ob.length = n) : Step ρ H (ρ'.cut n) H' := by
  obtain ⟨tl, e, _⟩ := t.ob
  refine ⟨⟨[], ?_, fun a h => nomatch h⟩, t.rs, t.rsn, t.keep, t.live⟩
  show ρ'.ob.take n = ρ.ob ++ []
  rw [e, List.append_nil, ← hn, List.take_left]
theorem trim_post {Q : VK} {d : D} (hn : ρ.ob.length = n) (h : trimQ n d S' (post K (rV K) ρ H Q)) : post K (rV K) ρ H Q d S' := by
  unfold trimQ at h
  cases e : S'.length == n with
  | true => rw [e] at h; exact h
  | false =>
    rw [e] at h
    have q' : match frz n S' 40 d with | some e => cond ((S'.take n).all (cloS n)) (post K (rV K) ρ H Q e (S'.take n)) False | none => False := h
    cases z : frz n S' 40 d with
    | none => rw [z] at q'; exact q'.elim
    | some e' =>
      rw [z] at q'
      have q2 : cond ((S'.take n).all (cloS n)) (post K (rV K) ρ H Q e' (S'.take n)) False := q'
      cases y : (S'.take n).all (cloS n) with
      | true =>
        rw [y] at q2
        exact fun ρ' H' v t sr r => q2 (ρ'.cut n) H' v (t.cut hn) (sr.cut y) (frz_ok sr 40 d v e' r z)
      | false => rw [y] at q2; exact q2.elim
theorem trim_epost {E : XK} {x : Ex} (hn : ρ.ob.length = n) (h : trimX n x S' (epost K ρ H E)) : epost K ρ H E x S' := by
  unfold trimX at h
  cases e : S'.length == n with
  | true => rw [e] at h; exact h
  | false =>
    rw [e] at h
    have q' : match frzL (frz n S' 40) x.vs with | some vs => cond ((S'.take n).all (cloS n)) (epost K ρ H E { x with vs := vs } (S'.take n)) False | none => False := h
    cases z : frzL (frz n S' 40) x.vs with
    | none => rw [z] at q'; exact q'.elim
    | some e' =>
      rw [z] at q'
      have q2 : cond ((S'.take n).all (cloS n)) (epost K ρ H E { x with vs := e' } (S'.take n)) False := q'
      cases y : (S'.take n).all (cloS n) with
      | true =>
        rw [y] at q2
        refine fun ρ' H' d t sr r => q2 (ρ'.cut n) H' d (t.cut hn) (sr.cut y) ?_
        rcases r with r | ⟨dx, fs, r1, r2, r3, r4⟩
        · exact .inl r
        · exact .inr ⟨dx, fs, r1, r2, r3, frzL_ok (fun d v e => frz_ok sr 40 d v e) r4 z⟩
      | false => rw [y] at q2; exact q2.elim
end
/-! ### a def -/
def outM : Out → M D
  | .nx _ => M.pure .non
  | .rt d => M.pure d
  | _ => M.fail
def env0 (nN : Nat) (ds : List D) : Env := ds.map some ++ List.replicate (nN - ds.length) none
def callM (np nN : Nat) (ms : Env → M Out) : List D → M D := fun ds => (M.grd (ds.length == np)).bind fun _ => trim ((ms (env0 nN ds)).bind outM)
/-- a def that hands back objects that may change -/
def callO (np nN : Nat) (ms : Env → M Out) : List D → M D := fun ds => (M.grd (ds.length == np)).bind fun _ => (ms (env0 nN ds)).bind outM
theorem passE0 {P : Program} {w : World} {X : Cx} : Passes (L2.CX P w) X L2.E0 := fun pins σ H s e s' I h => by
  obtain ⟨_, _, _, _, _, _, _, _, _, _, _, _, z⟩ := h
  exact z.elim
section
variable {P : Program} {w : World} {K : PySem.W.Frag} {mg : Str → Option Value} {base : Heap} {x qual : Str} {params : Arguments} {body : List Stmt} {scope : Scope} {dvs : List V} {kws : List (Str × V)} {f : Addr} {fd : FuncData} {N ps : List Str} {k : Nat} {ms : Env → M Out}
abbrev CxM (P : Program) (w : World) (K : PySem.W.Frag) (mg : Str → Option Value) (base : Heap) (N : List Str) (qual : Str) (scope : Scope) (f : Addr) (cdv : Value) (A : Around) (outer : List PySem.Env) (s : Shared) (H : Hp) (E : XK) : Cx := cxOf (L2.CX P w) P w K mg base N qual scope f cdv A outer s H E
theorem out_run {ρ : Rs} {H : Hp} {Q : VK} {o : Out} {S' : List SO} {QQ : D → List SO → Prop} {E' : Ex → List SO → Prop} (h : (outM o).run S' QQ E') (hq : ∀ d, QQ d S' → post K (rV K) ρ H Q d S') : spost K ρ H { nx := fun _ H' => Q .non H', rt := Q } o S' := fun ρ' H' t sr => by
  cases o with
  | nx e => exact fun σ' _ => hq .non h ρ' H' .non t sr .non
  | rt d => exact fun v r => hq d h ρ' H' v t sr r
  | bk e => exact h.elim
  | ct e => exact h.elim
theorem fnO (F : FunD K x qual params body scope dvs kws f fd) (Sc : FnScope N ps scope)
    (hb : ∀ (cdv : Value) (A : Around) (outer : List PySem.Env) (s : Shared) (H : Hp) (E : XK), Room k (A.deeper (envOfC qual scope s.heap.objs.size f cdv)) → Takes (CxM P w K mg base N qual scope f cdv A outer s H E) (fun cls d _ H => E cls d H) → Passes (L2.CX P w) (CxM P w K mg base N qual scope f cdv A outer s H E) E →
      PassesOwn (model P w) (CxM P w K mg base N qual scope f cdv A outer s H E).A (CxM P w K mg base N qual scope f cdv A outer s H E).env (CxM P w K mg base N qual scope f cdv A outer s H E).xe →
      MSs (CxM P w K mg base N qual scope f cdv A outer s H E) K E body ms) :
    FnOk P w K mg base (L2.CX P w) (k + 1) f fd ps (spM K (callO ps.length N.length ms)) := by
  refine F.ok Sc (fun vs H Q E ⟨ρ, S, ds, sr, r, h⟩ => ?_) (fun cdv A outer s H vs Q E hr ⟨ρ, S, ds, sr, r, h⟩ => ?_)
  · obtain ⟨e, _⟩ := grd_run h
    rw [r.len]
    exact eq_of_beq e
  · obtain ⟨_, h⟩ := grd_run h
    have tk : Takes (CxM P w K mg base N qual scope f cdv A outer s H E) (fun cls d _ H => E cls d H) := takes_of rfl rfl rfl rfl
    refine ⟨_, hb cdv A outer s H E hr tk (passes_call tk fun _ _ _ _ q => q) (passes_of (X := CxM P w K mg base N qual scope f cdv A outer s H E) rfl), ρ, S, env0 N.length ds, sr, ER.start r, ?_⟩
    exact (ms (env0 N.length ds)).mono _ _ _ _ _ (fun o S' q => out_run q fun d z => z) (fun x S' q => q) h
theorem fnM (F : FunD K x qual params body scope dvs kws f fd) (Sc : FnScope N ps scope)
    (hb : ∀ (cdv : Value) (A : Around) (outer : List PySem.Env) (s : Shared) (H : Hp) (E : XK), Room k (A.deeper (envOfC qual scope s.heap.objs.size f cdv)) → Takes (CxM P w K mg base N qual scope f cdv A outer s H E) (fun cls d _ H => E cls d H) → Passes (L2.CX P w) (CxM P w K mg base N qual scope f cdv A outer s H E) E →
      PassesOwn (model P w) (CxM P w K mg base N qual scope f cdv A outer s H E).A (CxM P w K mg base N qual scope f cdv A outer s H E).env (CxM P w K mg base N qual scope f cdv A outer s H E).xe →
      MSs (CxM P w K mg base N qual scope f cdv A outer s H E) K E body ms) :
    FnOk P w K mg base (L2.CX P w) (k + 1) f fd ps (spM K (callM ps.length N.length ms)) := by
  refine F.ok Sc (fun vs H Q E ⟨ρ, S, ds, sr, r, h⟩ => ?_) (fun cdv A outer s H vs Q E hr ⟨ρ, S, ds, sr, r, h⟩ => ?_)
  · obtain ⟨e, _⟩ := grd_run h
    rw [r.len]
    exact eq_of_beq e
  · obtain ⟨_, h⟩ := grd_run h
    have tk : Takes (CxM P w K mg base N qual scope f cdv A outer s H E) (fun cls d _ H => E cls d H) := takes_of rfl rfl rfl rfl
    refine ⟨_, hb cdv A outer s H E hr tk (passes_call tk fun _ _ _ _ q => q) (passes_of (X := CxM P w K mg base N qual scope f cdv A outer s H E) rfl), ρ, S, env0 N.length ds, sr, ER.start r, ?_⟩
    exact (ms (env0 N.length ds)).mono _ _ _ _ _ (fun o S' q => out_run q fun d z => trim_post sr.len z) (fun x S' q => trim_epost sr.len q) h
/-- a def by its name -/
theorem cl_of {g : List D → M D} (F : FnOk P w K mg base (L2.CX P w) k f fd ps (spM K g)) (hm : mg x = some (.ref f)) (hk : PySem.W.keepIn K (.ref f) = true) (hb : Binds K fd ps []) : Cl P w K mg base x k [] g := ⟨f, fd, ps, [], [], F, hm, hk, hb, .nil, fun _ _ => .nil⟩
end
/-! ### making, raising, storing -/
section
variable {X : Cx} {K : PySem.W.Frag} {E : XK} {a b e c o t : Expr} {st : Stmt} {es cs : List Expr} {ma mb : Env → M D} {ms : Env → M (List D)} {pos p p2 : Pos} {x : Str}
def newIns (C : Str) (k : D → M D) : M D := ⟨fun S Q E => (k (.ob S.length)).run (S ++ [.ins C [] []]) (fun d S' => cond (isNon d) (trimQ S.length (.ob S.length) S' Q) False) (fun x S' => trimX S.length x S' E), fun S Q Q' E E' h g q =>
  (k (.ob S.length)).mono _ _ _ _ _ (fun d S' z => by
    revert z
    cases isNon d with
    | true => exact fun z => trimQ_mono h z
    | false => exact fun z => z) (fun _ _ z => trimX_mono g z) q⟩
/-- an instance that may change -/
def newInsO (C : Str) (k : D → M D) : M D := ⟨fun S Q E => (k (.ob S.length)).run (S ++ [.ins C [] []]) (fun d S' => cond (isNon d) (Q (.ob S.length) S') False) (fun x S' => trimX S.length x S' E), fun S Q Q' E E' h g q =>
  (k (.ob S.length)).mono _ _ _ _ _ (fun d S' z => by
    revert z
    cases isNon d with
    | true => exact fun z => h _ _ z
    | false => exact fun z => z) (fun _ _ z => trimX_mono g z) q⟩
structure ClM (P : Program) (w : World) (K : PySem.W.Frag) (mg : Str → Option Value) (base : Heap) (x : Str) (k : Nat) (dfl : List D) (g : List D → M D) : Prop where
  ex : ∃ (f : Addr) (fd : FuncData) (ps : List Str) (dvs : List V) (ds : List Value), FnOk P w K mg base (L2.CX P w) k f fd ps (spM K g) ∧ mg x = some (.ref (He.ga K x)) ∧ Mk K (He.ga K x) f ∧ Binds K fd ps ds ∧ Vals dvs ds ∧ ∀ H ρ, VRs K H ρ dfl dvs
def mMake (C : Str) (g : List D → M D) (dfl : List D) (ms : Env → M (List D)) : Env → M D := fun env => (ms env).bind fun ds => newIns C fun self => g (self :: (ds ++ dfl))
def mMakeO (C : Str) (g : List D → M D) (dfl : List D) (ms : Env → M (List D)) : Env → M D := fun env => (ms env).bind fun ds => newInsO C fun self => g (self :: (ds ++ dfl))
theorem isNon_rel {H : Hp} {ρ : Rs} {d : D} {v : V} (h : VR K H ρ d v) (e : isNon d = true) : v = .non := by
  rw [isNon_ok h] at e
  exact of_decide_eq_true e
theorem made {ρ : Rs} {S : List SO} {H : Hp} {C : Str} {x dx : Addr} (sr : SR K ρ S H) (hx : H x = none) (hdx : H dx = none) (nd : dx ≠ x) : Step ρ H (ρ.more x) (upd (upd H dx (.own x)) x (.ins (He.ga K C) dx [])) ∧ SR K (ρ.more x) (S ++ [.ins C [] []]) (upd (upd H dx (.own x)) x (.ins (He.ga K C) dx [])) := by
  have hx2 : upd H dx (.own x) x = none := by rw [upd_ne nd.symm]; exact hx
  have s1 := sr.add (o := .own x) hdx
  exact ⟨(Step.add hdx).trans (Step.more (S := S) hx2), s1.more hx2 ⟨dx, [], upd_same, rfl, .nil⟩⟩
theorem mk_ref {ρ : Rs} {S : List SO} {H : Hp} {x : Addr} (sr : SR K ρ S H) {H' : Hp} : VR K H' (ρ.more x) (.ob S.length) (.ref x) := .ob (by
  show (ρ.ob ++ [x])[S.length]? = some x
  rw [← sr.len, List.getElem?_append_right (Nat.le_refl _), Nat.sub_self]
  rfl)
theorem me_make {C : Str} {k : Nat} {dfl : List D} {g : List D → M D} (T : ClM X.prog X.w X.K X.mg X.base C k dfl g) (hK : X.K = K) (hr : Room (k + 1) X.A) (hg : Gl X C) (hx : Passes (L2.CX X.prog X.w) X E) (ha : MA X K E (e :: es) ms) (hdb : (C == ("__debug__" : Str)) = false := by decide)
    (he : starEach (e :: es) X.env = (false, eval e X.env) :: starEach es X.env := by rfl) (hpl : (backTo pos (starEach es X.env)).any (·.1) = false := by rfl) : ME X K E (.Call (.Name C p) (e :: es) [] pos) (mMake C g dfl ms) := by
  obtain ⟨f, fd, ps, dvs, ds, F, hm, M, hb, hd, hv⟩ := T.ex
  refine PE.imp (pe_make M F hr hg hm hb hd hx ha hdb he hpl) ?_
  subst hK
  rintro σ H Q ⟨ρ, S, env, sr, er, h⟩
  refine run_bind (R2 := rV X.K) sr er h fun ρ1 S1 H1 xs v t1 sr1 er1 hx h1 => fun x dx hx0 hdx nd => ?_
  obtain ⟨st, sr2⟩ := made (C := C) sr1 hx0 hdx nd
  have hl : ρ1.ob.length = S1.length := sr1.len
  refine ⟨ρ1.more x, S1 ++ [.ins C [] []], .ob S1.length :: (xs ++ dfl), sr2, .cons (mk_ref sr1) ((VRs.app (hv _ _) hx).mono st), ?_⟩
  refine (g _).mono _ _ _ _ _ (fun d S' z => ?_) (fun x S' z => epost.step st (trim_epost hl z)) h1
  intro ρ' H' v' t' sr' r'
  cases e : isNon d with
  | true =>
    have z' : cond (isNon d) (trimQ S1.length (.ob S1.length) S' (post X.K (rV X.K) ρ1 H1 Q)) False := z
    rw [e] at z'
    exact ⟨isNon_rel r' e, trim_post hl z' ρ' H' (.ref x) (st.trans t') sr' ((mk_ref sr1 (H' := upd (upd H1 dx (.own x)) x (.ins (He.ga X.K C) dx []))).mono t')⟩
  | false =>
    have z' : cond (isNon d) (trimQ S1.length (.ob S1.length) S' (post X.K (rV X.K) ρ1 H1 Q)) False := z
    rw [e] at z'
    exact z'.elim
theorem me_makeO {C : Str} {k : Nat} {dfl : List D} {g : List D → M D} (T : ClM X.prog X.w X.K X.mg X.base C k dfl g) (hK : X.K = K) (hr : Room (k + 1) X.A) (hg : Gl X C) (hx : Passes (L2.CX X.prog X.w) X E) (ha : MA X K E (e :: es) ms) (hdb : (C == ("__debug__" : Str)) = false := by decide)
    (he : starEach (e :: es) X.env = (false, eval e X.env) :: starEach es X.env := by rfl) (hpl : (backTo pos (starEach es X.env)).any (·.1) = false := by rfl) : ME X K E (.Call (.Name C p) (e :: es) [] pos) (mMakeO C g dfl ms) := by
  obtain ⟨f, fd, ps, dvs, ds, F, hm, M, hb, hd, hv⟩ := T.ex
  refine PE.imp (pe_make M F hr hg hm hb hd hx ha hdb he hpl) ?_
  subst hK
  rintro σ H Q ⟨ρ, S, env, sr, er, h⟩
  refine run_bind (R2 := rV X.K) sr er h fun ρ1 S1 H1 xs v t1 sr1 er1 hx h1 => fun x dx hx0 hdx nd => ?_
  obtain ⟨st, sr2⟩ := made (C := C) sr1 hx0 hdx nd
  have hl : ρ1.ob.length = S1.length := sr1.len
  refine ⟨ρ1.more x, S1 ++ [.ins C [] []], .ob S1.length :: (xs ++ dfl), sr2, .cons (mk_ref sr1) ((VRs.app (hv _ _) hx).mono st), ?_⟩
  refine (g _).mono _ _ _ _ _ (fun d S' z => ?_) (fun x S' z => epost.step st (trim_epost hl z)) h1
  intro ρ' H' v' t' sr' r'
  cases e : isNon d with
  | true =>
    have z' : cond (isNon d) (post X.K (rV X.K) ρ1 H1 Q (.ob S1.length) S') False := z
    rw [e] at z'
    exact ⟨isNon_rel r' e, z' ρ' H' (.ref x) (st.trans t') sr' ((mk_ref sr1 (H' := upd (upd H1 dx (.own x)) x (.ins (He.ga X.K C) dx []))).mono t')⟩
  | false =>
    have z' : cond (isNon d) (post X.K (rV X.K) ρ1 H1 Q (.ob S1.length) S') False := z
    rw [e] at z'
    exact z'.elim
/-- raise C(..), C an error of one's own with the fields ns -/
def mRaise (C : Str) (ns : List Str) (ms : Env → M (List D)) : Env → M Out := fun env => (ms env).bind fun ds => (M.grd (ds.length == ns.length)).bind fun _ => M.raise ⟨C, ns, ds⟩
theorem zip_maps : ∀ {ns : List Str} {vs : List V}, vs.length = ns.length → (ns.zip vs).map Prod.fst = ns ∧ (ns.zip vs).map Prod.snd = vs
  | [], [], _ => ⟨rfl, rfl⟩
  | n :: ns, v :: vs, h => by
    obtain ⟨a, b⟩ := zip_maps (ns := ns) (vs := vs) (by simpa using h)
    exact ⟨by rw [List.zip_cons_cons, List.map_cons, a], by rw [List.zip_cons_cons, List.map_cons, b]⟩
theorem ms_raise {C : Str} {ns : List Str} (h : ∀ ta : TA, PA X es ta → PS X st (fun D σ H => ta σ H fun vs H1 => vs.length = ns.length ∧ ∀ d, H1 d = none → E (.ref (He.ga K C)) (some d) (upd H1 d (.xd (ns.zip vs))))) (ha : MA X K E es ms) : MS X K E st (mRaise C ns ms) := PS.imp (h _ ha) (by
  rintro D σ H ⟨ρ, S, env, sr, er, h⟩
  refine run_bindS (R := rVs K) sr er h fun ρ1 S1 H1 xs v t1 sr1 er1 hx h1 => ?_
  obtain ⟨e, h2⟩ := grd_run h1
  have hx : VRs K H1 ρ1 xs v := hx
  have hl : v.length = ns.length := by rw [hx.len]; exact eq_of_beq e
  obtain ⟨z1, z2⟩ := zip_maps hl
  exact ⟨hl, fun d hd => h2 ρ1 _ (some d) (Step.add hd) (sr1.add hd) (.inr ⟨d, _, rfl, upd_same, z1, by rw [z2]; exact hx.mono (Step.add hd)⟩)⟩)
/-- o.f = e -/
def putNs (f : Str) : List Str → List Str
  | [] => [f]
  | g :: r => if g = f then f :: r else g :: putNs f r
def putDs (f : Str) (y : D) : List Str → List D → List D
  | g :: r, d :: ds => if g = f then y :: ds else d :: putDs f y r ds
  | _, _ => [y]
def stF (tab : Tab) (f : Str) (x y : D) : M Unit := M.get.bind fun S => match x with
  | .ob i => (match S[i]? with
    | some (.ins C ns ds) => (M.grd (fldOk tab C f && decide (ns.length < 1000))).bind fun _ => M.put (S.set i (.ins C (putNs f ns) (putDs f y ns ds)))
    | _ => M.fail)
  | _ => M.fail
def mFldS (tab : Tab) (f : Str) (mo mv : Env → M D) : Env → M Out := fun env => (mv env).bind fun y => (mo env).bind fun x => (stF tab f x y).bind fun _ => M.pure (.nx env)
end
end ME
namespace ME
open PySem PySem.Spec PyProof.Rows L2
section
variable {X : Cx} {K : PySem.W.Frag} {E : XK} {a b e c o t : Expr} {st : Stmt} {es cs : List Expr} {ma mb : Env → M D} {ms : Env → M (List D)} {pos p p2 pos' : Pos} {x : Str}
theorem putNs_eq {f : Str} {v : V} : ∀ fs : List (Str × V), (putF f v fs).map Prod.fst = putNs f (fs.map Prod.fst)
  | [] => rfl
  | (g, w) :: r => by
    show (if g = f then (g, v) :: r else (g, w) :: putF f v r).map Prod.fst = if g = f then f :: r.map Prod.fst else g :: putNs f (r.map Prod.fst)
    by_cases h : g = f
    · rw [if_pos h, if_pos h, ← h]; rfl
    · rw [if_neg h, if_neg h, List.map_cons, putNs_eq r]
theorem putDs_ok {H : Hp} {ρ : Rs} {f : Str} {y : D} {v : V} (hy : VR K H ρ y v) : ∀ {fs : List (Str × V)} {ds : List D}, VRs K H ρ ds (fs.map Prod.snd) → VRs K H ρ (putDs f y (fs.map Prod.fst) ds) ((putF f v fs).map Prod.snd)
  | [], [], _ => .cons hy .nil
  | (g, w) :: r, d :: ds, .cons p q => by
    show VRs K H ρ (if g = f then y :: ds else d :: putDs f y (r.map Prod.fst) ds) ((if g = f then (g, v) :: r else (g, w) :: putF f v r).map Prod.snd)
    by_cases h : g = f
    · rw [if_pos h, if_pos h]; exact .cons hy q
    · rw [if_neg h, if_neg h]; exact .cons p (putDs_ok hy q)
theorem ms_fldS {tab : Tab} {f : Str} (hK : X.K = K) (hT : CFs K tab) (ho : ME X K E o ma) (hv : ME X K E e mb) (hs : swapsWith e (some (.Attribute o f pos')) pos.line X.env = pure false := by rfl) : MS X K E (.Assign [.Attribute o f pos'] e pos) (mFldS tab f ma mb) := PS.imp (ps_fld ho hv hs) (by
  subst hK
  rintro D σ H ⟨ρ, S, env, sr, er, h⟩
  refine run_bindS (R := rV X.K) sr er h fun ρ1 S1 H1 y v t1 sr1 er1 hy h1 => ?_
  refine run_bindS (R := rV X.K) sr1 er1 h1 fun ρ2 S2 H2 x u t2 sr2 er2 hx h2 => ?_
  have hy2 : VR X.K H2 ρ2 y v := VR.mono t2 hy
  cases hx with
  | @ob i a ha =>
    have h3 : ((match S2[i]? with
      | some (.ins C ns ds) => (M.grd (fldOk tab C f && decide (ns.length < 1000))).bind fun _ => M.put (S2.set i (.ins C (putNs f ns) (putDs f y ns ds)))
      | _ => M.fail : M Unit).bind fun _ => M.pure (Out.nx env)).run S2 (spost X.K ρ2 H2 D) (epost X.K ρ2 H2 E) := h2
    cases z : S2[i]? with
    | none => rw [z] at h3; exact h3.elim
    | some so => cases so with
      | ins C ns ds =>
        rw [z] at h3
        obtain ⟨g1, h4⟩ := grd_run (f := fun _ => (M.put (S2.set i (.ins C (putNs f ns) (putDs f y ns ds)))).bind fun _ => M.pure (Out.nx env)) h3
        obtain ⟨g2, g3⟩ := Bool.and_eq_true_iff.mp g1
        obtain ⟨dx, fs, e1, e2, e3⟩ := sr2.ok i a _ ha z
        subst e2
        obtain ⟨c1, c2⟩ := fldOk_cf hT g2
        have st : Step ρ2 H2 ρ2 (upd H2 a (.ins (He.ga X.K C) dx (putF f v fs))) := Step.put ha
        refine ⟨a, _, dx, fs, rfl, e1, c1, c2, by have := of_decide_eq_true g3; rwa [List.length_map] at this, ?_⟩
        exact h4 ρ2 _ st (sr2.put ha ⟨dx, _, upd_same, putNs_eq fs, putDs_ok (hy2.mono st) (e3.mono st)⟩) σ (er2.mono st)
      | _ => rw [z] at h3; exact h3.elim
  | _ => exact h2.elim)
/-! ### drawing -/
def gPen : List D → M D
  | [x] => (match x with
    | .scr ns => (M.grd (decide (ns.length ≤ 63))).bind fun _ => M.get.bind fun S => (M.put (S ++ [.pen 1048576])).bind fun _ => M.pure (.ob S.length)
    | _ => M.fail)
  | _ => M.fail
def drawQ (S : List SO) (i : Nat) (m : Int) : M D := match S[i]? with
  | some (.pen (b + 1)) => (M.grd (decide (0 < m) && decide (m ≤ 1099511627776))).bind fun _ => (M.put (S.set i (.pen b))).bind fun _ => (M.any fun r : Int => 0 ≤ r ∧ r < m).bind fun r => M.pure (.int r)
  | _ => M.fail
def gDraw : List D → M D
  | [x, y] => (match x with
    | .ob i => (match y with
      | .int m => M.get.bind fun S => drawQ S i m
      | _ => M.fail)
    | _ => M.fail)
  | _ => M.fail
theorem FnOk.toX {P : Program} {w : World} {K : PySem.W.Frag} {mg : Str → Option Value} {base : Heap} {k : Nat} {f : Addr} {fd : FuncData} {ps : List Str} {sp : Sp} {CX : CXT} (F : FnOk P w K mg base CX0 k f fd ps sp) : FnOk P w K mg base CX k f fd ps sp :=
  ⟨F.len, fun A outer s H args us vs Q E hr he hb hv hs => codeAny_mono (F.run A outer s H args us vs Q E hr he hb hv hs) fun r s' q => by
    cases r with
    | ok fl => cases fl <;> exact q
    | error e => exact (show False from q).elim⟩

/-! ### -a -/
def gNeg : D → M D
  | .int i => M.pure (.int (-i))
  | _ => M.fail
theorem l_neg : LnkU K (rU fun i => .int (-i)) gNeg := by
  intro ρ S H x v Q E sr hx q
  cases hx with
  | int i => exact ⟨i, rfl, q ρ H _ Step.refl sr (.int _)⟩
  | _ => exact q.elim
theorem me_neg (ha : ME X K E a ma) : ME X K E (.UnaryOp .USub a pos) (mOne gNeg ma) := me_un un_neg l_neg ha
/-- p holds -/
def M.grdP (p : Prop) : M Unit := ⟨fun S Q _ => p ∧ Q () S, fun S _ _ _ _ h _ q => ⟨q.1, h () S q.2⟩⟩
/-! ### comparisons as tests, chains -/
theorem mt_cmp {op : CmpOp} {r : L2.R2} {g : D → D → M D} (ho : OpR X (compareOp op) r) (L : Lnk K r g) (ha : ME X K E a ma) (hb : ME X K E b mb) (hm : behindInMarks op b = false) : MT X K E (.Compare a [op] [b] pos) (mTest (mOp g ma mb)) := PT.imp (pt_cmpR ho ha hb hm) (by
  rintro σ H Q ⟨ρ, S, env, sr, er, h⟩
  refine run_bind (m := ma) (R2 := rB) (f := fun x => ((mb env).bind fun y => g x y).bind asB) sr er h fun ρ1 S1 H1 x v t1 sr1 er1 hx h1 => ?_
  refine run_bind (m := mb) (R2 := rB) (f := fun y => (g x y).bind asB) sr1 er1 h1 fun ρ2 S2 H2 y u t2 sr2 er2 hy h2 => ?_
  refine L ρ2 S2 H2 x y v u _ E sr2 (VR.mono t2 hx) hy ((g x y).mono _ _ _ _ _ (fun d S' z ρ3 H3 w t3 sr3 rw => ?_) (fun _ _ z => z) h2)
  obtain ⟨k, rfl, q⟩ := asB_run z
  cases rw
  exact ⟨k, rfl, q ρ3 H3 k t3 sr3 rfl⟩)
theorem mt_eq (hu : X.A.units + 64 < cLine) (hK : X.K = K) (ha : ME X K E a ma) (hb : ME X K E b mb) : MT X K E (.Compare a [.Eq] [b] pos) (mTest (mOp gEq ma mb)) := by subst hK; exact mt_cmp (op_eq.or (op_eqD hu)) l_eq ha hb (nomark _)
theorem mt_ne (hu : X.A.units + 64 < cLine) (hK : X.K = K) (ha : ME X K E a ma) (hb : ME X K E b mb) : MT X K E (.Compare a [.NotEq] [b] pos) (mTest (mOp gNe ma mb)) := by subst hK; exact mt_cmp (op_ne.or (op_neD hu)) l_ne ha hb (nomark _)
theorem mt_isN (ha : ME X K E a ma) (hb : ME X K E b mb) : MT X K E (.Compare a [.Is] [b] pos) (mTest (mOp (gIsN id) ma mb)) := mt_cmp op_isN l_isN ha hb (nomark _)
theorem mt_notN (ha : ME X K E a ma) (hb : ME X K E b mb) : MT X K E (.Compare a [.IsNot] [b] pos) (mTest (mOp (gIsN not) ma mb)) := mt_cmp op_notN l_notN ha hb (nomark _)
theorem mt_lt (ha : ME X K E a ma) (hb : ME X K E b mb) : MT X K E (.Compare a [.Lt] [b] pos) (mTest (mOp gLt ma mb)) := mt_cmp (op_lt.or op_lt_str) (l_cmp _ _) ha hb (nomark _)
theorem mt_le (ha : ME X K E a ma) (hb : ME X K E b mb) : MT X K E (.Compare a [.LtE] [b] pos) (mTest (mOp gLe ma mb)) := mt_cmp (op_le.or op_le_str) (l_cmp _ _) ha hb (nomark _)
theorem mt_gt (ha : ME X K E a ma) (hb : ME X K E b mb) : MT X K E (.Compare a [.Gt] [b] pos) (mTest (mOp gGt ma mb)) := mt_cmp (op_gt.or op_gt_str) (l_cmp _ _) ha hb (nomark _)
theorem mt_ge (ha : ME X K E a ma) (hb : ME X K E b mb) : MT X K E (.Compare a [.GtE] [b] pos) (mTest (mOp gGe ma mb)) := mt_cmp (op_ge.or op_ge_str) (l_cmp _ _) ha hb (nomark _)
theorem mt_in (hK : X.K = K) (ha : ME X K E a ma) (hb : ME X K E b mb) (hm : behindInMarks .In b = false) : MT X K E (.Compare a [.In] [b] pos) (mTest (mOp (gIn id) ma mb)) := by subst hK; exact mt_cmp op_inA (l_in _) ha hb hm
theorem mt_notIn (hK : X.K = K) (ha : ME X K E a ma) (hb : ME X K E b mb) (hm : behindInMarks .NotIn b = false) : MT X K E (.Compare a [.NotIn] [b] pos) (mTest (mOp (gIn not) ma mb)) := by subst hK; exact mt_cmp op_notInA (l_in _) ha hb hm
/-- a <= b <= c over whole numbers -/
def chainLe : List (Int → Int → Bool) := []
def gChain (f g : Int → Int → Bool) (x y : D) (z : M D) : M D := match x with
  | .int i => (match y with
    | .int j => cond (f i j) (z.bind fun w => match w with | .int k => M.pure (.bl (g j k)) | _ => M.fail) (M.pure (.bl false))
    | _ => M.fail)
  | _ => M.fail
def mCh (f g : Int → Int → Bool) (a b c : Env → M D) : Env → M D := fun env => (a env).bind fun x => (b env).bind fun y => gChain f g x y (c env)
variable {mc : Env → M D}
theorem me_chain {op op' : CmpOp} {f g : Int → Int → Bool} (ho : OpR X (compareOp op) (rI0 fun i j => .bl (f i j))) (ho' : OpR X (compareOp op') (rI0 fun i j => .bl (g i j))) (ha : ME X K E a ma) (hb : ME X K E b mb) (hc : ME X K E c mc)
    (h : ∀ ta tb tc : TE, PE X a ta → PE X b tb → PE X c tc → PE X e (tChain (rI0 fun i j => .bl (f i j)) (rI0 fun i j => .bl (g i j)) ta tb tc)) : ME X K E e (mCh f g ma mb mc) := PE.imp (h _ _ _ ha hb hc) (by
  rintro σ H Q ⟨ρ, S, env, sr, er, h⟩
  refine run_bind (R2 := rV K) sr er h fun ρ1 S1 H1 x v t1 sr1 er1 hx h1 => ?_
  refine run_bind (m := mb) (R2 := rV K) sr1 er1 h1 fun ρ2 S2 H2 y u t2 sr2 er2 hy h2 => ?_
  cases hx with
  | int i => cases hy with
    | int j =>
      refine ⟨i, j, rfl, rfl, f i j, rfl, ?_⟩
      have h3 : (cond (f i j) ((mc env).bind fun w => match w with | .int k => M.pure (D.bl (g j k)) | _ => M.fail) (M.pure (.bl false))).run S2 (post K (rV K) ρ2 H2 Q) (epost K ρ2 H2 E) := h2
      cases z : f i j with
      | true =>
        rw [z] at h3
        refine iteT (run_bind (m := mc) (R2 := rV K) sr2 er2 h3 fun ρ3 S3 H3 w k' t3 sr3 er3 hw h4 => ?_)
        cases hw with
        | int k => exact ⟨j, k, rfl, rfl, h4 ρ3 H3 _ Step.refl sr3 (.bl _)⟩
        | _ => exact h4.elim
      | false =>
        rw [z] at h3
        exact iteF (h3 ρ2 H2 _ Step.refl sr2 (.bl _))
    | _ => exact h2.elim
  | _ => exact h2.elim)
theorem mt_chain {op op' : CmpOp} {f g : Int → Int → Bool} (ha : ME X K E a ma) (hb : ME X K E b mb) (hc : ME X K E c mc)
    (h : ∀ ta tb tc : TE, PE X a ta → PE X b tb → PE X c tc → PT X e (tTest (tChain (rI0 fun i j => .bl (f i j)) (rI0 fun i j => .bl (g i j)) ta tb tc))) : MT X K E e (mTest (mCh f g ma mb mc)) := PT.imp (h _ _ _ ha hb hc) (by
  rintro σ H Q ⟨ρ, S, env, sr, er, h⟩
  refine run_bind (m := ma) (R2 := rB) (f := fun x => ((mb env).bind fun y => gChain f g x y (mc env)).bind asB) sr er h fun ρ1 S1 H1 x v t1 sr1 er1 hx h1 => ?_
  refine run_bind (m := mb) (R2 := rB) (f := fun y => (gChain f g x y (mc env)).bind asB) sr1 er1 h1 fun ρ2 S2 H2 y u t2 sr2 er2 hy h2 => ?_
  cases hx with
  | int i => cases hy with
    | int j =>
      refine ⟨i, j, rfl, rfl, f i j, rfl, ?_⟩
      have h3 : ((cond (f i j) ((mc env).bind fun w => match w with | .int k => M.pure (D.bl (g j k)) | _ => M.fail) (M.pure (.bl false))).bind asB).run S2 (post K rB ρ2 H2 Q) (epost K ρ2 H2 E) := h2
      cases z : f i j with
      | true =>
        rw [z] at h3
        refine iteT (run_bind (m := mc) (R2 := rB) (f := fun w => (match w with | .int k => M.pure (D.bl (g j k)) | _ => M.fail : M D).bind asB) sr2 er2 h3 fun ρ3 S3 H3 w k' t3 sr3 er3 hw h4 => ?_)
        cases hw with
        | int k => exact ⟨j, k, rfl, rfl, _, rfl, h4 ρ3 H3 _ Step.refl sr3 rfl⟩
        | _ => exact h4.elim
      | false =>
        rw [z] at h3
        exact iteF ⟨_, rfl, h3 ρ2 H2 _ Step.refl sr2 rfl⟩
    | _ => exact h2.elim
  | _ => exact h2.elim)
end
/-! ### isinstance: what is known of built-in types -/
def tyIs (n : String) : TN → Bool
  | .b m => m == n || (n == "int" && m == "bool")
  | .c _ => false
def tyIn (ns : List String) (t : TN) : Bool := ns.any fun n => tyIs n t
def clsIs (C : Str) : TN → Bool
  | .b _ => false
  | .c D => D == C
/-- what the head tells of one's own classes -/
structure KitF (K : PySem.W.Frag) (tab : Tab) : Prop where
  cf : CFs K tab
  ty : ∀ p ∈ tab, ∀ n ∈ ["int", "bool", "str", "tuple", "list", "dict"], PySem.W.kitOne K (.ref (He.ga K p.1)) (.type n) = some false
  of : ∀ p ∈ tab, ∀ n ∈ ["NoneType", "int", "bool", "str", "tuple", "list", "dict"], PySem.W.kitOne K (.type n) (.ref (He.ga K p.1)) = some false
  two : ∀ p ∈ tab, ∀ q ∈ tab, PySem.W.kitOne K (.ref (He.ga K p.1)) (.ref (He.ga K q.1)) = some (p.1 == q.1)
  seq : ∀ p ∈ tab, PySem.W.kitAny K (.ref (He.ga K p.1)) [.type "list", .type "tuple"] = some false
section
variable {K : PySem.W.Frag} {tab : Tab}
theorem tn_cases {n : String} (h : tnOk tab (.b n) = true) : n = "NoneType" ∨ n = "bool" ∨ n = "int" ∨ n = "str" ∨ n = "tuple" ∨ n = "list" ∨ n = "dict" := by
  have h' : (n == "NoneType" || n == "bool" || n == "int" || n == "str" || n == "tuple" || n == "list" || n == "dict") = true := h
  simp only [Bool.or_eq_true, beq_iff_eq] at h'
  rcases h' with (((((h | h) | h) | h) | h) | h) | h <;> simp [h]
theorem tn_own {C : Str} (h : tnOk tab (.c C) = true) : ∃ p ∈ tab, p.1 = C := by
  obtain ⟨p, hp, e⟩ := List.any_eq_true.mp h
  exact ⟨p, hp, eq_of_beq e⟩
theorem KitF.isa (T : KitF K tab) {n : String} (hn : n ∈ ["int", "bool", "str", "tuple", "list", "dict"]) : Isa K tab (.type n) (tyIs n) := fun t ht => by
  cases t with
  | c C =>
    obtain ⟨p, hp, e⟩ := tn_own ht
    subst e
    exact T.ty p hp n hn
  | b m =>
    simp only [List.mem_cons, List.not_mem_nil, or_false] at hn
    rcases tn_cases ht with rfl | rfl | rfl | rfl | rfl | rfl | rfl <;> rcases hn with rfl | rfl | rfl | rfl | rfl | rfl <;> kernel_rfl
theorem KitF.isaS (T : KitF K tab) : IsaT K tab [.type "list", .type "tuple"] (tyIn ["list", "tuple"]) := fun t ht => by
  cases t with
  | c C =>
    obtain ⟨p, hp, e⟩ := tn_own ht
    subst e
    exact T.seq p hp
  | b m => rcases tn_cases ht with rfl | rfl | rfl | rfl | rfl | rfl | rfl <;> kernel_rfl
theorem KitF.isaC (T : KitF K tab) {C : Str} (hC : tab.any (fun p => p.1 == C) = true) : Isa K tab (.ref (He.ga K C)) (clsIs C) := fun t ht => by
  obtain ⟨q, hq, e2⟩ := List.any_eq_true.mp hC
  have e3 := eq_of_beq e2
  subst e3
  cases t with
  | c D =>
    obtain ⟨p, hp, e⟩ := tn_own ht
    subst e
    exact T.two p hp q hq
  | b m =>
    refine T.of q hq m ?_
    rcases tn_cases ht with rfl | rfl | rfl | rfl | rfl | rfl | rfl <;> simp
end
end ME
namespace ME
open PySem PySem.Spec PyProof.Rows L2
/-! ### running -/
theorem draw_run {S : List SO} {i b : Nat} {m : Int} {Q : D → List SO → Prop} {E : Ex → List SO → Prop} (h : S[i]? = some (.pen b)) (hb : 1 ≤ b) (h0 : 0 < m) (h1 : m ≤ 1099511627776) (k : ∀ r : Int, 0 ≤ r → r < m → Q (.int r) (S.set i (.pen (b - 1)))) : (gDraw [.ob i, .int m]).run S Q E := by
  show (drawQ S i m).run S Q E
  unfold drawQ
  obtain ⟨c, rfl⟩ : ∃ c, b = c + 1 := ⟨b - 1, by omega⟩
  rw [h]
  show cond (decide (0 < m) && decide (m ≤ 1099511627776)) _ False
  rw [decide_eq_true h0, decide_eq_true h1]
  exact fun r hr => k r hr.1 hr.2
theorem grd_ok {c : Bool} {p : Prop} (h : c = true) (q : p) : cond c p False := by
  subst h
  exact q
theorem cond_t {c : Bool} {p q : Prop} (h : c = true) (z : p) : cond c p q := by
  subst h
  exact z
theorem cond_f {c : Bool} {p q : Prop} (h : c = false) (z : q) : cond c p q := by
  subst h
  exact z
theorem crun_t {α : Type} {c : Bool} {a b : M α} {S : List SO} {Q : α → List SO → Prop} {E : Ex → List SO → Prop} (h : c = true) (z : a.run S Q E) : (cond c a b).run S Q E := by
  subst h
  exact z
theorem crun_f {α : Type} {c : Bool} {a b : M α} {S : List SO} {Q : α → List SO → Prop} {E : Ex → List SO → Prop} (h : c = false) (z : b.run S Q E) : (cond c a b).run S Q E := by
  subst h
  exact z
theorem mCons_pure {a : Env → M D} {r : Env → M (List D)} {env : Env} {x : D} {xs : List D} (ha : a env = M.pure x) (hr : r env = M.pure xs) : mCons a r env = M.pure (x :: xs) := by
  unfold mCons
  rw [ha, M.pure_bind, hr, M.pure_bind]
theorem mSet_pure {i : Nat} {m : Env → M D} {env : Env} {d : D} (h : m env = M.pure d) : mSet i m env = M.pure (.nx (env.set i (some d))) := by
  unfold mSet
  rw [h, M.pure_bind]
theorem make_run {C : Str} {g : List D → M D} {dfl ds : List D} {ms : Env → M (List D)} {env : Env} {S : List SO} {Q : D → List SO → Prop} {E : Ex → List SO → Prop} (ha : ms env = M.pure ds)
    (h : (g (.ob S.length :: (ds ++ dfl))).run (S ++ [.ins C [] []]) (fun d S' => cond (isNon d) (trimQ S.length (.ob S.length) S' Q) False) (fun x S' => trimX S.length x S' E)) : (mMake C g dfl ms env).run S Q E := by
  unfold mMake
  rw [ha, M.pure_bind]
  exact h
theorem mOp_pure {g : D → D → M D} {a b : Env → M D} {env : Env} {x y : D} (ha : a env = M.pure x) (hb : b env = M.pure y) : mOp g a b env = g x y := by
  unfold mOp
  rw [ha, M.pure_bind, hb, M.pure_bind]
theorem nx_run {a b : Env → M Out} {env e' : Env} {S : List SO} {Q : Out → List SO → Prop} {E : Ex → List SO → Prop} (h : a env = M.pure (.nx e')) (q : (b e').run S Q E) : (mSeq a b env).run S Q E := by
  unfold mSeq
  rw [h]
  exact q
theorem pure_run {α : Type} {a : Env → M α} {env : Env} {x : α} {S : List SO} {Q : α → List SO → Prop} {E : Ex → List SO → Prop} (h : a env = M.pure x) (q : Q x S) : (a env).run S Q E := by
  rw [h]
  exact q
theorem seq_run {a b : Env → M Out} {env : Env} {S : List SO} {Q : Out → List SO → Prop} {E : Ex → List SO → Prop} (h : (a env).run S (fun o S' => (seqK b o).run S' Q E) E) : (mSeq a b env).run S Q E := h
/-- a for: P holds ahead of each turn -/
theorem forGo_inv {ix : List Nat} {g : D → M (List D)} {body : Env → M Out} {Q : Out → List SO → Prop} {E : Ex → List SO → Prop} (P : Nat → Env → List SO → Prop) : ∀ (ds : List D) (n : Nat) (env : Env) (S : List SO), P n env S →
    (∀ i d env S, ds[i]? = some d → P (n + i) env S → (g d).run S (fun bs S' => (body (setE env ix bs)).run S' (fun o S2 => match o with | .nx e => P (n + i + 1) e S2 | .ct e => P (n + i + 1) e S2 | .bk e => Q (.nx e) S2 | .rt d => Q (.rt d) S2) E) fun _ _ => False) →
    (∀ env S, P (n + ds.length) env S → Q (.nx env) S) → (forGo ix g body ds env).run S Q E
  | [], n, env, S, h, _, hd => hd env S h
  | d :: ds, n, env, S, h, hs, hd => by
    refine (g d).mono _ _ _ _ _ (fun bs S' q => ?_) (fun _ _ z => z) (hs 0 d env S rfl h)
    refine (body (setE env ix bs)).mono _ _ _ _ _ (fun o S2 z => ?_) (fun _ _ z => z) q
    have tl : ∀ e S2, P (n + 1) e S2 → (forGo ix g body ds e).run S2 Q E := fun e S2 p => forGo_inv P ds (n + 1) e S2 p (fun i d' env S hi hp => by
      have := hs (i + 1) d' env S hi (by rw [show n + (i + 1) = n + 1 + i by omega]; exact hp)
      rw [show n + (i + 1) + 1 = n + 1 + i + 1 by omega] at this
      exact this) (fun env S hp => hd env S (by rw [List.length_cons, show n + (ds.length + 1) = n + 1 + ds.length by omega]; exact hp))
    cases o with
    | nx e => exact tl e S2 z
    | ct e => exact tl e S2 z
    | bk e => exact z
    | rt d => exact z
theorem mFor_inv {it : Env → M (List D)} {ix : List Nat} {g : D → M (List D)} {body : Env → M Out} {env : Env} {S : List SO} {Q : Out → List SO → Prop} {E : Ex → List SO → Prop} (ds : List D) (hi : it env = M.pure ds) (P : Nat → Env → List SO → Prop) (h0 : P 0 env S)
    (hs : ∀ i d env S, ds[i]? = some d → P i env S → (g d).run S (fun bs S' => (body (setE env ix bs)).run S' (fun o S2 => match o with | .nx e => P (i + 1) e S2 | .ct e => P (i + 1) e S2 | .bk e => Q (.nx e) S2 | .rt d => Q (.rt d) S2) E) fun _ _ => False)
    (hd : ∀ env S, P ds.length env S → Q (.nx env) S) : (mFor it ix g body env).run S Q E := by
  unfold mFor
  rw [hi, M.pure_bind]
  exact forGo_inv P ds 0 env S h0 (fun i d env S h p => by rw [Nat.zero_add] at p ⊢; exact hs i d env S h p) (fun env S p => hd env S (by rw [Nat.zero_add] at p; exact p))
/-- a comprehension: P by turn and what was made -/
theorem lcGo_inv {ix : List Nat} {g : D → M (List D)} {t : Env → M Bool} {e : Env → M D} {env : Env} {E : Ex → List SO → Prop} {Q : List D → List SO → Prop} (P : Nat → List D → List SO → Prop) : ∀ (ds : List D) (n : Nat) (acc : List D) (S : List SO), P n acc S →
    (∀ i d acc S, ds[i]? = some d → P (n + i) acc S → (g d).run S (fun bs S1 => (t (setE env ix bs)).run S1 (fun k S2 => cond k ((e (setE env ix bs)).run S2 (fun y S3 => P (n + i + 1) (acc ++ [y]) S3) E) (P (n + i + 1) acc S2)) E) E) →
    (∀ acc S, P (n + ds.length) acc S → Q acc S) → (lcGo ix g t e env ds).run S (fun r S' => Q (acc ++ r) S') E
  | [], n, acc, S, h, _, hd => by
    show Q (acc ++ []) S
    rw [List.append_nil]
    exact hd acc S h
  | d :: ds, n, acc, S, h, hs, hd => by
    have tl : ∀ acc S2, P (n + 1) acc S2 → (lcGo ix g t e env ds).run S2 (fun r S' => Q (acc ++ r) S') E := fun acc S2 p => lcGo_inv P ds (n + 1) acc S2 p (fun i d' acc S hi hp => by
      have := hs (i + 1) d' acc S hi (by rw [show n + (i + 1) = n + 1 + i by omega]; exact hp)
      rw [show n + (i + 1) + 1 = n + 1 + i + 1 by omega] at this
      exact this) (fun acc S hp => hd acc S (by rw [List.length_cons, show n + (ds.length + 1) = n + 1 + ds.length by omega]; exact hp))
    refine (g d).mono _ _ _ _ _ (fun bs S1 q => ?_) (fun _ _ z => z) (hs 0 d acc S rfl h)
    refine (t (setE env ix bs)).mono _ _ _ _ _ (fun k S2 q => ?_) (fun _ _ z => z) q
    cases k with
    | true =>
      refine (e (setE env ix bs)).mono _ _ _ _ _ (fun y S3 q => ?_) (fun _ _ z => z) q
      refine (lcGo ix g t e env ds).mono _ _ _ _ _ (fun r S' q => ?_) (fun _ _ z => z) (tl (acc ++ [y]) S3 q)
      rw [List.append_assoc] at q
      exact q
    | false => exact tl acc S2 q
end ME
namespace My
open PySem PySem.Spec PyProof.Rows L2
def top (i : Nat) : Stmt := PySem.Challenge.pw_neverstand_k03_instructions_taken_and_re.main.body.getD i (.Pass ⟨0, 0, 0, 0⟩)
end My
namespace My
open PySem PySem.Spec PyProof.Rows L2
open C8 (pss_cut tCut)
abbrev sPen : Stmt := top 35
abbrev sDraw : Stmt := top 36
abbrev sPick : Stmt := top 37
/-- the pen at p: its cells at c, its turn, its rest; b draws are left -/
def Pen (H : Hp) (p c : Addr) (b : Nat) : Prop := ∃ (ns : List Int) (t r : Int), H p = some (.lst [.ref c, .int t, .int r]) ∧ H c = some (.lst (ns.map V.int)) ∧ ns.length ≤ 63 ∧ 0 ≤ t ∧ t + b ≤ 1048576 ∧ 0 ≤ r
theorem Pen.keep {H H' : Hp} {p c : Addr} {b : Nat} (h : Pen H p c b) (k : ∀ a o, H a = some o → H' a = some o) : Pen H' p c b := by
  obtain ⟨ns, t, r, h1, h2, h3⟩ := h
  exact ⟨ns, t, r, k _ _ h1, k _ _ h2, h3⟩
theorem Pen.less {H : Hp} {p c : Addr} {b b' : Nat} (h : Pen H p c b) (hb : b' ≤ b) : Pen H p c b' := by
  obtain ⟨ns, t, r, h1, h2, h3, h4, h5, h6⟩ := h
  exact ⟨ns, t, r, h1, h2, h3, h4, by omega, h6⟩
/-- all but p stays -/
def But (p : Addr) (H H' : Hp) : Prop := ∀ a o, a ≠ p → H a = some o → H' a = some o
def spPen (K : PySem.W.Frag) : Sp := fun vs H Q _ => ∃ (a : Addr) (ns : List Int), vs = [.ref a] ∧ SqL K H a (ns.map V.int) ∧ ns.length ≤ 63 ∧
  ∀ p c H', H p = none → H c = none → Same H H' → Pen H' p c 1048576 → Q (.ref p) H'
def spDraw : Sp := fun vs H Q _ => ∃ (p c : Addr) (b : Nat) (m : Int), vs = [.ref p, .int m] ∧ Pen H p c (b + 1) ∧ 0 < m ∧ m ≤ 1099511627776 ∧
  ∀ r H', 0 ≤ r → r < m → But p H H' → Pen H' p c b → Q (.int r) H'
/-- what stands for a built-in -/
structure Bl (mg : Str → Option Value) : Prop where
  int : mg "int" = none
  len : mg "len" = none
  abs : mg "abs" = none
section
variable {P : Program} {w : World} {K : PySem.W.Frag} {mg : Str → Option Value} {base : Heap}
theorem scPen : FnScope ["script", "cell"] ["script"] (defScope sPen) := ⟨rfl, rfl, rfl, by decide +kernel, rfl, by decide +kernel, by decide +kernel⟩
theorem ok_pen {f : Addr} {fd : FuncData} (F : Fun K "_law_pen" "_law_pen" sPen f fd) (B : Bl mg) : FnOk P w K mg base CX0 1 f fd ["script"] (spPen K) := by
  refine F.ok scPen (fun vs H Q E h => ?_) (fun cdv A outer s H vs Q E hr h => ?_)
  · obtain ⟨a, ns, rfl, _⟩ := h
    rfl
  · obtain ⟨a, ns, rfl, hS, hl, k⟩ := h
    refine ⟨_, pss_one (ps_ret (pe_lst (pa_cons (pe_lc (own := [("cell", 1)]) (g := gName 1) (tt := tYes) rfl scPen.nd (pi_list (pe_slice sl_list (pv 0) po_none (po_some pe_int)))
      (blkOk_by (N := ["script", "cell"]) (sc := defScope sPen) (by decide +kernel)) (fun _ _ _ _ _ => pg_name (i := 1) scPen.nd rfl (Or.inl rfl)) (fun _ _ _ _ _ => pts_nil)
      (fun _ _ _ _ _ => pe_callTy call_int1 (by rfl) B.int (by decide +kernel) (pa_cons (pv 1) pa_nil))) (pa_cons pe_int (pa_cons pe_int pa_nil))))), ?_⟩
    -- script[:63]
    refine ⟨_, rfl, _, rfl, a, _, rfl, hS, fun q hq => ?_⟩
    have hcut : cutV (ns.map V.int) none (some 63) = ns.map V.int := by
      show ((ns.map V.int).drop 0).take (HT.sIx (ns.map V.int).length (ns.map V.int).length (some ((63 : Nat) : Int)) - 0) = ns.map V.int
      rw [HT.sIx_nat, List.drop_zero, List.length_map]
      exact List.take_of_length_le (by rw [List.length_map]; omega)
    rw [hcut]
    have s0 : Same H (upd H q (.lst (ns.map V.int))) := fun b o e => by rw [upd_ne (ne_of_none e hq)]; exact e
    refine ⟨q, rfl, ⟨_, SqL.of upd_same⟩, ?_⟩
    intro D hD
    have nDq : D ≠ q := fun z => by rw [z, upd_same] at hD; cases hD
    have hD0 : H D = none := by rw [upd_ne nDq] at hD; exact hD
    refine lc_list (K := K) (a := q) (xs := ns.map V.int) (fun i H' => Same H H' ∧ H' q = some (.lst (ns.map V.int)) ∧ H' D = some (.lst ((ns.take i).map V.int))) ?_ (fun i H' _ h => SqL.of h.2.1) ?_ ?_
    · refine ⟨fun b o e => ?_, ?_, upd_same⟩
      · rw [upd_ne (ne_of_none e hD0)]
        exact s0 _ _ e
      · rw [upd_ne nDq.symm, upd_same]
    · rintro i y H' hi ⟨s1, h1, h2⟩
      have hil : i < ns.length := by
        have z := (List.getElem?_eq_some_iff.mp hi).1
        rw [List.length_map] at z
        exact z
      have ey : y = V.int ns[i] := by
        rw [List.getElem?_map, List.getElem?_eq_getElem hil] at hi
        exact (Option.some.inj hi).symm
      subst ey
      refine ⟨rfl, ?_⟩
      simp only [tYes, if_true]
      refine ⟨_, rfl, .inl ⟨_, rfl, ?_⟩⟩
      refine ⟨_, h2, ?_, fun b o e => ?_, ?_, ?_⟩
      · rw [List.length_map, List.length_take]
        exact Nat.lt_of_le_of_lt (Nat.min_le_left _ _) (small1000 (by omega))
      · rw [upd_ne (ne_of_none e hD0)]
        exact s1 _ _ e
      · rw [upd_ne nDq.symm]
        exact h1
      · rw [upd_same, List.take_succ_eq_append_getElem hil, List.map_append]
        rfl
    · rintro H' ⟨s1, h1, h2⟩
      rw [List.length_map, List.take_length] at h2
      refine ⟨by show 3 ≤ sizeLine; decide, fun p hp => ?_⟩
      have nD : D ≠ p := ne_of_none h2 hp
      refine k p D _ (s1.free hp) hD0 (fun b o e => ?_) ⟨ns, 0, 0, upd_same, ?_, hl, by omega, by omega, by omega⟩
      · rw [upd_ne (ne_of_none (s1 _ _ e) hp)]
        exact s1 _ _ e
      · rw [upd_ne nD]
        exact h2

theorem dlt {m : Int} (h0 : 0 < m) (h : m ≤ 1099511627776) (i : Int) : CDivW i m := wide_div (b := 41) h0 (by omega) (by decide) (by decide)
theorem dmul {k : Int} {i j : Int} (h : -(2 ^ 64) < i ∧ i < 2 ^ 64) : CMul i j := .inl h
theorem dpAll_ints {K : PySem.W.Frag} {H : Hp} : ∀ ns : List Int, DpAll K H (ns.map V.int) (ns.map PyData.int)
  | [] => .nil
  | n :: ns => .cons (.int n) (dpAll_ints ns)
theorem scDraw : FnScope ["pen", "many", "rest", "turn", "cell", "mixed"] ["pen", "many"] (defScope sDraw) := ⟨rfl, rfl, rfl, by decide +kernel, rfl, by decide +kernel, by decide +kernel⟩
theorem ok_draw {f : Addr} {fd : FuncData} (F : Fun K "_law_draw" "_law_draw" sDraw f fd) (B : Bl mg) : FnOk P w K mg base CX0 1 f fd ["pen", "many"] spDraw := by
  refine F.ok scDraw (fun vs H Q E h => ?_) (fun cdv A outer s H vs Q E hr h => ?_)
  · obtain ⟨p, c, b, m, rfl, _⟩ := h
    rfl
  · obtain ⟨p, c, b, m, rfl, ⟨ns, t, r, hp, hc, hl, t0, tb, r0⟩, m0, m1, k⟩ := h
    have hu := hu_of hr
    refine ⟨_, (pss_cons (ps_if (pt_cmpR op_gt (pe_ix ix_list (pv 0) pe_int (fun _ _ => rfl)) pe_int (nomark _)) (pss_cons (ps_set (i := 2) scDraw.nd rfl (Or.inl rfl) (pe_callTy call_int1 (by rfl) B.int (by decide +kernel) (pa_cons (pe_ix ix_list (pv 0) pe_int (fun _ _ => rfl)) pa_nil)))
      (pss_cons (ps_asg (pe_op op_fdivW (pv 2) (pv 1)) (pg_sub (pv 0) pe_int set_list))
      (pss_one (ps_ret (pe_op op_mod (pe_callTy call_int1 (by rfl) B.int (by decide +kernel) (pa_cons (pv 2) pa_nil)) (pv 1)))))) pss_nil)
      (pss_cons (ps_set (i := 3) scDraw.nd rfl (Or.inl rfl) (pe_ix ix_list (pv 0) pe_int (fun _ _ => rfl)))
      (pss_cons (ps_asg (pe_op op_add (pv 3) pe_int) (pg_sub (pv 0) pe_int set_list))
      (pss_cons (ps_set (i := 4) scDraw.nd rfl (Or.inl rfl) (pe_op op_add (pe_op op_mul pe_int (pv 3)) pe_int))
      (pss_cut (ps_if (pt_cmpR (op_neD hr.units) (pe_ix ix_list (pv 0) pe_int (fun _ _ => rfl)) (pe_lst pa_nil) (nomark _)) (pss_one (ps_set (i := 4) scDraw.nd rfl (Or.inl rfl) (pe_ix ix_list (pe_ix ix_list (pv 0) pe_int (fun _ _ => rfl)) (pe_op op_mod (pe_callTy call_int1 (by rfl) B.int (by decide +kernel) (pa_cons (pv 3) pa_nil)) (pe_callB call_len_seq (by rfl) B.len (by decide +kernel) (pa_cons (pe_ix ix_list (pv 0) pe_int (fun _ _ => rfl)) pa_nil))) (fun _ _ => rfl)))) pss_nil)
      (pss_cut (ps_if (PW.pt (pw_and (pt_cmpR op_lt (pv 3) (pe_callB call_len_seq (by rfl) B.len (by decide +kernel) (pa_cons (pe_ix ix_list (pv 0) pe_int (fun _ _ => rfl)) pa_nil)) (nomark _)) (pw_and1 (pt_cmpR op_ge (pe_callB call_abs (by rfl) B.abs (by decide +kernel) (pa_cons (pv 4) pa_nil)) (pe_op op_pow pe_int pe_int) (nomark _))))) (pss_cons (ps_set (i := 2) scDraw.nd rfl (Or.inl rfl) (pe_op op_add (pe_op op_mul pe_int (pe_op op_sub (pe_callB call_abs (by rfl) B.abs (by decide +kernel) (pa_cons (pv 4) pa_nil)) (pe_op op_pow pe_int pe_int))) (pe_callTy call_int1 (by rfl) B.int (by decide +kernel) (pa_cons (pe_cmpR op_lt (pv 4) pe_int (nomark _)) pa_nil))))
      (pss_cons (ps_asg (pe_op op_fdivW (pe_callTy call_int1 (by rfl) B.int (by decide +kernel) (pa_cons (pv 2) pa_nil)) (pv 1)) (pg_sub (pv 0) pe_int set_list))
      (pss_one (ps_ret (pe_op op_mod (pe_callTy call_int1 (by rfl) B.int (by decide +kernel) (pa_cons (pv 2) pa_nil)) (pv 1)))))) pss_nil)
      (pss_cons (ps_set (i := 5) scDraw.nd rfl (Or.inl rfl) (pe_op op_mod (pe_callTy call_int1 (by rfl) B.int (by decide +kernel) (pa_cons (pe_op op_pow (pe_op op_add (pe_op op_add (pe_op op_mod (pe_callTy call_int1 (by rfl) B.int (by decide +kernel) (pa_cons (pv 4) pa_nil)) pe_int) (pe_op op_mul pe_int (pv 3))) pe_int) pe_int) pa_nil)) pe_int))
      (pss_cons (ps_set (i := 5) scDraw.nd rfl (Or.inl rfl) (pe_op op_mod (pe_callTy call_int1 (by rfl) B.int (by decide +kernel) (pa_cons (pe_op op_pow (pe_op op_add (pe_op op_add (pe_op op_mul (pv 5) (pe_op op_add (pe_op op_mul pe_int (pv 3)) pe_int)) (pe_op op_mul (pe_op op_mul pe_int (pv 3)) (pv 3))) pe_int) pe_int) pa_nil)) pe_int))
      (pss_one (ps_ret (pe_op op_mod (pe_callTy call_int1 (by rfl) B.int (by decide +kernel) (pa_cons (pe_op op_fdiv (pv 5) pe_int) pa_nil)) (pv 1)))))))))))), ?_⟩
    have hS := SqL.of (K := K) hp
    have ncp : c ≠ p := by
      intro z
      rw [z, hp] at hc
      have e := congrArg List.length (HO.lst.inj (Option.some.inj hc))
      cases ns with
      | nil => cases e
      | cons n ns => cases (HO.lst.inj (Option.some.inj hc))
    have a2 : ∀ x y z : V, atI [x, y, z] 2 = some z := fun _ _ _ => rfl
    have a1 : ∀ x y z : V, atI [x, y, z] 1 = some y := fun _ _ _ => rfl
    have a0 : ∀ x y z : V, atI [x, y, z] 0 = some x := fun _ _ _ => rfl
    have i2 : ∀ x y z : V, ixN [x, y, z].length 2 = some 2 := fun _ _ _ => rfl
    have i1 : ∀ x y z : V, ixN [x, y, z].length 1 = some 1 := fun _ _ _ => rfl
    have md : ∀ x : Int, 0 ≤ x % m ∧ x % m < m := fun x => ⟨Int.emod_nonneg _ (by omega), Int.emod_lt_of_pos _ m0⟩
    refine ⟨_, rfl, p, _, _, _, rfl, rfl, hS, a2 _ _ _, _, _, rfl, rfl, _, rfl, ?_⟩
    refine ite2 (fun _ => ?_) (fun _ => ?_)
    · refine ⟨_, rfl, p, _, _, _, rfl, rfl, hS, a2 _ _ _, .inl ⟨_, rfl, ?_⟩⟩
      refine ⟨_, rfl, _, rfl, _, _, rfl, rfl, dlt m0 m1 _, _, rfl, p, _, _, _, rfl, rfl, hp, i2 _ _ _, ?_⟩
      refine ⟨_, rfl, .inl ⟨_, rfl, _, rfl, _, _, rfl, rfl, m0, ?_⟩⟩
      refine k _ _ (md _).1 (md _).2 (fun a o ha e => by rw [upd_ne ha]; exact e) ⟨ns, t, r / m, upd_same, by rw [upd_ne ncp]; exact hc, hl, t0, by omega, Int.ediv_nonneg r0 (by omega)⟩
    -- turn = pen[1]; pen[1] = turn + 1; cell = 82619 * turn + 12653
    refine ⟨_, rfl, p, _, _, _, rfl, rfl, hS, a1 _ _ _, ?_⟩
    refine ⟨_, rfl, _, _, rfl, rfl, _, rfl, p, _, _, _, rfl, rfl, hp, i1 _ _ _, ?_⟩
    refine ⟨_, rfl, _, _, rfl, rfl, .inl (by constructor <;> decide), _, _, rfl, rfl, ?_⟩
    have hq : ∀ o, upd H p o c = some (.lst (ns.map V.int)) := fun o => by rw [upd_ne ncp]; exact hc
    have hS1 : SqL K (upd H p (.lst [V.ref c, V.int (t + 1), V.int r])) p [V.ref c, V.int (t + 1), V.int r] := SqL.of upd_same
    -- behind the if: the cell is some int
    refine ⟨fun σ' H' => ∃ z : Int, σ' = [some (.ref p), some (.int m), none, some (.int t), some (.int z), none] ∧ But p H H' ∧ H' p = some (.lst [V.ref c, V.int (t + 1), V.int r]) ∧ H' c = some (.lst (ns.map V.int)), ?_, ?_⟩
    · refine ⟨_, rfl, p, _, _, _, rfl, rfl, hS1, a0 _ _ _, ?_⟩
      refine ⟨by show 0 ≤ sizeLine; decide, fun q hq0 => ?_⟩
      have hq1 : upd H p (.lst [V.ref c, V.int (t + 1), V.int r]) q = none := hq0
      have npq : p ≠ q := fun z => by rw [← z, upd_same] at hq1; cases hq1
      have hHq : H q = none := by rw [upd_ne npq.symm] at hq1; exact hq1
      have ncq : c ≠ q := ne_of_none hc hHq
      have e2 : upd (upd H p (.lst [V.ref c, V.int (t + 1), V.int r])) q (.lst []) p = some (.lst [V.ref c, V.int (t + 1), V.int r]) := by rw [upd_ne npq, upd_same]
      have e3 : upd (upd H p (.lst [V.ref c, V.int (t + 1), V.int r])) q (.lst []) c = some (.lst (ns.map V.int)) := by rw [upd_ne ncq, upd_ne ncp]; exact hc
      have bt : But p H (upd (upd H p (.lst [V.ref c, V.int (t + 1), V.int r])) q (.lst [])) := fun a o ha e => by
        rw [upd_ne (ne_of_none e hHq), upd_ne ha]
        exact e
      refine ⟨.list (ns.map PyData.int), .list [], Dp.lst (SqL.of e3) (dpAll_ints _), Dp.lst (SqL.of upd_same) .nil, PySem.W.ke_shaped_ints ns, by rfl, _, rfl, ?_⟩
      cases hns : ns with
      | nil =>
        refine ite2 (fun z => ?_) (fun _ => ?_)
        · exact absurd z (by decide)
        · exact ⟨_, rfl, bt, e2, by rw [← hns]; exact e3⟩
      | cons n0 nr =>
        refine ite2 (fun _ => ?_) (fun z => ?_)
        · have hS2 : SqL K (upd (upd H p (.lst [V.ref c, V.int (t + 1), V.int r])) q (.lst [])) p [V.ref c, V.int (t + 1), V.int r] := SqL.of e2
          refine ⟨_, rfl, p, _, _, _, rfl, rfl, hS2, a0 _ _ _, ?_⟩
          refine ⟨_, rfl, .inl ⟨_, rfl, ?_⟩⟩
          refine ⟨_, rfl, p, _, _, _, rfl, rfl, hS2, a0 _ _ _, ?_⟩
          refine ⟨c, _, rfl, .inl (SqL.of e3), ?_⟩
          have lp : 0 < (ns.map V.int).length := by rw [hns]; exact Nat.succ_pos _
          refine ⟨_, _, rfl, rfl, (by show (0 : Int) < ((ns.map V.int).length : Int); omega), ?_⟩
          have g1 : 0 ≤ t % ((ns.map V.int).length : Int) := Int.emod_nonneg _ (by omega)
          have g2 : t % ((ns.map V.int).length : Int) < ((ns.map V.int).length : Int) := Int.emod_lt_of_pos _ (by omega)
          have g3 : (t % ((ns.map V.int).length : Int)).toNat < ns.length := by rw [List.length_map] at g2 g1 ⊢; omega
          refine ⟨c, _, _, V.int ns[(t % ((ns.map V.int).length : Int)).toNat], rfl, rfl, SqL.of e3, ?_, ?_⟩
          · refine at_of (j := (t % ((ns.map V.int).length : Int)).toNat) (by omega) ?_
            rw [List.getElem?_map, List.getElem?_eq_getElem g3]
            rfl
          · exact ⟨_, rfl, bt, e2, by rw [← hns]; exact e3⟩
        · exact absurd (show (!PyData.eqv (.list ((n0 :: nr).map PyData.int)) (.list [])) = true from rfl) z
    · rintro σ' H' ⟨z, rfl, bt, e2, e3⟩
      have hS3 : SqL K H' p [V.ref c, V.int (t + 1), V.int r] := SqL.of e2
      have pend : ∀ (r' : Int) (H2 : Hp), 0 ≤ r' → H2 = upd H' p (.lst [V.ref c, V.int (t + 1), V.int r']) → But p H H2 ∧ Pen H2 p c b := fun r' H2 h0 e => by
        refine ⟨fun a o ha q => ?_, ns, t + 1, r', by rw [e, upd_same], by rw [e, upd_ne ncp]; exact e3, hl, by omega, by omega, h0⟩
        rw [e, upd_ne ha]
        exact bt a o ha q
      -- if turn < len(pen[0]) and abs(cell) >= 10 ** 18
      refine ⟨fun σ2 H2 => σ2 = [some (.ref p), some (.int m), none, some (.int t), some (.int z), none] ∧ H2 = H', ?_, ?_⟩
      rotate_left
      · rintro σ2 H2 ⟨rfl, rfl⟩
        have t1 : t ≤ 1048576 := by omega
        have z0 : 0 ≤ z % 2147483563 := Int.emod_nonneg _ (by decide)
        have z1 : z % 2147483563 < 2147483563 := Int.emod_lt_of_pos _ (by decide)
        refine ⟨_, rfl, .inl ⟨_, rfl, _, _, rfl, rfl, (by show (0 : Int) < 2147483563; decide), _, rfl, _, _, rfl, rfl, .inl (by constructor <;> decide), _, _, rfl, rfl, _, _, rfl, rfl, _, _, rfl, rfl, ⟨by decide, by decide, ?_⟩, .inl ⟨_, rfl, _, _, rfl, rfl, (by show (0 : Int) < 2147483629; decide), ?_⟩⟩⟩
        · show (z % 2147483563 + 82619 * t + 12653).natAbs < 2 ^ 64
          omega
        generalize ((z % 2147483563 + 82619 * t + 12653) ^ (5 : Int).toNat) = y
        have y0 : 0 ≤ y % 2147483629 := Int.emod_nonneg _ (by decide)
        have y1 : y % 2147483629 < 2147483629 := Int.emod_lt_of_pos _ (by decide)
        refine ⟨_, rfl, _, rfl, _, _, rfl, rfl, .inl (by constructor <;> decide), _, _, rfl, rfl, _, _, rfl, rfl, .inl ⟨?_, ?_⟩, _, rfl, _, _, rfl, rfl, .inl (by constructor <;> decide), _, rfl, _, _, rfl, rfl, .inl ⟨?_, ?_⟩, _, _, rfl, rfl, _, _, rfl, rfl, _, _, rfl, rfl, ⟨by decide, by decide, ?_⟩, .inl ⟨_, rfl, _, _, rfl, rfl, (by show (0 : Int) < 2147483587; decide), ?_⟩⟩
        · show -(2 ^ 64) < y % 2147483629
          omega
        · show y % 2147483629 < 2 ^ 64
          omega
        · show -(2 ^ 64) < 41017 * t
          omega
        · show 41017 * t < 2 ^ 64
          omega
        · show (y % 2147483629 * (2 * t + 6571) + 41017 * t * t + 82619).natAbs < 2 ^ 64
          have b1 : y % 2147483629 * (2 * t + 6571) ≤ 2147483629 * 2103723 := Int.mul_le_mul (by omega) (by omega) (by omega) (by decide)
          have b0 : 0 ≤ y % 2147483629 * (2 * t + 6571) := Int.mul_nonneg y0 (by omega)
          have c1 : 41017 * t * t ≤ (41017 * 1048576) * 1048576 := Int.mul_le_mul (by omega) t1 t0 (by decide)
          have c0 : 0 ≤ 41017 * t * t := Int.mul_nonneg (by omega) t0
          omega
        generalize ((y % 2147483629 * (2 * t + 6571) + 41017 * t * t + 82619) ^ (3 : Int).toNat) = x
        refine ⟨_, rfl, _, _, rfl, rfl, ⟨by decide, by decide⟩, .inl ⟨_, rfl, _, rfl, _, _, rfl, rfl, m0, ?_⟩⟩
        exact k _ _ (md _).1 (md _).2 bt ⟨ns, t + 1, r, e2, e3, hl, by omega, by omega, r0⟩
      have hlenL : ((ns.map V.int).length : Int) = (ns.length : Int) := by rw [List.length_map]
      refine ⟨_, rfl, _, rfl, p, _, _, _, rfl, rfl, hS3, a0 _ _ _, c, _, rfl, .inl (SqL.of e3), _, _, rfl, rfl, _, rfl, ?_⟩
      refine ite2 (fun _ => ?_) (fun _ => ?_)
      · refine ⟨_, rfl, _, rfl, _, _, rfl, rfl, ⟨by decide, by decide, by decide⟩, _, _, rfl, rfl, _, rfl, ?_⟩
        refine ite2 (fun hge => ?_) (fun _ => ?_)
        · have hge2 : (1000000000000000000 : Int) ≤ (if z < 0 then -z else z) := of_decide_eq_true hge
          refine ⟨_, rfl, _, rfl, _, _, rfl, rfl, ⟨by decide, by decide, by decide⟩, _, _, rfl, rfl, _, _, rfl, rfl, .inl (by constructor <;> decide), ?_⟩
          refine ⟨_, rfl, _, _, rfl, rfl, .inr ⟨_, rfl, ?_⟩⟩
          refine ⟨_, _, rfl, rfl, ?_⟩
          have hx : 0 ≤ 2 * ((if z < 0 then -z else z) - (10 : Int) ^ (18 : Int).toNat) + (if decide (z < 0) = true then 1 else 0) := by
            have e : (10 : Int) ^ (18 : Int).toNat = 1000000000000000000 := by decide
            rw [e]
            split <;> split <;> omega
          refine ⟨_, rfl, .inl ⟨_, rfl, ?_⟩⟩
          refine ⟨_, rfl, _, _, rfl, rfl, dlt m0 m1 _, _, rfl, p, _, _, _, rfl, rfl, e2, i2 _ _ _, ?_⟩
          obtain ⟨k1, k2⟩ := pend _ _ (Int.ediv_nonneg hx (show (0 : Int) ≤ m by omega)) rfl
          refine ⟨_, rfl, .inl ⟨_, rfl, _, rfl, _, _, rfl, rfl, m0, ?_⟩⟩
          exact k _ _ (md _).1 (md _).2 k1 k2
        · exact ⟨rfl, rfl⟩
      · exact ⟨rfl, rfl⟩
end
end My
namespace My
open PySem PySem.Spec PyProof.Rows L2
section
variable {P : Program} {w : World} {K : PySem.W.Frag} {mg : Str → Option Value} {base : Heap}
theorem pen_cl {f : Addr} {fd : FuncData} (F : Fun K "_law_pen" "_law_pen" sPen f fd) (hm : mg "_law_pen" = some (.ref f)) (B : Bl mg) : ME.Cl P w K mg base "_law_pen" 1 [] ME.gPen := by
  refine ME.cl_of (ps := ["script"]) ((ME.FnOk.toX (ok_pen F B)).imp fun vs H Q E ⟨ρ, S, ds, sr, r, h⟩ => ?_) hm F.kp (F.binds fun _ _ _ _ _ _ us hl => match us, hl with | [_], _ => rfl)
  match ds, vs, r with
  | [x], [v], .cons p .nil => cases p with
    | @scr a ns e =>
      obtain ⟨g1, h⟩ := ME.grd_run h
      refine ⟨a, ns, rfl, e.sq, of_decide_eq_true g1, fun p c H' hp hc sm hP => ?_⟩
      obtain ⟨ms, t, r, h1, h2, h3, h4, h5, h6⟩ := hP
      have st : ME.Step ρ H (ρ.more p) H' := ⟨⟨[p], rfl, fun a ha => by rw [List.mem_singleton.mp ha]; exact ME.Nn.of hp⟩, fun _ h => h, fun _ h => .inl h, fun a o _ _ e => sm a o e, fun a o w e => ⟨o, w, sm a o e⟩⟩
      have np := sr.new hp
      have nc := sr.new hc
      have ncp : c ≠ p := fun z => by
        rw [z, h1] at h2
        have := congrArg List.head? (HO.lst.inj (Option.some.inj h2))
        cases ms with
        | nil => cases this
        | cons m ms => cases this
      have fc : (ρ.more p).fz c := ⟨fun z => by
        rcases List.mem_append.mp (show c ∈ ρ.ob ++ [p] from z) with y | y
        · exact nc.1 y
        · exact ncp (List.mem_singleton.mp y), nc.2⟩
      refine h (ρ.more p) H' (.ref p) st ?_ (ME.newO (H := H) (o := .lst []) sr |> fun q => by cases q with | ob e => exact .ob e)
      refine ⟨?_, by show (ρ.ob ++ [p]).length = _; rw [List.length_append, List.length_append, sr.len]; rfl, fun i a o e1 e2 => ?_, fun a ha => ?_, fun a ha => ?_⟩
      · refine List.nodup_append.mpr ⟨sr.nd, by simp, fun a ha b hb e => ?_⟩
        rw [List.mem_singleton.mp hb] at e
        exact np.1 (e ▸ ha)
      · have e1' : (ρ.ob ++ [p])[i]? = some a := e1
        by_cases hi : i < ρ.ob.length
        · rw [List.getElem?_append_left hi] at e1'
          rw [List.getElem?_append_left (by rw [← sr.len]; exact hi)] at e2
          refine (sr.ok i a o e1' e2).mono st ?_
          obtain ⟨u, hu⟩ := sr.live a (List.mem_of_getElem? e1')
          rw [hu]
          exact sm a u hu
        · rw [List.getElem?_append_right (by omega)] at e1'
          rw [List.getElem?_append_right (by rw [← sr.len]; omega), ← sr.len] at e2
          have hz : i - ρ.ob.length = 0 := by
            have := (List.getElem?_eq_some_iff.mp e1').1
            simp at this
            omega
          rw [hz] at e1' e2
          have e3 : p = a := Option.some.inj e1'
          have e4 : ME.SO.pen 1048576 = o := Option.some.inj e2
          rw [← e3, ← e4]
          exact ⟨c, ms, t, r, h1, fc, h2, h3, h4, h5, h6⟩
      · rcases List.mem_append.mp (show a ∈ ρ.ob ++ [p] from ha) with y | y
        · obtain ⟨u, hu⟩ := sr.live a y
          exact ⟨u, sm a u hu⟩
        · rw [List.mem_singleton.mp y]
          exact ⟨_, h1⟩
      · obtain ⟨⟨u, hw, hu⟩, n⟩ := sr.set a ha
        refine ⟨⟨u, hw, sm a u hu⟩, fun z => ?_⟩
        rcases List.mem_append.mp (show a ∈ ρ.ob ++ [p] from z) with y | y
        · exact n y
        · rw [List.mem_singleton.mp y, hp] at hu
          cases hu
    | _ => exact h.elim
  | [], _, _ => exact h.elim
  | _ :: _ :: _, _, _ => exact h.elim
theorem draw_cl {f : Addr} {fd : FuncData} (F : Fun K "_law_draw" "_law_draw" sDraw f fd) (hm : mg "_law_draw" = some (.ref f)) (B : Bl mg) : ME.Cl P w K mg base "_law_draw" 1 [] ME.gDraw := by
  refine ME.cl_of (ps := ["pen", "many"]) ((ME.FnOk.toX (ok_draw F B)).imp fun vs H Q E ⟨ρ, S, ds, sr, r, h⟩ => ?_) hm F.kp (F.binds fun _ _ _ _ _ _ us hl => match us, hl with | [_, _], _ => rfl)
  match ds, vs, r with
  | [x, y], [v, u], .cons p (.cons q .nil) => cases p with
    | @ob i a e => cases q with
      | int m =>
        have h : (ME.drawQ S i m).run S (ME.post K (ME.rV K) ρ H Q) (ME.epost K ρ H E) := h
        unfold ME.drawQ at h
        split at h
        · next b hb =>
          obtain ⟨g, h⟩ := ME.grd_run h
          obtain ⟨g1, g2⟩ := Bool.and_eq_true_iff.mp g
          obtain ⟨c, ns, t, r0, h1, h2, h3, h4⟩ := sr.ok i a _ e hb
          refine ⟨a, c, b, m, rfl, ⟨ns, t, r0, h1, h3, h4.1, h4.2.1, by have := h4.2.2.1; omega, h4.2.2.2⟩, of_decide_eq_true g1, of_decide_eq_true g2, fun r' H' r1 r2 bt hP => ?_⟩
          have hl : ∀ b o, ME.ntb o → H b = some o → ∃ o', ME.ntb o' ∧ H' b = some o' := fun b o w z => by
            by_cases y : b = a
            · obtain ⟨_, _, _, w1, _⟩ := hP
              rw [y]
              exact ⟨_, ME.ntb_lst, w1⟩
            · exact ⟨o, w, bt b o y z⟩
          have ma : a ∈ ρ.ob := List.mem_of_getElem? e
          have st : ME.Step ρ H ρ H' := ⟨⟨[], by simp, fun a h => nomatch h⟩, fun _ h => h, fun _ h => .inl h, fun b o n _ z => bt b o (fun y => n (y ▸ ma)) z, hl⟩
          refine h r' ⟨r1, r2⟩ ρ H' (.int r') st ⟨sr.nd, by rw [List.length_set]; exact sr.len, fun j b o w1 w2 => ?_, fun b hb => ?_, fun b hb => ⟨?_, (sr.set b hb).2⟩⟩ (.int _)
          · by_cases z : i = j
            · subst z
              have hi : i < S.length := by rw [← sr.len]; exact (List.getElem?_eq_some_iff.mp e).1
              rw [List.getElem?_set_self hi] at w2
              rw [e] at w1
              rw [← Option.some.inj w1, ← Option.some.inj w2]
              obtain ⟨ns', t', r0', k1, k2, k3, k4, k5, k6⟩ := hP
              exact ⟨c, ns', t', r0', k1, h2, k2, k3, k4, by omega, k6⟩
            · rw [List.getElem?_set_ne z] at w2
              obtain ⟨u, hu⟩ := sr.live b (List.mem_of_getElem? w1)
              have nb : b ≠ a := fun y => z (ME.nodup_at sr.nd e (y ▸ w1))
              refine (sr.ok j b o w1 w2).mono st ?_
              rw [hu]
              exact bt b u nb hu
          · obtain ⟨o, q⟩ := sr.live b hb
            by_cases y : b = a
            · obtain ⟨_, _, _, w1, _⟩ := hP
              rw [y]
              exact ⟨_, w1⟩
            · exact ⟨o, bt b o y q⟩
          · obtain ⟨o, w, q⟩ := (sr.set b hb).1
            exact ⟨o, w, bt b o (fun y => (sr.set b hb).2 (y ▸ ma)) q⟩
        · exact h.elim
      | _ => exact h.elim
    | _ => exact h.elim
  | [], _, _ => exact h.elim
  | [_], _, _ => exact h.elim
  | _ :: _ :: _ :: _, _, _ => exact h.elim
end
end My
namespace L2
open PySem PySem.Spec PyProof.Rows
section
variable {X : Cx} {pos : Pos}
/-- (x, y), K told (in a comprehension) -/
theorem pg_tupK {el : List Expr} {k m : Nat} {tg : TGs} {K : PySem.W.Frag} (hc : X.calm = true) (h : PGs X el tg) (hK : X.K = K := by rfl) (hn : (assignEach el X.env).length = m := by rfl) (hst : (assignEach el X.env).findIdx? (·.1) = none := by rfl) :
    PG X (.Tuple el k pos) (gTup K m tg) := by
  subst hK
  exact pg_tup hc h hn hst
end
end L2

/-! Own errors whose __init__ hands its arguments to super() and keeps them in attributes. -/
namespace Exo
open PySem PySem.W PySem.Calls PyProof.Rows PySem.HandSPX
/-! ### the text of such an __init__ -/
def xArg (x : Str) (p : Pos) : Arg := { arg := x, annotation := none, pos := p }
def xA (as : List Arg) : Arguments := { posonlyargs := [], args := as, vararg := none, kwonlyargs := [], kw_defaults := [], kwarg := none, defaults := [] }
def xSup (as : List Expr) (q1 q2 q3 q4 q5 : Pos) : Stmt := .Expr (.Call (.Attribute (.Call (.Name "super" q1) [] [] q2) "__init__" q3) as [] q4) q5
def xSet (x : Str) (q1 q2 q3 q4 : Pos) : Stmt := .Assign [.Attribute (.Name "self" q1) x q2] (.Name x q3) q4
def xS (ns : List Str) : Scope := { kind := .function, names := (("self" : Str), NameKind.local) :: (ns.map (fun x => (x, NameKind.local)) ++ ([(PySem.Str.ofString "__class__", NameKind.free), (PySem.Str.ofString "super", NameKind.globalImplicit)] : List (Str × NameKind))), isGenerator := false, isCoroutine := false, more := [] }
/-- what the written part says of the class at C and of its __init__ at fI, whose parameters (behind self) and attributes are ns -/
structure Xc (prog : Program) (K : Frag) (qual : Str) (ns : List Str) (params : Arguments) (body : List Stmt) (C fI : Addr) (fd : FuncData) : Prop where
  ini : excInitIn K C [.type "ValueError", .type "Exception", .type "BaseException", .type "object"] "ValueError.__new__" = true
  cls : ∃ cd, clsIn K C = some cd ∧ refsVE cd.mro = true ∧ cd.hasDict = true
  sa : findIn K (.ref C) "__setattr__" = some (some (.builtin "object.__setattr__"))
  iC : findIn K (.ref C) "__init__" = some (some (.ref fI))
  sup : ks_superIn K C C "__init__" = some (some (.builtin "ValueError.__init__"))
  subV : subIn K (.ref C) (.type "ValueError") = some true
  own : mroIn K C (.ref C) = some true
  tp : nsIn K cStatics "thirdparty.any" = some none
  noN : ∀ x ∈ ns, findIn K (.ref C) x = some none
  hd : ∃ ar, (params.posonlyargs ++ params.args).head? = some ar ∧ ar.arg = "self"
  fn : ∃ (od : Option Addr) (kV doc pm : Value) (an : Option Addr) (ct : Value) (cc cda : Addr) (osl : Array (Option Value)) (vs : Array Value) (file : Str) (tf : Tok) (ccl cl : Value) (cdd cld : Option Addr) (ccs csl : Array (Option Value)),
    fd = ksFn "__init__" qual params body (xS ns) .none kV doc pm an (.ref cda) ct cc ∧ K.lookup fI = some ⟨.type "function", od, .func fd, osl⟩ ∧ codeIn K (.ref cda) qual = true ∧
    K.lookup cda = some ⟨ccl, cdd, .fields vs, ccs⟩ ∧ vs[2]? = some (.str file tf) ∧ ((prog.main.file : Str) == file) = true ∧ K.lookup cc = some ⟨cl, cld, .cell (some (.ref C)), csl⟩
theorem Xc.binds {prog : Program} {K : Frag} {qual : Str} {ns : List Str} {params : Arguments} {body : List Stmt} {C fI : Addr} {fd : FuncData} (T : Xc prog K qual ns params body C fI fd) {args : Args} {bs : List (Str × Value)} {s : Shared}
    (h : ∀ (kV doc pm : Value) (an : Option Addr) (ct : Value) (cc cda : Addr), bindArgs (ksFn "__init__" qual params body (xS ns) .none kV doc pm an (.ref cda) ct cc) args = pure bs) : BindsTo s fd args bs := by
  obtain ⟨od, kV, doc, pm, an, ct, cc, cda, osl, vs, file, tf, ccl, cl, cdd, cld, ccs, csl, rfl, _⟩ := T.fn
  exact .of_eq (h kV doc pm an ct cc cda)
theorem kept_but {K : Frag} {h h' : Heap} {x : Addr} (X : K.In h) (hx : K.lookup x = none) (k : ∀ b o, b ≠ x → h.get? b = some o → h'.get? b = some o) : K.In h' := fun a o e =>
  k a o (fun z => by rw [z, hx] at e; cases e) (X a o e)
/-- what __init__ leaves of a fresh error at x: its own dict at dx holds m -/
structure Left (h h' : Heap) (x C dx : Addr) (m : Str → Option Value) (ns : List Str) : Prop where
  keep : ∀ b o, b ≠ x → h.get? b = some o → h'.get? b = some o
  obj : ∃ t, h'.get? x = some { cls := .ref C, dict := some dx, data := .fields #[.ref t, .none, .none, .none, .bool false, .none] }
  dbig : h.objs.size ≤ dx
  dne : dx ≠ x
  dict : h'.Ns1 dx m
  within : Within m ns
section
variable {prog : Program} {w : World} {A : Around} {E : Value → Shared → Prop} {R : Result → Shared → Prop} {K : Frag} {mg : Str → Option Value} {C fI : Addr} {qual : Str} {ns : List Str} {params : Arguments} {body : List Stmt} {fd : FuncData}
variable {h : Heap} {g : Array GenState} {d : Drawn} {t : Nat} {os : OsState}
/-- a second attribute: the dict is there -/
theorem osa_more {name : Str} {tk : Tok} {v : Value} {x dx : Addr} {fv : Array Value} {cd : ClassData} {m0 : Str → Option Value} {nl : List Str}
    (X : K.In h) (hx : h.get? x = some { cls := .ref C, dict := some dx, data := .fields fv }) (hns : h.Ns1 dx m0) (hw : Within m0 nl) (hz : nl.length ≤ 1000) (hcd : clsIn K C = some cd) (hm : refsVE cd.mro = true) (hh : cd.hasDict = true)
    (ha : findIn K (.ref C) name = some none)
    (hq : ∀ h' tk', (∀ b o, b ≠ dx → h.get? b = some o → h'.get? b = some o) → h'.Ns1 dx (fun y => if y = name then some v else m0 y) → R (.ok (.ret .none)) ⟨h', g, d, tk', os⟩) :
    codeAny (model prog w) A (.call (.builtin "object.__setattr__") ⟨[.ref x, .str name tk, v], []⟩) R ⟨h, g, d, t, os⟩ := by
  obtain ⟨oD, esD, epD, hoD, hdD, _⟩ := hns.count hw
  have I : InstAt h x { cls := .ref C, dict := some dx, data := .fields fv } C (some oD) := ⟨hx, rfl, rfl, hoD⟩
  have SF := F.store_object
  have ne := refsVE_ne hm
  have hob : cd.mro.contains (.type "object") = true := (refsVE_contains "object" _ hm).trans (by decide +kernel)
  have sub : Looks (model prog w) h (isInstance (.ref x) (.type "object")) true := I.type.andThen (looks_mroIn X (by unfold mroIn; rw [hcd, Option.bind_some, if_neg (by rw [ne]; decide), hob]))
  refine codeAny_call_builtin SF.slot.plain SF.entry (@check_slot (model prog w) _ _ ⟨h, g, d, t, os⟩ "object.__setattr__" "object" "__setattr__" (.ref x) [.str name tk, v] [] _ SF.kind SF.split sub (SF.args (.ref x) (.str name tk) v) ?_)
  have hmr : Looks (model prog w) h (mroOf (.ref C)) cd.mro := (looks_clsIn X hcd).andThen .now
  have L3 : Looks (model prog w) h (Builtin.ObjectAttr.storeTaker? none) none := .now
  have hcls : Looks (model prog w) h (classData C) cd := looks_clsIn X hcd
  rw [osa_eq, refuse_eq]
  refine wpAny_bind (wpAny_bind (I.type.at (wpAny_bind (hmr.at ?_))))
  rw [refsVE_pass _ _ hm]
  refine wpAny_pure (wpAny_bind (I.type.at (wpAny_bind ((looks_findIn X ha).at (wpAny_bind (L3.at ?_))))))
  show wpAny _ _ (Builtin.ObjectAttr.storeInOwnDict (.ref x) (.ref C) (.str name tk) name v false) _ _ _
  obtain ⟨nm, bs, mro, nsp, qn, hd, sn, sb, ab, col, del⟩ := cd
  dsimp only at hh
  subst hh
  unfold Builtin.ObjectAttr.storeInOwnDict Builtin.ObjectAttr.ownDictForStores
  repeat (first | with_reducible refine ESX.store_in_old hns hw hz ?_ | with_reducible refine wpAny_loadPart_at hx ?_ | with_reducible refine hcls.at ?_ | wp_step)
  intro h' tk' hn' hs
  exact hq h' tk' (fun b o hb ho => (hs.2 b hb).trans ho) hn'

/-- ValueError.__init__ bound to x, called: the args are laid anew -/
theorem call_mw {x t0 u : Addr} {us : List Value} {Q : Value → Shared → Prop} (X : K.In h) (q : excInitIn K C [.type "ValueError", .type "Exception", .type "BaseException", .type "object"] "ValueError.__new__" = true)
    (hu : h.get? u = some (kxs_mw "ValueError.__init__" x)) (hx : h.get? x = some (excO C t0)) (hz : us.length ≤ sizeLine)
    (hq : ∀ h', (∀ b o, b ≠ x → h.get? b = some o → h'.get? b = some o) → (∃ t1, h'.get? x = some (excO C t1)) → Q .none ⟨h', g, d, t, os⟩) :
    wpAny (model prog w) A (call (.ref u) us) Q E ⟨h, g, d, t, os⟩ := by
  obtain ⟨nm, N', qn, bs, bm, hdct, sn, sub, ab, col, dd, k0, k1, k2, k3, k5, hC, hT⟩ := excInit_of X q
  refine wpAny_call (codeAny_of_tree ?_)
  show wpAny _ A.in1 (callAny (.ref u) ⟨us, []⟩) _ _ _
  simp only [callAny]
  refine wpAny_bind (wpAny_load hu ?_)
  have eW : (Value.type "method-wrapper" == Value.type "method" || Value.type "method-wrapper" == Value.type "builtin_function_or_method" || Value.type "method-wrapper" == Value.type "method-wrapper") = true := by decide
  simp only [kxs_mw, eW, if_true]
  refine KFB.if_so (by decide) ?_
  refine wpAny_bind (check_bound_init F.excBase_ValueError.toExcCallFacts hC hx rfl ?_)
  refine wpAny_bind (wpAny_pure (wpAny_pure ?_))
  refine ⟨plainId_quiet F.excBase_ValueError.init.plain _, codeAny_builtin F.excBase_ValueError.initEntry ?_⟩
  exact exc_init_tree (cls := .ref C) (t0 := t0) (dv := none) (c2 := .none) (c3 := .none) (b4 := .bool false) hx hz fun h' k' e' _ => hq h' k' ⟨_, e'⟩
/-- super().__init__(..) -/
theorem sup_node {cc cda L : Addr} {env : Env} {fd : FuncData} {ar : Arg} {m : Str → Option Value} {x t0 : Addr} {od cdd cld : Option Addr} {osl ccs csl : Array (Option Value)} {oc ccl cl : Value} {vs : Array Value} {file : Str} {tf : Tok} {mb : Str → Option Value}
    {q1 q2 q3 q4 : Pos} {args : List Expr} {us : List Value} {pl : Sem Bool} {Q : Value → Shared → Prop} (T : Xc prog K qual ns params body C fI fd) (X : K.In h) (hg : h.Ns mainGlobals mg) (hb : h.Ns builtinsNs mb) (hbb : mb "super" = some (.type "super")) (hms : mg "super" = none)
    (he : env = ksEnv qual (xS ns) L fI (.ref cda) cc) (k1 : (xS ns).names.lookup ("super" : Str) = some .globalImplicit) (k2 : (xS ns).names.lookup ("__class__" : Str) = some .free) (k3 : (xS ns).names.lookup ("self" : Str) = some .local)
    (hf : K.lookup fI = some ⟨oc, od, .func fd, osl⟩) (hp : (fd.params.posonlyargs ++ fd.params.args).head? = some ar) (har : ar.arg = "self") (hn : h.Ns L m) (hv : m "self" = some (.ref x)) (hx : h.get? x = some (excO C t0))
    (hcode : K.lookup cda = some ⟨ccl, cdd, .fields vs, ccs⟩) (hvs : vs[2]? = some (.str file tf)) (hfile : ((prog.main.file : Str) == file) = true) (hcell : K.lookup cc = some ⟨cl, cld, .cell (some (.ref C)), csl⟩)
    (htop : (prog.main.scope.names.lookup ("super" : Str)).isSome = false) (hxC : x ≠ C) (hz : us.length ≤ sizeLine)
    (hform : eval (.Call (.Attribute (.Call (.Name "super" q1) [] [] q2) "__init__" q3) args [] q4) env = (do
      let ov ← attributeBase (.Call (.Name "super" q1) [] [] q2) "__init__" env (eval (.Call (.Name "super" q1) [] [] q2) env)
      standAt q3.atName
      let (f, first) ← holding [ov] (getMethod ov "__init__" pl)
      callWith q4 f first (backTo q4 (starEach args env)) []))
    (hargs : ∀ (h1 : Heap) (t1 : Nat) (u : Addr) (R' : Args → Shared → Prop), (∀ b o, h.get? b = some o → h1.get? b = some o) → R' ⟨us, []⟩ ⟨h1, g, d, t1, os⟩ → wpAny (model prog w) A (evalArgs (.ref u) true (backTo q4 (starEach args env)) []) R' E ⟨h1, g, d, t1, os⟩)
    (hpl : (backTo q4 (starEach args env)).any (·.1) = false)
    (hq : ∀ h' t', (∀ b o, b ≠ x → h.get? b = some o → h'.get? b = some o) → (∃ t1, h'.get? x = some (excO C t1)) → Q .none ⟨h', g, d, t', os⟩) :
    _root_.PySem.wpAt (model prog w) A (.func body env) (eval (.Call (.Attribute (.Call (.Name "super" q1) [] [] q2) "__init__" q3) args [] q4) env) Q E ⟨h, g, d, t, os⟩ := by
  obtain ⟨cd, hcd, hm, hh⟩ := T.cls
  obtain ⟨oC, hC1, hC2⟩ : ∃ oC, h.get? C = some oC ∧ oC.data = .cls cd := by
    have hcd' := hcd
    unfold clsIn at hcd'
    split at hcd'
    · rename_i c1 d1 cd1 sl1 ho
      cases hcd'
      exact ⟨_, X _ _ ho, rfl⟩
    · cases hcd'
  have hal : alongIn K "__init__" ((cd.mro.dropWhile (· != .ref C)).drop 1) = some (some (.builtin "ValueError.__init__")) := by
    have z := T.sup
    unfold ks_superIn at z
    rw [hcd] at z
    exact z
  subst he
  refine ks_wpAt_MethodCall (pl := pl) ?_ hform
  refine ks_wpAt_super_base (env := ksEnv qual (xS ns) L fI (.ref cda) cc) k1 k2 (by decide) rfl (X _ _ hf) rfl hp rfl (X _ _ hcode) rfl hvs hfile htop ?_
  refine ks_loadName_global rfl k1 (loadGlobal_builtin (env := ksEnv qual (xS ns) L fI (.ref cda) cc) hg hms hb hbb ⟨rfl, ?_⟩)
  refine wpAny_loadName_free rfl k2 rfl ⟨_, X _ _ hcell, rfl⟩ ?_
  refine wpAny_loadName_local rfl (by rw [har]; exact k3) hn (by rw [har]; exact hv) ?_
  refine ks_wpAny_isType_cls hC1 hC2 ⟨rfl, ?_⟩
  refine ks_wpAny_call_super hC1 hC2 hx rfl (fun c e => by cases e) (looks_mroIn X T.own) (fun h1 e1 u1 => ?_)
  have X1 : K.In h1 := X.keeps u1
  have hx1 := u1 _ _ hx
  have LC : Looks (model prog w) h1 (mroOf (.ref C)) cd.mro := (looks_clsIn X1 hcd).andThen .now
  have I1 : InstAt h1 x (excO C t0) C none := ⟨hx1, rfl, rfl, trivial⟩
  refine kxs_getMethod kxs_ValueError e1 (looks_opaque X1 T.tp) LC rfl X1 hal (I1.type.andThen (looks_subIn X1 T.subV)) hxC (by decide) ?_
  have u2 : ∀ b o, h1.get? b = some o → (h1.push (kxs_mw "ValueError.__init__" x)).get? b = some o := fun b o e => Heap.get?_push_of_some _ e
  refine kxs_callWith (i := "ValueError.__init__") (x := x) hpl (hargs _ _ _ _ (fun b o e => u2 _ _ (u1 _ _ e)) ⟨Heap.get?_push_size h1 rfl, ?_⟩)
  exact call_mw (X1.keeps u2) T.ini (Heap.get?_push_size h1 rfl) (u2 _ _ hx1) hz fun h' k' e' => hq h' _ (fun b o hb e => k' b o hb (u2 _ _ (u1 _ _ e))) e'

theorem ldS {M : Model} {s : Shared} {L a cc : Addr} {cd : Value} {m : Str → Option Value} {x : Str} {pos : Pos} {v : Value} {Q : Value → Shared → Prop} (hn : s.heap.Ns L m) (hv : m x = some v) (h : Q v s)
    (hl : (xS ns).names.lookup x = some .local) (hd : (x == ("__debug__" : Str)) = false) :
    wpAny M A (eval (.Name x pos) (ksEnv qual (xS ns) L a cd cc)) Q E s := wpAny_Name (wpAny_loadName_local rfl hl hn hv h) hd
/-- a name of the parameters -/
structure Nm (ns : List Str) (a : Str) : Prop where
  loc : (xS ns).names.lookup a = some .local
  dbg : (a == ("__debug__" : Str)) = false
  self : (a == ("self" : Str)) = false
structure Nms (ns : List Str) : Prop where
  k1 : (xS ns).names.lookup ("super" : Str) = some .globalImplicit
  k2 : (xS ns).names.lookup ("__class__" : Str) = some .free
  k3 : (xS ns).names.lookup ("self" : Str) = some .local
  nm : ∀ a ∈ ns, Nm ns a
theorem evalNames1 {env : Env} {M : Model} {A' : Around} {E' : Value → Shared → Prop} {s : Shared} {q : Pos} {e1 : Expr} {v1 : Value} {u : Addr} {R' : Args → Shared → Prop} (h1 : starEach [e1] env = [(false, eval e1 env)]) (l1 : ∀ (Q : Value → Shared → Prop), Q v1 s → wpAny M A' (eval e1 env) Q E' s)
    (h : R' ⟨[v1], []⟩ s) : wpAny M A' (evalArgs (.ref u) true (backTo q (starEach [e1] env)) []) R' E' s := by
  have z : wpAny M A' (spliced (backTo q (starEach [e1] env))) (fun vs s₁ => R' ⟨vs, []⟩ s₁) E' s := by
    rw [h1]
    show wpAny _ _ (spliced ((false, eval e1 env) :: backTo q [])) _ _ s
    exact spliced_cons (l1 _ (spliced_nil h))
  rw [h1] at z ⊢
  exact evalArgs_plain z
theorem evalNames2 {env : Env} {M : Model} {A' : Around} {E' : Value → Shared → Prop} {s : Shared} {q : Pos} {e1 e2 : Expr} {v1 v2 : Value} {u : Addr} {R' : Args → Shared → Prop} (h1 : starEach [e1, e2] env = (false, eval e1 env) :: starEach [e2] env) (h2 : starEach [e2] env = [(false, eval e2 env)])
    (l1 : ∀ (Q : Value → Shared → Prop), Q v1 s → wpAny M A' (eval e1 env) Q E' s) (l2 : ∀ (Q : Value → Shared → Prop), Q v2 s → wpAny M A' (eval e2 env) Q E' s) (hp : (backTo q (starEach [e2] env)).any (·.1) = false)
    (h : R' ⟨[v1, v2], []⟩ s) : wpAny M A' (evalArgs (.ref u) true (backTo q (starEach [e1, e2] env)) []) R' E' s := by
  have z : wpAny M A' (spliced (backTo q (starEach [e1, e2] env))) (fun vs s₁ => R' ⟨vs, []⟩ s₁) E' s := by
    rw [h1]
    show wpAny _ _ (spliced ((false, eval e1 env) :: backTo q (starEach [e2] env))) _ _ s
    refine spliced_cons (l1 _ ?_)
    rw [h2]
    show wpAny _ _ (spliced ((false, eval e2 env) :: backTo q [])) _ _ s
    exact spliced_cons (l2 _ (spliced_nil h))
  rw [h1] at z ⊢
  exact evalArgs_plain z
/-- how the text calls super().__init__(..), written out -/
def SupForm (args : List Expr) (q1 q2 q3 q4 : Pos) : Prop := ∀ env : Env, ∃ pl : Sem Bool, eval (.Call (.Attribute (.Call (.Name "super" q1) [] [] q2) "__init__" q3) args [] q4) env = (do
      let ov ← attributeBase (.Call (.Name "super" q1) [] [] q2) "__init__" env (eval (.Call (.Name "super" q1) [] [] q2) env)
      standAt q3.atName
      let (f, first) ← holding [ov] (getMethod ov "__init__" pl)
      callWith q4 f first (backTo q4 (starEach args env)) [])
/-- __init__ of one parameter -/
theorem init1 {a : Str} {q1 q2 q3 q4 q5 r1 s1 s2 s3 s4 : Pos} {x t0 : Addr} {v : Value} {mb : Str → Option Value} {args : Args} (T : Xc prog K qual [a] params [xSup [.Name a r1] q1 q2 q3 q4 q5, xSet a s1 s2 s3 s4] C fI fd) (N : Nms [a]) (X : K.In h) (hlim : h.NoLimit)
    (hform : SupForm [.Name a r1] q1 q2 q3 q4) (hbind : BindsTo ⟨h, g, d, t, os⟩ fd args [("self", .ref x), (a, v)])
    (hg : h.Ns mainGlobals mg) (hb : h.Ns builtinsNs mb) (hbb : mb "super" = some (.type "super")) (hms : mg "super" = none) (htop : (prog.main.scope.names.lookup ("super" : Str)).isSome = false) (hx : h.get? x = some (excO C t0)) (hnx : K.lookup x = none) (hroom : A.depth < recursionLimit)
    (hq : ∀ h' tk dx, Left h h' x C dx (fun y => if y = a then some v else none) [a] → R (.ok (.ret .none)) ⟨h', g, d, tk, os⟩) :
    codeAny (model prog w) A (.call (.ref fI) args) R ⟨h, g, d, t, os⟩ := by
  obtain ⟨od, kV, doc, pm, an, ct, cc, cda, osl, vs, file, tf, ccl, cl, cdd, cld, ccs, csl, rfl, hf, hcd, hcode, hvs, hfile, hcell⟩ := T.fn
  obtain ⟨ar, hp, har⟩ := T.hd
  obtain ⟨cd, hcl, hm, hh⟩ := T.cls
  have na := N.nm a List.mem_cons_self
  have hxC : x ≠ C := fun z => by
    have hcl' := hcl
    unfold clsIn at hcl'
    rw [← z, hnx] at hcl'
    cases hcl'
  refine ks_codeAny_call_defAt (binds := [("self", .ref x), (a, v)]) (s := ⟨h, g, d, t, os⟩) hroom (X _ _ hf) rfl hlim (codeRec_of X hcd) rfl hbind ?_ ?_ (fun h₁ hn hk => ?_) rfl rfl rfl
  · intro y hy
    have hy' : y ∈ (xS [a]).names := hy
    simp only [xS, List.map_cons, List.map_nil, List.cons_append, List.nil_append, List.mem_cons, List.not_mem_nil, or_false] at hy'
    rcases hy' with rfl | rfl | rfl | rfl <;> (intro z; cases z)
  · intro y hy
    rcases List.mem_cons.mp hy with rfl | hy
    · exact N.k3
    · rcases List.mem_cons.mp hy with rfl | hy
      · exact na.loc
      · cases hy
  · have X₁ : K.In h₁ := X.keeps hk
    have gS : h₁.Ns mainGlobals mg := hg.keeps hk
    have bS : h₁.Ns builtinsNs mb := hb.keeps hk
    have hx₁ := hk _ _ hx
    have hns1 : (fun y => ([("self", Value.ref x), (a, v)] : List (Str × Value)).reverse.lookup y) a = some v := by
      show List.lookup a [(a, v), ("self", .ref x)] = some v
      simp [List.lookup]
    have hns0 : (fun y => ([("self", Value.ref x), (a, v)] : List (Str × Value)).reverse.lookup y) "self" = some (.ref x) := by
      show List.lookup ("self" : Str) [(a, v), ("self", .ref x)] = some (.ref x)
      have e : (("self" : Str) == a) = false := by rw [Bool.eq_false_iff]; intro z; have := na.self; rw [← beq_iff_eq.mp z] at this; simp at this
      simp [List.lookup, e]
    refine ks_wpAt_execs_cons (ks_wpAt_Expr_any ?_)
    obtain ⟨pl, hpl⟩ := hform (ksEnv qual (xS [a]) h.objs.size fI (.ref cda) cc)
    refine sup_node (env := ksEnv qual (xS [a]) h.objs.size fI (.ref cda) cc) (us := [v]) (pl := pl) T X₁ gS bS hbb hms rfl N.k1 N.k2 N.k3 hf hp har hn hns0 hx₁ hcode hvs hfile hcell htop hxC (by show 1 ≤ sizeLine; decide) hpl (fun h1 t1 u R' k hR => ?_) rfl ?_
    · refine evalNames1 rfl (fun Q q => ?_) hR
      exact ldS (hn.keeps k) hns1 q na.loc na.dbg
    · intro h2 t2 k2 ⟨t3, hx2⟩
      refine wpAt_of_wpAny ?_
      have hLx : h.objs.size ≠ x := Nat.ne_of_gt (Heap.lt_size hx)
      have hn2 : h2.Ns h.objs.size (fun y => ([("self", Value.ref x), (a, v)] : List (Str × Value)).reverse.lookup y) := by
        obtain ⟨oL, es, ep, hL, r⟩ := hn
        exact ⟨oL, es, ep, k2 _ _ hLx hL, r⟩
      have X2 : K.In h2 := kept_but X₁ hnx k2
      refine wpAny_execs_cons (plainObj_wpAny_Assign_Attribute ?_)
      refine ldS hn2 hns1 (ldS hn2 hns0 ?_ N.k3 (by decide)) na.loc na.dbg
      refine set_plain X2 (ox := excO C t3) (od := none) ⟨hx2, rfl, rfl, trivial⟩ T.sa ?_
      refine exc_osa X2 hx2 hcl hm hh (T.noN a List.mem_cons_self) (fun h3 tk3 dx k3 dn dne hx3 hn3 => ?_)
      show wpAny _ _ (execs _ _) _ _ _
      have z : h.objs.size < h2.objs.size := hn2.lt
      exact wpAny_execs_nil (hq h3 tk3 dx ⟨fun b o hb e => k3 b o hb (k2 b o hb (hk b o e)), ⟨t3, hx3⟩, Nat.le_of_lt (Nat.lt_of_lt_of_le z dn), dne, hn3, Within.cons a v Within.nil⟩)
end
end Exo

namespace Exo
open PySem PySem.W PySem.Calls PyProof.Rows PySem.HandSPX
section
variable {M : Model} {A : Around} {E : Value → Shared → Prop} {h : Heap} {g : Array GenState} {d : Drawn} {t : Nat} {os : OsState}
variable {nm q : Str} {C N : Addr} {bs bm bmB : List Value} {hdct : Bool} {sn : List Str} {sub : List Value} {ab : Bool} {col : Option Bool} {dd : Option Addr} {k0 k1 k2 k3 k5 : Option Value} {B newId initId : String}
theorem check_kw (F : ExcBaseFacts B newId initId bmB) (hT : ∀ X : String, bm.contains (.type X) = bmB.contains (.type X)) {rest : List Value} {kw : List (Str × Value)} {Q : Unit → Shared → Prop}
    (hC : h.get? C = some (excClassObj nm q C N bs bm hdct sn sub ab col dd k0 k1 k2 k3 k5 newId)) (hq : Q () ⟨h, g, d, t, os⟩) : wpAny M A (checkBuiltinCall newId ⟨.ref C :: rest, kw⟩) Q E ⟨h, g, d, t, os⟩ := by
  have hcont : (Value.ref C :: bm).contains (.type B) = true := by rw [List.contains_cons, hT, F.hasB, Bool.or_true]
  have hstar := F.noStar
  simp only [checkBuiltinCall, F.newKind, F.newSplit, F.newRow]
  repeat (first | refine wpAny_loadPart_at hC ?_ | (refine wpAny_isSubtype_exc hC ?_; rw [hcont]) | refine wpAny_staticBase_exc hC ?_ | refine wpAny_madeBy_exc hC ?_ | simp only [bne_self_eq_false, Bool.false_eq_true, if_false] | wp_step)
  all_goals exact hq
end
section
variable {prog : Program} {w : World} {A : Around} {E : Value → Shared → Prop} {R : Result → Shared → Prop} {h : Heap} {g : Array GenState} {d : Drawn} {t : Nat} {os : OsState}
variable {nm q : Str} {C N : Addr} {bs bm bmB : List Value} {hdct : Bool} {sn : List Str} {sub : List Value} {ab : Bool} {col : Option Bool} {dd : Option Addr} {k0 k1 k2 k3 k5 : Option Value} {B newId initId : String}
theorem new_kw (F : ExcBaseFacts B newId initId bmB) (hT : ∀ X : String, bm.contains (.type X) = bmB.contains (.type X)) {rest : List Value} {kw : List (Str × Value)}
    (hC : h.get? C = some (excClassObj nm q C N bs bm hdct sn sub ab col dd k0 k1 k2 k3 k5 newId))
    (hq : R (.ok (.ret (.ref (h.objs.size + 1)))) ⟨(h.push (kdv_tup rest)).push (excO C h.objs.size), g, d, t, os⟩) (hrest : rest.length ≤ sizeLine) :
    codeAny (model prog w) A (.builtin newId ⟨.ref C :: rest, kw⟩) R ⟨h, g, d, t, os⟩ := by
  have hends := F.ends
  have hcB : (Value.ref C :: bm).contains (.type B) = true := by rw [List.contains_cons, hT, F.hasB, Bool.or_true]
  have hcA : (Value.ref C :: bm).contains (.type "AttributeError") = false := by rw [List.contains_cons, hT, F.noAttr]; rfl
  have hcN : (Value.ref C :: bm).contains (.type "NameError") = false := by rw [List.contains_cons, hT, F.noName]; rfl
  refine codeAny_builtinAt F.entry ?_
  unfold Builtin.«BaseException.__new__»
  refine PySem.wpAt_bind ?_
  show PySem.wpAt _ _ _ (stack >>= _) _ _ _
  refine PySem.wpAt_bind (PySem.wpAt_stack fun p below => PySem.wpAt_of_wpAny ?_)
  wp_walk
  refine PySem.wpAt_of_wpAny ?_
  rw [F.owner]
  repeat (first | with_reducible refine wpAny_madeHere_exc F.canon hC ?_ | with_reducible refine wpAny_loadPart_at hC ?_ | (with_reducible refine wpAny_isSubtype_exc hC ?_; first | rw [hcB] | rw [hcA] | rw [hcN]) | wp_step)
  show R _ _
  rw [Heap.size_push]
  exact hq
theorem type_call_kw (F : ExcBaseFacts B newId initId bmB) (hT : ∀ X : String, bm.contains (.type X) = bmB.contains (.type X)) {rest : List Value} {kw : List (Str × Value)} {fI : Addr} {Q : Fin → Shared → Prop}
    (hC : h.get? C = some (excClassObj nm q C N bs bm hdct sn sub ab col dd k0 k1 k2 k3 k5 newId))
    (hi : Looks (model prog w) h (typeLookup (.ref C) "__init__") (some (.ref fI))) (hb : ∀ self, Looks (model prog w) h (bindSpecial (.ref fI) self) (.ref fI, [self])) (hrest : rest.length ≤ sizeLine)
    (hq : codeAny (model prog w) A (.call (.ref fI) ⟨.ref (h.objs.size + 1) :: rest, kw⟩)
      (fun r s' => match r with | .ok (.ret v) => v = .none ∧ Q (.done (.ret (.ref (h.objs.size + 1)))) s' | .ok _ => False | .error e => E e s')
      ⟨(h.push (kdv_tup rest)).push (excO C h.objs.size), g, d, t, os⟩) :
    wpAny (model prog w) A (Builtin.«type.__call__» ⟨.ref C :: rest, kw⟩) Q E ⟨h, g, d, t, os⟩ := by
  repeat (first | with_reducible refine wpAny_loadPart_at hC ?_ | with_reducible refine wpAny_madeBy_exc hC ?_ | wp_step)
  refine codeAny_call_builtin_code (Code.quiet_builtin _ F.quiet) (check_kw F hT hC ?_)
  refine new_kw F hT hC ?_ hrest
  show wpAny _ _ _ _ _ _
  have k : ∀ b o, h.get? b = some o → ((h.push (kdv_tup rest)).push (excO C h.objs.size)).get? b = some o := fun b o e => Heap.get?_push_of_some _ (Heap.get?_push_of_some _ e)
  have hC₁ := k _ _ hC
  have hget : ((h.push (kdv_tup rest)).push (excO C h.objs.size)).get? (h.objs.size + 1) = some (excO C h.objs.size) := by heap_get
  have hcC : (Value.ref C :: bm).contains (.ref C) = true := by simp
  have i1 := hi.keeps k
  have b1 := (hb (.ref (h.objs.size + 1))).keeps k
  unfold isInstance
  repeat (first | with_reducible refine wpAny_loadPart_at hget ?_ | (with_reducible refine wpAny_isSubtype_exc hC₁ ?_; rw [hcC]) | wp_step)
  show wpAny _ _ (typeLookup (.ref C) _) _ _ _
  refine i1.at ?_
  refine wpAny_holding (wpAny_bind (b1.at ?_))
  refine wpAny_bind (wpAny_call (codeAny_mono hq fun r s' z => ?_))
  rcases r with e | (v | _ | _ | _) <;> first | exact z | exact z.elim | skip
  obtain ⟨rfl, z⟩ := z
  first
    | exact wpAny_pure (wpAny_pure z)
    | (wp_walk; exact z)
theorem check_tc {M : Model} {rest : List Value} {kw : List (Str × Value)} {Q : Unit → Shared → Prop} (hC : h.get? C = some (excClassObj nm q C N bs bm hdct sn sub ab col dd k0 k1 k2 k3 k5 newId))
    (hq : Q () ⟨h, g, d, t, os⟩) : wpAny M A (checkBuiltinCall "type.__call__" ⟨.ref C :: rest, kw⟩) Q E ⟨h, g, d, t, os⟩ := by
  have f3 := tc_sub
  have hTy : (⟨h, g, d, t, os⟩ : Shared).TypeIs (.ref C) "type" := ⟨_, hC, rfl⟩
  simp only [checkBuiltinCall, tc_kind, tc_split]
  repeat (any_goals (first | assumption | with_reducible refine wpAny_loadPart_at hC ?_ | with_reducible refine wpAny_onRaise ?_ | with_reducible refine wpAny_map ?_ | wp_step))
theorem call_kw (F : ExcBaseFacts B newId initId bmB) (hT : ∀ X : String, bm.contains (.type X) = bmB.contains (.type X)) {rest : List Value} {kw : List (Str × Value)} {fI : Addr}
    (hC : h.get? C = some (excClassObj nm q C N bs bm hdct sn sub ab col dd k0 k1 k2 k3 k5 newId))
    (hi : Looks (model prog w) h (typeLookup (.ref C) "__init__") (some (.ref fI))) (hb : ∀ self, Looks (model prog w) h (bindSpecial (.ref fI) self) (.ref fI, [self])) (hrest : rest.length ≤ sizeLine)
    (hq : codeAny (model prog w) (A.under (.builtin "type.__call__" ⟨.ref C :: rest, kw⟩)) (.call (.ref fI) ⟨.ref (h.objs.size + 1) :: rest, kw⟩) (InitBack (h.objs.size + 1) R)
      ⟨(h.push (kdv_tup rest)).push (excO C h.objs.size), g, d, t, os⟩) :
    codeAny (model prog w) A (.call (.ref C) ⟨rest, kw⟩) R ⟨h, g, d, t, os⟩ := by
  have f1 := tc_lookup
  have f2 := tc_bind (.ref C)
  have hTy : (⟨h, g, d, t, os⟩ : Shared).TypeIs (.ref C) "type" := ⟨_, hC, rfl⟩
  refine codeAny_of_tree ?_
  show wpAny _ _ (callAny (.ref C) _) _ _ _
  repeat (any_goals (first | assumption | with_reducible refine wpAny_loadPart_at hC ?_ | wp_step))
  refine ⟨rfl, ?_⟩
  refine codeAny_call_builtin_at (Code.quiet_builtin _ (by decide +kernel)) entry_typeCall (check_tc hC (type_call_kw F hT hC hi hb hrest ?_))
  refine codeAny_mono hq fun r s' z => ?_
  rcases r with e | (v | _ | _ | _) <;> exact z
end
end Exo

namespace Exo
open PySem PySem.W PySem.Calls PyProof.Rows PySem.HandSPX
/-- what the call of such an __init__ leaves, whatever the number of its parameters -/
def InitOk (prog : Program) (w : World) (K : Frag) (mg : Str → Option Value) (C fI : Addr) (fd : FuncData) (ns : List Str) : Prop :=
  ∀ (A : Around) (R : Result → Shared → Prop) (h : Heap) (g : Array GenState) (d : Drawn) (t : Nat) (os : OsState) (x t0 : Addr) (vs : List Value) (args : Args) (mb : Str → Option Value), vs.length = ns.length → K.In h → h.NoLimit →
    BindsTo ⟨h, g, d, t, os⟩ fd args (("self", .ref x) :: ns.zip vs) → h.Ns mainGlobals mg → h.Ns builtinsNs mb → mb "super" = some (.type "super") → h.get? x = some (excO C t0) → K.lookup x = none → A.depth < recursionLimit →
    (∀ h' tk dx m, Left h h' x C dx m ns.reverse → (∀ f, m f = (ns.zip vs).lookup f) → R (.ok (.ret .none)) ⟨h', g, d, tk, os⟩) →
    codeAny (model prog w) A (.call (.ref fI) args) R ⟨h, g, d, t, os⟩
section
variable {prog : Program} {w : World} {A : Around} {E : Value → Shared → Prop} {R : Result → Shared → Prop} {K : Frag} {mg : Str → Option Value} {C fI : Addr} {qual : Str} {ns : List Str} {params : Arguments} {body : List Stmt} {fd : FuncData}
variable {h : Heap} {g : Array GenState} {d : Drawn} {t : Nat} {os : OsState}
theorem initOk1 {a : Str} {q1 q2 q3 q4 q5 r1 s1 s2 s3 s4 : Pos} (T : Xc prog K qual [a] params [xSup [.Name a r1] q1 q2 q3 q4 q5, xSet a s1 s2 s3 s4] C fI fd) (N : Nms [a]) (hform : SupForm [.Name a r1] q1 q2 q3 q4)
    (hms : mg "super" = none) (htop : (prog.main.scope.names.lookup ("super" : Str)).isSome = false) : InitOk prog w K mg C fI fd [a] := by
  intro A R h g d t os x t0 vs args mb hl X hlim hbind hg hb hbb hx hnx hroom hq
  match vs, hl with
  | [v], _ =>
    refine init1 T N X hlim hform hbind hg hb hbb hms htop hx hnx hroom fun h' tk dx L => hq h' tk dx _ L fun f => ?_
    show (if f = a then some v else none) = List.lookup f [(a, v)]
    by_cases e : f = a
    · subst e
      simp [List.lookup]
    · have e' : (f == a) = false := by simpa using e
      simp [List.lookup, e', e]
/-- __init__ of two parameters -/
theorem initOk2 {a b : Str} {q1 q2 q3 q4 q5 r1 r2 s1 s2 s3 s4 z1 z2 z3 z4 : Pos} (T : Xc prog K qual [a, b] params [xSup [.Name a r1, .Name b r2] q1 q2 q3 q4 q5, xSet a s1 s2 s3 s4, xSet b z1 z2 z3 z4] C fI fd) (N : Nms [a, b]) (hab : (a == b) = false)
    (hform : SupForm [.Name a r1, .Name b r2] q1 q2 q3 q4) (hms : mg "super" = none) (htop : (prog.main.scope.names.lookup ("super" : Str)).isSome = false) : InitOk prog w K mg C fI fd [a, b] := by
  intro A R h g d t os x t0 vs args mb hl X hlim hbind hg hb hbb hx hnx hroom hq
  match vs, hl with
  | [v, u], _ =>
    have hbind : BindsTo ⟨h, g, d, t, os⟩ fd args [("self", .ref x), (a, v), (b, u)] := hbind
    obtain ⟨od, kV, doc, pm, an, ct, cc, cda, osl, vs, file, tf, ccl, cl, cdd, cld, ccs, csl, rfl, hf, hcd, hcode, hvs, hfile, hcell⟩ := T.fn
    obtain ⟨ar, hp, har⟩ := T.hd
    obtain ⟨cd, hcl, hm, hh⟩ := T.cls
    have na := N.nm a List.mem_cons_self
    have nb := N.nm b (List.mem_cons_of_mem _ List.mem_cons_self)
    have sab : a ≠ b := by simpa using hab
    have hxC : x ≠ C := fun z => by
      have hcl' := hcl
      unfold clsIn at hcl'
      rw [← z, hnx] at hcl'
      cases hcl'
    refine ks_codeAny_call_defAt (binds := [("self", .ref x), (a, v), (b, u)]) (s := ⟨h, g, d, t, os⟩) hroom (X _ _ hf) rfl hlim (codeRec_of X hcd) rfl hbind ?_ ?_ (fun h₁ hn hk => ?_) rfl rfl rfl
    · intro y hy
      have hy' : y ∈ (xS [a, b]).names := hy
      simp only [xS, List.map_cons, List.map_nil, List.cons_append, List.nil_append, List.mem_cons, List.not_mem_nil, or_false] at hy'
      rcases hy' with rfl | rfl | rfl | rfl | rfl <;> (intro z; cases z)
    · intro y hy
      rcases List.mem_cons.mp hy with rfl | hy
      · exact N.k3
      · rcases List.mem_cons.mp hy with rfl | hy
        · exact na.loc
        · rcases List.mem_cons.mp hy with rfl | hy
          · exact nb.loc
          · cases hy
    · have X₁ : K.In h₁ := X.keeps hk
      have gS : h₁.Ns mainGlobals mg := hg.keeps hk
      have bS : h₁.Ns builtinsNs mb := hb.keeps hk
      have hx₁ := hk _ _ hx
      have eba : (a == b) = false := hab
      have hnsa : (fun y => ([("self", Value.ref x), (a, v), (b, u)] : List (Str × Value)).reverse.lookup y) a = some v := by
        show List.lookup a [(b, u), (a, v), ("self", .ref x)] = some v
        simp [List.lookup, eba]
      have hnsb : (fun y => ([("self", Value.ref x), (a, v), (b, u)] : List (Str × Value)).reverse.lookup y) b = some u := by
        show List.lookup b [(b, u), (a, v), ("self", .ref x)] = some u
        simp [List.lookup]
      have hns0 : (fun y => ([("self", Value.ref x), (a, v), (b, u)] : List (Str × Value)).reverse.lookup y) "self" = some (.ref x) := by
        show List.lookup ("self" : Str) [(b, u), (a, v), ("self", .ref x)] = some (.ref x)
        have e : (("self" : Str) == a) = false := by rw [Bool.eq_false_iff]; intro z; have := na.self; rw [← beq_iff_eq.mp z] at this; simp at this
        have e2 : (("self" : Str) == b) = false := by rw [Bool.eq_false_iff]; intro z; have := nb.self; rw [← beq_iff_eq.mp z] at this; simp at this
        simp [List.lookup, e, e2]
      refine ks_wpAt_execs_cons (ks_wpAt_Expr_any ?_)
      obtain ⟨pl, hpl⟩ := hform (ksEnv qual (xS [a, b]) h.objs.size fI (.ref cda) cc)
      refine sup_node (env := ksEnv qual (xS [a, b]) h.objs.size fI (.ref cda) cc) (us := [v, u]) (pl := pl) T X₁ gS bS hbb hms rfl N.k1 N.k2 N.k3 hf hp har hn hns0 hx₁ hcode hvs hfile hcell htop hxC (by show 2 ≤ sizeLine; decide) hpl (fun h1 t1 uu R' k hR => ?_) rfl ?_
      · refine evalNames2 rfl rfl (fun Q q => ?_) (fun Q q => ?_) rfl hR
        · exact ldS (hn.keeps k) hnsa q na.loc na.dbg
        · exact ldS (hn.keeps k) hnsb q nb.loc nb.dbg
      · intro h2 t2 k2 ⟨t3, hx2⟩
        refine PySem.wpAt_of_wpAny ?_
        have hLx : h.objs.size ≠ x := Nat.ne_of_gt (Heap.lt_size hx)
        have at2 : ∀ {hh : Heap}, (∀ c o, c ≠ x → h₁.get? c = some o → hh.get? c = some o) → hh.Ns h.objs.size (fun y => ([("self", Value.ref x), (a, v), (b, u)] : List (Str × Value)).reverse.lookup y) := fun kk => by
          obtain ⟨oL, es, ep, hL, r⟩ := hn
          exact ⟨oL, es, ep, kk _ _ hLx hL, r⟩
        have hn2 := at2 k2
        have X2 : K.In h2 := kept_but X₁ hnx k2
        refine wpAny_execs_cons (plainObj_wpAny_Assign_Attribute ?_)
        refine ldS hn2 hnsa (ldS hn2 hns0 ?_ N.k3 (by decide)) na.loc na.dbg
        refine set_plain X2 (ox := excO C t3) (od := none) ⟨hx2, rfl, rfl, trivial⟩ T.sa ?_
        refine exc_osa X2 hx2 hcl hm hh (T.noN a List.mem_cons_self) (fun h3 tk3 dx k3 dn dne hx3 hn3 => ?_)
        show wpAny _ _ (execs _ _) _ _ _
        have z : h.objs.size < h2.objs.size := hn2.lt
        have k23 : ∀ c o, c ≠ x → h₁.get? c = some o → h3.get? c = some o := fun c o hc e => k3 c o hc (k2 c o hc e)
        have hn3L := at2 k23
        have X3 : K.In h3 := kept_but X₁ hnx k23
        refine wpAny_execs_cons (plainObj_wpAny_Assign_Attribute ?_)
        refine ldS hn3L hnsb (ldS hn3L hns0 ?_ N.k3 (by decide)) nb.loc nb.dbg
        obtain ⟨oD, esD, epD, hoD, hdD, hrD⟩ := hn3
        refine set_plain X3 (od := some oD) ⟨hx3, rfl, rfl, hoD⟩ T.sa ?_
        refine osa_more X3 hx3 ⟨oD, esD, epD, hoD, hdD, hrD⟩ (Within.cons a v Within.nil) (by show 1 ≤ 1000; decide) hcl hm hh (T.noN b (List.mem_cons_of_mem _ List.mem_cons_self)) (fun h4 tk4 k4 hn4 => ?_)
        show wpAny _ _ (execs _ _) _ _ _
        refine wpAny_execs_nil (hq h4 tk4 dx _ ⟨fun c o hc e => ?_, ⟨t3, k4 x _ (Ne.symm dne) hx3⟩, Nat.le_of_lt (Nat.lt_of_lt_of_le z dn), dne, hn4, Within.cons b u (Within.cons a v Within.nil)⟩ fun f => ?_)
        · exact k4 c o (Nat.ne_of_lt (Nat.lt_of_lt_of_le (Nat.lt_trans (Heap.lt_size e) z) dn)) (k23 c o hc (hk c o e))
        · show (if f = b then some u else if f = a then some v else none) = List.lookup f [(a, v), (b, u)]
          by_cases e : f = a
          · subst e
            rw [if_neg sab, if_pos rfl]
            simp [List.lookup]
          · have e' : (f == a) = false := by simpa using e
            rw [if_neg e]
            by_cases e2 : f = b
            · subst e2
              simp [List.lookup, e']
            · have e3 : (f == b) = false := by simpa using e2
              simp [List.lookup, e', e3, e2]
end
end Exo

namespace L2
open PySem PySem.Spec PyProof.Rows
/-- an error of the class cls at a, whatever became of it; its own dict d -/
def ExR (cls : Value) (d : Option Addr) (a : Addr) : HO := .ext fun h => ∃ (oe : Obj) (vs : Array Value), h.get? a = some oe ∧ Zc cls d oe ∧ oe.data = .fields vs
theorem exR_ok {P : Program} {w : World} {H : Hp} {h : Heap} {a : Addr} {cls : Value} {d : Option Addr} {oe : Obj} {vs : Array Value} (e : h.get? a = some oe) (z : Zc cls d oe) (f : oe.data = .fields vs) : ObjOk P w H h a (ExR cls d a) :=
  ⟨⟨oe, vs, e, z, f⟩, ⟨oe, e⟩, fun _ _ ⟨o, v, q, r⟩ k => ⟨o, v, k o q, r⟩⟩
/-- the same with its attributes in the dict at dx -/
abbrev ExV (C dx a : Addr) : HO := ExR (.ref C) (some dx) a
theorem exV_ok {P : Program} {w : World} {H : Hp} {h : Heap} {C dx a t : Addr} (e : h.get? a = some { cls := .ref C, dict := some dx, data := .fields #[.ref t, .none, .none, .none, .bool false, .none] }) : ObjOk P w H h a (ExV C dx a) := exR_ok e ⟨rfl, rfl⟩ rfl
theorem relO_zip {m : Str → Option Value} : ∀ {ns : List Str} {vs : List V} {us : List Value}, Vals vs us → ∀ f : Str, RelO ((ns.zip vs).lookup f) ((ns.zip us).lookup f)
  | [], _, _, _, f => by simp [List.zip, RelO]
  | n :: ns, _, _, .nil, f => by simp [List.zip, RelO]
  | n :: ns, _, _, .cons r t, f => by
    show RelO (List.lookup f ((n, _) :: ns.zip _)) (List.lookup f ((n, _) :: ns.zip _))
    rw [List.lookup_cons, List.lookup_cons]
    cases f == n with
    | true => exact r
    | false => exact relO_zip (m := m) t f
section
variable {X : Cx} {pins : List (Addr × Obj)} {σ : St} {H : Hp} {s : Shared} {C fI : Addr} {fd : FuncData} {ns : List Str} {Q : VK}
/-- what such a class says to a call -/
structure ExCl (X : Cx) (C fI : Addr) (fd : FuncData) (ns : List Str) : Prop where
  ini : PySem.W.excInitIn X.K C [.type "ValueError", .type "Exception", .type "BaseException", .type "object"] "ValueError.__new__" = true
  iC : PySem.W.findIn X.K (.ref C) "__init__" = some (some (.ref fI))
  tI : PySem.W.typeIn X.K (.ref fI) = some (.type "function")
  kC : PySem.W.keepIn X.K (.ref C) = true
  ok : Exo.InitOk X.prog X.w X.K X.mg C fI fd ns
/-- the class called: a new error at e, its dict at dx, seen from the heap G without the error -/
theorem exo_core {us ws : List Value} {vs : List V} {kw : List (Str × Value)} {Qf : Value → Shared → Prop} (T : ExCl X C fI fd ns) (hr : Room 1 X.A) (I : Inv X pins σ H s) (hb : ∀ (s' : Shared) (x : Addr), BindsTo s' fd ⟨.ref x :: us, kw⟩ (("self", .ref x) :: ns.zip ws)) (r : Vals vs ws)
    (hl : ws.length = ns.length) (hus : us.length ≤ sizeLine)
    (k : ∀ (h' G : Heap) (tk' e dx t1 : Nat), Inv X pins σ (upd H dx (.xd (ns.zip vs))) { s with heap := G } → (∀ b o, G.get? b = some o → h'.get? b = some o) → G.get? e = none →
      h'.get? e = some { cls := .ref C, dict := some dx, data := .fields #[.ref t1, .none, .none, .none, .bool false, .none] } → H dx = none → H e = none → dx ≠ e → Qf (.ref e) { s with heap := h', toks := tk' }) :
    wpAny (model X.prog X.w) X.A (call (.ref C) us kw) Qf X.xe s := by
  obtain ⟨hp, g, dr, tk, os⟩ := s
  obtain ⟨nm, N', qn, bs, bm, hdct, sn, sub, ab, col, dd, k0, k1, k2, k3, k5, hC, hT⟩ := PySem.W.excInit_of I.kIn T.ini
  have kk : ∀ b o, hp.get? b = some o → ((hp.push (PySem.W.kdv_tup us)).push (PySem.HandSPX.excO C hp.objs.size)).get? b = some o := fun b o e => Heap.get?_push_of_some _ (Heap.get?_push_of_some _ e)
  have hget : ((hp.push (PySem.W.kdv_tup us)).push (PySem.HandSPX.excO C hp.objs.size)).get? (hp.objs.size + 1) = some (PySem.HandSPX.excO C hp.objs.size) := by heap_get
  have hnx : X.K.lookup (hp.objs.size + 1) = none := by
    cases e : X.K.lookup (hp.objs.size + 1) with
    | none => rfl
    | some o =>
      have z : hp.get? (hp.objs.size + 1) = some o := I.kIn _ _ e
      exact absurd (Nat.lt_of_succ_lt (Heap.lt_size z)) (Nat.lt_irrefl _)
  obtain ⟨mb, hmb, hbb⟩ := I.ok.mod.blt
  have gS : hp.Ns mainGlobals X.mg := I.ok.mod.glob.keeps fun b o e => (I.bs b o e).1
  have bS : hp.Ns builtinsNs mb := hmb.keeps fun b o e => (I.bs b o e).1
  have bsup : mb "super" = some (.type "super") := (hbb "super" (by decide)).trans (by first | rfl | decide +kernel | kernel_rfl)
  refine wpAny_call (Exo.call_kw F.excBase_ValueError hT hC (PySem.W.looks_findIn I.kIn T.iC) (fun self => PySem.W.bind_fn I.kIn self T.tI) hus ?_)
  refine T.ok _ _ _ _ _ _ _ _ hp.objs.size ws _ mb hl (I.kIn.keeps kk) (I.nolimit.keeps kk) (hb _ _) (gS.keeps kk) (bS.keeps kk) bsup hget hnx ?_ fun h' tk' dx m L hm => ?_
  · rw [make_depth]
    have := hr.dp
    omega
  · have old : ∀ b o, hp.get? b = some o → h'.get? b = some o := fun b o e => L.keep b o (Nat.ne_of_lt (Nat.lt_succ_of_lt (Heap.lt_size e))) (kk b o e)
    obtain ⟨t1, he⟩ := L.obj
    have dbig : hp.objs.size + 1 + 1 ≤ dx := by
      have q := L.dbig
      rw [Heap.size_push, Heap.size_push] at q
      exact q
    obtain ⟨G, g1, g2⟩ := restrict h' fun b => decide (b ≠ hp.objs.size + 1)
    have gk : ∀ b, b ≠ hp.objs.size + 1 → G.get? b = h'.get? b := fun b hb => g1 b (decide_eq_true hb)
    have ge : G.get? (hp.objs.size + 1) = none := g2 _ (decide_eq_false fun z => z rfl)
    have oldG : ∀ b o, hp.get? b = some o → G.get? b = some o := fun b o e => (gk b (Nat.ne_of_lt (Nat.lt_succ_of_lt (Heap.lt_size e)))).trans (old b o e)
    have newH : ∀ b o, G.get? b = some o → h'.get? b = some o := fun b o e => by
      by_cases hb : b = hp.objs.size + 1
      · rw [hb, ge] at e
        cases e
      · exact (gk b hb).symm.trans e
    have nD : H dx = none := I.hok.fresh (Nat.le_of_succ_le (Nat.le_of_succ_le dbig))
    have nE : H (hp.objs.size + 1) = none := I.hok.fresh (Nat.le_succ _)
    have gone : hp.get? dx = none := Heap.get?_none_of_le (Nat.le_of_succ_le (Nat.le_of_succ_le dbig))
    have obD : ObjOk X.prog X.w (upd H dx (.xd (ns.zip vs))) G dx (.xd (ns.zip vs)) :=
      ⟨m, L.dict.at (fun o q => (gk dx L.dne).trans q), fun f => by rw [hm f]; exact relO_zip (m := m) r f⟩
    have J1 := I.laidN (h' := G) (t' := tk) oldG gone nD obD
    exact ⟨rfl, k h' G tk' (hp.objs.size + 1) dx t1 J1 newH ge he nD nE L.dne⟩
theorem run_exo {us ws : List Value} {vs : List V} {kw : List (Str × Value)} (T : ExCl X C fI fd ns) (hr : Room 1 X.A) (I : Inv X pins σ H s) (hb : ∀ (s' : Shared) (x : Addr), BindsTo s' fd ⟨.ref x :: us, kw⟩ (("self", .ref x) :: ns.zip ws)) (r : Vals vs ws)
    (hl : ws.length = ns.length) (hus : us.length ≤ sizeLine) (q : ∀ dx a, H dx = none → H a = none → dx ≠ a → Q (.ref a) (upd (upd H dx (.xd (ns.zip vs))) a (ExV C dx a))) :
    wpAny (model X.prog X.w) X.A (call (.ref C) us kw) (EP X pins σ Q) X.xe s := by
  refine exo_core T hr I hb r hl hus fun h' G tk' e dx t1 J1 newH ge he nD nE ne => ?_
  have nE2 : upd H dx (.xd (ns.zip vs)) e = none := by
    rw [upd_ne (Ne.symm ne)]
    exact nE
  have J2 := J1.laidN (h' := h') (t' := tk') (o := ExV C dx e) newH ge nE2 (exV_ok he)
  exact ⟨.ref e, _, J2, rfl, q dx _ nD nE ne⟩
/-- C(e, ..) -/
def tExo (C : Addr) (ns : List Str) (ta : TA) : TE := fun σ H Q => ta σ H fun vs H1 => vs.length = ns.length ∧ ∀ dx a, H1 dx = none → H1 a = none → dx ≠ a → Q (.ref a) (upd (upd H1 dx (.xd (ns.zip vs))) a (ExV C dx a))
/-- C(e, .., k = v, ..) -/
def tExoK (C : Addr) (n m : Nat) (ns : List Str) (g : List V → List V → List V) (ta tk : TA) : TE := fun σ H Q => ta σ H fun vs H1 => tk σ H1 fun zs H2 => vs.length = n ∧ zs.length = m ∧ (g vs zs).length = ns.length ∧
  ∀ dx a, H2 dx = none → H2 a = none → dx ≠ a → Q (.ref a) (upd (upd H2 dx (.xd (ns.zip (g vs zs)))) a (ExV C dx a))
/-- how __init__ binds n places and the keywords ks (behind self) -/
structure EBind (fd : FuncData) (ns ks : List Str) (n : Nat) (g : {α : Type} → List α → List α → List α) : Prop where
  to : ∀ (s : Shared) (x : Addr) (us zs : List Value), us.length = n → zs.length = ks.length → BindsTo s fd ⟨.ref x :: us, ks.zip zs⟩ (("self", .ref x) :: ns.zip (g us zs))
  rel : ∀ {vs : List V} {us : List Value} {zs : List V} {ws : List Value}, Vals vs us → Vals zs ws → Vals (g vs zs) (g us ws)
variable {x : Str} {p pos : Pos} {e : Expr} {es : List Expr} {kws : List Keyword} {t tk : TA} {ks : List Str} {n : Nat} {g : {α : Type} → List α → List α → List α}
theorem pe_exo (T : ExCl X C fI fd ns) (hr : Room 1 X.A) (hb : EBind fd ns [] ns.length fun us _ => us) (hn : ns.length ≤ 8) (hg : Gl X x) (hm : X.mg x = some (.ref C)) (ha : PA X (e :: es) t) (hdb : (x == ("__debug__" : Str)) = false := by decide)
    (he : starEach (e :: es) X.env = (false, eval e X.env) :: starEach es X.env := by rfl) (hpl : (backTo pos (starEach es X.env)).any (·.1) = false := by rfl) :
    PE X (.Call (.Name x p) (e :: es) [] pos) (tExo C ns t) := by
  refine ⟨fun pins s σ H Q I h => ?_⟩
  refine wpAny_Call_Name_kw (ld_glob I hg hm ?_ hdb)
  refine PySem.W.callWith_K (h₀ := X.base) I.ok.mod.kin T.kC (thn (ha.run pos pins s σ H _ I h) fun us s1 ⟨vs, H1, I1, r1, hz, q1⟩ => ⟨I1.kIn, ?_⟩) he hpl
  have hl : us.length = ns.length := r1.length.symm.trans hz
  have hz8 : us.length ≤ sizeLine := by
    rw [hl, sizeLine_eq]
    omega
  exact run_exo T hr I1 (fun s' x => hb.to s' x us [] hl rfl) r1 hl hz8 q1
theorem pe_exoK0 (T : ExCl X C fI fd ns) (hr : Room 1 X.A) (hb : EBind fd ns ks 0 g) (hg : Gl X x) (hm : X.mg x = some (.ref C)) (hkw : PK X kws tk)
    (hall : (backToKw pos (keywordEach kws X.env)).all (·.1.isSome) = true := by rfl) (hks : (backToKw pos (keywordEach kws X.env)).filterMap (·.1) = ks := by rfl) (hdb : (x == ("__debug__" : Str)) = false := by decide)
    (hpl : ((backTo pos (starEach [] X.env)).any (·.1) || (backToKw pos (keywordEach kws X.env)).any (·.1.isNone)) = false := by rfl) :
    PE X (.Call (.Name x p) [] kws pos) (tExoK C 0 ks.length ns g tNil tk) := by
  refine ⟨fun pins s σ H Q I h => ?_⟩
  refine wpAny_Call_Name_kw (ld_glob I hg hm ?_ hdb)
  refine PySem.W.callWith_KW0 (h₀ := X.base) I.ok.mod.kin T.kC hall ?_ hpl
  refine thn (hkw.run pos pins s σ H _ I h) fun ws s2 ⟨zs, H2, I2, rz, l1, l2, l3, q2⟩ => ⟨I2.kIn, ?_⟩
  rw [hks]
  have l2' : ws.length = ks.length := rz.length.symm.trans l2
  have rr : Vals (g [] zs) (g [] ws) := hb.rel .nil rz
  exact run_exo (us := []) (ws := g [] ws) (kw := ks.zip ws) T hr I2 (fun s' x => hb.to s' x [] ws rfl l2') rr (rr.length.symm.trans l3) (Nat.zero_le _) q2
theorem pe_exoK (T : ExCl X C fI fd ns) (hr : Room 1 X.A) (hb : EBind fd ns ks n g) (hn : n ≤ 8) (hg : Gl X x) (hm : X.mg x = some (.ref C)) (ha : PA X (e :: es) t) (hkw : PK X kws tk)
    (hall : (backToKw pos (keywordEach kws X.env)).all (·.1.isSome) = true := by rfl) (hks : (backToKw pos (keywordEach kws X.env)).filterMap (·.1) = ks := by rfl) (hdb : (x == ("__debug__" : Str)) = false := by decide)
    (he : starEach (e :: es) X.env = (false, eval e X.env) :: starEach es X.env := by rfl) (hpl : ((backTo pos (starEach (e :: es) X.env)).any (·.1) || (backToKw pos (keywordEach kws X.env)).any (·.1.isNone)) = false := by rfl) :
    PE X (.Call (.Name x p) (e :: es) kws pos) (tExoK C n ks.length ns g t tk) := by
  refine ⟨fun pins s σ H Q I h => ?_⟩
  refine wpAny_Call_Name_kw (ld_glob I hg hm ?_ hdb)
  refine PySem.W.callWith_KW (h₀ := X.base) I.ok.mod.kin T.kC hall (thn (ha.run pos pins s σ H _ I h) fun us s1 ⟨vs, H1, I1, r, q⟩ => ?_) hpl he
  refine thn (hkw.run pos pins s1 σ H1 _ I1 q) fun ws s2 ⟨zs, H2, I2, rz, l1, l2, l3, q2⟩ => ⟨I2.kIn, ?_⟩
  rw [hks]
  have l1' : us.length = n := r.length.symm.trans l1
  have l2' : ws.length = ks.length := rz.length.symm.trans l2
  have rr : Vals (g vs zs) (g us ws) := hb.rel r rz
  have hz8 : us.length ≤ sizeLine := by
    rw [l1', sizeLine_eq]
    omega
  exact run_exo (us := us) (ws := g us ws) (kw := ks.zip ws) T hr I2 (fun s' x => hb.to s' x us ws l1' l2') rr (rr.length.symm.trans l3) hz8 q2
/-- C(), a class with no __init__ of its own -/
def tExo0 (C : Addr) : TE := fun _ H Q => ∀ a, H a = none → Q (.ref a) (upd H a (ExO (.ref C) a))
theorem pe_exo0 {bmB : List Value} {B newId initId : String} (F : ExcBaseFacts B newId initId bmB) (q : PySem.W.excIn X.K C bmB newId = true) (gC : X.mg x = some (.ref C)) (kC : PySem.W.keepIn X.K (.ref C) = true) (hg : Gl X x)
    (hdb : (x == ("__debug__" : Str)) = false := by decide) : PE X (.Call (.Name x p) [] [] pos) (tExo0 C) := by
  refine ⟨fun pins s σ H Q I h => ?_⟩
  refine wpAny_Call_Name_kw (ld_glob I hg gC ?_ hdb)
  refine PySem.W.callWith_K0 I.kIn kC ?_
  show wpAny _ _ (call (.ref C) []) _ _ _
  obtain ⟨bm, N, nm, qn, bs, hdct, sn, sub, ab, col, dd, k0, k1, k2, k3, k5, mN, hC, hN, hni, T⟩ := exc_obj I.kIn q
  obtain ⟨hp, gg, dr, tk, os⟩ := s
  refine wpAny_call_exc_subT F T hC hN hni (fun h' a hm => ?_) (by show 0 ≤ sizeLine; exact Nat.zero_le _)
  have hn : H a = none := I.hok.gone hm.new
  obtain ⟨t, ht, _, _⟩ := hm.there
  exact ⟨.ref a, upd H a (ExO (.ref C) a), I.laidN hm.keeps hm.new hn (exO_ok ht ⟨rfl, rfl⟩ rfl rfl rfl (show 4 < 6 by decide)), rfl, h a hn⟩
/-- what a class says to the reading of an attribute -/
structure ExAt (K : PySem.W.Frag) (C : Addr) (f : Str) : Prop where
  ga : PySem.W.findIn K (.ref C) "__getattribute__" = some (some (.builtin "BaseException.__getattribute__"))
  gg : PySem.W.findIn K (.ref C) "__getattr__" = some none
  ex : PySem.W.subIn K (.ref C) (.type "BaseException") = some true
  hd : PySem.W.hasDictIn K C = true
  no : PySem.W.findIn K (.ref C) f = some none
/-- the error at a, of class C, with the attributes fs -/
def Er (H : Hp) (C a : Addr) (fs : List (Str × V)) : Prop := ∃ dx, H a = some (ExV C dx a) ∧ H dx = some (.xd fs)
/-- e.f -/
def tExAt (K : PySem.W.Frag) (f : Str) (te : TE) : TE := fun σ H Q => te σ H fun x H1 => ∃ C a fs v, x = .ref a ∧ Er H1 C a fs ∧ fs.lookup f = some v ∧ ExAt K C f ∧ Q v H1
theorem pe_exAt {f : Str} {te : TE} (he : PE X e te) (hb : attributeBase e f X.env (eval e X.env) = eval e X.env := by rfl) : PE X (.Attribute e f pos) (tExAt X.K f te) := by
  refine ⟨fun pins s σ H Q I h => ?_⟩
  refine attr_of hb (thn (he.run pins s σ H _ I h) fun u s1 hh => ?_)
  obtain ⟨x, H1, I1, rx, C, a, fs, v, ex, ⟨dx, ea, ed⟩, hv, T, q⟩ := hh
  subst ex
  obtain rfl : u = Value.ref a := rx
  obtain ⟨⟨oe, vs, ha, hz, hd⟩, _⟩ := I1.hok a _ ea
  have hx : ObjOk X.prog X.w H1 s1.heap dx (.xd fs) := I1.hok dx _ ed
  obtain ⟨mA, hns, hr⟩ := hx
  obtain ⟨od, ho, hl⟩ := lookIn_ns hns
  obtain ⟨u, hu, ru⟩ := RelO.some_of (v := v) (o := mA f) (by rw [← hv]; exact hr f)
  have J : PySem.W.InstAt s1.heap a oe C (some od) := ⟨ha, hz.1, by unfold PySem.W.notCls; rw [hd] <;> rfl, by rw [hz.2]; exact ho⟩
  exact HandSPX.exc_get I1.kIn J T.ga T.gg T.ex (PySem.W.findObj_own T.hd T.no rfl (by rw [hl, hu])) (handed_of ru) ⟨v, H1, I1.tok _, ru, q⟩
/-- the same, K told (in a comprehension) -/
theorem pe_exAtK {f : Str} {te : TE} {K : PySem.W.Frag} (he : PE X e te) (hK : X.K = K := by rfl) (hb : attributeBase e f X.env (eval e X.env) = eval e X.env := by rfl) : PE X (.Attribute e f pos) (tExAt K f te) := by
  subst hK
  exact pe_exAt he hb
/-- isinstance(e, C), e such an error -/
def rIsX (K : PySem.W.Frag) : List V → Hp → VK → Prop := fun xs H Q => ∃ (a D : Addr) (c : V) (cv : Value) (b : Bool), xs = [.ref a, c] ∧ ((∃ fs, Er H D a fs) ∨ H a = some (ExO (.ref D) a) ∨ H a = some (ExR (.ref D) none a)) ∧ ExcC K D ∧ (∀ u, RelV c u → u = cv) ∧ PySem.W.kitOne K (.ref D) cv = some b ∧ Q (.bl b) H
theorem call_isX : CallR X (.builtin "isinstance") (rIsX X.K) := by
  intro pins s σ H xs us Q I r h
  obtain ⟨a, D, c, cv, b, rfl, hE, C, hcv, e, q⟩ := h
  cases r with
  | cons rx rr =>
    cases rr with
    | cons rt rr =>
      cases rr
      cases rx
      have ec := hcv _ rt
      subst ec
      obtain ⟨cdD, hcD, _⟩ := PySem.W.any_some C.hd
      have hcl : (PySem.W.clsIn X.K D).isSome = true := by rw [hcD]; rfl
      rcases hE with ⟨fs, dx, ea, ed⟩ | ea | ea
      · obtain ⟨⟨oe, vs, ha, hz, hdt⟩, _⟩ := I.hok a _ ea
        have hx : ObjOk X.prog X.w H s.heap dx (.xd fs) := I.hok dx _ ed
        obtain ⟨mA, hns, hr⟩ := hx
        obtain ⟨od, ho, hl⟩ := lookIn_ns hns
        have J : PySem.W.InstAt s.heap a oe D (some od) := ⟨ha, hz.1, by unfold PySem.W.notCls; rw [hdt] <;> rfl, by rw [hz.2]; exact ho⟩
        exact PySem.W.kia_one (PySem.W.kitx_exc hcl C.hg C.hk C.hs C.ha C.hn C.ht C.hm) I.kIn J e (fun z => nomatch z) fun tk => ⟨.bl b, H, I.kept (t' := tk) fun _ _ z => z, rfl, q⟩
      · obtain ⟨⟨oe, vs, ho, hz, hd, _⟩, _⟩ := I.hok a _ ea
        have J : PySem.W.InstAt s.heap a oe D none := by
          obtain ⟨oc, od, oda, osl⟩ := oe
          obtain ⟨h1, h2⟩ := hz
          dsimp only at h1 h2 hd
          subst h1 h2 hd
          exact ⟨ho, rfl, rfl, trivial⟩
        exact PySem.W.kia_one (PySem.W.kitx_exc hcl C.hg C.hk C.hs C.ha C.hn C.ht C.hm) I.kIn J e (fun z => nomatch z) fun tk => ⟨.bl b, H, I.kept (t' := tk) fun _ _ z => z, rfl, q⟩
      · obtain ⟨⟨oe, vs, ho, hz, hdt⟩, _⟩ := I.hok a _ ea
        have J : PySem.W.InstAt s.heap a oe D none := by
          obtain ⟨oc, od, oda, osl⟩ := oe
          obtain ⟨h1, h2⟩ := hz
          dsimp only at h1 h2 hdt
          subst h1 h2 hdt
          exact ⟨ho, rfl, rfl, trivial⟩
        exact PySem.W.kia_one (PySem.W.kitx_exc hcl C.hg C.hk C.hs C.ha C.hn C.ht C.hm) I.kIn J e (fun z => nomatch z) fun tk => ⟨.bl b, H, I.kept (t' := tk) fun _ _ z => z, rfl, q⟩
/-- C(e, ..), to be raised -/
def tMkE (C : Addr) (ns : List Str) (ta : TA) : St → Hp → XK → Prop := fun σ H Q => ta σ H fun vs H1 => vs.length = ns.length ∧ ∀ d, H1 d = none → Q (.ref C) (some d) (upd H1 d (.xd (ns.zip vs)))
theorem pmk_exo (T : ExCl X C fI fd ns) (R : Raises X (.ref C)) (hr : Room 1 X.A) (hb : EBind fd ns [] ns.length fun us _ => us) (hn : ns.length ≤ 8) (hg : Gl X x) (hm : X.mg x = some (.ref C)) (ha : PA X (e :: es) t) (hdb : (x == ("__debug__" : Str)) = false := by decide)
    (he : starEach (e :: es) X.env = (false, eval e X.env) :: starEach es X.env := by rfl) (hpl : (backTo pos (starEach es X.env)).any (·.1) = false := by rfl) :
    PMk X (.Call (.Name x p) (e :: es) [] pos) (tMkE C ns t) := by
  intro pins s σ H Q I h
  refine wpAny_Call_Name_kw (ld_glob I hg hm ?_ hdb)
  refine PySem.W.callWith_K (h₀ := X.base) I.ok.mod.kin T.kC (thn (ha.run pos pins s σ H _ I h) fun us s1 ⟨vs, H1, I1, r1, hz, q1⟩ => ⟨I1.kIn, ?_⟩) he hpl
  have hl : us.length = ns.length := r1.length.symm.trans hz
  have hz8 : us.length ≤ sizeLine := by
    rw [hl, sizeLine_eq]
    omega
  refine exo_core T hr I1 (fun s' x => hb.to s' x us [] hl rfl) r1 hl hz8 fun h' G tk' e dx t1 J1 newH ge he' nD nE ne => ?_
  refine ⟨e, _, _, { s1 with heap := G }, _, .ref C, some dx, rfl, J1, newH, ge, he', ⟨rfl, rfl⟩, rfl, rfl, ?_, rfl, I1.bare, R, q1 dx nD⟩
  rw [upd_ne (Ne.symm ne)]
  exact nE
/-- raise C(e, ..) -/
def tRaiseE (C : Addr) (ns : List Str) (W : WX) (ta : TA) : TS := fun _ σ H => tMkE C ns ta σ H fun cls d H' => W cls d σ H'
theorem ps_raiseE {W : WX} {pos2 : Pos} (hc : X.calm = true) (tk : Takes X W) (T : ExCl X C fI fd ns) (R : Raises X (.ref C)) (hr : Room 1 X.A) (hb : EBind fd ns [] ns.length fun us _ => us) (hn : ns.length ≤ 8) (hg : Gl X x) (hm : X.mg x = some (.ref C)) (ha : PA X (e :: es) t) (hdb : (x == ("__debug__" : Str)) = false := by decide)
    (he : starEach (e :: es) X.env = (false, eval e X.env) :: starEach es X.env := by rfl) (hpl : (backTo pos (starEach es X.env)).any (·.1) = false := by rfl) :
    PS X (.Raise (some (.Call (.Name x p) (e :: es) [] pos)) none pos2) (tRaiseE C ns W t) := ps_raise hc tk (pmk_exo T R hr hb hn hg hm ha hdb he hpl)
end
end L2

namespace L2
open PySem PySem.Spec PyProof.Rows
section
variable {X : Cx} {pins : List (Addr × Obj)} {σ : St} {H : Hp} {s : Shared}
theorem PE.weak {e : Expr} {t : TE} (h : PE X e t) : PE X e (fun σ H Q => ∃ Q' : VK, (∀ v H', Q' v H' → Q v H') ∧ t σ H Q') :=
  ⟨fun pins s σ H Q I ⟨Q', hq, h'⟩ => wpAny_mono (h.run pins s σ H Q' I h') (fun u s1 ⟨v, H1, I1, r, q⟩ => ⟨v, H1, I1, r, hq _ _ q⟩) fun _ _ z => z⟩
/-- an error that is pinned, of ours, is tracked from now on -/
theorem Inv.track {a : Addr} {oe : Obj} {vs : Array Value} {cls : Value} {d : Option Addr} (I : Inv X ((a, oe) :: pins) σ H s) (hz : Zc cls d oe) (hd : oe.data = .fields vs) (n0 : X.s_0.heap.get? a = none) (hp : ∀ p ∈ X.pn ++ pins, p.1 ≠ a) :
    Inv X pins σ (upd H a (ExR cls d a)) s := by
  obtain ⟨ga, na, nL, nF, nC⟩ := I.pin (a, oe) (List.mem_append_right _ List.mem_cons_self)
  have ne0 : ∀ b o, X.s_0.heap.get? b = some o → b ≠ a := fun b o e z => by
    rw [z, n0] at e
    cases e
  have neH : ∀ {b : Addr} {o : HO}, H b = some o → b ≠ a := fun {b o} e z => by
    have na' : H a = none := na
    rw [z, na'] at e
    cases e
  have neC : ∀ x c, X.env.cells.lookup x = some c → c ≠ a := fun x c e z => by
    obtain ⟨v, o, ho, hv⟩ := I.cell x c e
    have ga' : s.heap.get? a = some oe := ga
    rw [z, ga'] at ho
    cases ho
    exact nC v hv
  refine ⟨I.ok, I.os, I.bare, ⟨I.base.keep, I.base.slot, fun b o e n hq => ?_, I.base.there, fun b xs e => ?_, fun b o u e => ?_, fun b ps e => ?_⟩, I.loc, I.cell, ?_, fun x c e => ?_, fun p hm => ?_, fun b u e => ?_, I.len⟩
  · rw [upd_ne (ne0 b o e)]
    exact I.base.free b o e n hq
  · have q := I.base.tups b xs e
    rw [upd_ne (neH q)]
    exact q
  · have q := I.base.frzs b o u e
    rw [upd_ne (neH q)]
    exact q
  · obtain ⟨m, q⟩ := I.base.tbls b ps e
    exact ⟨m, by rw [upd_ne (neH q)]; exact q⟩
  · rw [upd_ne (Ne.symm nL)]
    exact I.free
  · rw [upd_ne (neC x c e)]
    exact I.freeC x c e
  · obtain ⟨e, n, ne, nf, nd⟩ := I.pin p (by
      rcases List.mem_append.mp hm with z | z
      · exact List.mem_append_left _ z
      · exact List.mem_append_right _ (List.mem_cons_of_mem _ z))
    exact ⟨e, by rw [upd_ne (hp p hm)]; exact n, ne, nf, nd⟩
  · by_cases hb : b = a
    · subst hb
      rw [upd_same] at e
      cases e
      exact exR_ok ga hz hd
    · rw [upd_ne hb] at e
      exact (I.hok b u e).stay (fun _ _ _ q => q) (fun c q => by rw [upd_ne (neH q)]; exact q) fun c xs q => by rw [upd_ne (neH q)]; exact q
/-- out of a suite, the error still pinned -/
theorem Inv.unsuiteK {a : Addr} {oe : Obj} (I : Inv (X.suite a ((a, oe) :: (X.pn ++ pins))) [] σ H s) (ok : X.Ok) : Inv X ((a, oe) :: pins) σ H s :=
  ⟨ok, I.os, I.bare, I.base, I.loc, I.cell, I.free, I.freeC, fun p hm => I.pin p (by
    rcases List.mem_append.mp hm with z | z
    · exact List.mem_append_left _ (List.mem_cons_of_mem _ (List.mem_append_left _ z))
    · rcases List.mem_cons.mp z with z | z
      · exact List.mem_append_left _ (by rw [z]; exact List.mem_cons_self)
      · exact List.mem_append_left _ (List.mem_cons_of_mem _ (List.mem_append_right _ z))), I.hok, I.len⟩
/-- what 'except x as n' wishes where its suite keeps the error: slot i is n's -/
def wKeep (K : PySem.W.Frag) (m : Nat) (c : Value) (i : Nat) (ts : Addr → Value → Option Addr → TS) (Wo : WX) (D : Ends) : WX := fun cls d σ H => σ.length = m → ∃ b, PySem.W.exmOne K cls c = some b ∧
  (b = true → ∀ a, H a = none → ts a cls d { nx := fun σ' H' => H' a = none → D.nx (σ'.set i none) (upd H' a (ExR cls d a)), rt := fun _ _ => False, bk := fun _ _ => False, ct := fun _ _ => False } (σ.set i (some (.ref a))) H) ∧ (b = false → Wo cls d σ H)
variable {x n : Str} {c : Value} {i : Nat} {body suite : List Stmt} {b₀ : Stmt} {np pos pos' : Pos} {tb : WX → TS} {ts : Addr → Value → Option Addr → TS} {Wo : WX}
theorem ps_try_keep (hs : X.stack = X.env :: X.outer) (hf : X.env.frame = some X.env.locals) (hex : X.ex = []) (hN : X.N.Nodup) (hi : X.N[i]? = some n) (hln : X.env.kindOf n = some .local) (hc : Names X x c) (tk : Takes X Wo)
    (hb : ∀ (W : WX) (pn : List (Addr × Obj)) (xe : Value → Shared → Prop), Takes (X.tr pn xe) W → PassesOwn (model X.prog X.w) X.A X.env xe → PSs (X.tr pn xe) body (tb W))
    (hsu : ∀ (a : Addr) (oe : Obj) (cls : Value) (d : Option Addr) (pn : List (Addr × Obj)), Zc cls d oe → (∃ vs, oe.data = .fields vs) → PSs (X.suite a ((a, oe) :: pn)) (b₀ :: suite) (ts a cls d)) :
    PS X (.Try body [.ExceptHandler (some (.Name x np)) (some n) (b₀ :: suite) pos'] [] [] pos) (fun D σ H => tb (wKeep X.K X.N.length c i ts Wo D) D σ H) := by
  constructor
  intro pins s σ H D I h
  have ok := I.ok
  have frA : X.A.frames = some (X.env :: X.outer) := by
    rw [ok.frames, hs]
  refine wpAny_Try_except ?_
  refine wpAny_mono ((hb (wKeep X.K X.N.length c i ts Wo D) (X.pn ++ pins)
    (fun e z1 => wpAny (model X.prog X.w) X.A (noteFrame e X.env) (fun _ z2 => wpAny (model X.prog X.w) X.A (setFlight e none) (fun _ z3 => wpAny (model X.prog X.w) X.A (handleBy e X.env [.ExceptHandler (some (.Name x np)) (some n) (b₀ :: suite) pos']) (SP X pins D) X.xe z3) X.xe z2) X.xe z1)
    (fun u s' air => ?_) PassesOwn.looking).run [] s σ H D (I.toTry _) h) (fun f s1 hsp => ?_) (fun e s1 he => he)
  · obtain ⟨a, B, sI, pins', σ', H', cls, d, rfl, J', nb, up, sky, na, os, ag, wk⟩ := air
    have J : Inv X pins σ' H' sI := J'.ofTry ok
    obtain ⟨b, hb1, hyes, hno⟩ := wk J.len
    rw [hs] at sky
    show wpAny (model X.prog X.w) X.A (noteFrame (.ref a) X.env) _ _ _
    refine Sky.land Zc.steady frA hf sky fun h3 fl3 up3 => ?_
    have gone : B.get? a = none := fl3.2.1
    have J3 : Inv X pins σ' H' { s' with heap := h3 } := J.landed nb fl3.1 (up.trans up3) os ag
    obtain ⟨oe3, vs3, he3, hz3, hd3⟩ := fl3.there
    have nfr : a ∉ frs (X.env :: X.outer) := fun hm => by
      obtain ⟨_, o', e', hnf⟩ := fl3.2.2.1.mem hm
      rw [he3] at e'
      cases e'
      exact hnf _ hd3
    have nL : a ≠ X.env.locals := fun z => nfr (List.mem_filterMap.mpr ⟨X.env, List.mem_cons_self, by rw [hf, z]⟩)
    have nF : a ∉ X.fs := fun hm => by
      obtain ⟨e, he, q⟩ := List.mem_filterMap.mp hm
      exact nfr (List.mem_filterMap.mpr ⟨e, List.mem_cons_of_mem _ he, q⟩)
    have outI : sI.heap.get? a = none := by
      cases q : sI.heap.get? a with
      | none => rfl
      | some o =>
        have z := nb a o q (by rw [hs]; exact nfr)
        rw [gone] at z
        cases z
    have n0 : X.s_0.heap.get? a = none := by
      cases q : X.s_0.heap.get? a with
      | none => rfl
      | some o =>
        obtain ⟨o', z⟩ := J.base.there a o q (by rw [hex]; exact fun y => (nomatch y))
        rw [outI] at z
        cases z
    have hp : ∀ p ∈ X.pn ++ pins, p.1 ≠ a := fun p hm z => by
      have q := (J.pin p hm).1
      rw [z, outI] at q
      cases q
    have S3 := J3.suite he3 hd3 na nL nF
    refine wpAny_handleBy_cons (codeAny_handlers_test ?_) (by intro q; cases q)
    have LT : PySem.W.Looks (model X.prog X.w) h3 (typeOf (.ref a)) cls := fun A Q E s k q => wpAny_typeOf_ref (k _ _ he3) (by rw [hz3.1]; exact q)
    have LM := PySem.W.exm_one (M := model X.prog X.w) (J3.kIn) LT hb1
    have test : ∀ {Q : Value → Shared → Prop} {E : Value → Shared → Prop}, Q c { s' with heap := h3 } → wpAny (model X.prog X.w) (X.A.mark (some (.ref a))) (eval (.Name x np) X.env) Q E { s' with heap := h3 } := fun {Q E} q => by
      obtain ⟨hg, hdbg, hm⟩ := hc
      rcases hm with hm | ⟨hm, hv, hnn⟩
      · exact ld_glob (X := X.suite a ((a, oe3) :: (X.pn ++ pins))) S3 hg hm q hdbg
      · exact ld_blt (X := X.suite a ((a, oe3) :: (X.pn ++ pins))) S3 hg hm hv q hnn hdbg
    refine test (LM.here ?_)
    cases b with
    | true =>
      refine codeAny_handlers_suite_as ?_
      refine HandSPX.lands_againZ fl3 fun h4 fl4 up4 => ?_
      have J4 : Inv X pins σ' H' { s' with heap := h4 } := J.landed nb fl4.1 ((up.trans up3).trans up4) os ag
      obtain ⟨oe4, vs4, he4, hz4, hd4⟩ := fl4.there
      have S4 := J4.suite he4 hd4 na nL nF
      refine store_ok (X := X.suite a ((a, oe4) :: (X.pn ++ pins))) (v := .ref a) S4 hN hi (.inl hln) rfl (fun s5 S5 => ?_) (.inr hln)
      refine wpAny_mono ((hsu a oe4 cls d (X.pn ++ pins) hz4 ⟨_, hd4⟩).run [] s5 _ H' _ S5 (hyes rfl a na)) (fun f s6 hsp => ?_) (fun _ _ z => z.elim)
      match f, hsp with
      | .next, ⟨σ6, H6, S6, q6⟩ =>
        have na6 : H6 a = none := (S6.pin (a, oe4) (List.mem_append_left _ List.mem_cons_self)).2.1
        exact gone_ok (S6.unsuiteK ok) hN hi hln fun s7 J7 => ⟨_, _, J7.track hz4 hd4 n0 hp, q6 na6⟩
      | .brk, ⟨_, _, _, q6⟩ => exact q6.elim
      | .cont, ⟨_, _, _, q6⟩ => exact q6.elim
      | .ret u, ⟨_, _, _, _, _, q6⟩ => exact q6.elim
    | false =>
      show wpAny _ X.A (handleBy (.ref a) X.env []) _ _ _
      refine wpAny_handleBy_nil ?_
      obtain ⟨k1, k2, k3, oe, vs, T, oT, ts', he, hz, hd, h1, hr⟩ := id fl3
      unfold PySem.passOn
      refine wpAny_bind (wpAny_field he hd h1 ?_)
      rw [if_neg (show ¬ ((Value.ref T == Value.none) = true) from by simp)]
      have fin : wpAny (model X.prog X.w) X.A (setFlight (.ref a) X.env.frame) (fun _ z4 => wpAny (model X.prog X.w) X.A (throw (.ref a) : Sem Flow) (SP X pins D) X.xe z4) X.xe { s' with heap := h3 } := by
        rw [hf]
        refine HandSPX.setFlight_upZ fl3 fun h4 hh4 up4 => wpAny_throw (tk _ _ ?_)
        exact ⟨a, B, sI, pins, σ', H', cls, d, rfl, J, nb, (up.trans up3).trans up4, .inr (.inr (by rw [hs]; exact hh4)), na, os, ag, hno rfl⟩
      first
        | exact wpAny_bind (wpAny_pure (wpAny_bind fin))
        | exact wpAny_bind fin
  · match f, hsp with
    | .next, ⟨σ', H', J', q⟩ => exact wpAny_execs_nil ⟨σ', H', J'.ofTry ok, q⟩
    | .brk, ⟨σ', H', J', q⟩ => exact ⟨σ', H', J'.ofTry ok, q⟩
    | .cont, ⟨σ', H', J', q⟩ => exact ⟨σ', H', J'.ofTry ok, q⟩
    | .ret u, ⟨v, σ', H', J', r, q⟩ => exact ⟨v, σ', H', J'.ofTry ok, r, q⟩
end
end L2

namespace L2
open PySem PySem.Spec PyProof.Rows
/-! ### data with dicts; repr of it -/
def kD : Key → PyData
  | .inl i => .int i
  | .inr x => .str x
mutual
inductive Dv (K : PySem.W.Frag) (H : Hp) : V → PyData → Prop
  | non : Dv K H .non .none
  | bl (b : Bool) : Dv K H (.bl b) (.bool b)
  | int (i : Int) : Dv K H (.int i) (.int i)
  | str (x : Str) : Dv K H (.str x) (.str x)
  | lst {a : Addr} {xs : List V} {ds : List PyData} : SqL K H a xs → DvAll K H xs ds → Dv K H (.ref a) (.list ds)
  | tup {a : Addr} {xs : List V} {ds : List PyData} : SqT K H a xs → DvAll K H xs ds → Dv K H (.ref a) (.tuple ds)
  | dic {a : Addr} {kvs : List (Key × V)} {ds : List PyData} : H a = some (.dK kvs) → DvAll K H (kvs.map (·.2)) ds → Dv K H (.ref a) (.dict ((kvs.map fun p => kD p.1).zip ds))
inductive DvAll (K : PySem.W.Frag) (H : Hp) : List V → List PyData → Prop
  | nil : DvAll K H [] []
  | cons {v : V} {vs : List V} {d : PyData} {ds : List PyData} : Dv K H v d → DvAll K H vs ds → DvAll K H (v :: vs) (d :: ds)
end
theorem SqL.mono {K : PySem.W.Frag} {H H' : Hp} {a : Addr} {xs : List V} (k : ∀ a o, H a = some o → H' a = some o) : SqL K H a xs → SqL K H' a xs
  | .inl (.inl e) => .inl (.inl (k _ _ e))
  | .inl (.inr ⟨o, e⟩) => .inl (.inr ⟨o, k _ _ e⟩)
  | .inr r => .inr r
theorem SqT.mono {K : PySem.W.Frag} {H H' : Hp} {a : Addr} {xs : List V} (k : ∀ a o, H a = some o → H' a = some o) : SqT K H a xs → SqT K H' a xs
  | .inl (.inl e) => .inl (.inl (k _ _ e))
  | .inl (.inr ⟨o, e⟩) => .inl (.inr ⟨o, k _ _ e⟩)
  | .inr r => .inr r
theorem Dv.mono {K : PySem.W.Frag} {H H' : Hp} {v : V} {d : PyData} (k : ∀ a o, H a = some o → H' a = some o) (h : Dv K H v d) : Dv K H' v d :=
  Dv.rec (motive_1 := fun v d _ => Dv K H' v d) (motive_2 := fun vs ds _ => DvAll K H' vs ds) .non .bl .int .str (fun e _ q => .lst (SqL.mono k e) q) (fun e _ q => .tup (SqT.mono k e) q) (fun e _ q => .dic (k _ _ e) q) .nil (fun _ _ p q => .cons p q) h
theorem DvAll.mono {K : PySem.W.Frag} {H H' : Hp} (k : ∀ a o, H a = some o → H' a = some o) : ∀ {vs : List V} {ds : List PyData}, DvAll K H vs ds → DvAll K H' vs ds
  | _, _, .nil => .nil
  | _, _, .cons p q => .cons (p.mono k) (DvAll.mono k q)
theorem DvAll.length {K : PySem.W.Frag} {H : Hp} : ∀ {vs : List V} {ds : List PyData}, DvAll K H vs ds → vs.length = ds.length
  | _, _, .nil => rfl
  | _, _, .cons _ q => by rw [List.length_cons, List.length_cons, q.length]
theorem pairs_keys {P : Program} {w : World} {h : Heap} : ∀ {es : List DictEntry} {kvs : List (Key × Value)}, Pairs (mixKind P w) es kvs → ReadsAll h (es.map (·.key)) (kvs.map fun p => kD p.1) [] ∧ es.map (·.val) = kvs.map (·.2)
  | _, _, .nil => ⟨.nil, rfl⟩
  | e :: es, kv :: kvs, .cons h1 h2 h3 => by
    obtain ⟨r, v⟩ := pairs_keys (h := h) h3
    refine ⟨?_, by rw [List.map_cons, List.map_cons, v, h2]⟩
    rcases keyIs_shape (k := kv.1) (v := e.key) h1 with ⟨i, t, ek, ev⟩ | ⟨x, t, ek, ev⟩
    · have z : ReadsAll h (e.key :: es.map (·.key)) (.int i :: kvs.map fun p => kD p.1) ([] ++ []) := ReadsAll.cons (by rw [ev]; exact Reads.int i t) r
      rw [List.map_cons, List.map_cons, ek]
      exact z
    · have z : ReadsAll h (e.key :: es.map (·.key)) (.str x :: kvs.map fun p => kD p.1) ([] ++ []) := ReadsAll.cons (by rw [ev]; exact Reads.str x t) r
      rw [List.map_cons, List.map_cons, ek]
      exact z
theorem kv_split : ∀ {kvs : List (Key × V)} {vs : List (Key × Value)}, KV kvs vs → (kvs.map fun p => kD p.1) = (vs.map fun p => kD p.1) ∧ Vals (kvs.map (·.2)) (vs.map (·.2))
  | _, _, .nil => ⟨rfl, .nil⟩
  | _, _, .cons ⟨e, r⟩ t => by
    obtain ⟨a, b⟩ := kv_split t
    exact ⟨by rw [List.map_cons, List.map_cons, e, a], .cons r b⟩
theorem zip_fst {α β : Type} : ∀ {xs : List α} {ys : List β}, xs.length = ys.length → (xs.zip ys).map (·.1) = xs ∧ (xs.zip ys).map (·.2) = ys
  | [], [], _ => ⟨rfl, rfl⟩
  | x :: xs, y :: ys, h => by
    obtain ⟨a, b⟩ := zip_fst (xs := xs) (ys := ys) (by simpa using h)
    exact ⟨by rw [List.zip_cons_cons, List.map_cons, a], by rw [List.zip_cons_cons, List.map_cons, b]⟩
section
variable {X : Cx} {pins : List (Addr × Obj)} {σ : St} {H : Hp} {s : Shared}
/-- the table of modules is a dict that K tells -/
def SysD (K : PySem.W.Frag) : Prop := ∃ o, K.lookup sysModules = some o ∧ o.cls = .type "dict"
theorem Dv.reads (I : Inv X pins σ H s) (hS : SysD X.K) {v : V} {d : PyData} (h : Dv X.K H v d) : ∀ u : Value, RelV v u → ∃ as, Reads s.heap u d as ∧ sysModules ∉ as := by
  refine Dv.rec (motive_1 := fun v d _ => ∀ u : Value, RelV v u → ∃ as, Reads s.heap u d as ∧ sysModules ∉ as) (motive_2 := fun vs ds _ => ∀ us : List Value, Vals vs us → ∃ as, ReadsAll s.heap us ds as ∧ sysModules ∉ as)
    (fun u r => ?_) (fun b u r => ?_) (fun i u r => ?_) (fun x u r => ?_) (fun {a xs ds} e _ q u r => ?_) (fun {a xs ds} e _ q u r => ?_) (fun {a kvs ds} e hd q u r => ?_) (fun us r => ?_) (fun {v vs d ds} _ _ p q us r => ?_) h
  · cases r
    exact ⟨_, Reads.none, List.not_mem_nil⟩
  · cases r
    exact ⟨_, Reads.bool b, List.not_mem_nil⟩
  · obtain ⟨t, rfl⟩ := r
    exact ⟨_, Reads.int i t, List.not_mem_nil⟩
  · obtain ⟨t, rfl⟩ := r
    exact ⟨_, Reads.str x t, List.not_mem_nil⟩
  · cases r
    obtain ⟨its, rv, ⟨o, n, ho, hc, _, hd⟩, _⟩ := I.list e
    obtain ⟨as, hr, hn⟩ := q _ rv
    refine ⟨_, Reads.list ho hc hd hr, fun z => ?_⟩
    rcases List.mem_cons.mp z with z | z
    · obtain ⟨oS, h1, h2⟩ := hS
      rw [z] at h1
      have e2 := I.kIn _ _ h1
      rw [ho] at e2
      cases e2
      rw [hc] at h2
      exact absurd h2 (by decide)
    · exact hn z
  · cases r
    obtain ⟨its, rv, ⟨o, ho, hc, n, hd⟩, _⟩ := I.tuple e
    obtain ⟨as, hr, hn⟩ := q _ rv
    exact ⟨_, Reads.tuple ho hc hd hr, hn⟩
  · cases r
    obtain ⟨_, hns, vs, rel, o, es, ep, ho, hx, hdat, _, hp, _⟩ := dk_of I.hok e
    obtain ⟨r1, e1⟩ := pairs_keys (h := s.heap) hp
    obtain ⟨e2, rv⟩ := kv_split rel
    obtain ⟨as, hr, hn⟩ := q _ rv
    have hl : (kvs.map fun p => kD p.1).length = ds.length := by
      rw [List.length_map, ← hd.length, List.length_map]
    obtain ⟨z1, z2⟩ := zip_fst hl
    refine ⟨_, Reads.dict ho hx.1 hdat (as := []) (bs := as) ?_ ?_, fun z => ?_⟩
    · rw [z1, e2]
      exact r1
    · rw [z2, e1]
      exact hr
    · rcases List.mem_cons.mp z with z | z
      · rw [← z] at hns
        exact absurd hns (by decide)
      · exact hn z
  · cases r
    exact ⟨_, ReadsAll.nil, List.not_mem_nil⟩
  · cases r with
    | cons r1 r2 =>
      obtain ⟨as, a1, a2⟩ := p _ r1
      obtain ⟨bs, b1, b2⟩ := q _ r2
      exact ⟨_, ReadsAll.cons a1 b1, fun z => (List.mem_append.mp z).elim a2 b2⟩
/-- repr(x), x a list, a tuple, a dict -/
def rRepr (K : PySem.W.Frag) : List V → Hp → VK → Prop := fun xs H Q => ∃ (a : Addr) (d : PyData), xs = [.ref a] ∧ Dv K H (.ref a) d ∧ d.showable = true ∧ d.depth ≤ 64 ∧ d.shown.length ≤ 16777216 ∧ Q (.str d.shown) H
theorem call_repr (hg : X.A.guards = some []) (hu : X.A.units + 100 < cLine) (hS : SysD X.K) : CallR X (.builtin "repr") (rRepr X.K) := by
  intro pins s σ H xs us Q I r h
  obtain ⟨a, d, rfl, hd, h1, h2, h3, q⟩ := h
  cases r with
  | cons rx rr =>
    cases rr
    cases rx
    obtain ⟨as, hr, hn⟩ := hd.reads I hS _ rfl
    exact repr_of_reads' hr h1 (fun _ => hn) hg (by omega) (fun _ _ e => e) (fun h' u tk k => ⟨.str d.shown, H, I.kept (t' := tk) k, ⟨u, rfl⟩, q⟩) (by rw [sizeLine_eq]; exact h3)
end
/-! ### dict(enumerate(xs)) -/
def enumK {α : Type} : Nat → List α → List (Key × α)
  | _, [] => []
  | i, x :: xs => (.inl (i : Int), x) :: enumK (i + 1) xs
theorem enumK_get {α : Type} : ∀ {xs : List α} {i j : Nat} {x : α}, xs[j]? = some x → (enumK i xs)[j]? = some (.inl ((i + j : Nat) : Int), x)
  | [], _, _, _, h => by simp at h
  | y :: ys, i, 0, x, h => by
    simp at h
    subst h
    rfl
  | y :: ys, i, j + 1, x, h => by
    have z := enumK_get (xs := ys) (i := i + 1) (j := j) (x := x) (by simpa using h)
    have e : i + 1 + j = i + (j + 1) := by omega
    rw [e] at z
    exact z
theorem enumK_length {α : Type} : ∀ (xs : List α) (i : Nat), (enumK i xs).length = xs.length
  | [], _ => rfl
  | _ :: xs, i => by rw [enumK, List.length_cons, List.length_cons, enumK_length]
theorem enumK_lt {α : Type} : ∀ {xs : List α} {i : Nat} {k : Key}, k ∈ (enumK i xs).map (·.1) → ∃ n : Nat, i ≤ n ∧ k = .inl (n : Int)
  | [], _, _, h => by cases h
  | _ :: xs, i, k, h => by
    rcases List.mem_cons.mp (show k ∈ (Sum.inl (i : Int)) :: (enumK (i + 1) xs).map (·.1) from h) with h | h
    · exact ⟨i, Nat.le_refl _, h⟩
    · obtain ⟨n, hn, e⟩ := enumK_lt h
      exact ⟨n, by omega, e⟩
theorem enumK_nodup {α : Type} : ∀ (xs : List α) (i : Nat), ((enumK i xs).map (·.1)).Nodup
  | [], _ => List.nodup_nil
  | _ :: xs, i => by
    show ((Sum.inl (i : Int) : Key) :: (enumK (i + 1) xs).map (·.1)).Nodup
    refine List.nodup_cons.mpr ⟨fun h => ?_, enumK_nodup xs (i + 1)⟩
    obtain ⟨n, hn, e⟩ := enumK_lt h
    have e' := Sum.inl.inj e
    omega
theorem enumK_vals {α : Type} : ∀ (xs : List α) (i : Nat), (enumK i xs).map (·.2) = xs
  | [], _ => rfl
  | _ :: xs, i => by rw [enumK, List.map_cons, enumK_vals]
theorem enumK_kv : ∀ {xs : List V} {us : List Value} (i : Nat), Vals xs us → KV (enumK i xs) (enumK i us)
  | _, _, _, .nil => .nil
  | _, _, i, .cons r t => .cons ⟨rfl, r⟩ (enumK_kv (i + 1) t)
section
variable {X : Cx}
def tDEnum (K : PySem.W.Frag) (ta : TA) : TE := fun σ H Q => ta σ H fun vs H1 => ∃ a xs, vs = [.ref a] ∧ SqL K H1 a xs ∧ ∀ p, H1 p = none → Q (.ref p) (upd H1 p (.dK (enumK 0 xs)))
theorem pe_dEnum {e : Expr} {ta : TA} {p p2 pos pos2 : Pos} (hc : X.calm = true) (hg : Gl X "enumerate") (hm : X.mg "enumerate" = none) (hg2 : Gl X "dict") (hm2 : X.mg "dict" = none) (ha : PA X [e] ta) (hs : starEach [e] X.env = [(false, eval e X.env)] := by rfl)
    (hs2 : starEach [.Call (.Name "enumerate" p) [e] [] pos] X.env = [(false, eval (.Call (.Name "enumerate" p) [e] [] pos) X.env)] := by rfl) :
    PE X (.Call (.Name "dict" p2) [.Call (.Name "enumerate" p) [e] [] pos] [] pos2) (tDEnum X.K ta) := by
  refine ⟨fun pins s σ H Q I h => ?_⟩
  refine Call_ (ld_blt I hg2 hm2 PyProof.Rows.boot_dict (PyProof.Rows.callWith_type1 ?_ hs2 rfl))
  rw [hs2]
  show wpAny _ _ (spliced ((false, eval (.Call (.Name "enumerate" p) [e] [] pos) X.env) :: backTo pos2 [])) _ _ s
  refine Calls.spliced_cons ?_
  refine Call_ (ld_blt I hg hm boot_enumerate (PyProof.Rows.callWith_type1 (thn (ha.run pos pins s σ H _ I h) fun us s1 ⟨vs, H1, I1, r1, q1⟩ => ?_) hs rfl))
  obtain ⟨a, xs, ex, hq, q⟩ := q1
  subst ex
  cases r1 with
  | cons r rr =>
    cases rr
    cases r
    obtain ⟨its, rv, p', hz⟩ := I1.list hq
    refine call_enumerate_list p'.isList fun h' he hit hsz hk => Calls.spliced_nil ?_
    have lt : a < s1.heap.objs.size := by
      obtain ⟨o, n, ho, _⟩ := p'
      exact Heap.lt_size ho
    have P := PairArg.enumerate (prog := X.prog) (w := X.w) (s1.heap.objs.size + 1) s1.heap.objs.size a (Nat.succ_ne_self _) (Nat.ne_of_lt (Nat.lt_succ_of_lt lt)) (Nat.ne_of_lt lt) its.toArray
    have lis : h'.IsList a its.toArray := p'.isList.at fun o e => hk a o e
    have hlen : its.toArray.size ≤ sizeLine := by rw [List.size_toArray, ← rv.length]; exact hz
    refine _root_.PySem.call_dict_pairs (s := { s1 with heap := h' }) (knd := mixKind X.prog X.w) (kvs := enumK 0 its) P (I.ok.hd hc) ⟨⟨_, he⟩, hit, lis⟩ ⟨by rw [enumK_length, List.size_toArray], fun i key v ⟨⟨t, ek⟩, ev⟩ => ?_⟩ hlen fun h2 tk hd' k2 => ?_
    · refine ⟨.inl (i : Int), ?_, ?_⟩
      · have z := enumK_get (i := 0) (xs := its) (j := i) (x := v) (by simpa using ev)
        rw [Nat.zero_add] at z
        exact z
      · rw [ek]
        exact keyIs_int (i : Int) t
    · have k3 : ∀ b o, s1.heap.get? b = some o → h2.get? b = some o := fun b o e => k2 b o (fun z => by
        have lb := Heap.lt_size e
        simp only [List.mem_cons, List.not_mem_nil, or_false] at z
        rcases z with z | z
        · rw [z] at lb
          exact absurd lb (Nat.not_lt.mpr (Nat.le_succ _))
        · rw [z] at lb
          exact absurd lb (Nat.lt_irrefl _)) (hk b o e)
      have big : s1.heap.objs.size ≤ h'.objs.size := by
        show s1.heap.objs.size ≤ h'.objs.size
        rw [hsz]
        omega
      have hm : (h'.objs.size == sysModules) = false := beq_eq_false_iff_ne.mpr (Nat.ne_of_gt (Nat.lt_of_lt_of_le I1.big big))
      have ob : ObjOk X.prog X.w (upd H1 h'.objs.size (.dK (enumK 0 xs))) h2 h'.objs.size (.dK (enumK 0 xs)) := by
        refine ⟨by rw [enumK_length]; exact hz, hm, enumK 0 its, enumK_kv 0 rv, ?_⟩
        rw [merged_nil_of_nodup _ (enumK_nodup _ _)] at hd'
        exact hd'
      exact ⟨.ref h'.objs.size, _, I1.laid (t' := tk) k3 big ob, rfl, q _ (I1.hok.fresh big)⟩
end
end L2

namespace My
open PySem PySem.Spec PyProof.Rows L2
/-! ### what the written part says of the errors -/
structure EC (P : Program) (w : World) (K : PySem.W.Frag) (mg : Str → Option Value) (x : Str) (ns : List Str) (C fI : Addr) (fd : FuncData) : Prop where
  gC : mg x = some (.ref C)
  ini : PySem.W.excInitIn K C [.type "ValueError", .type "Exception", .type "BaseException", .type "object"] "ValueError.__new__" = true
  iC : PySem.W.findIn K (.ref C) "__init__" = some (some (.ref fI))
  tI : PySem.W.typeIn K (.ref fI) = some (.type "function")
  kC : PySem.W.keepIn K (.ref C) = true
  ok : Exo.InitOk P w K mg C fI fd ns
  fl : ∀ f ∈ ns, ExAt K C f
theorem EC.cl {X : Cx} {x : Str} {ns : List Str} {C fI : Addr} {fd : FuncData} (T : EC X.prog X.w X.K X.mg x ns C fI fd) : ExCl X C fI fd ns := ⟨T.ini, T.iC, T.tI, T.kC, T.ok⟩
def gK {α : Type} (_ zs : List α) : List α := zs
def gP {α : Type} (us _ : List α) : List α := us
/-- the name of the i-th error, its field -/
def nm (i : Nat) : Str := (["BadShape", "BadFunction", "BadModule", "BadProgram", "BadCode", "BadEntry", "BadState", "BadNumber", "BadPaper", "TooMany"] : List Str).getD i ""
def fl (i : Nat) : Str := (["part", "part", "part", "part", "at", "value", "value", "value", "part"] : List Str).getD i ""
structure ErT (P : Program) (w : World) (K : PySem.W.Frag) (mg : Str → Option Value) (c : Nat → Addr) (cS : Addr) : Prop where
  one : ∀ i, i < 9 → ∃ fI fd, EC P w K mg (nm i) [fl i] (c i) fI fd ∧ EBind fd [fl i] [fl i] 0 gK ∧ EBind fd [fl i] [] 1 gP
  two0 : ∃ fI fd, EC P w K mg "TooMany" ["what", "most"] (c 9) fI fd ∧ EBind fd ["what", "most"] [] 2 gP
  gl : ∀ i, i < 10 → mg (nm i) = some (.ref (c i))
  glS : mg "StandError" = some (.ref cS)
  exc : ∀ i, i < 10 → ExcC K (c i)
  ty : ∀ i, i < 10 → PySem.W.typeIn K (.ref (c i)) = some (.type "type")
  kit : ∀ i j, i < 10 → j < 10 → PySem.W.kitOne K (.ref (c i)) (.ref (c j)) = some (decide (i = j))
  kitS : ∀ i, i < 10 → PySem.W.kitOne K (.ref (c i)) (.ref cS) = some true
  exS : ∀ i, i < 10 → PySem.W.exmOne K (.ref (c i)) (.ref cS) = some true
section
variable {P : Program} {w : World} {K : PySem.W.Frag} {mg : Str → Option Value} {c : Nat → Addr} {cS : Addr}
theorem ErT.at (T : ErT P w K mg c cS) (i : Nat) (h : i < 9) : ExAt K (c i) (fl i) := by
  obtain ⟨fI, fd, x, _⟩ := T.one i h
  exact x.fl _ List.mem_cons_self
theorem ErT.rz {X : Cx} (T : ErT X.prog X.w X.K X.mg c cS) (i : Nat) (h : i < 10) : Raises X (.ref (c i)) := raises_own (T.exc i h).hs (T.ty i h)
theorem Er.mono {H H' : Hp} {C a : Addr} {fs : List (Str × V)} (k : ∀ b o, H b = some o → H' b = some o) : Er H C a fs → Er H' C a fs
  | ⟨dx, h1, h2⟩ => ⟨dx, k _ _ h1, k _ _ h2⟩
theorem up2 {H : Hp} {l : Addr} {o : HO} (h : H l = none) : ∀ b u, H b = some u → upd H l o b = some u := fun b u e => by rw [upd_ne (ne_of_none e h)]; exact e
theorem un2 {H : Hp} {a b : Addr} {o : HO} (h : upd H a o b = none) : H b = none ∧ b ≠ a := by
  by_cases e : b = a
  · rw [e, upd_same] at h
    cases h
  · rw [upd_ne e] at h
    exact ⟨h, e⟩
end
end My

namespace My
open PySem PySem.Spec PyProof.Rows L2
abbrev sHeard : Stmt := top 38
theorem scHeard : FnScope ["ask", "caught", "found", "error"] ["ask"] (defScope sHeard) := ⟨rfl, rfl, rfl, by decide +kernel, rfl, by decide +kernel, by decide +kernel⟩
/-- what is heard of the i-th error with v in its field -/
def word (i : Nat) : Str := (["shape", "function", "module", "program", "code", "entry", "state", "number", "paper"] : List Str).getD i ""
/-- what a raised error gives -/
def HeardX (c : Nat → Addr) (Q : VK) : XK := fun cls d H' => (∃ (i : Nat) (dx : Addr) (v : V), i < 9 ∧ cls = .ref (c i) ∧ d = some dx ∧ H' dx = some (.xd [(fl i, v)]) ∧
    ∀ l H2, (∀ b u, H' b = some u → H2 b = some u) → H' l = none → H2 l = some (.tup [.str (word i), v]) → Q (.ref l) H2) ∨
  ∃ (dx : Addr) (v u : V), cls = .ref (c 9) ∧ d = some dx ∧ H' dx = some (.xd [("what", v), ("most", u)]) ∧ ∀ l H2, (∀ b o, H' b = some o → H2 b = some o) → H' l = none → H2 l = some (.tup [.str "many", v, u]) → Q (.ref l) H2
/-- a value, in a list; an error, told -/
def THeard (c : Nat → Addr) : (XK → Hp → VK → Prop) → Hp → VK → Prop := fun tl H Q => ∀ H1, (∀ b u, H b = some u → H1 b = some u) → tl (HeardX c Q) H1 fun v H' => ∀ l, H' l = none → Q (.ref l) (upd H' l (.lst [v]))
section
variable {X : Cx} {c : Nat → Addr} {cS : Addr}
theorem heard_gives {q : Str} {g : Addr} {cdg : Value} (T : ErT X.prog X.w X.K X.mg c cS) (isin : X.mg "isinstance" = none) : LamX.GivesTo X ["ask", "caught", "found", "error"] "_law_heard" (defScope sHeard) g cdg (defBody sHeard) "ask" q (THeard c) := by
  intro f c' s H Q tl act hc h
  refine ⟨_, (pss_cons (ps_asg (pe_tup (pa_cons pe_non (pa_cons pe_non pa_nil))) (pg_tup rfl (pgs_cons (pg_name (i := 1) scHeard.nd rfl (Or.inl rfl)) (pgs_cons (pg_name (i := 2) scHeard.nd rfl (Or.inl rfl)) pgs_nil)))) (pss_cons (ps_try_keep (i := 3) (c := .ref cS) (Wo := fun _ _ _ _ => False) (ts := fun a cls d => tAsg (tVar 3) (gName 1))
      (tb := fun W D σ H => ∃ (E : XK) (Qv : VK), (∀ cls d σ' H', E cls d H' → W cls d σ' H') ∧ (∀ v H', Qv v H' → D.nx (σ.set 2 (some v)) H') ∧ σ[0]? = some (some (.ref f)) ∧ H c' = some (LamX.CodeO c' q) ∧ tl E H Qv)
      rfl rfl rfl scHeard.nd rfl rfl ⟨rfl, by decide, .inl T.glS⟩ LamX.takes0 (fun W pn xe tk _ => ?_) (fun a oe cls d pn _ _ => pss_one (ps_set (i := 1) scHeard.nd rfl (Or.inl rfl) (pv 3))))
      (pss_cons (ps_if (pt_cmp (pc_isN (pv 1))) (pss_one (ps_ret (pe_lst (pa_cons (pv 2) pa_nil)))) pss_nil)
      (pss_cons (ps_if (pt_val (pe_callB call_isX (by rfl) isin (by decide +kernel) (pa_cons (pv 1) (pa_cons (pe_glob (v := .ref _) rfl (T.gl 0 (by decide)) rfl) pa_nil)))) (pss_one (ps_ret (pe_tup (pa_cons pe_str (pa_cons (pe_exAt (pv 1)) pa_nil))))) pss_nil)
      (pss_cons (ps_if (pt_val (pe_callB call_isX (by rfl) isin (by decide +kernel) (pa_cons (pv 1) (pa_cons (pe_glob (v := .ref _) rfl (T.gl 1 (by decide)) rfl) pa_nil)))) (pss_one (ps_ret (pe_tup (pa_cons pe_str (pa_cons (pe_exAt (pv 1)) pa_nil))))) pss_nil)
      (pss_cons (ps_if (pt_val (pe_callB call_isX (by rfl) isin (by decide +kernel) (pa_cons (pv 1) (pa_cons (pe_glob (v := .ref _) rfl (T.gl 2 (by decide)) rfl) pa_nil)))) (pss_one (ps_ret (pe_tup (pa_cons pe_str (pa_cons (pe_exAt (pv 1)) pa_nil))))) pss_nil)
      (pss_cons (ps_if (pt_val (pe_callB call_isX (by rfl) isin (by decide +kernel) (pa_cons (pv 1) (pa_cons (pe_glob (v := .ref _) rfl (T.gl 3 (by decide)) rfl) pa_nil)))) (pss_one (ps_ret (pe_tup (pa_cons pe_str (pa_cons (pe_exAt (pv 1)) pa_nil))))) pss_nil)
      (pss_cons (ps_if (pt_val (pe_callB call_isX (by rfl) isin (by decide +kernel) (pa_cons (pv 1) (pa_cons (pe_glob (v := .ref _) rfl (T.gl 4 (by decide)) rfl) pa_nil)))) (pss_one (ps_ret (pe_tup (pa_cons pe_str (pa_cons (pe_exAt (pv 1)) pa_nil))))) pss_nil)
      (pss_cons (ps_if (pt_val (pe_callB call_isX (by rfl) isin (by decide +kernel) (pa_cons (pv 1) (pa_cons (pe_glob (v := .ref _) rfl (T.gl 5 (by decide)) rfl) pa_nil)))) (pss_one (ps_ret (pe_tup (pa_cons pe_str (pa_cons (pe_exAt (pv 1)) pa_nil))))) pss_nil)
      (pss_cons (ps_if (pt_val (pe_callB call_isX (by rfl) isin (by decide +kernel) (pa_cons (pv 1) (pa_cons (pe_glob (v := .ref _) rfl (T.gl 6 (by decide)) rfl) pa_nil)))) (pss_one (ps_ret (pe_tup (pa_cons pe_str (pa_cons (pe_exAt (pv 1)) pa_nil))))) pss_nil)
      (pss_cons (ps_if (pt_val (pe_callB call_isX (by rfl) isin (by decide +kernel) (pa_cons (pv 1) (pa_cons (pe_glob (v := .ref _) rfl (T.gl 7 (by decide)) rfl) pa_nil)))) (pss_one (ps_ret (pe_tup (pa_cons pe_str (pa_cons (pe_exAt (pv 1)) pa_nil))))) pss_nil)
      (pss_cons (ps_if (pt_val (pe_callB call_isX (by rfl) isin (by decide +kernel) (pa_cons (pv 1) (pa_cons (pe_glob (v := .ref _) rfl (T.gl 8 (by decide)) rfl) pa_nil)))) (pss_one (ps_ret (pe_tup (pa_cons pe_str (pa_cons (pe_exAt (pv 1)) pa_nil))))) pss_nil)
      (pss_one (ps_ret (pe_ifExp (pt_val (pe_callB call_isX (by rfl) isin (by decide +kernel) (pa_cons (pv 1) (pa_cons (pe_glob (v := .ref _) rfl (T.gl 9 (by decide)) rfl) pa_nil)))) (pe_tup (pa_cons pe_str (pa_cons (pe_exAt (pv 1)) (pa_cons (pe_exAt (pv 1)) pa_nil)))) (pe_tup (pa_cons pe_str pa_nil))))))))))))))))), ?_⟩
  · refine ⟨fun pins z σ H' D I h' => ?_⟩
    obtain ⟨E, Qv, hW, hQ, h1, h2, h3⟩ := h'
    refine PSs.run (t := tAsg (fun σ H Q => ∃ Q' : VK, (∀ v H', Q' v H' → Q v H') ∧ σ[0]? = some (some (V.ref f)) ∧ H c' = some (LamX.CodeO c' q) ∧ tl E H Q') (gName 2)) (pss_one (ps_set (i := 2) scHeard.nd rfl (Or.inl rfl) (act W pn xe E _ _ tk hW).weak)) pins z σ H' D I ⟨Qv, hQ, h1, h2, h3⟩
  · refine ⟨by show 2 ≤ sizeLine; decide, fun t0 ht0 => ?_⟩
    refine ⟨t0, _, rfl, SqT.of upd_same, rfl, _, _, rfl, _, _, rfl, rfl, ?_⟩
    have hc1 := up2 (o := .tup [V.non, V.non]) ht0 _ _ hc
    refine ⟨HeardX c Q, _, fun cls d σ' H' he hl => ?_, fun v H' kv => ?_, rfl, hc1, h _ (up2 ht0)⟩
    · have hS : ∃ i, i < 10 ∧ cls = .ref (c i) := by
        rcases he with ⟨i, _, _, hi, e, _⟩ | ⟨_, _, _, e, _⟩
        · exact ⟨i, by omega, e⟩
        · exact ⟨9, by decide, e⟩
      obtain ⟨i, hi, ei⟩ := hS
      refine ⟨true, by rw [ei]; exact T.exS i hi, fun _ a ha => ?_, fun z => (nomatch z)⟩
      match σ', hl with
      | [s0, s1, s2, s3], _ =>

        refine ⟨_, rfl, fun na => ?_⟩
        refine ⟨_, rfl, _, rfl, ?_⟩
        refine iteF ?_
        rcases he with ⟨j, dx, v, hj, rfl, rfl, hx, kq⟩ | ⟨dx, v, u, rfl, rfl, hx, kq⟩
        · have hE : Er (upd H' a (ExR (.ref (c j)) (some dx) a)) (c j) a [(fl j, v)] := ⟨dx, upd_same, up2 na _ _ hx⟩
          refine ⟨_, rfl, a, c j, _, .ref (c 0), _, rfl, .inl ⟨_, hE⟩, T.exc j (by omega), fun u r => r, T.kit j 0 (by omega) (by decide), _, rfl, ?_⟩
          refine ite2 (fun hz => ?_) (fun hz => ?_)
          · have e := of_decide_eq_true hz
            subst e
            exact ⟨_, rfl, c 0, a, _, v, rfl, hE, rfl, T.at 0 (by decide), by show 2 ≤ sizeLine; decide, fun l hl => kq l _ (fun b o y => up2 hl b o (up2 na b o y)) (un2 hl).1 upd_same⟩
          have n0 : j ≠ 0 := fun e => hz (decide_eq_true e)
          refine ⟨_, rfl, a, c j, _, .ref (c 1), _, rfl, .inl ⟨_, hE⟩, T.exc j (by omega), fun u r => r, T.kit j 1 (by omega) (by decide), _, rfl, ?_⟩
          refine ite2 (fun hz => ?_) (fun hz => ?_)
          · have e := of_decide_eq_true hz
            subst e
            exact ⟨_, rfl, c 1, a, _, v, rfl, hE, rfl, T.at 1 (by decide), by show 2 ≤ sizeLine; decide, fun l hl => kq l _ (fun b o y => up2 hl b o (up2 na b o y)) (un2 hl).1 upd_same⟩
          have n1 : j ≠ 1 := fun e => hz (decide_eq_true e)
          refine ⟨_, rfl, a, c j, _, .ref (c 2), _, rfl, .inl ⟨_, hE⟩, T.exc j (by omega), fun u r => r, T.kit j 2 (by omega) (by decide), _, rfl, ?_⟩
          refine ite2 (fun hz => ?_) (fun hz => ?_)
          · have e := of_decide_eq_true hz
            subst e
            exact ⟨_, rfl, c 2, a, _, v, rfl, hE, rfl, T.at 2 (by decide), by show 2 ≤ sizeLine; decide, fun l hl => kq l _ (fun b o y => up2 hl b o (up2 na b o y)) (un2 hl).1 upd_same⟩
          have n2 : j ≠ 2 := fun e => hz (decide_eq_true e)
          refine ⟨_, rfl, a, c j, _, .ref (c 3), _, rfl, .inl ⟨_, hE⟩, T.exc j (by omega), fun u r => r, T.kit j 3 (by omega) (by decide), _, rfl, ?_⟩
          refine ite2 (fun hz => ?_) (fun hz => ?_)
          · have e := of_decide_eq_true hz
            subst e
            exact ⟨_, rfl, c 3, a, _, v, rfl, hE, rfl, T.at 3 (by decide), by show 2 ≤ sizeLine; decide, fun l hl => kq l _ (fun b o y => up2 hl b o (up2 na b o y)) (un2 hl).1 upd_same⟩
          have n3 : j ≠ 3 := fun e => hz (decide_eq_true e)
          refine ⟨_, rfl, a, c j, _, .ref (c 4), _, rfl, .inl ⟨_, hE⟩, T.exc j (by omega), fun u r => r, T.kit j 4 (by omega) (by decide), _, rfl, ?_⟩
          refine ite2 (fun hz => ?_) (fun hz => ?_)
          · have e := of_decide_eq_true hz
            subst e
            exact ⟨_, rfl, c 4, a, _, v, rfl, hE, rfl, T.at 4 (by decide), by show 2 ≤ sizeLine; decide, fun l hl => kq l _ (fun b o y => up2 hl b o (up2 na b o y)) (un2 hl).1 upd_same⟩
          have n4 : j ≠ 4 := fun e => hz (decide_eq_true e)
          refine ⟨_, rfl, a, c j, _, .ref (c 5), _, rfl, .inl ⟨_, hE⟩, T.exc j (by omega), fun u r => r, T.kit j 5 (by omega) (by decide), _, rfl, ?_⟩
          refine ite2 (fun hz => ?_) (fun hz => ?_)
          · have e := of_decide_eq_true hz
            subst e
            exact ⟨_, rfl, c 5, a, _, v, rfl, hE, rfl, T.at 5 (by decide), by show 2 ≤ sizeLine; decide, fun l hl => kq l _ (fun b o y => up2 hl b o (up2 na b o y)) (un2 hl).1 upd_same⟩
          have n5 : j ≠ 5 := fun e => hz (decide_eq_true e)
          refine ⟨_, rfl, a, c j, _, .ref (c 6), _, rfl, .inl ⟨_, hE⟩, T.exc j (by omega), fun u r => r, T.kit j 6 (by omega) (by decide), _, rfl, ?_⟩
          refine ite2 (fun hz => ?_) (fun hz => ?_)
          · have e := of_decide_eq_true hz
            subst e
            exact ⟨_, rfl, c 6, a, _, v, rfl, hE, rfl, T.at 6 (by decide), by show 2 ≤ sizeLine; decide, fun l hl => kq l _ (fun b o y => up2 hl b o (up2 na b o y)) (un2 hl).1 upd_same⟩
          have n6 : j ≠ 6 := fun e => hz (decide_eq_true e)
          refine ⟨_, rfl, a, c j, _, .ref (c 7), _, rfl, .inl ⟨_, hE⟩, T.exc j (by omega), fun u r => r, T.kit j 7 (by omega) (by decide), _, rfl, ?_⟩
          refine ite2 (fun hz => ?_) (fun hz => ?_)
          · have e := of_decide_eq_true hz
            subst e
            exact ⟨_, rfl, c 7, a, _, v, rfl, hE, rfl, T.at 7 (by decide), by show 2 ≤ sizeLine; decide, fun l hl => kq l _ (fun b o y => up2 hl b o (up2 na b o y)) (un2 hl).1 upd_same⟩
          have n7 : j ≠ 7 := fun e => hz (decide_eq_true e)
          refine ⟨_, rfl, a, c j, _, .ref (c 8), _, rfl, .inl ⟨_, hE⟩, T.exc j (by omega), fun u r => r, T.kit j 8 (by omega) (by decide), _, rfl, ?_⟩
          refine ite2 (fun hz => ?_) (fun hz => ?_)
          · have e := of_decide_eq_true hz
            subst e
            exact ⟨_, rfl, c 8, a, _, v, rfl, hE, rfl, T.at 8 (by decide), by show 2 ≤ sizeLine; decide, fun l hl => kq l _ (fun b o y => up2 hl b o (up2 na b o y)) (un2 hl).1 upd_same⟩
          have n8 : j ≠ 8 := fun e => hz (decide_eq_true e)
          exact absurd hj (by omega)
        · have hE : Er (upd H' a (ExR (.ref (c 9)) (some dx) a)) (c 9) a [("what", v), ("most", u)] := ⟨dx, upd_same, up2 na _ _ hx⟩
          refine ⟨_, rfl, a, c 9, _, .ref (c 0), _, rfl, .inl ⟨_, hE⟩, T.exc 9 (by decide), fun u r => r, T.kit 9 0 (by decide) (by decide), _, rfl, ?_⟩
          refine iteF ?_
          refine ⟨_, rfl, a, c 9, _, .ref (c 1), _, rfl, .inl ⟨_, hE⟩, T.exc 9 (by decide), fun u r => r, T.kit 9 1 (by decide) (by decide), _, rfl, ?_⟩
          refine iteF ?_
          refine ⟨_, rfl, a, c 9, _, .ref (c 2), _, rfl, .inl ⟨_, hE⟩, T.exc 9 (by decide), fun u r => r, T.kit 9 2 (by decide) (by decide), _, rfl, ?_⟩
          refine iteF ?_
          refine ⟨_, rfl, a, c 9, _, .ref (c 3), _, rfl, .inl ⟨_, hE⟩, T.exc 9 (by decide), fun u r => r, T.kit 9 3 (by decide) (by decide), _, rfl, ?_⟩
          refine iteF ?_
          refine ⟨_, rfl, a, c 9, _, .ref (c 4), _, rfl, .inl ⟨_, hE⟩, T.exc 9 (by decide), fun u r => r, T.kit 9 4 (by decide) (by decide), _, rfl, ?_⟩
          refine iteF ?_
          refine ⟨_, rfl, a, c 9, _, .ref (c 5), _, rfl, .inl ⟨_, hE⟩, T.exc 9 (by decide), fun u r => r, T.kit 9 5 (by decide) (by decide), _, rfl, ?_⟩
          refine iteF ?_
          refine ⟨_, rfl, a, c 9, _, .ref (c 6), _, rfl, .inl ⟨_, hE⟩, T.exc 9 (by decide), fun u r => r, T.kit 9 6 (by decide) (by decide), _, rfl, ?_⟩
          refine iteF ?_
          refine ⟨_, rfl, a, c 9, _, .ref (c 7), _, rfl, .inl ⟨_, hE⟩, T.exc 9 (by decide), fun u r => r, T.kit 9 7 (by decide) (by decide), _, rfl, ?_⟩
          refine iteF ?_
          refine ⟨_, rfl, a, c 9, _, .ref (c 8), _, rfl, .inl ⟨_, hE⟩, T.exc 9 (by decide), fun u r => r, T.kit 9 8 (by decide) (by decide), _, rfl, ?_⟩
          refine iteF ?_
          refine ⟨_, rfl, a, c 9, _, .ref (c 9), _, rfl, .inl ⟨_, hE⟩, T.exc 9 (by decide), fun u r => r, T.kit 9 9 (by decide) (by decide), _, rfl, ?_⟩
          refine iteT ?_
          obtain ⟨fI, fd, x9, _⟩ := T.two0
          exact ⟨_, rfl, c 9, a, _, v, rfl, hE, rfl, x9.fl "what" (by simp), _, rfl, c 9, a, _, u, rfl, hE, rfl, x9.fl "most" (by simp), by show 3 ≤ sizeLine; decide, fun l hl => kq l _ (fun b o y => up2 hl b o (up2 na b o y)) (un2 hl).1 upd_same⟩
    · refine ⟨_, rfl, _, rfl, ?_⟩
      refine iteT ?_
      exact ⟨_, rfl, by show 1 ≤ sizeLine; decide, kv⟩
end
end My

/-! What the head tells of own errors: their classes, their __init__, isinstance of them. -/
namespace HeZ
open PySem PySem.Spec PyProof.Rows L2 He
open HandSHeadRun (frNat frNat_eq)
/-- K holds the table of modules and the statics too -/
def kZ (n : Nat) (g : Addr → Option Obj) : PySem.W.Frag := frG g (sysModules :: cStatics :: asD g n)
/-! ### an __init__ that says super() -/
structure IniD where
  cls : Str
  qual : Str
  ns : List Str
  st : Stmt
abbrev FnI : Type := Option (Str × Str × Arguments × FuncBody × Scope × Addr × List Str × Addr)
def fI (K : PySem.W.Frag) (x : Str) : Addr := ma K (ga K x) "__init__"
def fnI (K : PySem.W.Frag) (x : Str) : FnI := match K.lookup (fI K x) with
  | some ⟨_, _, .func fd, _⟩ => some (fd.name, fd.qualname, fd.params, fd.body, fd.scope, fd.globals, fd.closure.map (·.1), fd.builtins)
  | _ => none
def IniD.val (d : IniD) : FnI := some ("__init__", d.qual, defArgs d.st, .stmts (defBody d.st), defScope d.st, mainGlobals, ["__class__"], builtinsNs)
def isNone : Value → Bool
  | .none => true
  | _ => false
def codeF (K : PySem.W.Frag) (file : Str) : Value → Bool
  | .ref a => (match K.lookup a with
    | some ⟨_, _, .fields vs, _⟩ => (match vs[2]? with
      | some (Value.str f _) => file == f
      | _ => false)
    | _ => false)
  | _ => false
def cellB (K : PySem.W.Frag) (C : Addr) : List (Str × Addr) → Bool
  | [(_, a)] => (match K.lookup a with
    | some ⟨_, _, .cell (some (.ref D)), _⟩ => D == C
    | _ => false)
  | _ => false
def iniB (file : Str) (K : PySem.W.Frag) (d : IniD) : Bool := match K.lookup (fI K d.cls) with
  | some ⟨.type t, _, .func fd, _⟩ => t == "function" && (isNone fd.defaults && (PySem.W.codeIn K fd.code d.qual && (codeF K file fd.code && cellB K (ga K d.cls) fd.closure)))
  | _ => false
def clsB (K : PySem.W.Frag) (d : IniD) : Bool :=
  PySem.W.excInitIn K (ga K d.cls) veBase "ValueError.__new__" && ((PySem.W.clsIn K (ga K d.cls)).any (fun cd => PySem.HandSPX.refsVE cd.mro && cd.hasDict) && (eqO (PySem.W.findIn K (.ref (ga K d.cls)) "__setattr__") (some (some (.builtin "object.__setattr__"))) &&
  (eqO (PySem.W.findIn K (.ref (ga K d.cls)) "__init__") (some (some (.ref (fI K d.cls)))) && (eqO (PySem.W.ks_superIn K (ga K d.cls) (ga K d.cls) "__init__") (some (some (.builtin "ValueError.__init__"))) && (decide (PySem.W.subIn K (.ref (ga K d.cls)) (.type "ValueError") = some true) &&
  (decide (PySem.W.mroIn K (ga K d.cls) (.ref (ga K d.cls)) = some true) && (eqO (PySem.W.nsIn K cStatics "thirdparty.any") (some none) && (decide (PySem.W.typeIn K (.ref (fI K d.cls)) = some (.type "function")) && (PySem.W.keepIn K (.ref (ga K d.cls)) &&
  d.ns.all fun f => eqO (PySem.W.findIn K (.ref (ga K d.cls)) f) (some none))))))))))
def excB (K : PySem.W.Frag) (D : Addr) : Bool :=
  eqO (PySem.W.findIn K (.ref D) "__getattribute__") (some (some (.builtin "BaseException.__getattribute__"))) && (eqO (PySem.W.findIn K (.ref D) "__getattr__") (some none) && (decide (PySem.W.subIn K (.ref D) (.type "BaseException") = some true) && (PySem.W.hasDictIn K D &&
  (eqO (PySem.W.findIn K (.ref D) "__class__") (some (some (.builtin "object.__class__"))) && (eqO (PySem.W.specialIn K (.builtin "object.__class__") "__get__") (some (some (.builtin "getset_descriptor.__get__"))) && (decide (PySem.W.takesIn K (.builtin "object.__class__") = some true) && decide (PySem.W.mroIn K D (.type "object") = some true)))))))
theorem excB_ok {K : PySem.W.Frag} {D : Addr} (h : excB K D = true) : ExcC K D := by
  obtain ⟨h1, h⟩ := ba h
  obtain ⟨h2, h⟩ := ba h
  obtain ⟨h3, h⟩ := ba h
  obtain ⟨h4, h⟩ := ba h
  obtain ⟨h5, h⟩ := ba h
  obtain ⟨h6, h⟩ := ba h
  obtain ⟨h7, h8⟩ := ba h
  exact ⟨eqO_ok h1, eqO_ok h2, of_decide_eq_true h3, h4, eqO_ok h5, eqO_ok h6, of_decide_eq_true h7, of_decide_eq_true h8⟩
theorem isNone_ok {v : Value} (h : isNone v = true) : v = .none := by
  cases v with
  | none => rfl
  | _ => cases h
theorem codeF_ok {K : PySem.W.Frag} {file : Str} {v : Value} (h : codeF K file v = true) : ∃ (a : Addr) (c : Value) (d : Option Addr) (sl : Array (Option Value)) (vs : Array Value) (f : Str) (t : Tok), v = .ref a ∧ K.lookup a = some ⟨c, d, .fields vs, sl⟩ ∧ vs[2]? = some (.str f t) ∧ (file == f) = true := by
  cases v with
  | ref a =>
    have h1 : (match K.lookup a with
      | some ⟨_, _, .fields vs, _⟩ => (match vs[2]? with
        | some (Value.str f _) => file == f
        | _ => false)
      | _ => false) = true := h
    cases q : K.lookup a with
    | none =>
      rw [q] at h1
      cases h1
    | some o =>
      obtain ⟨c, d, dt, sl⟩ := o
      rw [q] at h1
      cases dt with
      | fields vs =>
        have h2 : (match vs[2]? with
          | some (Value.str f _) => file == f
          | _ => false) = true := h1
        cases z : vs[2]? with
        | none =>
          rw [z] at h2
          cases h2
        | some u =>
          rw [z] at h2
          cases u with
          | str f t => exact ⟨a, c, d, sl, vs, f, t, rfl, q, z, h2⟩
          | _ => cases h2
      | _ => cases h1
  | _ => cases h
theorem cellB_ok {K : PySem.W.Frag} {C : Addr} {l : List (Str × Addr)} (h : cellB K C l = true) : ∃ (x : Str) (a : Addr) (c : Value) (d : Option Addr) (sl : Array (Option Value)), l = [(x, a)] ∧ K.lookup a = some ⟨c, d, .cell (some (.ref C)), sl⟩ := by
  cases l with
  | nil => cases h
  | cons p r =>
    obtain ⟨x, a⟩ := p
    cases r with
    | cons q r => cases h
    | nil =>
      have h1 : (match K.lookup a with
        | some ⟨_, _, .cell (some (.ref D)), _⟩ => D == C
        | _ => false) = true := h
      cases q : K.lookup a with
      | none =>
        rw [q] at h1
        cases h1
      | some o =>
        obtain ⟨c, d, dt, sl⟩ := o
        rw [q] at h1
        cases dt with
        | cell v =>
          cases v with
          | none => cases h1
          | some u =>
            cases u with
            | ref D =>
              have e : D = C := eq_of_beq h1
              rw [e] at q
              exact ⟨x, a, c, d, sl, rfl, q⟩
            | _ => cases h1
        | _ => cases h1
/-- the facts of a class with such an __init__ -/
theorem xc_of {prog : Program} {K : PySem.W.Frag} {d : IniD} (hc : clsB K d = true) (hi : iniB prog.main.file K d = true) (hv : fnI K d.cls = d.val) (hs : defScope d.st = Exo.xS d.ns) (hd : ∃ ar, ((defArgs d.st).posonlyargs ++ (defArgs d.st).args).head? = some ar ∧ ar.arg = "self") :
    ∃ fd, Exo.Xc prog K d.qual d.ns (defArgs d.st) (defBody d.st) (ga K d.cls) (fI K d.cls) fd ∧ PySem.W.typeIn K (.ref (fI K d.cls)) = some (.type "function") ∧ PySem.W.keepIn K (.ref (ga K d.cls)) = true := by
  obtain ⟨h1, hc⟩ := ba hc
  obtain ⟨h2, hc⟩ := ba hc
  obtain ⟨h3, hc⟩ := ba hc
  obtain ⟨h4, hc⟩ := ba hc
  obtain ⟨h5, hc⟩ := ba hc
  obtain ⟨h6, hc⟩ := ba hc
  obtain ⟨h7, hc⟩ := ba hc
  obtain ⟨h8, hc⟩ := ba hc
  obtain ⟨h9, hc⟩ := ba hc
  obtain ⟨h10, h11⟩ := ba hc
  obtain ⟨cd, c1, c2⟩ := PySem.W.any_some h2
  obtain ⟨c3, c4⟩ := ba c2
  unfold iniB at hi
  unfold fnI at hv
  cases q : K.lookup (fI K d.cls) with
  | none =>
    rw [q] at hi
    cases hi
  | some o =>
    obtain ⟨oc, od, dt, osl⟩ := o
    rw [q] at hi hv
    cases dt with
    | func fd =>
      cases oc with
      | type t =>
        obtain ⟨n1, n2, n3, n4, n5, n6, n7, n8, n9, n10, n11, n12, n13, n14, n15⟩ := fd
        obtain ⟨i1, hi⟩ := ba hi
        obtain ⟨i2, hi⟩ := ba hi
        obtain ⟨i3, hi⟩ := ba hi
        obtain ⟨i4, i5⟩ := ba hi
        have et : t = "function" := eq_of_beq i1
        have ed : n8 = Value.none := isNone_ok i2
        obtain ⟨cda, ccl, cdd, ccs, vs, file, tf, ec, lc, hvs, hfile⟩ := codeF_ok i4
        obtain ⟨x, cc, cl, cld, csl, el, lcc⟩ := cellB_ok i5
        have ec' : n13 = Value.ref cda := ec
        have el' : n7 = [(x, cc)] := el
        subst et ed ec' el'
        have hv2 : (some (n1, n2, n3, n4, n5, n6, [x], n15) : FnI) = (some (("__init__" : Str), d.qual, defArgs d.st, FuncBody.stmts (defBody d.st), defScope d.st, mainGlobals, [("__class__" : Str)], builtinsNs) : FnI) := hv
        simp only [Option.some.injEq, Prod.mk.injEq, List.cons.injEq, and_true] at hv2
        obtain ⟨v1, v2, v3, v4, v5, v6, v7, v8⟩ := hv2
        rw [hs] at v5
        subst v1 v2 v3 v4 v5 v6 v7 v8
        refine ⟨PySem.W.ksFn "__init__" d.qual (defArgs d.st) (defBody d.st) (Exo.xS d.ns) .none n9 n10 n11 n12 (.ref cda) n14 cc, ⟨h1, ⟨cd, c1, c3, c4⟩, eqO_ok h3, eqO_ok h4, eqO_ok h5, of_decide_eq_true h6, of_decide_eq_true h7, eqO_ok h8, fun f hf => eqO_ok (List.all_eq_true.mp h11 f hf), hd, ?_⟩, of_decide_eq_true h9, h10⟩
        exact ⟨od, n9, n10, n11, n12, n14, cc, cda, osl, vs, file, tf, ccl, cl, cdd, cld, ccs, csl, rfl, q, i3, lc, hvs, hfile, lcc⟩
      | _ => cases hi
    | _ => cases oc <;> cases hi
/-! ### the Hook -/
abbrev AlZ : Type := AlD × Bool × List FnI
def obsZ (n : Nat) (fa : List Fa) (fn : List DefD) (ini : List IniD) (ex : PySem.W.Frag → Bool) (g : Addr → Option Obj) : AlZ := (obsD fa fn (kZ n g), ex (kZ n g), ini.map fun d => fnI (kZ n g) d.cls)
def valZ (fn : List DefD) (ini : List IniD) : AlZ := (valD fn, true, ini.map IniD.val)
structure SaysZ (fa : List Fa) (fn : List DefD) (ini : List IniD) (ex : PySem.W.Frag → Bool) (K : PySem.W.Frag) : Prop where
  d : SaysD fa fn K
  x : ex K = true
  i : ∀ (j : Nat) (d : IniD), ini[j]? = some d → fnI K d.cls = d.val
def hookZ (n : Nat) (fa : List Fa) (fn : List DefD) (ini : List IniD) (ex : PySem.W.Frag → Bool) : PySem.W.Hook where
  α := AlZ
  obs := fun s => obsZ n fa fn ini ex s.heap.get?
  val := fun _ => valZ fn ini
  says := fun _ h => ∃ K : PySem.W.Frag, K.In h ∧ SaysZ fa fn ini ex K
  of := fun _ s e => ⟨kZ n s.heap.get?, frG_in, congrArg (fun z : AlZ => z.1) e, congrArg (fun z : AlZ => z.2.1) e, fun j d hj => by
    have e1 : ini.map (fun d => fnI (kZ n s.heap.get?) d.cls) = ini.map IniD.val := congrArg (fun z : AlZ => z.2.2) e
    have e2 : (ini.map fun d => fnI (kZ n s.heap.get?) d.cls)[j]? = (ini.map IniD.val)[j]? := by rw [e1]
    rw [List.getElem?_map, List.getElem?_map, hj] at e2
    exact Option.some.inj e2⟩
  keeps := fun _ _ _ ⟨K, hK, c⟩ k => ⟨K, PySem.W.Frag.In.keeps hK k, c⟩
theorem obsZ_eq {n : Nat} {fa : List Fa} {fn : List DefD} {ini : List IniD} {ex : PySem.W.Frag → Bool} {g : Addr → Option Obj} {s : Shared} (h : ∀ a, g a = s.heap.get? a) : obsZ n fa fn ini ex g = (hookZ n fa fn ini ex).obs s := by
  have e : g = s.heap.get? := funext h
  rw [e] <;> rfl
/-- the addresses of the first n names, worked out -/
def collect (K : PySem.W.Frag) (nm : Nat → Str) : Nat → (List Addr → Bool) → Bool
  | 0, k => k []
  | n + 1, k => collect K nm n fun l => frNat (ga K (nm n)) fun a => k (l ++ [a])
theorem collect_eq (K : PySem.W.Frag) (nm : Nat → Str) : ∀ (n : Nat) (k : List Addr → Bool), collect K nm n k = k ((List.range n).map fun i => ga K (nm i))
  | 0, _ => rfl
  | n + 1, k => by
    show collect K nm n (fun l => frNat (ga K (nm n)) fun a => k (l ++ [a])) = _
    rw [collect_eq K nm n, frNat_eq, List.range_succ, List.map_append]
    rfl
/-- isinstance among them, of S, of ValueError -/
def kitB (K : PySem.W.Frag) (n : Nat) (cs : List Addr) (S : Addr) : Bool :=
  ((List.range n).all fun i => (List.range n).all fun j => decide (PySem.W.kitOne K (.ref (cs.getD i 0)) (.ref (cs.getD j 0)) = some (decide (i = j)))) &&
    (cs.all fun C => decide (PySem.W.kitOne K (.ref C) (.ref S) = some true) && (decide (PySem.W.kitOne K (.ref C) (.type "ValueError") = some true) && excB K C))
def sysB (K : PySem.W.Frag) : Bool := match K.lookup sysModules with
  | some ⟨.type t, _, _, _⟩ => t == "dict"
  | _ => false
theorem sysB_ok {K : PySem.W.Frag} (h : sysB K = true) : SysD K := by
  unfold sysB at h
  cases q : K.lookup sysModules with
  | none =>
    rw [q] at h
    cases h
  | some o =>
    obtain ⟨oc, od, dt, osl⟩ := o
    rw [q] at h
    cases oc with
    | type t =>
      have e : t = "dict" := eq_of_beq h
      exact ⟨_, q, congrArg Value.type e⟩
    | _ => cases h
theorem fun_of {K : PySem.W.Frag} {x qual : Str} {st : Stmt} {f : Addr} {fd : FuncData} (F : FunD K x qual (defArgs st) (defBody st) (defScope st) [] [] f fd) : Fun K x qual st f fd := by
  obtain ⟨⟨oc, od, dV, kV, doc, pm, an, cdv, ct, osl, e, lk, hcd, hD, _⟩, kp⟩ := F
  rcases hD with ⟨_, rfl⟩ | ⟨h, _⟩
  · exact ⟨⟨oc, od, kV, doc, pm, an, cdv, ct, osl, e, lk, hcd⟩, kp⟩
  · exact absurd rfl h
end HeZ

namespace My
open PySem PySem.Spec PyProof.Rows L2
def initSt (i : Nat) : Stmt := match top i with
  | .ClassDef _ _ _ body _ _ _ _ _ _ _ => body.getD 0 (.Pass ⟨0, 0, 0, 0⟩)
  | _ => .Pass ⟨0, 0, 0, 0⟩
def e0 : HeZ.IniD := ⟨"BadShape", "BadShape.__init__", ["part"], initSt 9⟩
def e1 : HeZ.IniD := ⟨"BadFunction", "BadFunction.__init__", ["part"], initSt 10⟩
def e2 : HeZ.IniD := ⟨"BadModule", "BadModule.__init__", ["part"], initSt 11⟩
def e3 : HeZ.IniD := ⟨"BadProgram", "BadProgram.__init__", ["part"], initSt 12⟩
def e4 : HeZ.IniD := ⟨"BadCode", "BadCode.__init__", ["at"], initSt 13⟩
def e5 : HeZ.IniD := ⟨"BadEntry", "BadEntry.__init__", ["value"], initSt 14⟩
def e6 : HeZ.IniD := ⟨"BadState", "BadState.__init__", ["value"], initSt 15⟩
def e7 : HeZ.IniD := ⟨"BadNumber", "BadNumber.__init__", ["value"], initSt 16⟩
def e8 : HeZ.IniD := ⟨"BadPaper", "BadPaper.__init__", ["part"], initSt 17⟩
def e9 : HeZ.IniD := ⟨"TooMany", "TooMany.__init__", ["what", "most"], initSt 18⟩
def ini : List HeZ.IniD := [e0, e1, e2, e3, e4, e5, e6, e7, e8, e9]
abbrev R : PySem.W.OpenRow := PySem.W.OpenLaw.row PySem.Challenge.rw_neverstand_k03_instructions_taken_and_re
def moreB (K : PySem.W.Frag) (cs : List Addr) (S : Addr) : Bool := cs.all fun C => decide (PySem.W.kitOne K (.ref C) (.ref S) = some true) && (decide (PySem.W.exmOne K (.ref C) (.ref S) = some true) && (decide (PySem.W.typeIn K (.ref C) = some (.type "type")) && HeZ.excB K C))
def twoB (K : PySem.W.Frag) (n : Nat) (cs : List Addr) : Bool := (List.range n).all fun i => (List.range n).all fun j => decide (PySem.W.kitOne K (.ref (cs.getD i 0)) (.ref (cs.getD j 0)) = some (decide (i = j)))
def exE (K : PySem.W.Frag) : Bool := HeZ.sysB K && ((ini.all fun d => HeZ.clsB K d && HeZ.iniB R.prog.main.file K d) && HeZ.collect K nm 10 fun cs => HandSHeadRun.frNat (He.ga K "StandError") fun S => twoB K 10 cs && moreB K cs S)
section
variable {K : PySem.W.Frag} {w : World} {mg : Str → Option Value}
theorem exE_ini (h : exE K = true) {j : Nat} {d : HeZ.IniD} (e : ini[j]? = some d) : HeZ.clsB K d = true ∧ HeZ.iniB R.prog.main.file K d = true := by
  obtain ⟨_, h⟩ := He.ba h
  obtain ⟨h, _⟩ := He.ba h
  exact He.ba (List.all_eq_true.mp h d (List.mem_of_getElem? e))
theorem exE_kit (h : exE K = true) : (twoB K 10 ((List.range 10).map fun i => He.ga K (nm i)) && moreB K ((List.range 10).map fun i => He.ga K (nm i)) (He.ga K "StandError")) = true := by
  obtain ⟨_, h⟩ := He.ba h
  obtain ⟨_, h⟩ := He.ba h
  rw [HeZ.collect_eq, HandSHeadRun.frNat_eq] at h
  exact h
theorem cs_at {i : Nat} (h : i < 10) : ((List.range 10).map fun i => He.ga K (nm i)).getD i 0 = He.ga K (nm i) := by
  rw [List.getD_eq_getElem?_getD, List.getElem?_map, List.getElem?_range h]
  rfl
theorem exE_exc (h : exE K = true) {i : Nat} (hi : i < 10) : PySem.W.kitOne K (.ref (He.ga K (nm i))) (.ref (He.ga K "StandError")) = some true ∧ PySem.W.exmOne K (.ref (He.ga K (nm i))) (.ref (He.ga K "StandError")) = some true ∧ PySem.W.typeIn K (.ref (He.ga K (nm i))) = some (.type "type") ∧ ExcC K (He.ga K (nm i)) := by
  have z := List.all_eq_true.mp (He.ba (exE_kit h)).2 (He.ga K (nm i)) (List.mem_map.mpr ⟨i, List.mem_range.mpr hi, rfl⟩)
  obtain ⟨z1, z⟩ := He.ba z
  obtain ⟨z2, z⟩ := He.ba z
  obtain ⟨z3, z4⟩ := He.ba z
  exact ⟨of_decide_eq_true z1, of_decide_eq_true z2, of_decide_eq_true z3, HeZ.excB_ok z4⟩
theorem exE_two (h : exE K = true) {i j : Nat} (hi : i < 10) (hj : j < 10) : PySem.W.kitOne K (.ref (He.ga K (nm i))) (.ref (He.ga K (nm j))) = some (decide (i = j)) := by
  have z := List.all_eq_true.mp (List.all_eq_true.mp (He.ba (exE_kit h)).1 i (List.mem_range.mpr hi)) j (List.mem_range.mpr hj)
  rw [cs_at hi, cs_at hj] at z
  exact of_decide_eq_true z
theorem exAt_of {C : Addr} {f : Str} (X : ExcC K C) (h : PySem.W.findIn K (.ref C) f = some none) : ExAt K C f := ⟨X.hg, X.hk, X.hs, X.hd, h⟩
theorem nms_part : Exo.Nms ["part"] := ⟨by decide +kernel, by decide +kernel, by decide +kernel, fun b hb => by
  simp only [List.mem_cons, List.not_mem_nil, or_false] at hb
  subst hb
  exact ⟨by decide +kernel, by decide +kernel, by decide +kernel⟩⟩
theorem nms_at : Exo.Nms ["at"] := ⟨by decide +kernel, by decide +kernel, by decide +kernel, fun b hb => by
  simp only [List.mem_cons, List.not_mem_nil, or_false] at hb
  subst hb
  exact ⟨by decide +kernel, by decide +kernel, by decide +kernel⟩⟩
theorem nms_value : Exo.Nms ["value"] := ⟨by decide +kernel, by decide +kernel, by decide +kernel, fun b hb => by
  simp only [List.mem_cons, List.not_mem_nil, or_false] at hb
  subst hb
  exact ⟨by decide +kernel, by decide +kernel, by decide +kernel⟩⟩
theorem nms_what_most : Exo.Nms ["what", "most"] := ⟨by decide +kernel, by decide +kernel, by decide +kernel, fun b hb => by
  simp only [List.mem_cons, List.not_mem_nil, or_false] at hb
  rcases hb with rfl | rfl <;> exact ⟨by decide +kernel, by decide +kernel, by decide +kernel⟩⟩
theorem f0 (h : exE K = true) (hv : HeZ.fnI K e0.cls = e0.val) (hg : mg "BadShape" = some (.ref (He.ga K (nm 0)))) (hs : mg "super" = none) : ∃ fI fd, EC R.prog w K mg "BadShape" ["part"] (He.ga K (nm 0)) fI fd ∧ EBind fd ["part"] ["part"] 0 gK ∧ EBind fd ["part"] [] 1 gP := by
  obtain ⟨hc, hi⟩ := exE_ini h (j := 0) (d := e0) rfl
  obtain ⟨fd, T, tI, kC⟩ := HeZ.xc_of (prog := R.prog) hc hi hv rfl ⟨_, rfl, rfl⟩
  have X := (exE_exc h (i := 0) (by decide)).2.2.2
  have ok : Exo.InitOk R.prog w K mg (He.ga K (nm 0)) (HeZ.fI K e0.cls) fd ["part"] := Exo.initOk1 T nms_part (fun env => ⟨_, rfl⟩) hs (by decide +kernel)
  refine ⟨_, fd, ⟨hg, T.ini, T.iC, tI, kC, ok, fun f hf => exAt_of X (T.noN f hf)⟩, ?_⟩
  refine ⟨⟨fun s x us zs hu hz => ?_, fun _ r => r⟩, ⟨fun s x us zs hu hz => ?_, fun r _ => r⟩⟩
  · match us, zs, hu, hz with
    | [], [z], _, _ => exact T.binds fun _ _ _ _ _ _ _ => rfl
  · match us, zs, hu, hz with
    | [u], [], _, _ => exact T.binds fun _ _ _ _ _ _ _ => rfl
theorem f1 (h : exE K = true) (hv : HeZ.fnI K e1.cls = e1.val) (hg : mg "BadFunction" = some (.ref (He.ga K (nm 1)))) (hs : mg "super" = none) : ∃ fI fd, EC R.prog w K mg "BadFunction" ["part"] (He.ga K (nm 1)) fI fd ∧ EBind fd ["part"] ["part"] 0 gK ∧ EBind fd ["part"] [] 1 gP := by
  obtain ⟨hc, hi⟩ := exE_ini h (j := 1) (d := e1) rfl
  obtain ⟨fd, T, tI, kC⟩ := HeZ.xc_of (prog := R.prog) hc hi hv rfl ⟨_, rfl, rfl⟩
  have X := (exE_exc h (i := 1) (by decide)).2.2.2
  have ok : Exo.InitOk R.prog w K mg (He.ga K (nm 1)) (HeZ.fI K e1.cls) fd ["part"] := Exo.initOk1 T nms_part (fun env => ⟨_, rfl⟩) hs (by decide +kernel)
  refine ⟨_, fd, ⟨hg, T.ini, T.iC, tI, kC, ok, fun f hf => exAt_of X (T.noN f hf)⟩, ?_⟩
  refine ⟨⟨fun s x us zs hu hz => ?_, fun _ r => r⟩, ⟨fun s x us zs hu hz => ?_, fun r _ => r⟩⟩
  · match us, zs, hu, hz with
    | [], [z], _, _ => exact T.binds fun _ _ _ _ _ _ _ => rfl
  · match us, zs, hu, hz with
    | [u], [], _, _ => exact T.binds fun _ _ _ _ _ _ _ => rfl
theorem f2 (h : exE K = true) (hv : HeZ.fnI K e2.cls = e2.val) (hg : mg "BadModule" = some (.ref (He.ga K (nm 2)))) (hs : mg "super" = none) : ∃ fI fd, EC R.prog w K mg "BadModule" ["part"] (He.ga K (nm 2)) fI fd ∧ EBind fd ["part"] ["part"] 0 gK ∧ EBind fd ["part"] [] 1 gP := by
  obtain ⟨hc, hi⟩ := exE_ini h (j := 2) (d := e2) rfl
  obtain ⟨fd, T, tI, kC⟩ := HeZ.xc_of (prog := R.prog) hc hi hv rfl ⟨_, rfl, rfl⟩
  have X := (exE_exc h (i := 2) (by decide)).2.2.2
  have ok : Exo.InitOk R.prog w K mg (He.ga K (nm 2)) (HeZ.fI K e2.cls) fd ["part"] := Exo.initOk1 T nms_part (fun env => ⟨_, rfl⟩) hs (by decide +kernel)
  refine ⟨_, fd, ⟨hg, T.ini, T.iC, tI, kC, ok, fun f hf => exAt_of X (T.noN f hf)⟩, ?_⟩
  refine ⟨⟨fun s x us zs hu hz => ?_, fun _ r => r⟩, ⟨fun s x us zs hu hz => ?_, fun r _ => r⟩⟩
  · match us, zs, hu, hz with
    | [], [z], _, _ => exact T.binds fun _ _ _ _ _ _ _ => rfl
  · match us, zs, hu, hz with
    | [u], [], _, _ => exact T.binds fun _ _ _ _ _ _ _ => rfl
theorem f3 (h : exE K = true) (hv : HeZ.fnI K e3.cls = e3.val) (hg : mg "BadProgram" = some (.ref (He.ga K (nm 3)))) (hs : mg "super" = none) : ∃ fI fd, EC R.prog w K mg "BadProgram" ["part"] (He.ga K (nm 3)) fI fd ∧ EBind fd ["part"] ["part"] 0 gK ∧ EBind fd ["part"] [] 1 gP := by
  obtain ⟨hc, hi⟩ := exE_ini h (j := 3) (d := e3) rfl
  obtain ⟨fd, T, tI, kC⟩ := HeZ.xc_of (prog := R.prog) hc hi hv rfl ⟨_, rfl, rfl⟩
  have X := (exE_exc h (i := 3) (by decide)).2.2.2
  have ok : Exo.InitOk R.prog w K mg (He.ga K (nm 3)) (HeZ.fI K e3.cls) fd ["part"] := Exo.initOk1 T nms_part (fun env => ⟨_, rfl⟩) hs (by decide +kernel)
  refine ⟨_, fd, ⟨hg, T.ini, T.iC, tI, kC, ok, fun f hf => exAt_of X (T.noN f hf)⟩, ?_⟩
  refine ⟨⟨fun s x us zs hu hz => ?_, fun _ r => r⟩, ⟨fun s x us zs hu hz => ?_, fun r _ => r⟩⟩
  · match us, zs, hu, hz with
    | [], [z], _, _ => exact T.binds fun _ _ _ _ _ _ _ => rfl
  · match us, zs, hu, hz with
    | [u], [], _, _ => exact T.binds fun _ _ _ _ _ _ _ => rfl
theorem f4 (h : exE K = true) (hv : HeZ.fnI K e4.cls = e4.val) (hg : mg "BadCode" = some (.ref (He.ga K (nm 4)))) (hs : mg "super" = none) : ∃ fI fd, EC R.prog w K mg "BadCode" ["at"] (He.ga K (nm 4)) fI fd ∧ EBind fd ["at"] ["at"] 0 gK ∧ EBind fd ["at"] [] 1 gP := by
  obtain ⟨hc, hi⟩ := exE_ini h (j := 4) (d := e4) rfl
  obtain ⟨fd, T, tI, kC⟩ := HeZ.xc_of (prog := R.prog) hc hi hv rfl ⟨_, rfl, rfl⟩
  have X := (exE_exc h (i := 4) (by decide)).2.2.2
  have ok : Exo.InitOk R.prog w K mg (He.ga K (nm 4)) (HeZ.fI K e4.cls) fd ["at"] := Exo.initOk1 T nms_at (fun env => ⟨_, rfl⟩) hs (by decide +kernel)
  refine ⟨_, fd, ⟨hg, T.ini, T.iC, tI, kC, ok, fun f hf => exAt_of X (T.noN f hf)⟩, ?_⟩
  refine ⟨⟨fun s x us zs hu hz => ?_, fun _ r => r⟩, ⟨fun s x us zs hu hz => ?_, fun r _ => r⟩⟩
  · match us, zs, hu, hz with
    | [], [z], _, _ => exact T.binds fun _ _ _ _ _ _ _ => rfl
  · match us, zs, hu, hz with
    | [u], [], _, _ => exact T.binds fun _ _ _ _ _ _ _ => rfl
theorem f5 (h : exE K = true) (hv : HeZ.fnI K e5.cls = e5.val) (hg : mg "BadEntry" = some (.ref (He.ga K (nm 5)))) (hs : mg "super" = none) : ∃ fI fd, EC R.prog w K mg "BadEntry" ["value"] (He.ga K (nm 5)) fI fd ∧ EBind fd ["value"] ["value"] 0 gK ∧ EBind fd ["value"] [] 1 gP := by
  obtain ⟨hc, hi⟩ := exE_ini h (j := 5) (d := e5) rfl
  obtain ⟨fd, T, tI, kC⟩ := HeZ.xc_of (prog := R.prog) hc hi hv rfl ⟨_, rfl, rfl⟩
  have X := (exE_exc h (i := 5) (by decide)).2.2.2
  have ok : Exo.InitOk R.prog w K mg (He.ga K (nm 5)) (HeZ.fI K e5.cls) fd ["value"] := Exo.initOk1 T nms_value (fun env => ⟨_, rfl⟩) hs (by decide +kernel)
  refine ⟨_, fd, ⟨hg, T.ini, T.iC, tI, kC, ok, fun f hf => exAt_of X (T.noN f hf)⟩, ?_⟩
  refine ⟨⟨fun s x us zs hu hz => ?_, fun _ r => r⟩, ⟨fun s x us zs hu hz => ?_, fun r _ => r⟩⟩
  · match us, zs, hu, hz with
    | [], [z], _, _ => exact T.binds fun _ _ _ _ _ _ _ => rfl
  · match us, zs, hu, hz with
    | [u], [], _, _ => exact T.binds fun _ _ _ _ _ _ _ => rfl
theorem f6 (h : exE K = true) (hv : HeZ.fnI K e6.cls = e6.val) (hg : mg "BadState" = some (.ref (He.ga K (nm 6)))) (hs : mg "super" = none) : ∃ fI fd, EC R.prog w K mg "BadState" ["value"] (He.ga K (nm 6)) fI fd ∧ EBind fd ["value"] ["value"] 0 gK ∧ EBind fd ["value"] [] 1 gP := by
  obtain ⟨hc, hi⟩ := exE_ini h (j := 6) (d := e6) rfl
  obtain ⟨fd, T, tI, kC⟩ := HeZ.xc_of (prog := R.prog) hc hi hv rfl ⟨_, rfl, rfl⟩
  have X := (exE_exc h (i := 6) (by decide)).2.2.2
  have ok : Exo.InitOk R.prog w K mg (He.ga K (nm 6)) (HeZ.fI K e6.cls) fd ["value"] := Exo.initOk1 T nms_value (fun env => ⟨_, rfl⟩) hs (by decide +kernel)
  refine ⟨_, fd, ⟨hg, T.ini, T.iC, tI, kC, ok, fun f hf => exAt_of X (T.noN f hf)⟩, ?_⟩
  refine ⟨⟨fun s x us zs hu hz => ?_, fun _ r => r⟩, ⟨fun s x us zs hu hz => ?_, fun r _ => r⟩⟩
  · match us, zs, hu, hz with
    | [], [z], _, _ => exact T.binds fun _ _ _ _ _ _ _ => rfl
  · match us, zs, hu, hz with
    | [u], [], _, _ => exact T.binds fun _ _ _ _ _ _ _ => rfl
theorem f7 (h : exE K = true) (hv : HeZ.fnI K e7.cls = e7.val) (hg : mg "BadNumber" = some (.ref (He.ga K (nm 7)))) (hs : mg "super" = none) : ∃ fI fd, EC R.prog w K mg "BadNumber" ["value"] (He.ga K (nm 7)) fI fd ∧ EBind fd ["value"] ["value"] 0 gK ∧ EBind fd ["value"] [] 1 gP := by
  obtain ⟨hc, hi⟩ := exE_ini h (j := 7) (d := e7) rfl
  obtain ⟨fd, T, tI, kC⟩ := HeZ.xc_of (prog := R.prog) hc hi hv rfl ⟨_, rfl, rfl⟩
  have X := (exE_exc h (i := 7) (by decide)).2.2.2
  have ok : Exo.InitOk R.prog w K mg (He.ga K (nm 7)) (HeZ.fI K e7.cls) fd ["value"] := Exo.initOk1 T nms_value (fun env => ⟨_, rfl⟩) hs (by decide +kernel)
  refine ⟨_, fd, ⟨hg, T.ini, T.iC, tI, kC, ok, fun f hf => exAt_of X (T.noN f hf)⟩, ?_⟩
  refine ⟨⟨fun s x us zs hu hz => ?_, fun _ r => r⟩, ⟨fun s x us zs hu hz => ?_, fun r _ => r⟩⟩
  · match us, zs, hu, hz with
    | [], [z], _, _ => exact T.binds fun _ _ _ _ _ _ _ => rfl
  · match us, zs, hu, hz with
    | [u], [], _, _ => exact T.binds fun _ _ _ _ _ _ _ => rfl
theorem f8 (h : exE K = true) (hv : HeZ.fnI K e8.cls = e8.val) (hg : mg "BadPaper" = some (.ref (He.ga K (nm 8)))) (hs : mg "super" = none) : ∃ fI fd, EC R.prog w K mg "BadPaper" ["part"] (He.ga K (nm 8)) fI fd ∧ EBind fd ["part"] ["part"] 0 gK ∧ EBind fd ["part"] [] 1 gP := by
  obtain ⟨hc, hi⟩ := exE_ini h (j := 8) (d := e8) rfl
  obtain ⟨fd, T, tI, kC⟩ := HeZ.xc_of (prog := R.prog) hc hi hv rfl ⟨_, rfl, rfl⟩
  have X := (exE_exc h (i := 8) (by decide)).2.2.2
  have ok : Exo.InitOk R.prog w K mg (He.ga K (nm 8)) (HeZ.fI K e8.cls) fd ["part"] := Exo.initOk1 T nms_part (fun env => ⟨_, rfl⟩) hs (by decide +kernel)
  refine ⟨_, fd, ⟨hg, T.ini, T.iC, tI, kC, ok, fun f hf => exAt_of X (T.noN f hf)⟩, ?_⟩
  refine ⟨⟨fun s x us zs hu hz => ?_, fun _ r => r⟩, ⟨fun s x us zs hu hz => ?_, fun r _ => r⟩⟩
  · match us, zs, hu, hz with
    | [], [z], _, _ => exact T.binds fun _ _ _ _ _ _ _ => rfl
  · match us, zs, hu, hz with
    | [u], [], _, _ => exact T.binds fun _ _ _ _ _ _ _ => rfl
theorem f9 (h : exE K = true) (hv : HeZ.fnI K e9.cls = e9.val) (hg : mg "TooMany" = some (.ref (He.ga K (nm 9)))) (hs : mg "super" = none) : ∃ fI fd, EC R.prog w K mg "TooMany" ["what", "most"] (He.ga K (nm 9)) fI fd ∧ EBind fd ["what", "most"] [] 2 gP := by
  obtain ⟨hc, hi⟩ := exE_ini h (j := 9) (d := e9) rfl
  obtain ⟨fd, T, tI, kC⟩ := HeZ.xc_of (prog := R.prog) hc hi hv rfl ⟨_, rfl, rfl⟩
  have X := (exE_exc h (i := 9) (by decide)).2.2.2
  have ok : Exo.InitOk R.prog w K mg (He.ga K (nm 9)) (HeZ.fI K e9.cls) fd ["what", "most"] := Exo.initOk2 T nms_what_most (by decide) (fun env => ⟨_, rfl⟩) hs (by decide +kernel)
  refine ⟨_, fd, ⟨hg, T.ini, T.iC, tI, kC, ok, fun f hf => exAt_of X (T.noN f hf)⟩, ?_⟩
  refine ⟨fun s x us zs hu hz => ?_, fun r _ => r⟩
  match us, zs, hu, hz with
  | [u, v], [], _, _ => exact T.binds fun _ _ _ _ _ _ _ => rfl
/-- gs: what the names at the top say; fa from the o-th on holds .glo of the names -/
theorem erT_of (h : exE K = true) (hv : ∀ (j : Nat) (d : HeZ.IniD), ini[j]? = some d → HeZ.fnI K d.cls = d.val) (hs : mg "super" = none) (gn : ∀ i, i < 10 → mg (nm i) = some (.ref (He.ga K (nm i)))) (gS : mg "StandError" = some (.ref (He.ga K "StandError"))) :
    ErT R.prog w K mg (fun i => He.ga K (nm i)) (He.ga K "StandError") := {
  one := fun i hi => match i, hi with
    | 0, _ => f0 h (hv 0 _ rfl) (gn 0 (by decide)) hs
    | 1, _ => f1 h (hv 1 _ rfl) (gn 1 (by decide)) hs
    | 2, _ => f2 h (hv 2 _ rfl) (gn 2 (by decide)) hs
    | 3, _ => f3 h (hv 3 _ rfl) (gn 3 (by decide)) hs
    | 4, _ => f4 h (hv 4 _ rfl) (gn 4 (by decide)) hs
    | 5, _ => f5 h (hv 5 _ rfl) (gn 5 (by decide)) hs
    | 6, _ => f6 h (hv 6 _ rfl) (gn 6 (by decide)) hs
    | 7, _ => f7 h (hv 7 _ rfl) (gn 7 (by decide)) hs
    | 8, _ => f8 h (hv 8 _ rfl) (gn 8 (by decide)) hs
    | n + 9, h => absurd h (by omega)
  two0 := f9 h (hv 9 _ rfl) (gn 9 (by decide)) hs
  gl := gn
  glS := gS
  exc := fun i hi => (exE_exc h hi).2.2.2
  ty := fun i hi => (exE_exc h hi).2.2.1
  kit := fun i j hi hj => exE_two h hi hj
  kitS := fun i hi => (exE_exc h hi).1
  exS := fun i hi => (exE_exc h hi).2.1 }
end
end My
namespace My
open PySem PySem.Spec PyProof.Rows L2
/-- what is heard of an error: its class, its field, the word -/
def hTab : List (Str × Str × Str) := [("BadShape", "part", "shape"), ("BadFunction", "part", "function"), ("BadModule", "part", "module"), ("BadProgram", "part", "program"), ("BadCode", "at", "code"), ("BadEntry", "value", "entry"), ("BadState", "value", "state"), ("BadNumber", "value", "number"), ("BadPaper", "part", "paper")]
def heardV (x : ME.Ex) : Option ME.D := match x.vs with
  | [v] => (match hTab.find? fun t => t.1 == x.cls && x.ns == [t.2.1] with
    | some t => some (.tup [.str t.2.2, v])
    | none => none)
  | [v, u] => cond (x.cls == "TooMany" && x.ns == (["what", "most"] : List Str)) (some (.tup [.str "many", v, u])) none
  | _ => none
def noTbl : ME.SO → Bool
  | .tbl _ _ => false
  | _ => true
def hearM (T : Addr) (q : Str) (m : ME.M ME.D) : ME.M ME.D := ⟨fun S Q _ => match S with
    | .tbl T' q' :: r => cond (T' == T && q' == q && r.all noTbl) (m.run S (fun v S' => Q (.lst [v]) S') fun x S' => match heardV x with | some d => Q d S' | none => False) False
    | _ => False,
  fun S Q Q' E E' h g zz => by
    match S, zz with
    | .tbl T' q' :: r, z =>
      have z' : cond (T' == T && q' == q && r.all noTbl) (m.run (.tbl T' q' :: r) (fun v S' => Q (.lst [v]) S') fun x S' => match heardV x with | some d => Q d S' | none => False) False := z
      show cond (T' == T && q' == q && r.all noTbl) (m.run (.tbl T' q' :: r) (fun v S' => Q' (.lst [v]) S') fun x S' => match heardV x with | some d => Q' d S' | none => False) False
      cases c : (T' == T && q' == q && r.all noTbl) with
      | false => rw [c] at z'; exact z'
      | true =>
        rw [c] at z'
        refine m.mono _ _ _ _ _ (fun v S' y => h _ _ y) (fun x S' y => ?_) z'
        cases e : heardV x with
        | none => rw [e] at y; exact y
        | some d => rw [e] at y; exact h _ _ y⟩
def mHear (T : Addr) (q : Str) (m : ME.Env → ME.M ME.D) : ME.Env → ME.M ME.D := fun env => hearM T q (m env)
theorem hTab_ok : ∀ t ∈ hTab, ∃ i, i < 9 ∧ nm i = t.1 ∧ fl i = t.2.1 ∧ word i = t.2.2 := by
  intro t ht
  simp only [hTab, List.mem_cons, List.not_mem_nil, or_false] at ht
  rcases ht with rfl | rfl | rfl | rfl | rfl | rfl | rfl | rfl | rfl
  · exact ⟨0, by decide, rfl, rfl, rfl⟩
  · exact ⟨1, by decide, rfl, rfl, rfl⟩
  · exact ⟨2, by decide, rfl, rfl, rfl⟩
  · exact ⟨3, by decide, rfl, rfl, rfl⟩
  · exact ⟨4, by decide, rfl, rfl, rfl⟩
  · exact ⟨5, by decide, rfl, rfl, rfl⟩
  · exact ⟨6, by decide, rfl, rfl, rfl⟩
  · exact ⟨7, by decide, rfl, rfl, rfl⟩
  · exact ⟨8, by decide, rfl, rfl, rfl⟩
section
variable {X : Cx} {K : PySem.W.Frag} {E : XK} {e : Expr}
theorem step_ext {ρ : ME.Rs} {H H2 : Hp} (h : ∀ b u, H b = some u → H2 b = some u) : ME.Step ρ H ρ H2 := ⟨⟨[], by simp, fun a h => nomatch h⟩, fun _ h => h, fun _ h => .inl h, fun a o _ _ e => h a o e, fun a o w e => ⟨o, w, h a o e⟩⟩
theorem sr_ext {ρ : ME.Rs} {S : List ME.SO} {H H2 : Hp} (sr : ME.SR K ρ S H) (h : ∀ b u, H b = some u → H2 b = some u) : ME.SR K ρ S H2 := sr.stay (step_ext h) fun a ha => by
  obtain ⟨o, e⟩ := sr.live a ha
  rw [e]
  exact h a o e
theorem me_hear {T : Addr} {q : Str} {m : ME.Env → ME.M ME.D} (h : PE X e (LamX.tLam [(T, q)] (THeard fun i => He.ga K (nm i)) fun E' => ME.rd K (ME.rV K) E' m)) : ME.ME X K E e (mHear T q m) := ME.PE.imp h (by
  rintro σ H Q ⟨ρ, S, env, sr, er, h⟩
  match S, sr, h with
  | [], sr, h => exact h.elim
  | .lst _ :: _, sr, h => exact h.elim
  | .dct _ _ :: _, sr, h => exact h.elim
  | .ins _ _ _ :: _, sr, h => exact h.elim
  | .pen _ :: _, sr, h => exact h.elim
  | .tbl T' q' :: r, sr, h =>
    have hq : cond (T' == T && q' == q && r.all noTbl) ((m env).run (.tbl T' q' :: r) (fun v S' => ME.post K (ME.rV K) ρ H Q (.lst [v]) S') fun x S' => match heardV x with | some d => ME.post K (ME.rV K) ρ H Q d S' | none => False) False := h
    cases c : (T' == T && q' == q && r.all noTbl) with
    | false => rw [c] at hq; exact hq.elim
    | true =>
      rw [c] at hq
      obtain ⟨c1, c3⟩ := Bool.and_eq_true_iff.mp c
      obtain ⟨c1, c2⟩ := Bool.and_eq_true_iff.mp c1
      have e1 := eq_of_beq c1
      have e2 := eq_of_beq c2
      subst e1 e2
      have hm : (m env).run (.tbl T' q' :: r) (fun v S' => ME.post K (ME.rV K) ρ H Q (.lst [v]) S') (fun x S' => match heardV x with | some d => ME.post K (ME.rV K) ρ H Q d S' | none => False) := hq
      have hl : 0 < ρ.ob.length := by rw [sr.len]; exact Nat.zero_lt_succ _
      obtain ⟨ea, ps, hP, ht, hc⟩ := sr.ok 0 _ _ (List.getElem?_eq_getElem hl) rfl
      have ha0 : ρ.ob[0]? = some T' := by rw [List.getElem?_eq_getElem hl, ← ea]
      rw [← ea] at hP
      refine ⟨fun p hp => ?_, fun H1 eN T1 H2 e12 => ?_⟩
      · rw [List.mem_singleton.mp hp]
        refine ⟨ps, hP, ht, fun pos cv y => ?_⟩
        obtain ⟨d, z1, _, z2⟩ := hc pos cv y
        exact ⟨d, z1, z2⟩
      · have kp : ∀ a o, ME.ntb o → H a = some o → H2 a = some o := fun a o w z => e12 a o (eN a o z w)
        have st : ME.Step ρ H ρ H2 := ⟨⟨[], by simp, fun a h => nomatch h⟩, fun _ h => h, fun _ h => .inl h, fun a o _ w z => kp a o w z, fun a o w z => ⟨o, w, kp a o w z⟩⟩
        obtain ⟨ps1, hP1, ht1, hc1⟩ := T1 _ (List.mem_singleton.mpr rfl)
        have other : ∀ (i : Nat) (a : Addr) (o : ME.SO), i ≠ 0 → ρ.ob[i]? = some a → (ME.SO.tbl T' q' :: r)[i]? = some o → ∃ u, ME.ntb u ∧ (∀ c q, u ≠ LamX.CodeO c q) ∧ H a = some u := fun i a o hi z1 z2 => by
          have hn : noTbl o = true := by
            match i, hi, z2 with
            | i + 1, _, z2 => exact List.all_eq_true.mp c3 o (List.mem_of_getElem? z2)
          have w := sr.ok i a o z1 z2
          cases o with
          | lst ds => obtain ⟨vs, w1, _⟩ := w; exact ⟨_, ME.ntb_lst, (fun _ _ y => by unfold LamX.CodeO at y; cases y), w1⟩
          | dct ks ds => obtain ⟨vs, w1, _⟩ := w; exact ⟨_, ME.ntb_dK, (fun _ _ y => by unfold LamX.CodeO at y; cases y), w1⟩
          | ins C ns ds => obtain ⟨dx, fs, w1, _⟩ := w; exact ⟨_, ME.ntb_ins, (fun _ _ y => by unfold LamX.CodeO at y; cases y), w1⟩
          | pen b => obtain ⟨_, _, _, _, w1, _⟩ := w; exact ⟨_, ME.ntb_lst, (fun _ _ y => by unfold LamX.CodeO at y; cases y), w1⟩
          | tbl _ _ => cases hn
        have sr2 : ME.SR K ρ (.tbl T' q' :: r) H2 := by
          refine ⟨sr.nd, sr.len, fun i a o z1 z2 => ?_, fun a z => ?_, fun a z => ⟨?_, (sr.set a z).2⟩⟩
          · by_cases hi : i = 0
            · subst hi
              cases z2
              rw [ha0] at z1
              cases z1
              refine ⟨rfl, ps1, e12 _ _ hP1, ht1, fun pos cv y => ?_⟩
              obtain ⟨d, y1, y2⟩ := hc1 pos cv y
              refine ⟨d, y1, ⟨fun hd => ?_, fun hd => ?_⟩, e12 _ _ y2⟩
              · obtain ⟨j, hj, ej⟩ := List.mem_iff_getElem.mp hd
                have gj : ρ.ob[j]? = some d := by rw [List.getElem?_eq_getElem hj, ej]
                by_cases hj0 : j = 0
                · subst hj0
                  rw [ha0] at gj
                  cases gj
                  rw [hP1] at y2
                  exact LamX.codeO_ne ps1 (Option.some.inj y2).symm
                · obtain ⟨u, w1, w2, w3⟩ := other j d _ hj0 gj (List.getElem?_eq_getElem (by rw [← sr.len]; exact hj))
                  have := eN d u w3 w1
                  rw [y2] at this
                  exact w2 _ _ (Option.some.inj this).symm
              · obtain ⟨u, w1, w3⟩ := (sr.set d hd).1
                have := eN d u w3 w1.ntb
                rw [y2] at this
                have e := Option.some.inj this
                unfold LamX.CodeO at e
                rcases w1 with ⟨_, rfl⟩ | ⟨_, rfl⟩ <;> cases e
            · obtain ⟨u, w1, _, w3⟩ := other i a o hi z1 z2
              exact (sr.ok i a o z1 z2).mono st (by rw [w3]; exact kp a u w1 w3)
          · obtain ⟨j, hj, ej⟩ := List.mem_iff_getElem.mp z
            have gj : ρ.ob[j]? = some a := by rw [List.getElem?_eq_getElem hj, ej]
            by_cases hj0 : j = 0
            · subst hj0
              rw [ha0] at gj
              cases gj
              exact ⟨_, e12 _ _ hP1⟩
            · obtain ⟨u, w1, _, w3⟩ := other j a _ hj0 gj (List.getElem?_eq_getElem (by rw [← sr.len]; exact hj))
              exact ⟨u, kp a u w1 w3⟩
          · obtain ⟨u, w1, w3⟩ := (sr.set a z).1
            exact ⟨u, w1, kp a u w1.ntb w3⟩
        refine ⟨ρ, _, env, sr2, er.mono st, (m env).mono _ _ _ _ _ (fun v S' y ρ' H' v' t' sr' r' l hl => ?_) (fun x S' y ρ' H' dd t' sr' xr => ?_) hm⟩
        · exact y ρ' _ (.ref l) ((st.trans t').trans (ME.Step.add hl)) (sr'.add hl) (ME.newL sr' (.cons r' .nil) hl)
        · cases hv : heardV x with
          | none => rw [hv] at y; exact y.elim
          | some d =>
            rw [hv] at y
            have y : ME.post K (ME.rV K) ρ H Q d S' := y
            obtain ⟨cl, ns, vs⟩ := x
            match vs, hv, xr with
            | [v], hv, xr =>
              have hv : (match hTab.find? fun t => t.1 == cl && ns == [t.2.1] with
                | some t => some (ME.D.tup [.str t.2.2, v])
                | none => none) = some d := hv
              cases hf : hTab.find? fun t => t.1 == cl && ns == [t.2.1] with
              | none => rw [hf] at hv; cases hv
              | some t =>
                rw [hf] at hv
                cases hv
                have h1 := List.find?_some hf
                obtain ⟨h1, h2⟩ := Bool.and_eq_true_iff.mp h1
                have h1 := eq_of_beq h1
                have h2 := eq_of_beq h2
                obtain ⟨i, hi, i1, i2, i3⟩ := hTab_ok t (List.mem_of_find?_eq_some hf)
                rcases xr with ⟨w1, _⟩ | ⟨dx, fs, w1, w2, w3, w4⟩
                · have w1 : ns = [] := w1
                  rw [h2] at w1
                  cases w1
                · have w3 : fs.map Prod.fst = ns := w3
                  match fs, w2, w3, w4 with
                  | [(f, u)], w2, w3, .cons w4 .nil =>
                    have ef : f = fl i := by
                      rw [h2] at w3
                      rw [i2]
                      exact (List.cons.inj w3).1
                    subst ef
                    refine .inl ⟨i, dx, u, hi, by show Value.ref (He.ga K cl) = _; rw [← h1, ← i1], w1, w2, fun l H3 ex hl ht => ?_⟩
                    refine y ρ' H3 (.ref l) ((st.trans t').trans (step_ext ex)) (sr_ext sr' ex) (.tup (.inl ⟨sr'.new hl, .inl ht⟩) (.cons (by rw [i3]; exact .str _) (.cons (w4.mono (step_ext ex)) .nil)))
            | [v, u], hv, xr =>
              have hv : cond (cl == "TooMany" && ns == (["what", "most"] : List Str)) (some (ME.D.tup [.str "many", v, u])) none = some d := hv
              cases hf : (cl == "TooMany" && ns == (["what", "most"] : List Str)) with
              | false => rw [hf] at hv; cases hv
              | true =>
                rw [hf] at hv
                cases hv
                obtain ⟨h1, h2⟩ := Bool.and_eq_true_iff.mp hf
                have h1 := eq_of_beq h1
                have h2 := eq_of_beq h2
                rcases xr with ⟨w1, _⟩ | ⟨dx, fs, w1, w2, w3, w4⟩
                · have w1 : ns = [] := w1
                  rw [h2] at w1
                  cases w1
                · have w3 : fs.map Prod.fst = ns := w3
                  rw [h2] at w3
                  match fs, w2, w3, w4 with
                  | [(f, a), (f2, a2)], w2, w3, .cons w4 (.cons w5 .nil) =>
                    have e1 : f = "what" := (List.cons.inj w3).1
                    have e2 : f2 = "most" := (List.cons.inj (List.cons.inj w3).2).1
                    subst e1 e2
                    refine .inr ⟨dx, a, a2, by show Value.ref (He.ga K cl) = _; rw [h1]; rfl, w1, w2, fun l H3 ex hl ht => ?_⟩
                    refine y ρ' H3 (.ref l) ((st.trans t').trans (step_ext ex)) (sr_ext sr' ex) (.tup (.inl ⟨sr'.new hl, .inl ht⟩) (.cons (.str _) (.cons (w4.mono (step_ext ex)) (.cons (w5.mono (step_ext ex)) .nil))))
            | [], hv, _ => cases hv
            | _ :: _ :: _ :: _, hv, _ => cases hv)
end
end My
namespace My
open PySem PySem.Spec PyProof.Rows L2
open C8 (pss_cut tCut)
abbrev s_is_integer : Stmt := top 3
abbrev s_is_between : Stmt := top 4
abbrev s_is_name : Stmt := top 5
abbrev s_is_listed : Stmt := top 6
/-- built-ins of the checks -/
structure BlC (mg : Str → Option Value) : Prop where
  isin : mg "isinstance" = none
  len : mg "len" = none
  all_ : mg "all" = none
  t_int : mg "int" = none
  t_bool : mg "bool" = none
  t_str : mg "str" = none
  t_list : mg "list" = none
  t_tuple : mg "tuple" = none
  t_dict : mg "dict" = none
def letters : Str := "abcdefghijklmnopqrstuvwxyz"
/-! ### the type of data -/
def tyN : PyData → String
  | .none => "NoneType"
  | .bool _ => "bool"
  | .int _ => "int"
  | .str _ => "str"
  | .list _ => "list"
  | .tuple _ => "tuple"
  | .dict _ => "dict"
theorem ty_of {K : PySem.W.Frag} {H : Hp} {v : V} {d : PyData} (h : Dv K H v d) : TyX K H v (.type (tyN d)) := by
  cases h with
  | non => exact .base .non
  | bl b => exact .base (.bl b)
  | int i => exact .base (.int i)
  | str x => exact .base (.str x)
  | lst e _ =>
    rcases e with (e | ⟨o, e⟩) | ⟨o, its, n, hk, hc, _⟩
    · exact .base (.lst e)
    · exact .base (.frz e)
    · exact .kList hk hc
  | tup e _ =>
    rcases e with (e | ⟨o, e⟩) | ⟨o, its, n, hk, hc, _⟩
    · exact .base (.tup e)
    · exact .fTuple e
    · exact .kTuple hk hc
  | dic e _ => exact .base (.dK e)
def dInt : PyData → Bool
  | .int _ | .bool _ => true
  | _ => false
def dBool : PyData → Bool
  | .bool _ => true
  | _ => false
def dStr : PyData → Bool
  | .str _ => true
  | _ => false
def dSeq : PyData → Bool
  | .list _ | .tuple _ => true
  | _ => false
def dTup : PyData → Bool
  | .tuple _ => true
  | _ => false
def dList : PyData → Bool
  | .list _ => true
  | _ => false
def dDict : PyData → Bool
  | .dict _ => true
  | _ => false
theorem kit_int {K : PySem.W.Frag} (d : PyData) : PySem.W.kitOne K (.type (tyN d)) (.type "int") = some (dInt d) := by cases d <;> kernel_rfl
theorem kit_bool {K : PySem.W.Frag} (d : PyData) : PySem.W.kitOne K (.type (tyN d)) (.type "bool") = some (dBool d) := by cases d <;> kernel_rfl
theorem kit_str {K : PySem.W.Frag} (d : PyData) : PySem.W.kitOne K (.type (tyN d)) (.type "str") = some (dStr d) := by cases d <;> kernel_rfl
theorem kit_tuple {K : PySem.W.Frag} (d : PyData) : PySem.W.kitOne K (.type (tyN d)) (.type "tuple") = some (dTup d) := by cases d <;> kernel_rfl
theorem kit_list {K : PySem.W.Frag} (d : PyData) : PySem.W.kitOne K (.type (tyN d)) (.type "list") = some (dList d) := by cases d <;> kernel_rfl
theorem kit_dict {K : PySem.W.Frag} (d : PyData) : PySem.W.kitOne K (.type (tyN d)) (.type "dict") = some (dDict d) := by cases d <;> kernel_rfl
theorem kit_seq {K : PySem.W.Frag} (d : PyData) : PySem.W.kitAny K (.type (tyN d)) [.type "list", .type "tuple"] = some (dSeq d) := by cases d <;> kernel_rfl
/-! ### what the checks say -/
def isI : PyData → Bool
  | .int _ => true
  | _ => false
def isBet (d : PyData) (lo hi : Int) : Bool := match d with
  | .int i => decide (lo ≤ i ∧ i ≤ hi)
  | _ => false
def isName : PyData → Bool
  | .str x => decide (1 ≤ x.cps.size ∧ x.cps.size ≤ 8) && x.cps.toList.all fun c => decide (c ∈ letters.cps.toList)
  | _ => false
def spIsI (K : PySem.W.Frag) : Sp := fun vs H Q _ => ∃ v d, vs = [v] ∧ Dv K H v d ∧ Q (.bl (isI d)) H
def spBet (K : PySem.W.Frag) : Sp := fun vs H Q _ => ∃ v d lo hi, vs = [v, .int lo, .int hi] ∧ Dv K H v d ∧ Q (.bl (isBet d lo hi)) H
def Short (d : PyData) : Prop := ∀ x : Str, d = .str x → x.cps.size ≤ 1000
def spName (K : PySem.W.Frag) : Sp := fun vs H Q _ => ∃ v d, vs = [v] ∧ Dv K H v d ∧ Short d ∧ ∀ H', Same H H' → Q (.bl (isName d)) H'
def spListed (K : PySem.W.Frag) : Sp := fun vs H Q _ => ∃ v d, vs = [v] ∧ Dv K H v d ∧ ∀ H', Same H H' → Q (.bl (dSeq d)) H'
section
variable {P : Program} {w : World} {K : PySem.W.Frag} {mg : Str → Option Value} {base : Heap}
theorem sc_is_integer : FnScope ["value"] ["value"] (defScope s_is_integer) := ⟨rfl, rfl, rfl, by decide +kernel, rfl, by decide +kernel, by decide +kernel⟩
theorem sc_is_between : FnScope ["value", "least", "most"] ["value", "least", "most"] (defScope s_is_between) := ⟨rfl, rfl, rfl, by decide +kernel, rfl, by decide +kernel, by decide +kernel⟩
theorem sc_is_name : FnScope ["value", "sign"] ["value"] (defScope s_is_name) := ⟨rfl, rfl, rfl, by decide +kernel, rfl, by decide +kernel, by decide +kernel⟩
theorem sc_is_listed : FnScope ["value"] ["value"] (defScope s_is_listed) := ⟨rfl, rfl, rfl, by decide +kernel, rfl, by decide +kernel, by decide +kernel⟩
theorem isI_eq (d : PyData) : isI d = if dInt d = true then !dBool d else false := by cases d <;> rfl
theorem ok_is_integer {f : Addr} {fd : FuncData} (F : Fun K "is_integer" "is_integer" s_is_integer f fd) (B : BlC mg) : FnOk P w K mg base CX0 1 f fd ["value"] (spIsI K) := by
  refine F.ok sc_is_integer (fun vs H Q E h => ?_) (fun cdv A outer s H vs Q E hr h => ?_)
  · obtain ⟨v, d, rfl, _⟩ := h
    rfl
  · obtain ⟨v, d, rfl, hd, k⟩ := h
    refine ⟨_, (pss_one (ps_ret (pe_and (pe_callB call_isi (by rfl) B.isin (by decide +kernel) (pa_cons (pv 0) (pa_cons (pe_bltn (v := .ty "int") rfl B.t_int (by decide +kernel) rfl) pa_nil))) (pe_one (pe_not (pe_callB call_isi (by rfl) B.isin (by decide +kernel) (pa_cons (pv 0) (pa_cons (pe_bltn (v := .ty "bool") rfl B.t_bool (by decide +kernel) rfl) pa_nil)))))))), ?_⟩
    refine ⟨_, rfl, _, _, _, _, _, rfl, .ty _, ty_of hd, kit_int d, _, rfl, ?_⟩
    rw [isI_eq] at k
    refine ite2 (fun hz => ?_) (fun hz => ?_)
    · rw [if_pos hz] at k
      exact ⟨_, rfl, _, _, _, _, _, rfl, .ty _, ty_of hd, kit_bool d, _, rfl, k⟩
    · rw [if_neg hz] at k
      exact k
theorem ok_is_between {f fI : Addr} {fd fdI : FuncData} (F : Fun K "is_between" "is_between" s_is_between f fd) (FI : Fun K "is_integer" "is_integer" s_is_integer fI fdI) (mI : mg "is_integer" = some (.ref fI)) (B : BlC mg) :
    FnOk P w K mg base CX0 2 f fd ["value", "least", "most"] (spBet K) := by
  have GI : FnOk P w K mg base CX0 1 fI fdI ["value"] (spIsI K) := ok_is_integer FI B
  have bI : Binds K fdI ["value"] [] := FI.binds fun _ _ _ _ _ _ us hl => match us, hl with | [_], _ => rfl
  refine F.ok sc_is_between (fun vs H Q E h => ?_) (fun cdv A outer s H vs Q E hr h => ?_)
  · obtain ⟨v, d, lo, hi, rfl, _⟩ := h
    rfl
  · obtain ⟨v, d, lo, hi, rfl, hd, k⟩ := h
    refine ⟨_, (pss_one (ps_ret (pe_and (pe_call GI (hr.mono (by omega)) rfl mI FI.kp bI .nil pass0 (pa_cons (pv 0) pa_nil)) (pe_one (pe_chain op_le op_le (pv 1) (pv 0) (pv 2)))))), ?_⟩
    refine ⟨_, rfl, v, d, rfl, hd, _, rfl, ?_⟩
    cases d with
    | int i =>
      cases hd
      refine iteT ?_
      refine ⟨_, rfl, _, rfl, _, _, rfl, rfl, _, rfl, ?_⟩
      have k2 : Q (.bl (decide (lo ≤ i ∧ i ≤ hi))) H := k
      refine ite2 (fun hz => ?_) (fun hz => ?_)
      · have hz' : lo ≤ i := of_decide_eq_true hz
        refine ⟨_, rfl, _, _, rfl, rfl, ?_⟩
        have e : decide (lo ≤ i ∧ i ≤ hi) = decide (i ≤ hi) := by simp [hz']
        rw [e] at k2
        exact k2
      · have hz' : ¬ lo ≤ i := fun q => hz (decide_eq_true q)
        have e : decide (lo ≤ i ∧ i ≤ hi) = false := by simp [hz']
        rw [e] at k2
        exact k2
    | _ => exact iteF k
theorem ok_is_listed {f : Addr} {fd : FuncData} (F : Fun K "is_listed" "is_listed" s_is_listed f fd) (B : BlC mg) : FnOk P w K mg base CX0 1 f fd ["value"] (spListed K) := by
  refine F.ok sc_is_listed (fun vs H Q E h => ?_) (fun cdv A outer s H vs Q E hr h => ?_)
  · obtain ⟨v, d, rfl, _⟩ := h
    rfl
  · obtain ⟨v, d, rfl, hd, k⟩ := h
    refine ⟨_, (pss_one (ps_ret (pe_callB call_isiT (by rfl) B.isin (by decide +kernel) (pa_cons (pv 0) (pa_cons (pe_tup (pa_cons (pe_bltn (v := .ty "list") rfl B.t_list (by decide +kernel) rfl) (pa_cons (pe_bltn (v := .ty "tuple") rfl B.t_tuple (by decide +kernel) rfl) pa_nil))) pa_nil))))), ?_⟩
    refine ⟨_, rfl, by show 2 ≤ sizeLine; decide, fun l hl => ?_⟩
    have up : Same H (upd H l (.tup [V.ty "list", V.ty "tuple"])) := fun b u e => by rw [upd_ne (ne_of_none e hl)]; exact e
    exact ⟨_, l, _, _, _, _, rfl, upd_same, .cons (.ty _) (.cons (.ty _) .nil), ty_of (hd.mono up), kit_seq d, k _ up⟩
theorem ok_is_name {f : Addr} {fd : FuncData} (F : Fun K "is_name" "is_name" s_is_name f fd) (B : BlC mg) {t8 tL : Tok} (g8 : mg "MOST_SIGNS" = some (.int 8 t8)) (gL : mg "LETTERS" = some (.str letters tL)) : FnOk P w K mg base CX0 1 f fd ["value"] (spName K) := by
  refine F.ok sc_is_name (fun vs H Q E h => ?_) (fun cdv A outer s H vs Q E hr h => ?_)
  · obtain ⟨v, d, rfl, _⟩ := h
    rfl
  · obtain ⟨v, d, rfl, hd, hsh, k⟩ := h
    refine ⟨_, (pss_one (ps_ret (pe_and (pe_callB call_isi (by rfl) B.isin (by decide +kernel) (pa_cons (pv 0) (pa_cons (pe_bltn (v := .ty "str") rfl B.t_str (by decide +kernel) rfl) pa_nil))) (pe_and (pe_chain op_le op_le pe_int (pe_callB call_len (by rfl) B.len (by decide +kernel) (pa_cons (pv 0) pa_nil)) (pe_glob (v := .int 8) rfl g8 ⟨t8, rfl⟩)) (pe_one (pe_callB (cr_all rfl) (by rfl) B.all_ (by decide +kernel) (pa_cons (pe_lc (own := [("sign", 1)]) (g := gName 1) (tt := tYes) rfl sc_is_name.nd (pi_str (pv 0)) (blkOk_by (own := [("sign", 1)]) (N := ["value", "sign"]) (sc := defScope s_is_name) (by decide +kernel)) (fun _ _ _ _ _ => pg_name (i := 1) sc_is_name.nd rfl (Or.inl rfl)) (fun _ _ _ _ _ => pts_nil) (fun _ _ _ _ _ => (pe_cmpR op_inS (pv 1) (pe_glob (v := .str letters) rfl gL ⟨tL, rfl⟩) (by rfl)))) pa_nil))))))), ?_⟩
    refine ⟨_, rfl, _, _, _, _, _, rfl, .ty _, ty_of hd, kit_str d, _, rfl, ?_⟩
    cases d with
    | str x =>
      cases hd
      have hx : x.cps.size ≤ 1000 := hsh x rfl
      have hxl : x.length ≤ sizeLine := Nat.le_trans hx (by decide)
      have k2 : ∀ H', Same H H' → Q (.bl (decide (1 ≤ x.cps.size ∧ x.cps.size ≤ 8) && x.cps.toList.all fun c => decide (c ∈ letters.cps.toList))) H' := k
      refine iteT ?_
      refine ⟨_, rfl, _, _, rfl, ⟨hxl, rfl⟩, _, _, rfl, rfl, _, rfl, ?_⟩
      have el : ((x.length : Nat) : Int) = (x.cps.size : Int) := rfl
      refine ite2 (fun hz => ?_) (fun hz => ?_)
      · have hz1 : (1 : Int) ≤ (x.length : Int) := of_decide_eq_true hz
        refine ⟨_, _, rfl, rfl, _, rfl, ?_⟩
        refine ite2 (fun hy => ?_) (fun hy => ?_)
        · have hy1 : (x.length : Int) ≤ 8 := of_decide_eq_true hy
          refine ⟨_, rfl, _, rfl, fun D hD => ?_⟩
          refine lc_it (walk_str (z := x)) (fun i H' => Same H H' ∧ H' D = some (.lst (((x.cps.toList.take i).map fun c => decide (c ∈ letters.cps.toList)).map V.bl))) ⟨fun b u e => by rw [upd_ne (ne_of_none e hD)]; exact e, upd_same⟩ (fun _ _ _ _ => trivial) ?_ ?_
          · rintro i y H1 H2 hi ⟨sm, hacc⟩ ⟨rfl, ch, hch, rfl⟩
            refine ⟨rfl, ?_⟩
            simp only [tYes, if_true]
            refine ⟨_, rfl, ch, _, rfl, rfl, _, hacc, ?_, fun b u e => ?_, ?_⟩
            · rw [List.length_map, List.length_map, List.length_take]
              exact Nat.lt_of_le_of_lt (Nat.min_le_left _ _) (small1000 (by omega))
            · rw [upd_ne (ne_of_none e hD)]
              exact sm b u e
            · have hl : i < x.cps.toList.length := by rw [Array.length_toList]; exact hi
              have ec : x.cps.toList[i] = ch := by
                have z := hch
                rw [← Array.getElem?_toList, List.getElem?_eq_getElem hl] at z
                exact Option.some.inj z
              rw [upd_same, List.take_succ_eq_append_getElem hl, List.map_append, List.map_append, ec]
              rfl
          · rintro H1 ⟨sm, hacc⟩
            rw [List.take_of_length_le (by rw [Array.length_toList]; exact Nat.le_refl _)] at hacc
            refine ⟨D, _, rfl, SqL.of hacc, ?_⟩
            have z := k2 H1 sm
            have e1 : decide (1 ≤ x.cps.size ∧ x.cps.size ≤ 8) = true := decide_eq_true ⟨by omega, by omega⟩
            rw [e1, Bool.true_and] at z
            rw [List.all_map]
            exact z
        · have hy1 : ¬ (x.length : Int) ≤ 8 := fun q => hy (decide_eq_true q)
          have z := k2 H (fun _ _ e => e)
          have e1 : decide (1 ≤ x.cps.size ∧ x.cps.size ≤ 8) = false := decide_eq_false fun q => hy1 (by omega)
          rw [e1] at z
          exact z
      · have hz1 : ¬ (1 : Int) ≤ (x.length : Int) := fun q => hz (decide_eq_true q)
        have z := k2 H (fun _ _ e => e)
        have e1 : decide (1 ≤ x.cps.size ∧ x.cps.size ≤ 8) = false := decide_eq_false fun q => hz1 (by omega)
        rw [e1] at z
        exact ⟨_, rfl, iteF z⟩
    | _ => exact iteF (k H fun _ _ e => e)
end
end My
namespace My
open PySem PySem.Spec PyProof.Rows L2
open C8 (pss_cut tCut)
abbrev s_is_part : Stmt := top 30
abbrev s_is_instruction : Stmt := top 31
/-- a def that may be called by its name -/
structure Cd (P : Program) (w : World) (K : PySem.W.Frag) (mg : Str → Option Value) (base : Heap) (x : Str) (st : Stmt) (k : Nat) (ps : List Str) (sp : Sp) (f : Addr) (fd : FuncData) : Prop where
  F : Fun K x x st f fd
  gl : mg x = some (.ref f)
  ok : FnOk P w K mg base CX0 k f fd ps sp
structure BlP (mg : Str → Option Value) : Prop extends BlC mg where
  zip : mg "zip" = none
/-! ### the words -/
def partsL : List (Str × List Str) := [("push", ["number"]), ("get", ["slot"]), ("put", ["slot"]), ("drop", []), ("add", []), ("mul", []), ("new", ["name"]), ("load", ["name", "field"]), ("store", ["name", "field"]), ("case", ["name", "place"]), ("ask", ["place"]), ("jump", ["place"]),
  ("call", ["name", "name"]), ("return", []), ("raise", ["name"]), ("join", ["name"]), ("tell", []), ("end", [])]
def partsOf (z : Str) : Option (List Str) := partsL.lookup z
theorem parts_few {z : Str} {ks : List Str} (h : partsOf z = some ks) : ks.length ≤ 2 := by
  have z1 : ∀ l : List (Str × List Str), (∀ p ∈ l, p.2.length ≤ 2) → ∀ ks, l.lookup z = some ks → ks.length ≤ 2 := by
    intro l
    induction l with
    | nil => intro _ ks h; cases h
    | cons p r ih =>
      intro hp ks h
      rw [List.lookup_cons] at h
      cases q : z == p.1 with
      | true =>
        rw [q] at h
        have e := Option.some.inj h
        rw [← e]
        exact hp p List.mem_cons_self
      | false =>
        rw [q] at h
        exact ih (fun x hx => hp x (List.mem_cons_of_mem _ hx)) ks h
  exact z1 partsL (by decide) ks h
/-- the table of the module -/
structure PartsT (K : PySem.W.Frag) (w : World) (mg : Str → Option Value) (dP : Addr) (es : Array DictEntry) (n : Nat) : Prop where
  kd : KDict K w dP es n
  gP : mg "PARTS" = some (.ref dP)
  gW : ∃ t, mg "WHOLE" = some (.int 4294967296 t)
  gF : ∃ t, mg "MOST_FIELDS" = some (.int 4 t)
  no : ∀ z : Str, partsOf z = none → PySem.W.nsIn K dP z = some none
  so : ∀ (z : Str) (ks : List Str), partsOf z = some ks → ∃ a, PySem.W.nsIn K dP z = some (some (.ref a)) ∧ ∀ H, SqT K H a (ks.map V.str)
def isPart (d : PyData) (kind : Str) (slots many : Int) : Bool :=
  if kind = ("name" : Str) then isName d else if kind = ("number" : Str) then isBet d 0 (4294967296 - 1) else if kind = ("field" : Str) then isBet d 0 (4 - 1) else isBet d 0 ((if kind = ("slot" : Str) then slots else many) - 1)
def isInstr (d : PyData) (slots many : Int) : Bool := match d with
  | .tuple (.str z :: ps) => (match partsOf z with
    | some ks => decide (ps.length = ks.length) && (ps.zip ks).all fun p => isPart p.1 p.2 slots many
    | none => false)
  | _ => false
def spPart (K : PySem.W.Frag) : Sp := fun vs H Q _ => ∃ v d kind slots many, vs = [v, .str kind, .int slots, .int many] ∧ Dv K H v d ∧ Short d ∧ ∀ H', Same H H' → Q (.bl (isPart d kind slots many)) H'
def ShortI (d : PyData) : Prop := ∀ ps : List PyData, d = .tuple ps → ps.length ≤ 1000 ∧ ∀ p ∈ ps, Short p
def spInstr (K : PySem.W.Frag) : Sp := fun vs H Q _ => ∃ v d slots many, vs = [v, .int slots, .int many] ∧ Dv K H v d ∧ ShortI d ∧ ∀ H', Same H H' → Q (.bl (isInstr d slots many)) H'
section
variable {P : Program} {w : World} {K : PySem.W.Frag} {mg : Str → Option Value} {base : Heap} {dP : Addr} {es : Array DictEntry} {n : Nat}
theorem sc_is_part : FnScope ["value", "kind", "slots", "many"] ["value", "kind", "slots", "many"] (defScope s_is_part) := ⟨rfl, rfl, rfl, by decide +kernel, rfl, by decide +kernel, by decide +kernel⟩
theorem sc_is_instruction : FnScope ["value", "slots", "many", "kinds", "one", "kind"] ["value", "slots", "many"] (defScope s_is_instruction) := ⟨rfl, rfl, rfl, by decide +kernel, rfl, by decide +kernel, by decide +kernel⟩
theorem b_is_integer {f : Addr} {fd : FuncData} (F : Fun K "is_integer" "is_integer" s_is_integer f fd) : Binds K fd ["value"] [] := F.binds fun _ _ _ _ _ _ us hl => match us, hl with | [_], _ => rfl
theorem b_is_listed {f : Addr} {fd : FuncData} (F : Fun K "is_listed" "is_listed" s_is_listed f fd) : Binds K fd ["value"] [] := F.binds fun _ _ _ _ _ _ us hl => match us, hl with | [_], _ => rfl
theorem b_is_name {f : Addr} {fd : FuncData} (F : Fun K "is_name" "is_name" s_is_name f fd) : Binds K fd ["value"] [] := F.binds fun _ _ _ _ _ _ us hl => match us, hl with | [_], _ => rfl
theorem b_is_between {f : Addr} {fd : FuncData} (F : Fun K "is_between" "is_between" s_is_between f fd) : Binds K fd ["value", "least", "most"] [] := F.binds fun _ _ _ _ _ _ us hl => match us, hl with | [_, _, _], _ => rfl
theorem b_is_part {f : Addr} {fd : FuncData} (F : Fun K "is_part" "is_part" s_is_part f fd) : Binds K fd ["value", "kind", "slots", "many"] [] := F.binds fun _ _ _ _ _ _ us hl => match us, hl with | [_, _, _, _], _ => rfl
theorem dec_str {x y : Str} : decide (V.str x = V.str y) = true ↔ x = y := by simp
theorem ok_is_part {f fB fN : Addr} {fd fdB fdN : FuncData} (F : Fun K "is_part" "is_part" s_is_part f fd) (T : PartsT K w mg dP es n) (CB : Cd P w K mg base "is_between" s_is_between 2 ["value", "least", "most"] (spBet K) fB fdB) (CN : Cd P w K mg base "is_name" s_is_name 1 ["value"] (spName K) fN fdN) :
    FnOk P w K mg base CX0 3 f fd ["value", "kind", "slots", "many"] (spPart K) := by
  refine F.ok sc_is_part (fun vs H Q E h => ?_) (fun cdv A outer s H vs Q E hr h => ?_)
  · obtain ⟨v, d, kind, slots, many, rfl, _⟩ := h
    rfl
  · obtain ⟨v, d, kind, slots, many, rfl, hd, hs, k⟩ := h
    refine ⟨_, (pss_cons (ps_if (pt_cmpR op_eq (pv 1) pe_str (nomark _)) (pss_one (ps_ret (pe_call CN.ok (hr.mono (by omega)) rfl CN.gl CN.F.kp (by exact b_is_name CN.F) .nil pass0 (pa_cons (pv 0) pa_nil)))) pss_nil)
      (pss_cons (ps_if (pt_cmpR op_eq (pv 1) pe_str (nomark _)) (pss_one (ps_ret (pe_call CB.ok (hr.mono (by omega)) rfl CB.gl CB.F.kp (by exact b_is_between CB.F) .nil pass0 (pa_cons (pv 0) (pa_cons pe_int (pa_cons (pe_op op_sub (pe_glob (v := .int 4294967296) rfl T.gW.choose_spec ⟨_, rfl⟩) pe_int) pa_nil)))))) pss_nil)
      (pss_cons (ps_if (pt_cmpR op_eq (pv 1) pe_str (nomark _)) (pss_one (ps_ret (pe_call CB.ok (hr.mono (by omega)) rfl CB.gl CB.F.kp (by exact b_is_between CB.F) .nil pass0 (pa_cons (pv 0) (pa_cons pe_int (pa_cons (pe_op op_sub (pe_glob (v := .int 4) rfl T.gF.choose_spec ⟨_, rfl⟩) pe_int) pa_nil)))))) pss_nil)
      (pss_one (ps_ret (pe_call CB.ok (hr.mono (by omega)) rfl CB.gl CB.F.kp (by exact b_is_between CB.F) .nil pass0 (pa_cons (pv 0) (pa_cons pe_int (pa_cons (pe_op op_sub (pe_ifExp (pt_cmpR op_eq (pv 1) pe_str (nomark _)) (pv 2) (pv 3)) pe_int) pa_nil))))))))), ?_⟩
    unfold isPart at k
    refine ⟨_, rfl, rfl, _, rfl, ?_⟩
    refine ite2 (fun hz => ?_) (fun hz => ?_)
    · rw [if_pos (dec_str.mp hz)] at k
      exact ⟨_, rfl, v, d, rfl, hd, hs, k⟩
    rw [if_neg fun q => hz (dec_str.mpr q)] at k
    refine ⟨_, rfl, rfl, _, rfl, ?_⟩
    refine ite2 (fun hy => ?_) (fun hy => ?_)
    · rw [if_pos (dec_str.mp hy)] at k
      exact ⟨_, rfl, _, _, rfl, rfl, v, d, 0, _, rfl, hd, k H fun _ _ e => e⟩
    rw [if_neg fun q => hy (dec_str.mpr q)] at k
    refine ⟨_, rfl, rfl, _, rfl, ?_⟩
    refine ite2 (fun hx => ?_) (fun hx => ?_)
    · rw [if_pos (dec_str.mp hx)] at k
      exact ⟨_, rfl, _, _, rfl, rfl, v, d, 0, _, rfl, hd, k H fun _ _ e => e⟩
    rw [if_neg fun q => hx (dec_str.mpr q)] at k
    refine ⟨_, rfl, _, rfl, rfl, _, rfl, ?_⟩
    refine ite2 (fun hu => ?_) (fun hu => ?_)
    · rw [if_pos (dec_str.mp hu)] at k
      exact ⟨_, rfl, _, _, rfl, rfl, v, d, 0, _, rfl, hd, k H fun _ _ e => e⟩
    · rw [if_neg fun q => hu (dec_str.mpr q)] at k
      exact ⟨_, rfl, _, _, rfl, rfl, v, d, 0, _, rfl, hd, k H fun _ _ e => e⟩
theorem dv_get {H : Hp} : ∀ {vs : List V} {ds : List PyData} {i : Nat} {x : V}, DvAll K H vs ds → vs[i]? = some x → ∃ d, ds[i]? = some d ∧ Dv K H x d
  | _, _, _, _, .nil, e => by simp at e
  | _, _, 0, _, .cons h _, e => by
    have e' := Option.some.inj e
    rw [← e']
    exact ⟨_, rfl, h⟩
  | _, _, i + 1, x, .cons _ h, e => dv_get (i := i) h (by simpa using e)
theorem walk_zT {a b : Addr} {xs ys : List V} {m : Nat} (hn : m = min xs.length ys.length) : Walk (RZ.ItzT K a b) m (fun H => SqT K H a xs ∧ SqT K H b ys) (YPair (fun i => xs[i]?) (fun i => ys[i]?)) where
  goes := fun i H hi q => ⟨xs, ys, xs[i]'(by omega), ys[i]'(by omega), q.1, q.2, List.getElem?_eq_getElem _, List.getElem?_eq_getElem _⟩
  stops := fun H q => ⟨xs, ys, q.1, q.2, by omega⟩
  yields := fun i H v H' _ q y => by
    obtain ⟨T, x, z, y1, y2, y3, y4, y5⟩ := y
    exact ⟨T, x, z, y1, y2, y3, y4 xs q.1, y5 ys q.2⟩
theorem cut1 (v : V) (vs : List V) : cutV (v :: vs) (some 1) none = vs := by
  have e : HT.sIx (v :: vs).length 0 (some ((1 : Nat) : Int)) = 1 := by
    rw [HT.sIx_nat, List.length_cons]
    omega
  show ((v :: vs).drop (HT.sIx (v :: vs).length 0 (some ((1 : Nat) : Int)))).take ((v :: vs).length - HT.sIx (v :: vs).length 0 (some ((1 : Nat) : Int))) = vs
  rw [e]
  exact List.take_of_length_le (by rw [List.length_cons]; exact Nat.le_refl _)
theorem ok_is_instruction {f fP : Addr} {fd fdP : FuncData} (F : Fun K "is_instruction" "is_instruction" s_is_instruction f fd) (T : PartsT K w mg dP es n) (B : BlP mg) (CP : Cd P w K mg base "is_part" s_is_part 3 ["value", "kind", "slots", "many"] (spPart K) fP fdP) :
    FnOk P w K mg base CX0 4 f fd ["value", "slots", "many"] (spInstr K) := by
  refine F.ok sc_is_instruction (fun vs H Q E h => ?_) (fun cdv A outer s H vs Q E hr h => ?_)
  · obtain ⟨v, d, slots, many, rfl, _⟩ := h
    rfl
  · obtain ⟨v, d, slots, many, rfl, hd, hs, k⟩ := h
    refine ⟨_, (pss_cons (ps_if (PW.pt (pw_or (pt_not (pt_val (pe_callB call_isi (by rfl) B.isin (by decide +kernel) (pa_cons (pv 0) (pa_cons (pe_bltn (v := .ty "tuple") rfl B.t_tuple (by decide +kernel) rfl) pa_nil))))) (pw_or (pt_not (pt_truth (pv 0) (by intro _; rfl))) (pw_or (pt_not (pt_val (pe_callB call_isi (by rfl) B.isin (by decide +kernel) (pa_cons (pe_ix ix_tup (pv 0) pe_int (fun _ _ => rfl)) (pa_cons (pe_bltn (v := .ty "str") rfl B.t_str (by decide +kernel) rfl) pa_nil))))) (pw_or1 (pt_cmpR (op_notIn_kd T.kd) (pe_ix ix_tup (pv 0) pe_int (fun _ _ => rfl)) (pe_glob (v := .ref dP) rfl T.gP rfl) (by rfl))))))) (pss_one (ps_ret pe_bl)) pss_nil)
      (pss_cons (ps_set (i := 3) sc_is_instruction.nd rfl (Or.inl rfl) (pe_ix ix_kdict (pe_glob (v := .ref dP) rfl T.gP rfl) (pe_ix ix_tup (pv 0) pe_int (fun _ _ => rfl)) (fun _ _ => rfl)))
      (pss_cons (ps_if (pt_cmpR op_ne (pe_callB call_len (by rfl) B.len (by decide +kernel) (pa_cons (pv 0) pa_nil)) (pe_op op_add (pe_callB call_len (by rfl) B.len (by decide +kernel) (pa_cons (pv 3) pa_nil)) pe_int) (nomark _)) (pss_one (ps_ret pe_bl)) pss_nil)
      (pss_one (ps_ret (pe_callB (cr_all rfl) (by rfl) B.all_ (by decide +kernel) (pa_cons (pe_lc (own := [("one", 4), ("kind", 5)]) (g := _) (tt := tYes) rfl sc_is_instruction.nd (RZ.pi_zipA (by rfl) B.zip (pa_cons (pe_slice sl_tup (pv 0) (po_some pe_int) po_none) (pa_cons (pv 3) pa_nil))) (blkOk_by (own := [("one", 4), ("kind", 5)]) (N := ["value", "slots", "many", "kinds", "one", "kind"]) (sc := defScope s_is_instruction) (by decide +kernel)) (fun _ _ _ _ _ => pg_tupK (K := K) (m := 2) rfl (pgs_cons (pg_name (i := 4) sc_is_instruction.nd rfl (Or.inl rfl)) (pgs_cons (pg_name (i := 5) sc_is_instruction.nd rfl (Or.inl rfl)) pgs_nil))) (fun _ _ _ _ _ => pts_nil) (fun _ _ _ _ _ => (pe_call CP.ok (hr.mono (by omega)) rfl CP.gl CP.F.kp (by exact b_is_part CP.F) .nil pass0 (pa_cons (pv 4) (pa_cons (pv 5) (pa_cons (pv 1) (pa_cons (pv 2) pa_nil))))))) pa_nil))))))), ?_⟩
    refine ⟨_, rfl, _, _, _, _, _, rfl, .ty _, ty_of hd, kit_tuple d, _, rfl, ?_⟩
    cases d with
    | tuple ds =>
      refine iteF ?_
      have kn : ∀ H', Same H H' → Q (.bl (isInstr (.tuple ds) slots many)) H' := k
      obtain ⟨hl, hsh⟩ := hs ds rfl
      cases hd with
      | @tup a xs _ hS hA =>
        cases hA with
        | nil =>
          refine ⟨_, rfl, false, .inr (.inl ⟨[], hS, rfl⟩), ?_⟩
          exact iteT (kn H fun _ _ e => e)
        | @cons v0 vs0 d0 ds0 h0 hA =>
          refine ⟨_, rfl, true, .inr (.inl ⟨_, hS, rfl⟩), ?_⟩
          refine iteF ?_
          have at0 : atI (v0 :: vs0) 0 = some v0 := at_of (j := 0) rfl rfl
          refine ⟨_, rfl, a, _, 0, v0, rfl, rfl, hS, at0, _, _, _, _, _, rfl, .ty _, ty_of h0, kit_str d0, _, rfl, ?_⟩
          cases d0 with
          | str z =>
            cases h0
            refine iteF ?_
            refine ⟨_, rfl, a, _, 0, _, rfl, rfl, hS, at0, z, ?_⟩
            cases hp : partsOf z with
            | none =>
              refine ⟨_, rfl, rfl, T.no z hp, _, rfl, ?_⟩
              refine iteT ?_
              have e : isInstr (.tuple (.str z :: ds0)) slots many = false := by
                show (match partsOf z with | some ks => _ | none => false) = false
                rw [hp]
              have q := kn H fun _ _ e => e
              rw [e] at q
              exact q
            | some ks =>
              obtain ⟨ak, nk, hk⟩ := T.so z ks hp
              have hk2 := parts_few hp
              refine ⟨_, rfl, rfl, nk, _, rfl, ?_⟩
              refine iteF ?_
              refine ⟨_, rfl, a, _, 0, _, rfl, rfl, hS, at0, dP, z, .ref ak, rfl, rfl, ⟨es, n, _, T.kd.at_, T.kd.lit, nk, rfl⟩, ?_⟩
              have lv : vs0.length = ds0.length := hA.length
              refine ⟨_, rfl, _, _, rfl, .inr ⟨_, hS, rfl⟩, _, rfl, _, _, rfl, .inr ⟨_, hk H, rfl⟩, _, _, rfl, rfl, rfl, _, rfl, ?_⟩
              have kk : ∀ H', Same H H' → Q (.bl (decide (ds0.length = ks.length) && (ds0.zip ks).all fun p => isPart p.1 p.2 slots many)) H' := fun H' sm => by
                have q := kn H' sm
                have e : isInstr (.tuple (.str z :: ds0)) slots many = (decide (ds0.length = ks.length) && (ds0.zip ks).all fun p => isPart p.1 p.2 slots many) := by
                  show (match partsOf z with | some ks => _ | none => false) = _
                  rw [hp]
                rw [e] at q
                exact q
              refine ite2 (fun hz => ?_) (fun hz => ?_)
              · have ne : ds0.length ≠ ks.length := fun q => by
                  have e : decide (V.int ((V.str z :: vs0).length : Int) = V.int (((ks.map V.str).length : Int) + 1)) = true := by
                    rw [List.length_cons, List.length_map, lv, q]
                    exact decide_eq_true rfl
                  rw [e] at hz
                  exact absurd hz (by decide)
                have q := kk H fun _ _ e => e
                rw [decide_eq_false ne] at q
                exact q
              · have el : ds0.length = ks.length := by
                  refine Decidable.byContradiction fun ne => hz ?_
                  have e : decide (V.int ((V.str z :: vs0).length : Int) = V.int (((ks.map V.str).length : Int) + 1)) = false := by
                    refine decide_eq_false fun q => ne ?_
                    have q2 := V.int.inj q
                    rw [List.length_cons, List.length_map, lv] at q2
                    omega
                  rw [e]
                  rfl
                refine ⟨_, rfl, _, rfl, a, _, rfl, hS, fun q => ?_, fun q hq => ?_⟩
                · have z0 := q.1
                  rw [show (some (1 : Int)) = some ((1 : Nat) : Int) from rfl, HT.sIx_nat, List.length_cons] at z0
                  omega
                rw [cut1]
                have up : Same H (upd H q (.tup vs0)) := fun b u e => by rw [upd_ne (ne_of_none e hq)]; exact e
                refine ⟨_, rfl, q, ak, _, _, rfl, .inr ⟨SqT.of upd_same, hk _, fun D hD => ?_⟩⟩
                have hDq : D ≠ q := fun z => by rw [z, upd_same] at hD; cases hD
                have hD0 : H D = none := by rw [upd_ne hDq] at hD; exact hD
                refine lc_it (walk_zT (K := K) (a := q) (b := ak) (xs := vs0) (ys := ks.map V.str) (m := ks.length) (by rw [List.length_map, lv, el, Nat.min_self])) (fun i H' => Same (upd H q (.tup vs0)) H' ∧ H' D = some (.lst ((((ds0.zip ks).take i).map fun p => isPart p.1 p.2 slots many).map V.bl)))
                  ⟨fun b u e => by rw [upd_ne (ne_of_none e hD)]; exact e, upd_same⟩ (fun i H' _ h => ⟨SqT.of (h.1 _ _ upd_same), hk _⟩) ?_ ?_
                · rintro i x G1 G2 hi ⟨sm, hacc⟩ ⟨tt, x1, y1, rfl, ht, rfl, r1, r2⟩
                  have hi2 : i < ds0.length := by omega
                  obtain ⟨d1, e1, h1⟩ := dv_get hA r1
                  have ey : y1 = V.str (ks[i]'hi) := by
                    have r3 : (ks.map V.str)[i]? = some y1 := r2
                    rw [List.getElem?_map, List.getElem?_eq_getElem hi] at r3
                    exact (Option.some.inj r3).symm
                  subst ey
                  have hs1 : Short d1 := hsh d1 (List.mem_cons_of_mem _ (List.mem_of_getElem? e1))
                  have nDt : D ≠ tt := ne_of_none hacc ht
                  refine ⟨tt, _, rfl, SqT.of upd_same, rfl, _, _, rfl, _, _, rfl, rfl, rfl, ?_⟩
                  simp only [tYes, if_true]
                  have h2 : Dv K (upd G1 tt (.tup [x1, V.str (ks[i]'hi)])) x1 d1 := h1.mono fun b u e => by
                    have z1 := sm b u (up b u e)
                    rw [upd_ne (ne_of_none z1 ht)]
                    exact z1
                  refine ⟨_, rfl, _, rfl, _, rfl, _, rfl, x1, d1, _, _, _, rfl, h2, hs1, fun G3 s3 => ?_⟩
                  have hD3 : G3 D = some (.lst ((((ds0.zip ks).take i).map fun p => isPart p.1 p.2 slots many).map V.bl)) := s3 _ _ (by rw [upd_ne nDt]; exact hacc)
                  refine ⟨_, hD3, ?_, fun b u e => ?_, ?_⟩
                  · rw [List.length_map, List.length_map, List.length_take]
                    exact Nat.lt_of_le_of_lt (Nat.min_le_left _ _) (small1000 (by omega))
                  · rw [upd_ne (ne_of_none e hD)]
                    have z1 := sm b u e
                    exact s3 b u (by rw [upd_ne (ne_of_none z1 ht)]; exact z1)
                  · have hz : i < (ds0.zip ks).length := by rw [List.length_zip]; omega
                    have ez : (ds0.zip ks)[i] = (d1, ks[i]'hi) := by
                      rw [List.getElem_zip]
                      have z1 := e1
                      rw [List.getElem?_eq_getElem hi2] at z1
                      rw [Option.some.inj z1]
                    rw [upd_same, List.take_succ_eq_append_getElem hz, List.map_append, List.map_append, ez]
                    rfl
                · rintro G1 ⟨sm, hacc⟩
                  rw [List.take_of_length_le (by rw [List.length_zip]; omega)] at hacc
                  refine ⟨D, _, rfl, SqL.of hacc, ?_⟩
                  have q3 := kk G1 fun b u e => sm b u (up b u e)
                  rw [decide_eq_true el, Bool.true_and] at q3
                  rw [List.all_map]
                  exact q3
          | _ =>
            refine iteT ?_
            exact kn H fun _ _ e => e
    | _ => exact iteT (k H fun _ _ e => e)
end
end My
namespace My
open PySem PySem.Spec PyProof.Rows L2
open C8 (pss_cut tCut)
abbrev s_copied : Stmt := top 20
abbrev s_is_handler : Stmt := top 32
/-- the i-th def of a class -/
def methSt (t i : Nat) : Stmt := match top t with
  | .ClassDef _ _ _ body _ _ _ _ _ _ _ => body.getD i (.Pass ⟨0, 0, 0, 0⟩)
  | _ => .Pass ⟨0, 0, 0, 0⟩
abbrev s_func : Stmt := methSt 33 0
structure BlF (mg : Str → Option Value) : Prop extends BlP mg where
  enum : mg "enumerate" = none
section
variable {P : Program} {w : World} {K : PySem.W.Frag} {mg : Str → Option Value} {base : Heap} {dP : Addr} {es : Array DictEntry} {n : Nat} {c : Nat → Addr} {cS : Addr}
theorem sc_copied : FnScope ["value", "one", "key"] ["value"] (defScope s_copied) := ⟨rfl, rfl, rfl, by decide +kernel, rfl, by decide +kernel, by decide +kernel⟩
theorem sc_func : FnScope ["self", "name", "arguments", "results", "slots", "code", "handlers", "at", "one"] ["self", "name", "arguments", "results", "slots", "code", "handlers"] (defScope s_func) := ⟨rfl, rfl, rfl, by decide +kernel, rfl, by decide +kernel, by decide +kernel⟩
theorem b_copied {f : Addr} {fd : FuncData} (F : Fun K "copied" "copied" s_copied f fd) : Binds K fd ["value"] [] := F.binds fun _ _ _ _ _ _ us hl => match us, hl with | [_], _ => rfl
theorem b_is_handler {f : Addr} {fd : FuncData} (F : Fun K "is_handler" "is_handler" s_is_handler f fd) : Binds K fd ["value", "many"] [] := F.binds fun _ _ _ _ _ _ us hl => match us, hl with | [_, _], _ => rfl
theorem b_is_instruction {f : Addr} {fd : FuncData} (F : Fun K "is_instruction" "is_instruction" s_is_instruction f fd) : Binds K fd ["value", "slots", "many"] [] := F.binds fun _ _ _ _ _ _ us hl => match us, hl with | [_, _, _], _ => rfl
def spNo : Sp := fun _ _ _ _ => False
theorem ok_no {k : Nat} {f : Addr} {fd : FuncData} {ps : List Str} : FnOk P w K mg base CX0 k f fd ps spNo := ⟨fun _ _ _ _ h => h.elim, fun _ _ _ _ _ _ _ _ _ _ _ _ _ h => h.elim⟩
/-- copied(()) -/
def spCopied0 (K : PySem.W.Frag) : Sp := fun vs H Q _ => ∃ a, vs = [.ref a] ∧ SqT K H a [] ∧ ∀ l H', H l = none → Same H H' → H' l = some (.tup []) → Q (.ref l) H'
theorem ok_copied0 {f : Addr} {fd : FuncData} (F : Fun K "copied" "copied" s_copied f fd) (gl : mg "copied" = some (.ref f)) (B : BlP mg) : FnOk P w K mg base CX0 1 f fd ["value"] (spCopied0 K) := by
  have CC : Cd P w K mg base "copied" s_copied 0 ["value"] spNo f fd := ⟨F, gl, ok_no⟩
  refine F.ok sc_copied (fun vs H Q E h => ?_) (fun cdv A outer s H vs Q E hr h => ?_)
  · obtain ⟨a, rfl, _⟩ := h
    rfl
  · obtain ⟨a, rfl, hS, k⟩ := h
    refine ⟨_, (pss_cons (ps_if (pt_val (pe_callB call_isiT (by rfl) B.isin (by decide +kernel) (pa_cons (pv 0) (pa_cons (pe_tup (pa_cons (pe_bltn (v := .ty "list") rfl B.t_list (by decide +kernel) rfl) (pa_cons (pe_bltn (v := .ty "tuple") rfl B.t_tuple (by decide +kernel) rfl) pa_nil))) pa_nil)))) (pss_one (ps_ret (pe_callTy call_tuple_of (by rfl) B.t_tuple (by decide +kernel) (pa_cons (pe_lc (own := [("one", 1)]) (g := gName 1) (tt := tYes) rfl sc_copied.nd (pi_tup (pv 0)) (blkOk_by (own := [("one", 1)]) (N := ["value", "one", "key"]) (sc := defScope s_copied) (by decide +kernel)) (fun _ _ _ _ _ => pg_name (i := 1) sc_copied.nd rfl (Or.inl rfl)) (fun _ _ _ _ _ => pts_nil) (fun _ _ _ _ _ => (pe_call CC.ok (hr.mono (by omega)) rfl CC.gl CC.F.kp (by exact b_copied CC.F) .nil pass0 (pa_cons (pv 1) pa_nil)))) pa_nil)))) pss_nil) pss_never), ?_⟩
    refine ⟨_, rfl, by show 2 ≤ sizeLine; decide, fun l hl => ?_⟩
    have up : Same H (upd H l (.tup [V.ty "list", V.ty "tuple"])) := fun b u e => by rw [upd_ne (ne_of_none e hl)]; exact e
    refine ⟨_, l, _, _, _, _, rfl, upd_same, .cons (.ty _) (.cons (.ty _) .nil), ty_of (Dv.tup (ds := []) (hS.mono up) .nil), kit_seq (.tuple []), _, rfl, ?_⟩
    refine iteT ?_
    refine ⟨_, rfl, a, rfl, ⟨_, hS.mono up⟩, fun D hD => ?_⟩
    refine lc_it (walk_tup (K := K) (a := a) (xs := [])) (fun i H' => Same (upd H l (.tup [V.ty "list", V.ty "tuple"])) H' ∧ H' D = some (.lst [])) ⟨fun b u e => by rw [upd_ne (ne_of_none e hD)]; exact e, upd_same⟩ (fun i H' _ h => (hS.mono up).mono h.1) (fun i x H' H'' hi => absurd hi (Nat.not_lt_zero _)) ?_
    rintro H1 ⟨sm, hacc⟩
    refine ⟨D, _, rfl, .inl ⟨SqL.of hacc, fun q hq => ?_⟩⟩
    have q0 : H q = none := by
      cases e : H q with
      | none => rfl
      | some u =>
        have z := sm q u (up q u e)
        rw [hq] at z
        cases z
    exact k q _ q0 (fun b u e => by
      have z := sm b u (up b u e)
      rw [upd_ne (ne_of_none z hq)]
      exact z) upd_same
end
end My

namespace My
open PySem PySem.Spec PyProof.Rows L2
open C8 (pss_cut tCut)
structure FuncT (P : Program) (w : World) (K : PySem.W.Frag) (mg : Str → Option Value) (c : Nat → Addr) (cS C : Addr) : Prop where
  er : ErT P w K mg c cS
  gA : ∃ t, mg "MOST_ARGUMENTS" = some (.int 3 t)
  gR : ∃ t, mg "MOST_RESULTS" = some (.int 2 t)
  gS : ∃ t, mg "MOST_SLOTS" = some (.int 8 t)
  gC : ∃ t, mg "MOST_CODE" = some (.int 200 t)
  gH : ∃ t, mg "MOST_HANDLERS" = some (.int 8 t)
  cls : Cls K C
  no : ∀ f ∈ (["name", "arguments", "results", "slots", "code", "handlers"] : List Str), NoAttr K C f
theorem pe_neverE {X : Cx} {e : Expr} : PE X e (fun _ _ _ => False) := ⟨fun _ _ _ _ _ _ h => h.elim⟩
def firstBad (ds : List PyData) (sl : Int) : Option Nat := ds.findIdx? fun d => !isInstr d sl ds.length
/-- Function('f', 0, 0, slots, code), code a list -/
def spFunc (K : PySem.W.Frag) (c : Nat → Addr) (C : Addr) : Sp := fun vs H Q E => ∃ (x dx cl h0 : Addr) (xs : List V) (ds : List PyData) (sl : Int), vs = [.ref x, .str "f", .int 0, .int 0, .int sl, .ref cl, .ref h0] ∧ H x = some (.ins C dx []) ∧ 0 ≤ sl ∧ sl ≤ 8 ∧ H cl = some (.lst xs) ∧ SqT K H h0 [] ∧
  DvAll K H xs ds ∧ (∀ d ∈ ds, ShortI d) ∧ 1 ≤ ds.length ∧ ds.length ≤ 200 ∧
  (firstBad ds sl = none → ∀ (H' : Hp) (t u : Addr), (∀ b o, b ≠ x → H b = some o → H' b = some o) → H' x = some (.ins C dx [("name", .str "f"), ("arguments", .int 0), ("results", .int 0), ("slots", .int sl), ("code", .ref t), ("handlers", .ref u)]) → H' t = some (.tup xs) → Q .non H') ∧
  ∀ i, firstBad ds sl = some i → ∀ (d : Addr) (H' : Hp), Same H H' → H' d = some (.xd [("at", .int (i : Nat))]) → E (.ref (c 4)) (some d) H'
section
variable {P : Program} {w : World} {K : PySem.W.Frag} {mg : Str → Option Value} {base : Heap} {c : Nat → Addr} {cS C : Addr}
theorem sqT_put {H H' : Hp} {a x : Addr} {xs : List V} {o : HO} (h : SqT K H a xs) (hx : H x = some o) (k : ∀ b u, b ≠ x → H b = some u → H' b = some u) (hn : ∀ ys, o ≠ .tup ys := by intro _ z; cases z) (hf : ∀ ob ys, o ≠ .frz ob (.tup ys) := by intro _ _ z; cases z) : SqT K H' a xs := by
  rcases h with (e | ⟨ob, e⟩) | r
  · exact .inl (.inl (k _ _ (fun z => by rw [z, hx] at e; exact hn _ (Option.some.inj e)) e))
  · exact .inl (.inr ⟨ob, k _ _ (fun z => by rw [z, hx] at e; exact hf _ _ (Option.some.inj e)) e⟩)
  · exact .inr r
theorem ok_func {f fN fB fL fS fH fC : Addr} {fd fdN fdB fdL fdS fdH fdC : FuncData} {dvs : List V} (F : FunD K "__init__" "Function.__init__" (defArgs s_func) (defBody s_func) (defScope s_func) dvs [] f fd) (T : FuncT P w K mg c cS C) (B : BlF mg)
    (CN : Cd P w K mg base "is_name" s_is_name 1 ["value"] (spName K) fN fdN) (CB : Cd P w K mg base "is_between" s_is_between 2 ["value", "least", "most"] (spBet K) fB fdB) (CL : Cd P w K mg base "is_listed" s_is_listed 1 ["value"] (spListed K) fL fdL)
    (CS : Cd P w K mg base "is_instruction" s_is_instruction 4 ["value", "slots", "many"] (spInstr K) fS fdS) (CC : Cd P w K mg base "copied" s_copied 1 ["value"] (spCopied0 K) fC fdC) :
    FnOk P w K mg base (L2.CX P w) 5 f fd ["self", "name", "arguments", "results", "slots", "code", "handlers"] (spFunc K c C) := by
  refine F.ok sc_func (fun vs H Q E h => ?_) (fun cdv A outer s H vs Q E hr h => ?_)
  · obtain ⟨x, dx, cl, h0, xs, ds, sl, rfl, _⟩ := h
    rfl
  · obtain ⟨x, dx, cl, h0, xs, ds, sl, rfl, hx, s0, s1, hcl, hh0, hA, hsh, l1, l2, kq, ke⟩ := h
    obtain ⟨iF, dF, xBF, _, zBF⟩ := T.er.one 1 (by decide)
    obtain ⟨iC, dC, xBC, _, zBC⟩ := T.er.one 4 (by decide)
    have tk : Takes (cxOf (L2.CX P w) P w K mg base ["self", "name", "arguments", "results", "slots", "code", "handlers", "at", "one"] "Function.__init__" (defScope s_func) f cdv A outer s H E) (fun cls d _ H => E cls d H) := takes_of rfl rfl rfl rfl
    have po : PassesOwn (model P w) (A.deeper (envOfC "Function.__init__" (defScope s_func) s.heap.objs.size f cdv)) (envOfC "Function.__init__" (defScope s_func) s.heap.objs.size f cdv) (cxOf (L2.CX P w) P w K mg base ["self", "name", "arguments", "results", "slots", "code", "handlers", "at", "one"] "Function.__init__" (defScope s_func) f cdv A outer s H E).xe :=
      passes_of (X := cxOf (L2.CX P w) P w K mg base ["self", "name", "arguments", "results", "slots", "code", "handlers", "at", "one"] "Function.__init__" (defScope s_func) f cdv A outer s H E) rfl
    refine ⟨_, (pss_cons (ps_if (pt_not (pt_val (pe_call CN.ok (hr.mono (by omega)) rfl CN.gl CN.F.kp (by exact b_is_name CN.F) .nil pass0 (pa_cons (pv 1) pa_nil)))) (pss_one (ps_raiseE rfl tk (xBF).cl (T.er.rz 1 (by decide)) (hr.mono (by omega)) zBF (by decide) rfl xBF.gC (pa_cons pe_str pa_nil))) pss_nil)
      (pss_cons (ps_if (pt_not (pt_val (pe_call CB.ok (hr.mono (by omega)) rfl CB.gl CB.F.kp (by exact b_is_between CB.F) .nil pass0 (pa_cons (pv 2) (pa_cons pe_int (pa_cons (pe_glob (v := .int 3) rfl T.gA.choose_spec ⟨_, rfl⟩) pa_nil)))))) (pss_one (ps_raiseE rfl tk (xBF).cl (T.er.rz 1 (by decide)) (hr.mono (by omega)) zBF (by decide) rfl xBF.gC (pa_cons pe_str pa_nil))) pss_nil)
      (pss_cons (ps_if (pt_not (pt_val (pe_call CB.ok (hr.mono (by omega)) rfl CB.gl CB.F.kp (by exact b_is_between CB.F) .nil pass0 (pa_cons (pv 3) (pa_cons pe_int (pa_cons (pe_glob (v := .int 2) rfl T.gR.choose_spec ⟨_, rfl⟩) pa_nil)))))) (pss_one (ps_raiseE rfl tk (xBF).cl (T.er.rz 1 (by decide)) (hr.mono (by omega)) zBF (by decide) rfl xBF.gC (pa_cons pe_str pa_nil))) pss_nil)
      (pss_cons (ps_if (pt_not (pt_val (pe_call CB.ok (hr.mono (by omega)) rfl CB.gl CB.F.kp (by exact b_is_between CB.F) .nil pass0 (pa_cons (pv 4) (pa_cons (pv 2) (pa_cons (pe_glob (v := .int 8) rfl T.gS.choose_spec ⟨_, rfl⟩) pa_nil)))))) (pss_one (ps_raiseE rfl tk (xBF).cl (T.er.rz 1 (by decide)) (hr.mono (by omega)) zBF (by decide) rfl xBF.gC (pa_cons pe_str pa_nil))) pss_nil)
      (pss_cons (ps_if (PW.pt (pw_or (pt_not (pt_val (pe_call CL.ok (hr.mono (by omega)) rfl CL.gl CL.F.kp (by exact b_is_listed CL.F) .nil pass0 (pa_cons (pv 5) pa_nil)))) (pw_or1 (pt_not (pt_chain op_le op_le pe_int (pe_callB call_len (by rfl) B.len (by decide +kernel) (pa_cons (pv 5) pa_nil)) (pe_glob (v := .int 200) rfl T.gC.choose_spec ⟨_, rfl⟩)))))) (pss_one (ps_raiseE rfl tk (xBF).cl (T.er.rz 1 (by decide)) (hr.mono (by omega)) zBF (by decide) rfl xBF.gC (pa_cons pe_str pa_nil))) pss_nil)
      (pss_cons (ps_for po rfl (pi_enum (by rfl) B.enum (pa_cons (pv 5) pa_nil)) (pg_tup rfl (pgs_cons (pg_name (i := 7) sc_func.nd rfl (Or.inl rfl)) (pgs_cons (pg_name (i := 8) sc_func.nd rfl (Or.inl rfl)) pgs_nil))) (pss_one (ps_if (pt_not (pt_val (pe_call CS.ok (hr.mono (by omega)) rfl CS.gl CS.F.kp (by exact b_is_instruction CS.F) .nil pass0 (pa_cons (pv 8) (pa_cons (pv 4) (pa_cons (pe_callB call_len (by rfl) B.len (by decide +kernel) (pa_cons (pv 5) pa_nil)) pa_nil)))))) (pss_one (ps_raiseE rfl tk (xBC).cl (T.er.rz 4 (by decide)) (hr.mono (by omega)) zBC (by decide) rfl xBC.gC (pa_cons (pv 7) pa_nil))) pss_nil)))
      (pss_cons (ps_if (PW.pt (pw_or (pt_not (pt_val (pe_call CL.ok (hr.mono (by omega)) rfl CL.gl CL.F.kp (by exact b_is_listed CL.F) .nil pass0 (pa_cons (pv 6) pa_nil)))) (pw_or1 (pt_cmpR op_gt (pe_callB call_len (by rfl) B.len (by decide +kernel) (pa_cons (pv 6) pa_nil)) (pe_glob (v := .int 8) rfl T.gH.choose_spec ⟨_, rfl⟩) (nomark _))))) (pss_one (ps_raiseE rfl tk (xBF).cl (T.er.rz 1 (by decide)) (hr.mono (by omega)) zBF (by decide) rfl xBF.gC (pa_cons pe_str pa_nil))) pss_nil)
      (pss_cons (ps_if (pt_not (pt_val (pe_callB (cr_all rfl) (by rfl) B.all_ (by decide +kernel) (pa_cons (pe_lc (own := [("one", 8)]) (g := gName 8) (tt := tYes) rfl sc_func.nd (pi_tup (pv 6)) (blkOk_by (own := [("one", 8)]) (N := ["self", "name", "arguments", "results", "slots", "code", "handlers", "at", "one"]) (sc := defScope s_func) (by decide +kernel)) (fun _ _ _ _ _ => pg_name (i := 8) sc_func.nd rfl (Or.inl rfl)) (fun _ _ _ _ _ => pts_nil) (fun _ _ _ _ _ => pe_neverE)) pa_nil)))) (pss_one (ps_raiseE rfl tk (xBF).cl (T.er.rz 1 (by decide)) (hr.mono (by omega)) zBF (by decide) rfl xBF.gC (pa_cons pe_str pa_nil))) pss_nil)
      (pss_cons (ps_fld (pv 0) (pv 1) rfl)
      (pss_cons (ps_fld (pv 0) (pv 2) rfl)
      (pss_cons (ps_fld (pv 0) (pv 3) rfl)
      (pss_cons (ps_fld (pv 0) (pv 4) rfl)
      (pss_cons (ps_fld (pv 0) (pe_callTy call_tuple_of (by rfl) B.t_tuple (by decide +kernel) (pa_cons (pv 5) pa_nil)) rfl)
      (pss_one (ps_fld (pv 0) (pe_call CC.ok (hr.mono (by omega)) rfl CC.gl CC.F.kp (by exact b_copied CC.F) .nil pass0 (pa_cons (pv 6) pa_nil)) rfl))))))))))))))), ?_⟩
    have nmf : isName (.str "f") = true := by decide +kernel
    refine ⟨_, rfl, .str "f", .str "f", rfl, .str _, fun y e => ?_, fun H1 sm1 => ?_⟩
    · have e' := PyData.str.inj e
      rw [← e']
      decide
    refine ⟨_, rfl, ?_⟩
    rw [nmf]
    refine iteF ?_
    refine ⟨_, rfl, _, .int 0, 0, 3, rfl, .int 0, _, rfl, ?_⟩
    refine iteF ?_
    refine ⟨_, rfl, _, .int 0, 0, 2, rfl, .int 0, _, rfl, ?_⟩
    refine iteF ?_
    have bs : isBet (.int sl) 0 8 = true := by show decide (0 ≤ sl ∧ sl ≤ 8) = true; exact decide_eq_true ⟨s0, s1⟩
    refine ⟨_, rfl, _, rfl, _, .int sl, 0, 8, rfl, .int sl, _, rfl, ?_⟩
    rw [bs]
    refine iteF ?_
    have hcl1 := sm1 _ _ hcl
    refine ⟨_, rfl, _, .list ds, rfl, .lst (SqL.of hcl1) (DvAll.mono sm1 hA), fun H2 sm2 => ⟨_, rfl, ?_⟩⟩
    refine iteF ?_
    have hcl2 := sm2 _ _ hcl1
    have lx : xs.length = ds.length := hA.length
    refine ⟨_, rfl, _, _, rfl, .inl ⟨xs, SqL.of hcl2, rfl⟩, _, _, rfl, rfl, _, rfl, ?_⟩
    refine ite2 (fun _ => ?_) (fun hz => absurd (decide_eq_true (by rw [lx]; omega)) hz)
    refine ⟨_, _, rfl, rfl, _, rfl, ?_⟩
    have e2 : decide ((xs.length : Int) ≤ 200) = true := decide_eq_true (by rw [lx]; omega)
    rw [e2]
    refine iteF ?_
    -- for at, one in enumerate(code)
    refine ⟨_, rfl, cl, xs, rfl, SqL.of hcl2, ?_⟩
    have sm02 : Same H H2 := fun b u e => sm2 b u (sm1 b u e)
    refine for_it (walk_enum (K := K) (a := cl) (xs := xs)) (fun i σ G => (∃ t7 t8, σ = [some (.ref x), some (.str "f"), some (.int 0), some (.int 0), some (.int sl), some (.ref cl), some (.ref h0), t7, t8]) ∧ Same H2 G ∧ ∀ (j : Nat) d, j < i → ds[j]? = some d → isInstr d sl ds.length = true)
      ⟨⟨_, _, rfl⟩, fun _ _ e => e, fun j d hj => absurd hj (Nat.not_lt_zero _)⟩ (fun i σ G _ h => SqL.of (h.2.1 _ _ hcl2)) ?_ ?_
    · rintro i y σ G G' hi ⟨⟨t7, t8, rfl⟩, sm, hb⟩ ⟨tt, x1, y1, rfl, ht, rfl, r1, r2⟩
      obtain rfl := Option.some.inj r1
      obtain ⟨d1, e1, h1⟩ := dv_get hA r2
      have sm3 : Same H (upd G tt (.tup [V.int (i : Nat), y1])) := fun b u e => by
        have z := sm b u (sm02 b u e)
        rw [upd_ne (ne_of_none z ht)]
        exact z
      have hcl3 := sm3 _ _ hcl
      refine ⟨tt, _, rfl, SqT.of upd_same, rfl, _, _, rfl, _, _, rfl, rfl, ?_⟩
      refine ⟨_, rfl, _, rfl, _, rfl, _, _, rfl, .inl ⟨xs, SqL.of hcl3, rfl⟩, y1, d1, sl, _, rfl, h1.mono sm3, hsh d1 (List.mem_of_getElem? e1), fun G3 s3 => ⟨_, rfl, ?_⟩⟩
      rw [lx]
      have ss : Same H G3 := fun b u e => s3 b u (sm3 b u e)
      cases hI : isInstr d1 sl ds.length with
      | true =>
        refine iteF ?_
        refine ⟨⟨_, _, rfl⟩, fun b u e => ?_, fun j d hj hd => ?_⟩
        · have z := sm b u e
          exact s3 b u (by rw [upd_ne (ne_of_none z ht)]; exact z)
        · by_cases hji : j < i
          · exact hb j d hji hd
          · have e : j = i := by omega
            rw [e, e1] at hd
            rw [← Option.some.inj hd]
            exact hI
      | false =>
        refine iteT ?_
        have il : i < ds.length := by omega
        have fb : firstBad ds sl = some i := by
          refine List.findIdx?_eq_some_iff_getElem.mpr ⟨il, ?_, fun j hj => ?_⟩
          · have z := e1
            rw [List.getElem?_eq_getElem il] at z
            rw [Option.some.inj z, hI]
            rfl
          · have z := hb j ds[j] hj (List.getElem?_eq_getElem (by omega))
            rw [z]
            decide
        refine ⟨_, rfl, rfl, fun d hd => ?_⟩
        exact ke i fb d _ (fun b u e => by
          have z := ss b u e
          rw [upd_ne (ne_of_none z hd)]
          exact z) upd_same
    · rintro σ G ⟨⟨t7, t8, rfl⟩, sm, hb⟩
      have nb : firstBad ds sl = none := by
        refine List.findIdx?_eq_none_iff.mpr fun d hd => ?_
        obtain ⟨j, hj, e⟩ := List.mem_iff_getElem.mp hd
        rw [hb j d (by omega) (by rw [List.getElem?_eq_getElem hj, e])]
        rfl
      have ss : Same H G := fun b u e => sm b u (sm02 b u e)
      refine ⟨_, rfl, _, .tuple [], rfl, .tup (hh0.mono ss) .nil, fun G1 g1 => ⟨_, rfl, ?_⟩⟩
      refine iteF ?_
      have ss1 : Same H G1 := fun b u e => g1 b u (ss b u e)
      refine ⟨_, rfl, _, _, rfl, .inr ⟨[], hh0.mono ss1, rfl⟩, _, _, rfl, rfl, _, rfl, ?_⟩
      refine iteF ?_
      refine ⟨_, rfl, h0, rfl, ⟨[], hh0.mono ss1⟩, fun D hD => ?_⟩
      refine lc_it (g := gName 8) (tt := tYes) (te := fun _ _ _ => False) (walk_tup (K := K) (a := h0) (xs := [])) (fun i H' => Same G1 H' ∧ H' D = some (.lst [])) ⟨fun b u e => by rw [upd_ne (ne_of_none e hD)]; exact e, upd_same⟩ (fun i H' _ h => (hh0.mono ss1).mono h.1) (fun i x H' H'' hi => absurd hi (Nat.not_lt_zero _)) ?_
      rintro G2 ⟨g2, hacc⟩
      refine ⟨D, [], rfl, SqL.of hacc, _, rfl, ?_⟩
      refine iteF ?_
      have ss2 : Same H G2 := fun b u e => g2 b u (ss1 b u e)
      have hx2 := ss2 _ _ hx
      have ncx : cl ≠ x := ne_of hcl hx (by intro z; cases z)
      have nf : ∀ g ∈ (["name", "arguments", "results", "slots", "code", "handlers"] : List Str), NoAttr K C g := T.no
      refine ⟨_, rfl, _, rfl, x, C, dx, _, rfl, hx2, T.cls, nf _ (by simp), by decide, ?_⟩
      refine ⟨_, rfl, _, rfl, x, C, dx, _, rfl, upd_same, T.cls, nf _ (by simp), by decide, ?_⟩
      refine ⟨_, rfl, _, rfl, x, C, dx, _, rfl, upd_same, T.cls, nf _ (by simp), by decide, ?_⟩
      refine ⟨_, rfl, _, rfl, x, C, dx, _, rfl, upd_same, T.cls, nf _ (by simp), by decide, ?_⟩
      refine ⟨_, rfl, cl, xs, rfl, .inl ⟨SqL.of (by rw [upd_ne ncx, upd_ne ncx, upd_ne ncx, upd_ne ncx]; exact ss2 _ _ hcl), fun t ht => ?_⟩⟩
      have ntx : t ≠ x := fun z => by rw [z, upd_same] at ht; cases ht
      refine ⟨_, rfl, x, C, dx, _, rfl, by rw [upd_ne ntx.symm]; exact upd_same, T.cls, nf _ (by simp), by show 4 < 1000; decide, ?_⟩
      have ht2 : G2 t = none := by rw [upd_ne ntx, upd_ne ntx, upd_ne ntx, upd_ne ntx] at ht; exact ht
      refine ⟨_, rfl, h0, rfl, sqT_put (K := K) hh0 hx (fun b u hb e => ?_), fun u H9 hu s9 hu2 => ?_⟩
      · rw [upd_ne hb, upd_ne (ne_of_none (ss2 b u e) ht2), upd_ne hb, upd_ne hb, upd_ne hb, upd_ne hb]
        exact ss2 b u e
      have hx9 := s9 x _ upd_same
      refine ⟨_, rfl, x, C, dx, _, rfl, hx9, T.cls, nf _ (by simp), by show 5 < 1000; decide, ?_⟩
      refine kq nb _ t u (fun b o hb e => ?_) upd_same ?_
      · rw [upd_ne hb]
        refine s9 b o ?_
        rw [upd_ne hb, upd_ne (ne_of_none (ss2 b o e) ht2), upd_ne hb, upd_ne hb, upd_ne hb, upd_ne hb]
        exact ss2 b o e
      · rw [upd_ne ntx]
        refine s9 t _ ?_
        rw [upd_ne ntx]
        exact upd_same
end
end My
namespace My
open PySem PySem.Spec PyProof.Rows L2
open C8 (pss_cut tCut)
/-- some, at a -/
def Sq (K : PySem.W.Frag) (H : Hp) (a : Addr) (xs : List V) : Prop := SqL K H a xs ∨ SqT K H a xs
theorem But.sqL {p : Addr} {H H' : Hp} {K : PySem.W.Frag} {a : Addr} {xs : List V} (k : But p H H') (h : a ≠ p) : SqL K H a xs → SqL K H' a xs
  | .inl (.inl e) => .inl (.inl (k _ _ h e))
  | .inl (.inr ⟨o, e⟩) => .inl (.inr ⟨o, k _ _ h e⟩)
  | .inr r => .inr r
theorem But.sqT {p : Addr} {H H' : Hp} {K : PySem.W.Frag} {a : Addr} {xs : List V} (k : But p H H') (h : a ≠ p) : SqT K H a xs → SqT K H' a xs
  | .inl (.inl e) => .inl (.inl (k _ _ h e))
  | .inl (.inr ⟨o, e⟩) => .inl (.inr ⟨o, k _ _ h e⟩)
  | .inr r => .inr r
theorem But.sq {p : Addr} {H H' : Hp} {K : PySem.W.Frag} {a : Addr} {xs : List V} (k : But p H H') (h : a ≠ p) : Sq K H a xs → Sq K H' a xs
  | .inl e => .inl (k.sqL h e)
  | .inr e => .inr (k.sqT h e)
theorem But.trans {p : Addr} {H H' H2 : Hp} (a : But p H H') (b : But p H' H2) : But p H H2 := fun c o h e => b c o h (a c o h e)
theorem But.refl {p : Addr} {H : Hp} : But p H H := fun _ _ _ e => e
theorem But.new {p q : Addr} {H : Hp} {o : HO} (h : H q = none) : But p H (upd H q o) := fun c u _ e => by rw [upd_ne (ne_of_none e h)]; exact e
/-- without the pen -/
theorem But.del {p : Addr} {H H' : Hp} (k : But p H H') : ∀ a o, delH H p a = some o → delH H' p a = some o := fun a o e => by
  by_cases h : a = p
  · rw [h, delH_same] at e
    cases e
  · rw [delH_ne h] at e ⊢
    exact k a o h e
theorem delH_sub {p : Addr} {H : Hp} : ∀ a o, delH H p a = some o → H a = some o := fun a o e => by
  by_cases h : a = p
  · rw [h, delH_same] at e
    cases e
  · rw [delH_ne h] at e
    exact e
theorem delH_of {p a : Addr} {H : Hp} {o : HO} (h : a ≠ p) (e : H a = some o) : delH H p a = some o := by rw [delH_ne h]; exact e
theorem Pen.ne {H : Hp} {p c a : Addr} {b : Nat} (h : Pen H p c b) (e : H a = none) : a ≠ p := by
  obtain ⟨ns, t, r, h1, _⟩ := h
  exact (ne_of_none h1 e).symm
theorem Pen.nec {H : Hp} {p c a : Addr} {b : Nat} (h : Pen H p c b) (e : H a = none) : a ≠ c := by
  obtain ⟨ns, t, r, h1, h2, _⟩ := h
  exact (ne_of_none h2 e).symm
theorem Pen.upd {H : Hp} {p c q : Addr} {b : Nat} {o : HO} (h : Pen H p c b) (e : H q = none) : Pen (upd H q o) p c b := h.keep fun a u z => by rw [upd_ne (ne_of_none z e)]; exact z
/-- what is new -/
def nw (H H' : Hp) : Hp := fun a => match H a with
  | none => H' a
  | some _ => none
theorem nw_of {H H' : Hp} {a : Addr} {o : HO} (h : H a = none) (e : H' a = some o) : nw H H' a = some o := by unfold nw; rw [h]; exact e
theorem nw_to {H H' : Hp} {a : Addr} {o : HO} (e : nw H H' a = some o) : H a = none ∧ H' a = some o := by
  unfold nw at e
  cases h : H a with
  | none =>
    rw [h] at e
    exact ⟨rfl, e⟩
  | some u =>
    rw [h] at e
    cases e
theorem nw_but {p c : Addr} {H H' H2 : Hp} {b : Nat} (hp : Pen H p c b) (k : But p H' H2) : ∀ a o, nw H H' a = some o → nw H H2 a = some o := fun a o e => by
  obtain ⟨h1, h2⟩ := nw_to e
  exact nw_of h1 (k a o (hp.ne h1) h2)
theorem nw_sub {p : Addr} {H0 H H' : Hp} (k : But p H0 H) (hp : H p ≠ none) : ∀ a o, nw H H' a = some o → nw H0 H' a = some o := fun a o e => by
  obtain ⟨h1, h2⟩ := nw_to e
  refine nw_of ?_ h2
  cases q : H0 a with
  | none => rfl
  | some u =>
    by_cases h : a = p
    · rw [h] at h1
      exact absurd h1 hp
    · rw [k a u h q] at h1
      cases h1
theorem But.none {p : Addr} {H H' : Hp} {a : Addr} (k : But p H H') (h : a ≠ p) (e : H' a = none) : H a = none := by
  cases q : H a with
  | none => rfl
  | some u =>
    rw [k a u h q] at e
    cases e
theorem enumK_keys {α β : Type} : ∀ {xs : List α} {ys : List β} (i : Nat), xs.length = ys.length → ((enumK i xs).map fun p => kD p.1) = (enumK i ys).map fun p => kD p.1
  | [], [], _, _ => rfl
  | x :: xs, y :: ys, i, h => by
    show kD (.inl (i : Int)) :: _ = kD (.inl (i : Int)) :: _
    rw [enumK_keys (xs := xs) (ys := ys) (i + 1) (by simpa using h)]
theorem dv_snoc {K : PySem.W.Frag} {H : Hp} {v : V} {d : PyData} (h : Dv K H v d) : ∀ {vs : List V} {ds : List PyData}, DvAll K H vs ds → DvAll K H (vs ++ [v]) (ds ++ [d])
  | _, _, .nil => .cons h .nil
  | _, _, .cons a b => .cons a (dv_snoc h b)
def spPick (K : PySem.W.Frag) : Sp := fun vs H Q _ => ∃ (p c a : Addr) (b : Nat) (xs : List V), vs = [.ref p, .ref a] ∧ a ≠ p ∧ Sq K H a xs ∧ 0 < xs.length ∧ xs.length ≤ 1099511627776 ∧ Pen H p c (b + 1) ∧
  ∀ (i : Nat) x H', xs[i]? = some x → But p H H' → Pen H' p c b → Q x H'
section
variable {P : Program} {w : World} {K : PySem.W.Frag} {mg : Str → Option Value} {base : Heap}
theorem bindsDraw {f : Addr} {fd : FuncData} (F : Fun K "_law_draw" "_law_draw" sDraw f fd) : Binds K fd ["pen", "many"] [] := F.binds fun _ _ _ _ _ _ us hl => match us, hl with | [_, _], _ => rfl
theorem bindsPick {f : Addr} {fd : FuncData} (F : Fun K "_law_pick" "_law_pick" sPick f fd) : Binds K fd ["pen", "some"] [] := F.binds fun _ _ _ _ _ _ us hl => match us, hl with | [_, _], _ => rfl
theorem bindsPen {f : Addr} {fd : FuncData} (F : Fun K "_law_pen" "_law_pen" sPen f fd) : Binds K fd ["script"] [] := F.binds fun _ _ _ _ _ _ us hl => match us, hl with | [_], _ => rfl
theorem scPick : FnScope ["pen", "some"] ["pen", "some"] (defScope sPick) := ⟨rfl, rfl, rfl, by decide +kernel, rfl, by decide +kernel, by decide +kernel⟩
/-- what a call of the drawing function may be built on -/
structure DrawF (P : Program) (w : World) (K : PySem.W.Frag) (mg : Str → Option Value) (base : Heap) (f : Addr) (fd : FuncData) : Prop where
  F : Fun K "_law_draw" "_law_draw" sDraw f fd
  gl : mg "_law_draw" = some (.ref f)
  ok : FnOk P w K mg base CX0 1 f fd ["pen", "many"] spDraw
theorem ok_pick {f fD : Addr} {fd fdD : FuncData} (F : Fun K "_law_pick" "_law_pick" sPick f fd) (D : DrawF P w K mg base fD fdD) (B : Bl mg) : FnOk P w K mg base CX0 2 f fd ["pen", "some"] (spPick K) := by
  refine F.ok scPick (fun vs H Q E h => ?_) (fun cdv A outer s H vs Q E hr h => ?_)
  · obtain ⟨p, c, a, b, xs, rfl, _⟩ := h
    rfl
  · obtain ⟨p, c, a, b, xs, rfl, nap, hS, l0, l1, hP, k⟩ := h
    have bD := bindsDraw D.F
    refine ⟨_, (pss_one (ps_ret (pe_ix ix_seq (pv 1) (pe_call D.ok (hr.mono (by omega)) rfl D.gl D.F.kp bD .nil pass0 (pa_cons (pv 0) (pa_cons (pe_callB call_len_seq (by rfl) B.len (by decide +kernel) (pa_cons (pv 1) pa_nil)) pa_nil))) (fun _ _ => rfl)))), ?_⟩
    refine ⟨_, rfl, _, rfl, _, rfl, a, xs, rfl, hS, ?_⟩
    refine ⟨p, c, b, _, rfl, hP, (by omega), (by omega), fun r H' r0 r1 kb hp' => ?_⟩
    have hS' := kb.sq nap hS
    have hi : r.toNat < xs.length := by omega
    have z := k r.toNat xs[r.toNat] H' (List.getElem?_eq_getElem hi) kb hp'
    have hat : atI xs r = some xs[r.toNat] := at_of (j := r.toNat) (by omega) (List.getElem?_eq_getElem hi)
    rcases hS' with e | e
    · exact .inl ⟨a, xs, r, _, rfl, rfl, e, hat, z⟩
    · exact .inr (.inl ⟨a, xs, r, _, rfl, rfl, e, hat, z⟩)
end
end My

namespace L2
open PySem PySem.Spec PyProof.Rows
section
variable {X : Cx}
/-- d.update(o), two dicts -/
def rDUpd : V → List V → Hp → VK → Prop := fun x vs H Q => ∃ (d o : Addr) (kvs more : List (Key × V)), x = .ref d ∧ vs = [.ref o] ∧ d ≠ o ∧ H d = some (.dK kvs) ∧ H o = some (.dK more) ∧ kvs.length + more.length ≤ sizeLine ∧ Q .non (upd H d (.dK (mergeK kvs more)))
theorem mt_dupd : MtR X "dict.update" rDUpd := by
  intro pins s σ H x vs v us Q I rx rv h
  obtain ⟨d, o, kvs, more, rfl, rfl, ne, hd, ho, hz, q⟩ := h
  cases rx
  obtain ⟨u, rfl, ru⟩ := rv.one
  cases ru
  obtain ⟨z1, n1, vs1, r1, D1⟩ := dk_of I.hok hd
  obtain ⟨z2, n2, vs2, r2, D2⟩ := dk_of I.hok ho
  refine call_meetsIn PySem.F.slot_dict_update D1.typeIs PySem.F.entry_dict_update (PySem.F.args_dict_update_2 _ _) (meets_dict_update (mixKind X.prog X.w) d o ne n2) ⟨vs1, vs2, D1, D2, ?_, fun h' m1 m2 hs => ?_⟩
  · rw [← r1.length, ← r2.length]
    exact hz
  · have hl : (mergeK kvs more).length ≤ sizeLine := Nat.le_trans (length_mergeK more kvs) (by omega)
    have ob : ObjOk X.prog X.w (upd H d (.dK (mergeK kvs more))) h' d (.dK (mergeK kvs more)) := ⟨hl, n1, merged vs1 vs2, KV.merge r2 r1, m1⟩
    exact ⟨.non, _, I.write (x := d) (e := d) (t' := s.toks) (by rw [hd]; exact trivial) (.inl rfl) (fun b u hb e => (hs.2 b hb).trans e) ⟨_, m1.choose_spec.choose_spec.choose_spec.1⟩ ob, rfl, q⟩
end
end L2

namespace My
open PySem PySem.Spec PyProof.Rows L2
open C8 (pss_cut tCut)
abbrev s_law_part : Stmt := top 39
def kinds5 : List Str := ["name", "number", "slot", "place", "field"]
def spPartD (K : PySem.W.Frag) : Sp := fun vs H Q _ => ∃ (p l : Addr) (b : Nat) (kind : Str) (slots many : Int), vs = [.ref p, .str kind, .int slots, .int many] ∧ kind ∈ kinds5 ∧ 0 ≤ slots ∧ slots ≤ 9 ∧ 1 ≤ many ∧ many ≤ 9 ∧ Pen H p l (b + 2) ∧
  ∀ (t : Addr) (v : V) (d : PyData) (H' : Hp), Short d → Dv K (nw H H') v d → nw H H' t = some (.tup [v, .bl (isPart d kind slots many)]) → But p H H' → Pen H' p l b → Q (.ref t) H'
def mostOf (kind : Str) (slots many : Int) : Int := if kind = ("number" : Str) then 4294967295 else if kind = ("field" : Str) then 3 else (if kind = ("slot" : Str) then slots else many) - 1
def names5 : List V := [.str "a", .str "int", .str "abcdefgh", .str "full", .str "main"]
section
variable {P : Program} {w : World} {K : PySem.W.Frag} {mg : Str → Option Value} {base : Heap}
theorem sc_law_part : FnScope ["pen", "kind", "slots", "many", "value", "most"] ["pen", "kind", "slots", "many"] (defScope s_law_part) := ⟨rfl, rfl, rfl, by decide +kernel, rfl, by decide +kernel, by decide +kernel⟩
theorem b_law_part {f : Addr} {fd : FuncData} (F : Fun K "_law_part" "_law_part" s_law_part f fd) : Binds K fd ["pen", "kind", "slots", "many"] [] := F.binds fun _ _ _ _ _ _ us hl => match us, hl with | [_, _, _, _], _ => rfl
theorem un2' {H : Hp} {a b : Addr} {o : HO} (h : upd H a o b = none) : H b = none ∧ b ≠ a := by
  by_cases e : b = a
  · rw [e, upd_same] at h
    cases h
  · rw [upd_ne e] at h
    exact ⟨h, e⟩
theorem isPart_name (d : PyData) (slots many : Int) : isPart d "name" slots many = isName d := if_pos rfl
theorem short_of {d : PyData} (h : ∀ x, d ≠ .str x) : Short d := fun x e => absurd e (h x)
theorem short_str {x : Str} (h : x.cps.size ≤ 1000) : Short (.str x) := fun y e => by
  rw [← PyData.str.inj e]
  exact h
theorem ok_law_part {f fD fK : Addr} {fd fdD fdK : FuncData} (F : Fun K "_law_part" "_law_part" s_law_part f fd) (D : DrawF P w K mg base fD fdD) (CK : Cd P w K mg base "_law_pick" sPick 2 ["pen", "some"] (spPick K) fK fdK) (B : BlC mg) :
    FnOk P w K mg base CX0 3 f fd ["pen", "kind", "slots", "many"] (spPartD K) := by
  refine F.ok sc_law_part (fun vs H Q E h => ?_) (fun cdv A outer s H vs Q E hr h => ?_)
  · obtain ⟨p, l, b, kind, slots, many, rfl, _⟩ := h
    rfl
  · obtain ⟨p, l, b, kind, slots, many, rfl, hk, s0, s1, m0, m1, hP, k⟩ := h
    refine ⟨_, (pss_cons (ps_if (pt_cmpR op_eq (pv 1) pe_str (nomark _)) (pss_cons (ps_set (i := 4) sc_law_part.nd rfl (Or.inl rfl) (pe_call CK.ok (hr.mono (by omega)) rfl CK.gl CK.F.kp (bindsPick CK.F) .nil pass0 (pa_cons (pv 0) (pa_cons (pe_lst (pa_cons pe_str (pa_cons pe_str (pa_cons pe_str (pa_cons pe_str (pa_cons pe_str (pa_cons pe_str (pa_cons pe_str (pa_cons pe_str (pa_cons pe_non (pa_cons pe_int (pa_cons pe_str (pa_cons (pe_tup (pa_cons pe_str pa_nil)) (pa_cons pe_bl pa_nil)))))))))))))) pa_nil))))
      (pss_one (ps_ret (pe_tup (pa_cons (pv 4) (pa_cons (pe_and (pe_callB call_isi (by rfl) B.isin (by decide +kernel) (pa_cons (pv 4) (pa_cons (pe_bltn (v := .ty "str") rfl B.t_str (by decide +kernel) rfl) pa_nil))) (pe_one (pe_cmpR op_in_seq (pv 4) (pe_tup (pa_cons pe_str (pa_cons pe_str (pa_cons pe_str (pa_cons pe_str (pa_cons pe_str pa_nil)))))) (by rfl)))) pa_nil)))))) pss_nil)
      (pss_cut (ps_set (i := 5) sc_law_part.nd rfl (Or.inl rfl) (pe_dget (hu_of hr) (pe_disp (pps_cons pe_str pe_int (pps_cons pe_str (pe_op op_sub (pv 2) pe_int) (pps_cons pe_str (pe_op op_sub (pv 3) pe_int) (pps_cons pe_str pe_int pps_nil)))) rfl rfl (by decide) (by decide)) (pv 1) (fun _ _ => rfl)))
      (pss_cons (ps_set (i := 4) sc_law_part.nd rfl (Or.inl rfl) (pe_call CK.ok (hr.mono (by omega)) rfl CK.gl CK.F.kp (bindsPick CK.F) .nil pass0 (pa_cons (pv 0) (pa_cons (pe_lst (pa_cons pe_int (pa_cons (pv 5) (pa_cons (pe_op op_add (pv 5) pe_int) (pa_cons (pe_un un_neg pe_int) (pa_cons pe_bl (pa_cons pe_non (pa_cons pe_str (pa_cons (pe_call D.ok (hr.mono (by omega)) rfl D.gl D.F.kp (bindsDraw D.F) .nil pass0 (pa_cons (pv 0) (pa_cons pe_int pa_nil))) (pa_cons (pe_tup (pa_cons pe_int pa_nil)) pa_nil)))))))))) pa_nil))))
      (pss_one (ps_ret (pe_tup (pa_cons (pv 4) (pa_cons (pe_and (pe_callB call_isi (by rfl) B.isin (by decide +kernel) (pa_cons (pv 4) (pa_cons (pe_bltn (v := .ty "int") rfl B.t_int (by decide +kernel) rfl) pa_nil))) (pe_and (pe_not (pe_callB call_isi (by rfl) B.isin (by decide +kernel) (pa_cons (pv 4) (pa_cons (pe_bltn (v := .ty "bool") rfl B.t_bool (by decide +kernel) rfl) pa_nil)))) (pe_one (pe_chain op_le op_le pe_int (pv 4) (pv 5))))) pa_nil)))))))), ?_⟩
    refine ⟨_, rfl, rfl, _, rfl, ?_⟩
    refine ite2 (fun hz => ?_) (fun hz => ?_)
    · have ek := dec_str.mp hz
      subst ek
      refine ⟨_, rfl, ?_⟩
      refine ⟨by show 1 ≤ sizeLine; decide, fun q hq => ?_⟩
      refine ⟨by show 13 ≤ sizeLine; decide, fun l1 hl1 => ?_⟩
      have nlq : l1 ≠ q := (un2' hl1).2
      have hl0 : H l1 = none := (un2' hl1).1
      have nlp : l1 ≠ p := hP.ne hl0
      have nqp : q ≠ p := hP.ne hq
      have hP1 : Pen (upd (upd H q (.tup [V.str "a"])) l1 (.lst [V.str "a", V.str "int", V.str "abcdefgh", V.str "full", V.str "main", V.str "", V.str "A", V.str "abcdefghi", V.non, V.int 5, V.str "a1", V.ref q, V.bl true])) p l (b + 2) := (hP.upd hq).upd hl1
      refine ⟨p, l, l1, b, _, rfl, nlp, .inl (SqL.of upd_same), by show 0 < 13; decide, by show 13 ≤ 1099511627776; decide, hP1.less (by omega), fun i x H2 hx kb hp2 => ?_⟩
      have kb2 : But p H H2 := ((But.new hq).trans (But.new hl1)).trans kb
      have hq2 : H2 q = some (.tup [V.str "a"]) := kb q _ nqp (by rw [upd_ne nlq.symm, upd_same])
      have fin : ∀ d, Short d → Dv K (nw H H2) x d → (∀ z, d = .str z → inV (.str z) names5 = isName d) → (dStr d = false → isName d = false) → tRet (tTup (tCons (tVar 4) (tCons (tAndV (tCB (rIsi K) (tCons (tVar 4) (tCons (tC (.ty "str")) tNil))) (tOp (rIn K false) (tVar 4) (tTup (tCons (tC (.str "a")) (tCons (tC (.str "int")) (tCons (tC (.str "abcdefgh")) (tCons (tC (.str "full")) (tCons (tC (.str "main")) tNil)))))))) tNil)))
          { nx := fun _ H' => Q .non H', rt := Q } [some (.ref p), some (.str "name"), some (.int slots), some (.int many), some x, none] H2 := by
        intro d hs hd h1 h2
        have hd2 : Dv K H2 x d := hd.mono fun a o e => (nw_to e).2
        refine ⟨_, rfl, _, rfl, _, _, _, _, _, rfl, .ty _, ty_of hd2, kit_str d, _, rfl, ?_⟩
        cases d with
        | str z =>
          cases hd2
          refine iteT ?_
          refine ⟨_, rfl, by show 5 ≤ sizeLine; decide, fun q2 hq2 => ⟨q2, names5, rfl, .inr (SqT.of upd_same), rfl, rfl, ?_⟩⟩
          refine ⟨by show 2 ≤ sizeLine; decide, fun t ht => ?_⟩
          have kb3 : But p H (upd (upd H2 q2 (.tup names5)) t (.tup [V.str z, V.bl (inV (V.str z) names5)])) := (kb2.trans (But.new hq2)).trans (But.new ht)
          have ht0 : H t = none := by
            have e1 := (un2' ht).1
            exact kb2.none (hp2.ne e1) e1
          refine k t _ (.str z) _ hs (.str z) ?_ kb3 ((hp2.upd hq2).upd ht)
          rw [isPart_name, ← h1 z rfl]
          exact nw_of ht0 upd_same
        | _ =>
          refine iteF ?_
          refine ⟨by show 2 ≤ sizeLine; decide, fun t ht => ?_⟩
          have kb3 : But p H (upd H2 t (.tup [x, V.bl false])) := kb2.trans (But.new ht)
          have ht0 : H t = none := kb2.none (hp2.ne ht) ht
          refine k t _ _ _ hs (hd.mono (nw_but hP (But.new ht))) ?_ kb3 (hp2.upd ht)
          rw [isPart_name, h2 rfl]
          exact nw_of ht0 upd_same
      have hm := List.mem_of_getElem? hx
      simp only [List.mem_cons, List.not_mem_nil, or_false] at hm
      rcases hm with rfl | rfl | rfl | rfl | rfl | rfl | rfl | rfl | rfl | rfl | rfl | rfl | rfl
      · exact fin _ (short_str (by decide)) (Dv.str _) (fun y e => by rw [← PyData.str.inj e]; decide +kernel) (fun e => by cases e)
      · exact fin _ (short_str (by decide)) (Dv.str _) (fun y e => by rw [← PyData.str.inj e]; decide +kernel) (fun e => by cases e)
      · exact fin _ (short_str (by decide)) (Dv.str _) (fun y e => by rw [← PyData.str.inj e]; decide +kernel) (fun e => by cases e)
      · exact fin _ (short_str (by decide)) (Dv.str _) (fun y e => by rw [← PyData.str.inj e]; decide +kernel) (fun e => by cases e)
      · exact fin _ (short_str (by decide)) (Dv.str _) (fun y e => by rw [← PyData.str.inj e]; decide +kernel) (fun e => by cases e)
      · exact fin _ (short_str (by decide)) (Dv.str _) (fun y e => by rw [← PyData.str.inj e]; decide +kernel) (fun e => by cases e)
      · exact fin _ (short_str (by decide)) (Dv.str _) (fun y e => by rw [← PyData.str.inj e]; decide +kernel) (fun e => by cases e)
      · exact fin _ (short_str (by decide)) (Dv.str _) (fun y e => by rw [← PyData.str.inj e]; decide +kernel) (fun e => by cases e)
      · exact fin .none (short_of fun y e => by cases e) .non (fun y e => by cases e) fun _ => rfl
      · exact fin (.int 5) (short_of fun y e => by cases e) (.int 5) (fun y e => by cases e) fun _ => rfl
      · exact fin _ (short_str (by decide)) (Dv.str _) (fun y e => by rw [← PyData.str.inj e]; decide +kernel) (fun e => by cases e)
      · exact fin (.tuple [.str "a"]) (short_of fun y e => by cases e) (.tup (SqT.of (nw_of hq hq2)) (.cons (.str _) .nil)) (fun y e => by cases e) fun _ => rfl
      · exact fin (.bool true) (short_of fun y e => by cases e) (.bl true) (fun y e => by cases e) fun _ => rfl
    · have hkn : kind ≠ "name" := fun e => hz (dec_str.mpr e)
      -- most
      refine ⟨fun σ G => σ = [some (.ref p), some (.str kind), some (.int slots), some (.int many), none, some (.int (mostOf kind slots many))] ∧ But p H G ∧ Pen G p l (b + 2), ?_, ?_⟩
      · intro q hq
        refine ⟨_, rfl, _, _, rfl, rfl, _, rfl, _, _, rfl, rfl, ?_⟩
        refine ⟨upd_same, [(.inr "number", .int 4294967295), (.inr "slot", .int (slots - 1)), (.inr "place", .int (many - 1)), (.inr "field", .int 3)], rfl, by show 4 ≤ 15; decide, ?_⟩
        refine ⟨_, rfl, q, .int (mostOf kind slots many), rfl, .inl ⟨_, .inr kind, .inl upd_same, rfl, ?_⟩, ?_⟩
        · simp only [kinds5, List.mem_cons, List.not_mem_nil, or_false] at hk
          rcases hk with rfl | rfl | rfl | rfl | rfl
          · exact absurd rfl hkn
          · rfl
          · rfl
          · rfl
          · rfl
        · refine ⟨rfl, fun a o ha e => ?_, ?_⟩
          · have na : a ≠ q := ne_of_none e hq
            rw [upd_ne na, upd_ne na]
            exact e
          · rw [upd_upd]
            exact hP.upd hq
      · rintro σ G ⟨rfl, kb, hP0⟩
        have bp : (fun d => isPart d kind slots many) = fun d => isBet d 0 (mostOf kind slots many) := by
          funext d
          simp only [kinds5, List.mem_cons, List.not_mem_nil, or_false] at hk
          rcases hk with rfl | rfl | rfl | rfl | rfl
          · exact absurd rfl hkn
          · rfl
          · rfl
          · rfl
          · rfl
        generalize mostOf kind slots many = m at bp
        refine ⟨_, rfl, _, rfl, _, rfl, _, _, rfl, rfl, _, rfl, ?_⟩
        refine ⟨_, rfl, p, l, b + 1, 9, rfl, hP0.less (by omega), by decide, by decide, fun r G1 r0 r1 kb1 hp1 => ?_⟩
        refine ⟨by show 1 ≤ sizeLine; decide, fun q hq => ?_⟩
        refine ⟨by show 9 ≤ sizeLine; decide, fun l1 hl1 => ?_⟩
        have nlq : l1 ≠ q := (un2' hl1).2
        have nlp : l1 ≠ p := hp1.ne (un2' hl1).1
        have nqp : q ≠ p := hp1.ne hq
        have hP1 : Pen (upd (upd G1 q (.tup [V.int 0])) l1 (.lst [V.int 0, V.int m, V.int (m + 1), V.int (-1), V.bl true, V.non, V.str "0", V.int r, V.ref q])) p l (b + 1) := (hp1.upd hq).upd hl1
        refine ⟨p, l, l1, b, _, rfl, nlp, .inl (SqL.of upd_same), by show 0 < 9; decide, by show 9 ≤ 1099511627776; decide, hP1, fun i x H2 hx kb3 hp2 => ?_⟩
        have kb4 : But p H H2 := ((kb.trans kb1).trans ((But.new hq).trans (But.new hl1))).trans kb3
        have hq2 : H2 q = some (.tup [V.int 0]) := kb3 q _ nqp (by rw [upd_ne nlq.symm, upd_same])
        have hq0 : H q = none := (kb.trans kb1).none nqp hq
        have fin : ∀ d, Short d → Dv K (nw H H2) x d → tRet (tTup (tCons (tVar 4) (tCons (tAndV (tCB (rIsi K) (tCons (tVar 4) (tCons (tC (.ty "int")) tNil))) (tAndV (tNotV (tCB (rIsi K) (tCons (tVar 4) (tCons (tC (.ty "bool")) tNil)))) (tChain (rI0 fun i j => .bl (decide (i ≤ j))) (rI0 fun i j => .bl (decide (i ≤ j))) (tC (.int 0)) (tVar 4) (tVar 5)))) tNil)))
            { nx := fun _ H' => Q .non H', rt := Q } [some (.ref p), some (.str kind), some (.int slots), some (.int many), some x, some (.int m)] H2 := by
          intro d hs hd
          have hd2 : Dv K H2 x d := hd.mono fun a o e => (nw_to e).2
          have out : ∀ c : Bool, isBet d 0 m = c → ∀ t, H2 t = none → Q (.ref t) (upd H2 t (.tup [x, .bl c])) := fun c ec t ht => by
            have ht0 : H t = none := kb4.none (hp2.ne ht) ht
            refine k t x d _ hs (hd.mono (nw_but hP (But.new ht))) ?_ (kb4.trans (But.new ht)) (hp2.upd ht)
            have e : isPart d kind slots many = isBet d 0 m := congrFun bp d
            rw [e, ec]
            exact nw_of ht0 upd_same
          refine ⟨_, rfl, _, rfl, _, _, _, _, _, rfl, .ty _, ty_of hd2, kit_int d, _, rfl, ?_⟩
          cases d with
          | int i =>
            cases hd2
            refine iteT ?_
            refine ⟨_, rfl, _, _, _, _, _, rfl, .ty _, ty_of (.int i), kit_bool (.int i), _, rfl, _, rfl, ?_⟩
            refine iteT ?_
            refine ⟨_, rfl, _, _, rfl, rfl, _, rfl, ?_⟩
            refine ite2 (fun h0 => ?_) (fun h0 => ?_)
            · have h0' : (0 : Int) ≤ i := of_decide_eq_true h0
              refine ⟨_, rfl, _, _, rfl, rfl, by show 2 ≤ sizeLine; decide, fun t ht => out _ ?_ t ht⟩
              show decide (0 ≤ i ∧ i ≤ m) = decide (i ≤ m)
              simp [h0']
            · have h0' : ¬ (0 : Int) ≤ i := fun e => h0 (decide_eq_true e)
              refine ⟨by show 2 ≤ sizeLine; decide, fun t ht => out _ ?_ t ht⟩
              show decide (0 ≤ i ∧ i ≤ m) = false
              simp [h0']
          | bool c =>
            cases hd2
            refine iteT ?_
            refine ⟨_, rfl, _, _, _, _, _, rfl, .ty _, ty_of (.bl c), kit_bool (.bool c), _, rfl, _, rfl, ?_⟩
            refine iteF ?_
            exact ⟨by show 2 ≤ sizeLine; decide, fun t ht => out _ rfl t ht⟩
          | _ =>
            refine iteF ?_
            exact ⟨by show 2 ≤ sizeLine; decide, fun t ht => out _ rfl t ht⟩
        have hm := List.mem_of_getElem? hx
        simp only [List.mem_cons, List.not_mem_nil, or_false] at hm
        rcases hm with rfl | rfl | rfl | rfl | rfl | rfl | rfl | rfl | rfl
        · exact fin (.int _) (short_of fun y e => by cases e) (.int _)
        · exact fin (.int _) (short_of fun y e => by cases e) (.int _)
        · exact fin (.int _) (short_of fun y e => by cases e) (.int _)
        · exact fin (.int _) (short_of fun y e => by cases e) (.int _)
        · exact fin (.bool true) (short_of fun y e => by cases e) (.bl true)
        · exact fin .none (short_of fun y e => by cases e) .non
        · exact fin (.str "0") (short_str (by decide)) (.str _)
        · exact fin (.int _) (short_of fun y e => by cases e) (.int _)
        · exact fin (.tuple [.int 0]) (short_of fun y e => by cases e) (.tup (SqT.of (nw_of hq0 hq2)) (.cons (.int _) .nil))
end
end My

namespace My
open PySem PySem.Spec PyProof.Rows L2
/-! ### a dict display of lists of texts -/
abbrev Row := Str × List Str
def Rows (G : Hp) : List Row → List Addr → Prop
  | [], [] => True
  | r :: rs, a :: as => G a = some (.lst (r.2.map V.str)) ∧ Rows G rs as
  | _, _ => False
def prOf (rows : List Row) (as : List Addr) : List (V × V) := (rows.zip as).map fun x => (V.str x.1.1, V.ref x.2)
def kvOf (rows : List Row) (as : List Addr) : List (Key × V) := (rows.zip as).map fun x => ((.inr x.1.1 : Key), V.ref x.2)
def strsT : List Str → TA
  | [] => tNil
  | x :: xs => tCons (tC (.str x)) (strsT xs)
def rowT (r : Row) : TE × TE := (tC (.str r.1), tLst (strsT r.2))
theorem strs_gen {σ : L2.St} {H : Hp} : ∀ (xs : List Str) {Q : List V → Hp → Prop}, Q (xs.map V.str) H → strsT xs σ H Q
  | [], _, q => q
  | _ :: xs, _, q => strs_gen xs q
theorem same_new {H : Hp} {q : Addr} {o : HO} (h : H q = none) : Same H (upd H q o) := fun b u e => by rw [upd_ne (ne_of_none e h)]; exact e
theorem Same.tr {H G F : Hp} (a : Same H G) (b : Same G F) : Same H F := fun c u e => b c u (a c u e)
theorem rows_gen {σ : L2.St} : ∀ (rows : List Row) {H : Hp} {Q : List (V × V) → Hp → Prop}, (∀ r ∈ rows, r.2.length ≤ 1000) → (∀ as G, Rows G rows as → Same H G → (∀ a ∈ as, H a = none) → Q (prOf rows as) G) → tPairs (rows.map rowT) σ H Q
  | [], H, Q, _, k => k [] H trivial (fun _ _ e => e) fun _ h => nomatch h
  | r :: rs, H, Q, hz, k => by
    show strsT r.2 σ H fun xs H1 => xs.length ≤ sizeLine ∧ ∀ p, H1 p = none → tPairs (rs.map rowT) σ (upd H1 p (.lst xs)) fun ps H3 => Q ((.str r.1, .ref p) :: ps) H3
    refine strs_gen r.2 ⟨?_, fun p hp => ?_⟩
    · rw [List.length_map]
      exact Nat.le_of_lt (small1000 (hz r List.mem_cons_self))
    · refine rows_gen rs (fun x hx => hz x (List.mem_cons_of_mem _ hx)) fun as G hr sm hn => ?_
      refine k (p :: as) G ⟨sm _ _ upd_same, hr⟩ (Same.tr (same_new hp) sm) fun a ha => ?_
      rcases List.mem_cons.mp ha with e | e
      · rw [e]; exact hp
      · have z := hn a e
        by_cases h : a = p
        · rw [h]; exact hp
        · rw [upd_ne h] at z
          exact z
theorem Rows.mono {H G : Hp} (k : Same H G) : ∀ {rows : List Row} {as : List Addr}, Rows H rows as → Rows G rows as
  | [], [], _ => trivial
  | _ :: _, _ :: _, h => ⟨k _ _ h.1, Rows.mono k h.2⟩
theorem Rows.set {H : Hp} {d : Addr} {o : HO} : ∀ {rows : List Row} {as : List Addr}, d ∉ as → Rows H rows as → Rows (upd H d o) rows as
  | [], [], _, _ => trivial
  | _ :: _, a :: as, n, h => ⟨by rw [upd_ne fun e => n (by rw [e]; exact List.mem_cons_self)]; exact h.1, Rows.set (fun e => n (List.mem_cons_of_mem _ e)) h.2⟩
theorem Rows.app {H : Hp} {r2 : List Row} {bs : List Addr} (h2 : Rows H r2 bs) : ∀ {rows : List Row} {as : List Addr}, Rows H rows as → Rows H (rows ++ r2) (as ++ bs)
  | [], [], _ => h2
  | _ :: _, _ :: _, h => ⟨h.1, Rows.app h2 h.2⟩
theorem Rows.length {H : Hp} : ∀ {rows : List Row} {as : List Addr}, Rows H rows as → as.length = rows.length
  | [], [], _ => rfl
  | _ :: _, _ :: _, h => congrArg Nat.succ (Rows.length h.2)
theorem Rows.get {H : Hp} {z : Str} {ks : List Str} : ∀ {rows : List Row} {as : List Addr}, Rows H rows as → rows.lookup z = some ks → ∃ a, valV (kvOf rows as) (.inr z) = some (.ref a) ∧ H a = some (.lst (ks.map V.str))
  | [], [], _, h => by cases h
  | r :: rs, a :: as, h, e => by
    rw [List.lookup_cons] at e
    show ∃ a', (((((Sum.inr r.1 : Key), V.ref a) :: kvOf rs as).find? fun kv => decide (kv.1 = (Sum.inr z : Key))).map (·.2)) = some (.ref a') ∧ _
    by_cases q : z = r.1
    · rw [q, beq_self_eq_true] at e
      have e' := Option.some.inj e
      refine ⟨a, ?_, ?_⟩
      · rw [List.find?_cons_of_pos (by simp [q])]
        rfl
      · rw [← e']
        exact h.1
    · rw [beq_false_of_ne q] at e
      obtain ⟨b, e1, e2⟩ := Rows.get h.2 e
      refine ⟨b, ?_, e2⟩
      rw [List.find?_cons_of_neg (by simp [Ne.symm q])]
      exact e1
end My

namespace My
open PySem PySem.Spec PyProof.Rows L2
theorem pen_set {H : Hp} {p l a : Addr} {b : Nat} {o : HO} (h : Pen H p l b) (n1 : a ≠ p) (n2 : a ≠ l) : Pen (upd H a o) p l b := by
  obtain ⟨ns, t, r, q1, q2, q3⟩ := h
  exact ⟨ns, t, r, by rw [upd_ne n1.symm]; exact q1, by rw [upd_ne n2.symm]; exact q2, q3⟩
theorem cat_gen {K : PySem.W.Frag} {G : Hp} {a b : Addr} {xs ys : List V} {Q : V → Hp → Prop} (ha : G a = some (.tup xs)) (hb : G b = some (.tup ys)) (hz : xs.length + ys.length ≤ sizeLine)
    (k : ∀ c G', G' c = some (.tup (xs ++ ys)) → Same G G' → (c = a ∨ c = b ∨ G c = none) → Q (.ref c) G') : rCatA K (.ref a) (.ref b) G Q := by
  refine ⟨a, b, xs, ys, rfl, rfl, SqT.of ha, SqT.of hb, hz, fun e => ?_, fun _ e => ?_, fun _ _ p hp => ?_⟩
  · exact k b G (by rw [e]; exact hb) (fun _ _ e => e) (.inr (.inl rfl))
  · exact k a G (by rw [e, List.append_nil]; exact ha) (fun _ _ e => e) (.inl rfl)
  · exact k p _ upd_same (same_new hp) (.inr (.inr hp))
/-! ### the parts that were drawn -/
def POk (K : PySem.W.Frag) (H G : Hp) (slots many : Int) : List Str → List Addr → List V → List PyData → Prop
  | [], [], [], [] => True
  | z :: zs, t :: ts, v :: vs, d :: ds => nw H G t = some (.tup [v, .bl (isPart d z slots many)]) ∧ Dv K (nw H G) v d ∧ Short d ∧ POk K H G slots many zs ts vs ds
  | _, _, _, _ => False
section
variable {K : PySem.W.Frag} {H G G' : Hp} {slots many : Int}
theorem POk.mono {H2 : Hp} (k : ∀ a o, nw H G a = some o → nw H2 G' a = some o) : ∀ {zs : List Str} {ts : List Addr} {vs : List V} {ds : List PyData}, POk K H G slots many zs ts vs ds → POk K H2 G' slots many zs ts vs ds
  | [], [], [], [], _ => trivial
  | _ :: _, _ :: _, _ :: _, _ :: _, h => ⟨k _ _ h.1, h.2.1.mono k, h.2.2.1, POk.mono k h.2.2.2⟩
theorem POk.snoc {z : Str} {t : Addr} {v : V} {d : PyData} (h1 : nw H G t = some (.tup [v, .bl (isPart d z slots many)])) (h2 : Dv K (nw H G) v d) (h3 : Short d) :
    ∀ {zs : List Str} {ts : List Addr} {vs : List V} {ds : List PyData}, POk K H G slots many zs ts vs ds → POk K H G slots many (zs ++ [z]) (ts ++ [t]) (vs ++ [v]) (ds ++ [d])
  | [], [], [], [], _ => ⟨h1, h2, h3, trivial⟩
  | _ :: _, _ :: _, _ :: _, _ :: _, h => ⟨h.1, h.2.1, h.2.2.1, POk.snoc h1 h2 h3 h.2.2.2⟩
theorem POk.len : ∀ {zs : List Str} {ts : List Addr} {vs : List V} {ds : List PyData}, POk K H G slots many zs ts vs ds → ts.length = zs.length ∧ vs.length = zs.length ∧ ds.length = zs.length
  | [], [], [], [], _ => ⟨rfl, rfl, rfl⟩
  | _ :: _, _ :: _, _ :: _, _ :: _, h => by
    obtain ⟨a, b, c⟩ := POk.len h.2.2.2
    simp only [List.length_cons, a, b, c, and_self]
theorem POk.dv : ∀ {zs : List Str} {ts : List Addr} {vs : List V} {ds : List PyData}, POk K H G slots many zs ts vs ds → DvAll K (nw H G) vs ds
  | [], [], [], [], _ => .nil
  | _ :: _, _ :: _, _ :: _, _ :: _, h => .cons h.2.1 (POk.dv h.2.2.2)
theorem POk.short : ∀ {zs : List Str} {ts : List Addr} {vs : List V} {ds : List PyData}, POk K H G slots many zs ts vs ds → ∀ d ∈ ds, Short d
  | [], [], [], [], _ => fun _ h => nomatch h
  | _ :: _, _ :: _, _ :: _, _ :: _, h => fun d hd => by
    rcases List.mem_cons.mp hd with e | e
    · rw [e]; exact h.2.2.1
    · exact POk.short h.2.2.2 d e
theorem POk.at_ : ∀ {zs : List Str} {ts : List Addr} {vs : List V} {ds : List PyData} {i : Nat} {t : Addr}, POk K H G slots many zs ts vs ds → ts[i]? = some t →
    ∃ z v d, zs[i]? = some z ∧ vs[i]? = some v ∧ ds[i]? = some d ∧ nw H G t = some (.tup [v, .bl (isPart d z slots many)])
  | [], [], [], [], _, _, _, e => by simp at e
  | z :: _, t :: _, v :: _, d :: _, 0, _, h, e => ⟨z, v, d, rfl, rfl, rfl, by rw [← Option.some.inj e]; exact h.1⟩
  | _ :: _, _ :: _, _ :: _, _ :: _, i + 1, _, h, e => POk.at_ (i := i) h.2.2.2 (by simpa using e)
end
def allPart (slots many : Int) (ds : List PyData) (zs : List Str) : Bool := (ds.zip zs).all fun p => isPart p.1 p.2 slots many
theorem all_more {slots many : Int} {ds : List PyData} {zs : List Str} {i : Nat} {d : PyData} {z : Str} (h1 : ds[i]? = some d) (h2 : zs[i]? = some z) :
    ((ds.zip zs).take (i + 1)).all (fun p => isPart p.1 p.2 slots many) = (((ds.zip zs).take i).all (fun p => isPart p.1 p.2 slots many) && isPart d z slots many) := by
  have hz : (ds.zip zs)[i]? = some (d, z) := by
    rw [List.getElem?_zip_eq_some]
    exact ⟨h1, h2⟩
  obtain ⟨hl, e⟩ := List.getElem?_eq_some_iff.mp hz
  rw [List.take_succ_eq_append_getElem hl, e, List.all_append]
  simp
/-- what is no instruction -/
theorem instr_step (z : Str) (ks : List Str) (h : partsOf z = some ks) (ds : List PyData) (hl : ds.length = ks.length) (slots many : Int) : isInstr (.tuple (.str z :: ds)) slots many = allPart slots many ds ks := by
  show (match partsOf z with | some ks => decide (ds.length = ks.length) && (ds.zip ks).all fun p => isPart p.1 p.2 slots many | none => false) = _
  rw [h]
  show (decide (ds.length = ks.length) && _) = _
  rw [decide_eq_true hl]
  rfl
theorem instr_len (z : Str) (ks : List Str) (h : partsOf z = some ks) (ds : List PyData) (hl : ds.length ≠ ks.length) (slots many : Int) : isInstr (.tuple (.str z :: ds)) slots many = false := by
  show (match partsOf z with | some ks => decide (ds.length = ks.length) && (ds.zip ks).all fun p => isPart p.1 p.2 slots many | none => false) = _
  rw [h]
  show (decide (ds.length = ks.length) && _) = _
  rw [decide_eq_false hl]
  rfl
theorem instr_none (z : Str) (h : partsOf z = none) (ds : List PyData) (slots many : Int) : isInstr (.tuple (.str z :: ds)) slots many = false := by
  show (match partsOf z with | some ks => decide (ds.length = ks.length) && (ds.zip ks).all fun p => isPart p.1 p.2 slots many | none => false) = _
  rw [h]
theorem words_of {z : Str} : z ∈ partsL.map (·.1) → ∃ ks, partsOf z = some ks := by
  intro h
  have a : ∀ l : List (Str × List Str), z ∈ l.map (·.1) → ∃ ks, l.lookup z = some ks := by
    intro l
    induction l with
    | nil => intro h; cases h
    | cons p r ih =>
      intro h
      rw [List.lookup_cons]
      cases q : z == p.1 with
      | true => exact ⟨_, rfl⟩
      | false =>
        rw [List.map_cons] at h
        rcases List.mem_cons.mp h with e | e
        · rw [e, beq_self_eq_true] at q
          cases q
        · exact ih e
  exact a partsL h
theorem word_small {z : Str} {ks : List Str} (h : partsOf z = some ks) : z ∈ partsL.map (·.1) ∧ ∀ k ∈ ks, k ∈ kinds5 := by
  have a : ∀ l : List (Str × List Str), (∀ r ∈ l, ∀ k ∈ r.2, k ∈ kinds5) → ∀ ks, l.lookup z = some ks → z ∈ l.map (·.1) ∧ ∀ k ∈ ks, k ∈ kinds5 := by
    intro l
    induction l with
    | nil => intro _ ks h; cases h
    | cons p r ih =>
      intro hr ks h
      rw [List.lookup_cons] at h
      cases q : z == p.1 with
      | true =>
        rw [q] at h
        have e := Option.some.inj h
        rw [← e]
        refine ⟨?_, hr p List.mem_cons_self⟩
        rw [eq_of_beq q]
        exact List.mem_cons_self
      | false =>
        rw [q] at h
        obtain ⟨h1, h2⟩ := ih (fun x hx => hr x (List.mem_cons_of_mem _ hx)) ks h
        exact ⟨List.mem_cons_of_mem _ h1, h2⟩
  exact a partsL (by decide +kernel) ks h
theorem word_upper : ∀ z ∈ partsL.map (·.1), partsOf (Txt.upper z) = none ∧ (Txt.upper z).cps.size ≤ 1000 ∧ z.cps.size ≤ 1000 ∧ z.length ≤ 5592405 := by decide +kernel
theorem dv_take {K : PySem.W.Frag} {H : Hp} : ∀ {xs : List V} {ds : List PyData} (n : Nat), DvAll K H xs ds → DvAll K H (xs.take n) (ds.take n)
  | _, _, 0, _ => .nil
  | _, _, _ + 1, .nil => .nil
  | _, _, n + 1, .cons a b => .cons a (dv_take n b)
theorem dv_app {K : PySem.W.Frag} {H : Hp} {ys : List V} {es : List PyData} (h : DvAll K H ys es) : ∀ {xs : List V} {ds : List PyData}, DvAll K H xs ds → DvAll K H (xs ++ ys) (ds ++ es)
  | _, _, .nil => h
  | _, _, .cons a b => .cons a (dv_app h b)
theorem shortI_of {ps : List PyData} (h : ps.length ≤ 1000) (h2 : ∀ p ∈ ps, Short p) : ShortI (.tuple ps) := fun q e => by
  cases e
  exact ⟨h, h2⟩
theorem not_cut (z : Str) (ks : List Str) (h : partsOf z = some ks) (ds : List PyData) (hl : ds.length = ks.length) (slots many : Int) : isInstr (.tuple ((PyData.str z :: ds).take ds.length ++ [.int 0, .int 0, .int 0])) slots many = false := by
  cases ds with
  | nil => rfl
  | cons d ds =>
    show isInstr (.tuple (.str z :: ((d :: ds).take ds.length ++ [.int 0, .int 0, .int 0]))) slots many = false
    refine instr_len z ks h _ ?_ slots many
    rw [List.length_cons] at hl
    rw [List.length_append, List.length_take, List.length_cons]
    show min ds.length (ds.length + 1) + 3 ≠ _
    omega
end My

namespace My
open PySem PySem.Spec PyProof.Rows L2
open C8 (pss_cut tCut)
abbrev s_law_step : Stmt := top 40
structure BlS (mg : Str → Option Value) : Prop extends BlP mg where
  sorted : mg "sorted" = none
abbrev rows10 : List Row := partsL.take 10
abbrev rows8 : List Row := partsL.drop 10
def spStep (K : PySem.W.Frag) : Sp := fun vs H Q _ => ∃ (p l : Addr) (b : Nat) (slots many : Int), vs = [.ref p, .int slots, .int many] ∧ 0 ≤ slots ∧ slots ≤ 9 ∧ 1 ≤ many ∧ many ≤ 9 ∧ Pen H p l (b + 7) ∧
  ∀ (t : Addr) (v : V) (d : PyData) (H' : Hp), Dv K (nw H H') v d → ShortI d → nw H H' t = some (.tup [v, .bl (isInstr d slots many)]) → But p H H' → Pen H' p l b → Q (.ref t) H'
section
variable {P : Program} {w : World} {K : PySem.W.Frag} {mg : Str → Option Value} {base : Heap}
theorem sc_law_step : FnScope ["pen", "slots", "many", "forms", "word", "parts", "step", "is_so", "way", "kind", "value"] ["pen", "slots", "many"] (defScope s_law_step) := ⟨rfl, rfl, rfl, by decide +kernel, rfl, by decide +kernel, by decide +kernel⟩
theorem b_law_step {f : Addr} {fd : FuncData} (F : Fun K "_law_step_drawn" "_law_step_drawn" s_law_step f fd) : Binds K fd ["pen", "slots", "many"] [] := F.binds fun _ _ _ _ _ _ us hl => match us, hl with | [_, _, _], _ => rfl
theorem putK_new {kvs : List (Key × V)} {k : Key} {v : V} (h : ∀ q ∈ kvs, q.1 ≠ k) : putK kvs k v = kvs ++ [(k, v)] := by
  refine if_neg fun e => ?_
  obtain ⟨q, hq, e⟩ := List.any_eq_true.mp e
  exact h q hq (of_decide_eq_true e)
theorem merge_new : ∀ (more kvs : List (Key × V)), ((kvs ++ more).map (·.1)).Nodup → mergeK kvs more = kvs ++ more
  | [], kvs, _ => (List.append_nil kvs).symm
  | kv :: more, kvs, h => by
    show mergeK (putK kvs kv.1 kv.2) more = _
    have e : kvs ++ kv :: more = (kvs ++ [kv]) ++ more := by rw [List.append_assoc]; rfl
    have n : ∀ q ∈ kvs, q.1 ≠ kv.1 := fun q hq z => by
      rw [List.map_append, List.map_cons, List.nodup_append] at h
      exact h.2.2 q.1 (List.mem_map_of_mem hq) kv.1 List.mem_cons_self z
    rw [putK_new n, e]
    rw [e] at h
    exact merge_new more (kvs ++ [kv]) h
theorem kv_keys : ∀ {rows : List Row} {as : List Addr}, as.length = rows.length → (kvOf rows as).map (·.1) = rows.map fun r => (Sum.inr r.1 : Key)
  | [], [], _ => rfl
  | r :: rs, _ :: as, h => congrArg (_ :: ·) (kv_keys (rows := rs) (as := as) (Nat.succ.inj h))
theorem kv_len : ∀ {rows : List Row} {as : List Addr}, as.length = rows.length → (kvOf rows as).length = rows.length
  | [], [], _ => rfl
  | r :: rs, _ :: as, h => congrArg Nat.succ (kv_len (rows := rs) (as := as) (Nat.succ.inj h))
theorem kv_app {r1 r2 : List Row} {as bs : List Addr} (h : as.length = r1.length) : kvOf (r1 ++ r2) (as ++ bs) = kvOf r1 as ++ kvOf r2 bs := by
  unfold kvOf
  rw [List.zip_append h.symm, List.map_append]
theorem parts_two : partsL = rows10 ++ rows8 := (List.take_append_drop 10 partsL).symm
theorem keys_nodup : (partsL.map fun r => (Sum.inr r.1 : Key)).Nodup := by decide +kernel
theorem keys10 : (rows10.map fun r => (Sum.inr r.1 : Key)).Nodup := by decide +kernel
theorem keys8 : (rows8.map fun r => (Sum.inr r.1 : Key)).Nodup := by decide +kernel
theorem merge10 {as : List Addr} (h : as.length = 10) : mergeK [] (kvOf rows10 as) = kvOf rows10 as ∧ (kvOf rows10 as).length = 10 :=
  ⟨merge_new _ [] (by rw [List.nil_append, kv_keys (rows := rows10) h]; exact keys10), kv_len (rows := rows10) h⟩
theorem merge8 {as : List Addr} (h : as.length = 8) : mergeK [] (kvOf rows8 as) = kvOf rows8 as ∧ (kvOf rows8 as).length = 8 :=
  ⟨merge_new _ [] (by rw [List.nil_append, kv_keys (rows := rows8) h]; exact keys8), kv_len (rows := rows8) h⟩
theorem kv_names {rows : List Row} {as : List Addr} (h : as.length = rows.length) : ((kvOf rows as).map fun kv => kV kv.1) = (rows.map (·.1)).map V.str := by
  have e := congrArg (List.map kV) (kv_keys h)
  rw [List.map_map, List.map_map] at e
  rw [List.map_map]
  exact e
theorem merge18 {as bs : List Addr} (h1 : as.length = 10) (h2 : bs.length = 8) : mergeK (kvOf rows10 as) (kvOf rows8 bs) = kvOf partsL (as ++ bs) ∧ (kvOf partsL (as ++ bs)).length = 18 ∧ ((kvOf partsL (as ++ bs)).map fun kv => kV kv.1) = (partsL.map (·.1)).map V.str := by
  have hl : (as ++ bs).length = partsL.length := by rw [List.length_append, h1, h2]; rfl
  have e : kvOf partsL (as ++ bs) = kvOf rows10 as ++ kvOf rows8 bs := by
    rw [parts_two]
    exact kv_app h1
  refine ⟨?_, kv_len hl, kv_names hl⟩
  rw [e]
  refine merge_new _ _ ?_
  rw [← e, kv_keys hl]
  exact keys_nodup
theorem pr_kv : ∀ (rows : List Row) (as : List Addr), prOf rows as = (kvOf rows as).map fun kv => (kV kv.1, kv.2)
  | [], _ => rfl
  | _ :: _, [] => rfl
  | r :: rs, a :: as => congrArg (_ :: ·) (pr_kv rs as)
theorem rows_not {G : Hp} {a : Addr} : ∀ {rows : List Row} {as : List Addr}, Rows G rows as → a ∈ as → ∃ xs, G a = some (.lst xs)
  | [], [], _, e => nomatch e
  | _ :: _, _ :: _, h, e => by
    rcases List.mem_cons.mp e with e | e
    · rw [e]; exact ⟨_, h.1⟩
    · exact rows_not h.2 e
theorem none_of {H G : Hp} {a : Addr} (k : Same H G) (h : G a = none) : H a = none := by
  cases e : H a with
  | none => rfl
  | some o =>
    rw [k _ _ e] at h
    cases h
theorem ff {p a : Addr} {H G : Hp} {o : HO} (_ : But p H G) (_ : G a = none) : (upd G a o) a = some o := upd_same
theorem six_last (n : Nat) : HT.sIx (n + 1) (n + 1) (some (-1)) = n := by
  show (if (-1 : Int) < 0 then ((-1 : Int) + ((n + 1 : Nat) : Int)).toNat else min (-1 : Int).toNat (n + 1)) = n
  rw [if_pos (by decide)]
  omega
theorem cut_last (v : V) (vs : List V) : cutV (v :: vs) none (some (-1)) = (v :: vs).take vs.length := by
  show ((v :: vs).drop 0).take (HT.sIx (vs.length + 1) (vs.length + 1) (some (-1)) - 0) = _
  rw [six_last]
  rfl
theorem ok_law_step {f fD fK fP : Addr} {fd fdD fdK fdP : FuncData} (F : Fun K "_law_step_drawn" "_law_step_drawn" s_law_step f fd) (D : DrawF P w K mg base fD fdD) (CK : Cd P w K mg base "_law_pick" sPick 2 ["pen", "some"] (spPick K) fK fdK)
    (CPD : Cd P w K mg base "_law_part" s_law_part 3 ["pen", "kind", "slots", "many"] (spPartD K) fP fdP) (B : BlS mg) :
    FnOk P w K mg base CX0 4 f fd ["pen", "slots", "many"] (spStep K) := by
  refine F.ok sc_law_step (fun vs H Q E h => ?_) (fun cdv A outer s H vs Q E hr h => ?_)
  · obtain ⟨p, l, b, slots, many, rfl, _⟩ := h
    rfl
  · obtain ⟨p, l, b, slots, many, rfl, s0, s1, m0, m1, hP, k⟩ := h
    refine ⟨_, (pss_cut (ps_set (i := 3) sc_law_step.nd rfl (Or.inl rfl) (pe_disp (pps_cons pe_str (pe_lst (pa_cons pe_str pa_nil)) (pps_cons pe_str (pe_lst (pa_cons pe_str pa_nil)) (pps_cons pe_str (pe_lst (pa_cons pe_str pa_nil)) (pps_cons pe_str (pe_lst pa_nil) (pps_cons pe_str (pe_lst pa_nil) (pps_cons pe_str (pe_lst pa_nil) (pps_cons pe_str (pe_lst (pa_cons pe_str pa_nil)) (pps_cons pe_str (pe_lst (pa_cons pe_str (pa_cons pe_str pa_nil))) (pps_cons pe_str (pe_lst (pa_cons pe_str (pa_cons pe_str pa_nil))) (pps_cons pe_str (pe_lst (pa_cons pe_str (pa_cons pe_str pa_nil))) pps_nil)))))))))) rfl rfl (by decide) (by decide)))
      (pss_cut (ps_expr (pe_bm PySem.F.plainAttrs_dict PySem.F.slot_dict_update PySem.F.type_dict_update mt_dupd (pv 3) (pa_cons (pe_disp (pps_cons pe_str (pe_lst (pa_cons pe_str pa_nil)) (pps_cons pe_str (pe_lst (pa_cons pe_str pa_nil)) (pps_cons pe_str (pe_lst (pa_cons pe_str (pa_cons pe_str pa_nil))) (pps_cons pe_str (pe_lst pa_nil) (pps_cons pe_str (pe_lst (pa_cons pe_str pa_nil)) (pps_cons pe_str (pe_lst (pa_cons pe_str pa_nil)) (pps_cons pe_str (pe_lst pa_nil) (pps_cons pe_str (pe_lst pa_nil) pps_nil)))))))) rfl rfl (by decide) (by decide)) pa_nil)))
      (pss_cut (ps_set (i := 4) sc_law_step.nd rfl (Or.inl rfl) (pe_call CK.ok (hr.mono (by omega)) rfl CK.gl CK.F.kp (bindsPick CK.F) .nil pass0 (pa_cons (pv 0) (pa_cons (pe_callB cr_sortedS (by rfl) B.sorted (by decide +kernel) (pa_cons (pe_callTy (call_list_dK rfl) (by rfl) B.t_list (by decide +kernel) (pa_cons (pv 3) pa_nil)) pa_nil)) pa_nil))))
      (pss_cut (ps_setLc (i := 5) (own := [("kind", 9)]) (g := gName 9) (tt := tYes) rfl sc_law_step.nd rfl rfl (sw_true rfl rfl rfl (by decide +kernel)) (pi_list (pe_dget (hu_of hr) (pv 3) (pv 4) (fun _ _ => rfl))) (blkOk_by (own := [("kind", 9)]) (N := ["pen", "slots", "many", "forms", "word", "parts", "step", "is_so", "way", "kind", "value"]) (sc := defScope s_law_step) (by decide +kernel)) (fun _ _ _ _ _ => pg_name (i := 9) sc_law_step.nd rfl (Or.inl rfl)) (fun _ _ _ _ _ => pts_nil) (fun _ _ _ _ _ => (pe_call CPD.ok (hr.mono (by omega)) rfl CPD.gl CPD.F.kp (by exact b_law_part CPD.F) .nil pass0 (pa_cons (pv 0) (pa_cons (pv 9) (pa_cons (pv 1) (pa_cons (pv 2) pa_nil)))))))
      (pss_cut (ps_par3 (i := 6) (j := 7) (l := 8) (by rfl) sc_law_step.nd rfl rfl rfl (by decide) (by decide) (by decide) rfl rfl rfl (pa_cons (pe_op op_catA (pe_tup (pa_cons (pv 4) pa_nil)) (pe_callTy call_tuple_of (by rfl) B.t_tuple (by decide +kernel) (pa_cons (pe_lc (own := [("value", 10), ("is_so", 7)]) (g := _) (tt := tYes) rfl sc_law_step.nd (pi_list (pv 5)) (blkOk_by (own := [("value", 10), ("is_so", 7)]) (N := ["pen", "slots", "many", "forms", "word", "parts", "step", "is_so", "way", "kind", "value"]) (sc := defScope s_law_step) (by decide +kernel)) (fun _ _ _ _ _ => pg_tupK (K := K) (m := 2) rfl (pgs_cons (pg_name (i := 10) sc_law_step.nd rfl (Or.inl rfl)) (pgs_cons (pg_name (i := 7) sc_law_step.nd rfl (Or.inl rfl)) pgs_nil))) (fun _ _ _ _ _ => pts_nil) (fun _ _ _ _ _ => (pv 10))) pa_nil))) (pa_cons (pe_cmpR (op_eqD hr.units) (pe_lc (own := [("value", 10), ("is_so", 7)]) (g := _) (tt := _) rfl sc_law_step.nd (pi_list (pv 5)) (blkOk_by (own := [("value", 10), ("is_so", 7)]) (N := ["pen", "slots", "many", "forms", "word", "parts", "step", "is_so", "way", "kind", "value"]) (sc := defScope s_law_step) (by decide +kernel)) (fun _ _ _ _ _ => pg_tupK (K := K) (m := 2) rfl (pgs_cons (pg_name (i := 10) sc_law_step.nd rfl (Or.inl rfl)) (pgs_cons (pg_name (i := 7) sc_law_step.nd rfl (Or.inl rfl)) pgs_nil))) (fun _ _ _ _ _ => pts_one (pt_not (pt_val (pv 7)))) (fun _ _ _ _ _ => pe_int)) (pe_lst pa_nil) (nomark _)) (pa_cons (pe_call D.ok (hr.mono (by omega)) rfl D.gl D.F.kp (bindsDraw D.F) .nil pass0 (pa_cons (pv 0) (pa_cons pe_int pa_nil))) pa_nil))) (by rfl))
      (pss_cons (ps_if (pt_cmpR op_eq (pv 8) pe_int (nomark _)) (pss_one (ps_ret (pe_tup (pa_cons (pe_call CK.ok (hr.mono (by omega)) rfl CK.gl CK.F.kp (bindsPick CK.F) .nil pass0 (pa_cons (pv 0) (pa_cons (pe_lst (pa_cons pe_non (pa_cons pe_int (pa_cons (pv 4) (pa_cons (pe_callTy call_list_of (by rfl) B.t_list (by decide +kernel) (pa_cons (pv 6) pa_nil)) (pa_cons (pe_tup pa_nil) (pa_cons (pe_op op_catA (pe_slice sl_tupA (pv 6) po_none (po_some (pe_un un_neg pe_int))) (pe_tup (pa_cons pe_int (pa_cons pe_int (pa_cons pe_int pa_nil))))) (pa_cons (pe_op op_catA (pv 6) (pe_tup (pa_cons pe_int pa_nil))) (pa_cons (pe_tup (pa_cons pe_str pa_nil)) (pa_cons (pe_tup (pa_cons pe_non pa_nil)) (pa_cons (pe_op op_catA (pe_tup (pa_cons (pe_upper (pv 4)) pa_nil)) (pe_slice sl_tupA (pv 6) (po_some pe_int) po_none)) (pa_cons (pe_tup (pa_cons (pv 6) pa_nil)) (pa_cons pe_dnewK pa_nil))))))))))))) pa_nil))) (pa_cons pe_bl pa_nil))))) pss_nil)
      (pss_one (ps_ret (pe_tup (pa_cons (pv 6) (pa_cons (pv 7) pa_nil))))))))))), ?_⟩
    refine ⟨fun σ G => ∃ D as, σ = [some (.ref p), some (.int slots), some (.int many), some (.ref D), none, none, none, none, none, none, none] ∧ H D = none ∧ G D = some (.dK (kvOf rows10 as)) ∧ Rows G rows10 as ∧ Same H G, ?_, ?_⟩
    · intro D hD
      refine rows_gen rows10 (by decide +kernel) fun as G hr sm hn => ?_
      have hl : as.length = 10 := hr.length
      have hDG := sm D _ upd_same
      refine ⟨hDG, kvOf rows10 as, pr_kv _ _, by rw [(merge10 hl).2]; decide, D, as, rfl, hD, by rw [upd_same, (merge10 hl).1], Rows.set (fun e => ?_) hr, fun a o e => ?_⟩
      · have z := hn D e
        rw [upd_same] at z
        cases z
      · have n : a ≠ D := ne_of_none e hD
        rw [upd_ne n]
        exact sm a o (by rw [upd_ne n]; exact e)
    rintro σ1 H1 ⟨D, as, rfl, hD, hD1, hr1, sm1⟩
    refine ⟨fun σ G => ∃ cs, σ = [some (.ref p), some (.int slots), some (.int many), some (.ref D), none, none, none, none, none, none, none] ∧ G D = some (.dK (kvOf partsL cs)) ∧ (kvOf partsL cs).length = 18 ∧ ((kvOf partsL cs).map fun kv => kV kv.1) = (partsL.map (·.1)).map V.str ∧ Rows G partsL cs ∧ Same H G, ?_, ?_⟩
    · refine ⟨_, rfl, .inr (.inr (.inl ⟨rfl, .inl ⟨_, hD1⟩⟩)), fun D8 hD8 => ?_⟩
      refine rows_gen rows8 (by decide +kernel) fun bs G hr sm hn => ?_
      have hl : bs.length = 8 := hr.length
      have hlA : as.length = 10 := hr1.length
      have nD8 : D ≠ D8 := ne_of_none hD1 hD8
      have hDG := sm D8 _ upd_same
      have smB : Same H1 G := fun a o e => sm a o (by rw [upd_ne (ne_of_none e hD8)]; exact e)
      have nb : D8 ∉ bs := fun e => by
        have z := hn D8 e
        rw [upd_same] at z
        cases z
      have nbD : D ∉ bs := fun e => by
        have z := hn D e
        rw [upd_ne nD8, hD1] at z
        cases z
      have naD : D ∉ as := fun e => by
        have z := rows_not hr1 e
        obtain ⟨xs, z⟩ := z
        rw [hD1] at z
        cases z
      have naD8 : D8 ∉ as := fun e => by
        have z := rows_not hr1 e
        obtain ⟨xs, z⟩ := z
        rw [hD8] at z
        cases z
      obtain ⟨e1, e2, e3⟩ := merge18 hlA hl
      refine ⟨hDG, kvOf rows8 bs, pr_kv _ _, by rw [(merge8 hl).2]; decide, D, D8, kvOf rows10 as, kvOf rows8 bs, rfl, rfl, nD8, by rw [upd_ne nD8]; exact smB _ _ hD1, by rw [upd_same, (merge8 hl).1], by rw [(merge10 hlA).2, (merge8 hl).2]; decide, as ++ bs, rfl, by rw [upd_same, e1], e2, e3, ?_, fun a o e => ?_⟩
      · have q1 : Rows G rows10 as := hr1.mono smB
        have q2 := Rows.app hr q1
        have q3 : Rows G partsL (as ++ bs) := q2
        exact Rows.set (fun e => (List.mem_append.mp e).elim naD nbD) (Rows.set (fun e => (List.mem_append.mp e).elim naD8 nb) q3)
      · have n1 : a ≠ D := ne_of_none e hD
        have e1 := sm1 a o e
        have n2 : a ≠ D8 := ne_of_none e1 hD8
        rw [upd_ne n1, upd_ne n2]
        exact smB a o e1
    rintro σ2 H2 ⟨cs, rfl, hD2, l18, k18, hr2, sm2⟩
    have hP2 : Pen H2 p l (b + 7) := hP.keep sm2
    refine ⟨fun σ G => ∃ z ks, partsOf z = some ks ∧ σ = [some (.ref p), some (.int slots), some (.int many), some (.ref D), some (.str z), none, none, none, none, none, none] ∧ But p H2 G ∧ Pen G p l (b + 6), ?_, ?_⟩
    · refine ⟨_, rfl, _, rfl, D, _, rfl, hD2, fun q hq => ?_⟩
      rw [k18]
      refine ⟨q, partsL.map (·.1), rfl, SqL.of upd_same, by decide, fun ys q2 hy _ hq2 => ?_⟩
      have nqp : q ≠ p := hP2.ne hq
      have hq2' := (un2' hq2)
      have nq2p : q2 ≠ p := hP2.ne hq2'.1
      have hyl : ys.length = 18 := hy.length_eq
      refine ⟨p, l, q2, b + 5 + 1, ys.map V.str, rfl, nq2p, .inl (SqL.of upd_same), by rw [List.length_map, hyl]; decide, by rw [List.length_map, hyl]; decide, (hP2.upd hq).upd hq2, fun i x G hx kb hp => ?_⟩
      rw [List.getElem?_map] at hx
      obtain ⟨z, hz, ez⟩ := Option.map_eq_some_iff.mp hx
      obtain ⟨ks, hks⟩ := words_of (hy.mem_iff.mp (List.mem_of_getElem? hz))
      subst ez
      exact ⟨z, ks, hks, rfl, ((But.new hq).trans (But.new hq2)).trans kb, hp⟩
    rintro σ3 H3 ⟨z, ks, hz, rfl, kb3, hP3⟩
    have nDp : D ≠ p := hP.ne hD
    have hD3 := kb3 _ _ nDp hD2
    obtain ⟨a, va, ha2⟩ := hr2.get hz
    have nap : a ≠ p := fun e => by
      obtain ⟨ns, t, r, h1, _⟩ := hP2
      rw [e, h1] at ha2
      cases ks with
      | nil => cases ha2
      | cons x xs => cases ha2
    have ha3 := kb3 _ _ nap ha2
    have hk2 := parts_few hz
    obtain ⟨hzm, hks⟩ := word_small hz
    have kb03 : But p H H3 := fun c u n e => kb3 c u n (sm2 c u e)
    refine ⟨fun σ G => ∃ lp ts vs ds, σ = [some (.ref p), some (.int slots), some (.int many), some (.ref D), some (.str z), some (.ref lp), none, none, none, none, none] ∧ lp ≠ p ∧ G lp = some (.lst (ts.map V.ref)) ∧ POk K H G slots many ks ts vs ds ∧ But p H3 G ∧ Pen G p l (b + 2), ?_, ?_⟩
    · refine ⟨_, rfl, _, rfl, D, .ref a, rfl, .inl ⟨_, .inr z, .inl hD3, rfl, va.symm⟩, ?_⟩
      refine ⟨a, rfl, ⟨_, SqL.of ha3⟩, fun E hE => ?_⟩
      have nEp : E ≠ p := hP3.ne hE
      refine lc_list (K := K) (a := a) (xs := ks.map V.str) (fun i G => ∃ ts vs ds, POk K (upd H3 E (.lst [])) G slots many (ks.take i) ts vs ds ∧ G E = some (.lst (ts.map V.ref)) ∧ But p H3 G ∧ Pen G p l (b + 2 + 2 * (ks.length - i))) ⟨[], [], [], by rw [List.take_zero]; trivial, upd_same, But.new hE, (hP3.upd hE).less (by omega)⟩ (fun i G _ h => SqL.of ?_) ?_ ?_
      · obtain ⟨_, _, _, _, _, kb, _⟩ := h
        exact kb _ _ nap ha3
      · rintro i x G hx ⟨ts, vs, ds, hO, hEG, kb, hp⟩
        rw [List.getElem?_map] at hx
        obtain ⟨y, hy, ey⟩ := Option.map_eq_some_iff.mp hx
        subst ey
        have hi : i < ks.length := (List.getElem?_eq_some_iff.mp hy).1
        refine ⟨rfl, ?_⟩
        simp only [tYes, if_true]
        refine ⟨_, rfl, _, rfl, _, rfl, _, rfl, ?_⟩
        refine ⟨p, l, b + 2 + 2 * (ks.length - (i + 1)), y, slots, many, rfl, hks y (List.mem_of_getElem? hy), s0, s1, m0, m1, hp.less (by omega), fun t v d G' hs hd ht kb' hp' => ?_⟩
        have hE' : G' E = some (.lst (ts.map V.ref)) := kb' _ _ nEp hEG
        have hBp : (upd H3 E (.lst [])) p ≠ none := by
          obtain ⟨_, _, _, e, _⟩ := hP3.upd (o := .lst []) hE
          rw [e]
          exact fun z => by cases z
        have nBE : ∀ F a o, nw (upd H3 E (.lst [])) F a = some o → a ≠ E ∧ a ≠ p := fun F a o e => by
          obtain ⟨e1, _⟩ := nw_to e
          refine ⟨fun q => ?_, fun q => ?_⟩
          · rw [q, upd_same] at e1
            cases e1
          · rw [q] at e1
            exact hBp e1
        have kbB : But p (upd H3 E (.lst [])) G ∨ True := .inr trivial
        have up : ∀ a o, nw G G' a = some o → nw (upd H3 E (.lst [])) (upd G' E (.lst (ts.map V.ref ++ [V.ref t]))) a = some o := fun a o e => by
          obtain ⟨e1, e2⟩ := nw_to e
          have n1 : a ≠ E := fun q => by rw [q, hEG] at e1; cases e1
          have n2 : a ≠ p := hp.ne e1
          refine nw_of ?_ (by rw [upd_ne n1]; exact e2)
          rw [upd_ne n1]
          exact kb.none n2 e1
        have old : ∀ a o, nw (upd H3 E (.lst [])) G a = some o → nw (upd H3 E (.lst [])) (upd G' E (.lst (ts.map V.ref ++ [V.ref t]))) a = some o := fun a o e => by
          obtain ⟨n1, n2⟩ := nBE _ _ _ e
          obtain ⟨e1, e2⟩ := nw_to e
          exact nw_of e1 (by rw [upd_ne n1]; exact kb' _ _ n2 e2)
        have hO2 := POk.snoc (up _ _ ht) (hd.mono up) hs (hO.mono old)
        have hl := hO.len
        have et : ks.take (i + 1) = ks.take i ++ [y] := by
          rw [List.take_succ_eq_append_getElem hi]
          rw [List.getElem?_eq_getElem hi] at hy
          rw [Option.some.inj hy]
        refine ⟨_, hE', ?_, ts ++ [t], vs ++ [v], ds ++ [d], by rw [et]; exact hO2, by rw [upd_same, List.map_append]; rfl, fun c u n e => ?_, ?_⟩
        · rw [List.length_map, hl.1, List.length_take]
          exact Nat.lt_of_le_of_lt (Nat.min_le_left _ _) (small1000 (by omega))
        · rw [upd_ne (ne_of_none e hE)]
          exact kb' c u n (kb c u n e)
        · refine (Pen.less ?_ (Nat.le_refl _))
          exact pen_set hp' nEp (hP3.nec hE)
      · rintro G ⟨ts, vs, ds, hO, hEG, kb, hp⟩
        rw [List.length_map] at hO hp
        rw [List.take_of_length_le (Nat.le_refl _)] at hO
        have hBp : (upd H3 E (.lst [])) p ≠ none := by
          obtain ⟨_, _, _, e, _⟩ := hP3.upd (o := .lst []) hE
          rw [e]
          exact fun z => by cases z
        have hO2 : POk K H G slots many ks ts vs ds := hO.mono (nw_sub (kb03.trans (But.new hE)) hBp)
        exact ⟨E, ts, vs, ds, rfl, nEp, hEG, hO2, kb, hp.less (by omega)⟩
    rintro σ4 H4 ⟨lp, ts, vs, ds, rfl, nlp, hlp, hO, kb4, hP4⟩
    obtain ⟨lt, lv, ld⟩ := hO.len
    have kb04 : But p H H4 := kb03.trans kb4
    have tat : ∀ (i : Nat) (x : V), (ts.map V.ref)[i]? = some x → ∃ t z' v d, x = V.ref t ∧ ks[i]? = some z' ∧ vs[i]? = some v ∧ ds[i]? = some d ∧ H4 t = some (.tup [v, .bl (isPart d z' slots many)]) := fun i x hx => by
      rw [List.getElem?_map] at hx
      obtain ⟨t, ht, et⟩ := Option.map_eq_some_iff.mp hx
      obtain ⟨z', v, d, e1, e2, e3, e4⟩ := hO.at_ ht
      exact ⟨t, z', v, d, et.symm, e1, e2, e3, (nw_to e4).2⟩
    refine ⟨fun σ G => ∃ t wy, σ = [some (.ref p), some (.int slots), some (.int many), some (.ref D), some (.str z), some (.ref lp), some (.ref t), some (.bl (allPart slots many ds ks)), some (.int wy), none, none] ∧ nw H G t = some (.tup (.str z :: vs)) ∧ DvAll K (nw H G) vs ds ∧ But p H G ∧ Pen G p l (b + 1), ?_, ?_⟩
    · refine ⟨_, rfl, by show 1 ≤ sizeLine; decide, fun q hq => ?_⟩
      refine ⟨_, rfl, lp, rfl, ⟨_, SqL.of (same_new hq _ _ hlp)⟩, fun E hE => ?_⟩
      refine lc_list (K := K) (a := lp) (xs := ts.map V.ref) (fun i G => Same (upd H4 q (.tup [V.str z])) G ∧ G E = some (.lst (vs.take i))) ⟨same_new hE, upd_same⟩ (fun i G _ h => SqL.of (h.1 _ _ (same_new hq _ _ hlp))) ?_ ?_
      · rintro i x G hx ⟨sm, hEG⟩
        obtain ⟨t, z', v, d, rfl, e1, e2, e3, e4⟩ := tat i x hx
        refine ⟨t, _, rfl, SqT.of (sm _ _ (same_new hq _ _ e4)), rfl, _, _, rfl, _, _, rfl, rfl, rfl, ?_⟩
        simp only [tYes, if_true]
        refine ⟨_, rfl, _, hEG, ?_, fun c u e => ?_, ?_⟩
        · rw [List.length_take]
          exact Nat.lt_of_le_of_lt (Nat.min_le_right _ _) (small1000 (by omega))
        · rw [upd_ne (ne_of_none e hE)]
          exact sm c u e
        · rw [upd_same]
          obtain ⟨hi, e⟩ := List.getElem?_eq_some_iff.mp e2
          rw [List.take_succ_eq_append_getElem hi, e]
      rintro G1 ⟨sm1', hE1⟩
      rw [List.length_map, List.take_of_length_le (by omega)] at hE1
      refine ⟨E, vs, rfl, .inl ⟨SqL.of hE1, fun u hu => ?_⟩⟩
      have hq1 := sm1' q _ upd_same
      refine cat_gen (same_new hu _ _ hq1) upd_same (by show 1 + vs.length ≤ sizeLine; rw [sizeLine_eq]; omega) fun t G2 ht2 smc hc => ?_
      have sm42 : Same H4 G2 := fun c e => fun z => smc _ _ (same_new hu _ _ (sm1' _ _ (same_new hq _ _ z)))
      have ht0 : H4 t = none := by
        rcases hc with e | e | e
        · rw [e]; exact hq
        · rw [e]
          exact none_of (fun c o z => sm1' _ _ (same_new hq _ _ z)) hu
        · exact none_of (fun c o z => same_new hu _ _ (sm1' _ _ (same_new hq _ _ z))) e
      refine ⟨_, rfl, lp, rfl, ⟨_, SqL.of (sm42 _ _ hlp)⟩, fun F hF => ?_⟩
      refine lc_list (K := K) (a := lp) (xs := ts.map V.ref) (fun i G => Same G2 G ∧ ∃ n, n ≤ i ∧ G F = some (.lst (List.replicate n (V.int 1))) ∧ decide (n = 0) = ((ds.zip ks).take i).all fun p => isPart p.1 p.2 slots many) ⟨same_new hF, 0, Nat.le_refl _, upd_same, rfl⟩ (fun i G _ h => SqL.of (h.1 _ _ (sm42 _ _ hlp))) ?_ ?_
      · rintro i x G hx ⟨sm, n, hn, hFG, hall⟩
        obtain ⟨t', z', v, d, rfl, e1, e2, e3, e4⟩ := tat i x hx
        refine ⟨t', _, rfl, SqT.of (sm _ _ (sm42 _ _ e4)), rfl, _, _, rfl, _, _, rfl, rfl, rfl, ?_⟩
        have hm := all_more (slots := slots) (many := many) e3 e1
        have hi : i < 2 := by
          have := (List.getElem?_eq_some_iff.mp e1).1
          omega
        refine ⟨_, rfl, _, rfl, ?_⟩
        cases hp : isPart d z' slots many with
        | true =>
          refine iteF ?_
          refine ⟨sm, n, by omega, hFG, ?_⟩
          rw [hm, hp, Bool.and_true]
          exact hall
        | false =>
          refine iteT ?_
          refine ⟨_, hFG, ?_, fun c u e => ?_, n + 1, by omega, ?_, ?_⟩
          · rw [List.length_replicate]
            exact small1000 (by omega)
          · rw [upd_ne (ne_of_none e hF)]
            exact sm c u e
          · rw [upd_same, List.replicate_succ']
          · rw [hm, hp, Bool.and_false]
            exact decide_eq_false (Nat.succ_ne_zero n)
      rintro G3 ⟨sm3, n, hn, hF3, hall⟩
      rw [List.length_map] at hall hn
      have hn2 : n = 0 ∨ n = 1 ∨ n = 2 := by omega
      rw [List.take_of_length_le (by rw [List.length_zip]; omega)] at hall
      refine ⟨by show 0 ≤ sizeLine; decide, fun o ho => ?_⟩
      have hF4 := same_new (o := .lst []) ho _ _ hF3
      have dpn : DpAll K (upd G3 o (.lst [])) (List.replicate n (V.int 1)) (List.replicate n (PyData.int 1)) := by
        rcases hn2 with rfl | rfl | rfl
        · exact .nil
        · exact .cons (.int 1) .nil
        · exact .cons (.int 1) (.cons (.int 1) .nil)
      refine ⟨.list (List.replicate n (.int 1)), .list [], Dp.lst (SqL.of hF4) dpn, Dp.lst (SqL.of upd_same) .nil, by rcases hn2 with rfl | rfl | rfl <;> rfl, rfl, ?_⟩
      have eqn : PyData.eqv (.list (List.replicate n (.int 1))) (.list []) = allPart slots many ds ks := by
        show _ = (ds.zip ks).all _
        rw [← hall]
        rcases hn2 with rfl | rfl | rfl <;> rfl
      rw [eqn]
      have sm43 : Same H4 (upd G3 o (.lst [])) := fun c e z => same_new ho _ _ (sm3 _ _ (sm42 _ _ z))
      refine ⟨_, rfl, p, l, b + 1, 9, rfl, hP4.keep sm43, by decide, by decide, fun wy G5 w0 w1 kb5 hP5 => ?_⟩
      have kbH5 : But p H G5 := fun c u m z => kb5 c u m (sm43 c u (kb04 c u m z))
      have ntp : t ≠ p := hP4.ne ht0
      have grow : ∀ a o, nw H H4 a = some o → nw H G5 a = some o := nw_but hP (fun c u m z => kb5 c u m (sm43 c u z))
      refine ⟨_, _, _, rfl, t, wy, rfl, nw_of (kb04.none ntp ht0) (kb5 _ _ ntp (same_new ho _ _ (sm3 _ _ ht2))), hO.dv.mono grow, kbH5, hP5⟩
    rintro σ5 H5 ⟨t, wy, rfl, ht, hA, kb5, hP5⟩
    have wz := word_upper z hzm
    refine ⟨_, rfl, rfl, _, rfl, ?_⟩
    refine ite2 (fun hw => ?_) (fun hw => ?_)
    · -- what is no step
      have kb := kb5
      have kc : But p H5 H5 := But.refl
      have hp := hP5
      have nt := (nw_to ht).1
      have ft := (nw_to ht).2
      refine ⟨_, rfl, _, rfl, _, rfl, t, _, rfl, .inr (SqT.of ft), fun l1 hl1 => ?_⟩
      have nl1 := kb.none (hp.ne hl1) hl1
      have ft := same_new (o := (.lst (V.str z :: vs))) hl1 _ _ ft
      have fl1 := ff (o := (.lst (V.str z :: vs))) kb hl1
      have hp := hp.upd (o := (.lst (V.str z :: vs))) hl1
      have kb := kb.trans (But.new (o := (.lst (V.str z :: vs))) hl1)
      have kc := kc.trans (But.new (o := (.lst (V.str z :: vs))) hl1)
      refine ⟨by show 0 ≤ sizeLine; decide, fun q1 hq1 => ?_⟩
      have nq1 := kb.none (hp.ne hq1) hq1
      have ft := same_new (o := (.tup [])) hq1 _ _ ft
      have fl1 := same_new (o := (.tup [])) hq1 _ _ fl1
      have fq1 := ff (o := (.tup [])) kb hq1
      have hp := hp.upd (o := (.tup [])) hq1
      have kb := kb.trans (But.new (o := (.tup [])) hq1)
      have kc := kc.trans (But.new (o := (.tup [])) hq1)
      refine ⟨_, rfl, _, rfl, _, rfl, t, _, rfl, SqT.of ft, fun e => absurd e.2 (by show ¬ HT.sIx (vs.length + 1) (vs.length + 1) (some (-1)) = vs.length + 1; rw [six_last]; omega), fun _ s1 hs1 => ?_⟩
      rw [cut_last]
      have ns1 := kb.none (hp.ne hs1) hs1
      have ft := same_new (o := .tup ((V.str z :: vs).take vs.length)) hs1 _ _ ft
      have fl1 := same_new (o := .tup ((V.str z :: vs).take vs.length)) hs1 _ _ fl1
      have fq1 := same_new (o := .tup ((V.str z :: vs).take vs.length)) hs1 _ _ fq1
      have fs1 := ff (o := .tup ((V.str z :: vs).take vs.length)) kb hs1
      have hp := hp.upd (o := .tup ((V.str z :: vs).take vs.length)) hs1
      have kb := kb.trans (But.new (o := .tup ((V.str z :: vs).take vs.length)) hs1)
      have kc := kc.trans (But.new (o := .tup ((V.str z :: vs).take vs.length)) hs1)
      refine ⟨by show 3 ≤ sizeLine; decide, fun q2 hq2 => ?_⟩
      have nq2 := kb.none (hp.ne hq2) hq2
      have ft := same_new (o := (.tup [V.int 0, V.int 0, V.int 0])) hq2 _ _ ft
      have fl1 := same_new (o := (.tup [V.int 0, V.int 0, V.int 0])) hq2 _ _ fl1
      have fq1 := same_new (o := (.tup [V.int 0, V.int 0, V.int 0])) hq2 _ _ fq1
      have fs1 := same_new (o := (.tup [V.int 0, V.int 0, V.int 0])) hq2 _ _ fs1
      have fq2 := ff (o := (.tup [V.int 0, V.int 0, V.int 0])) kb hq2
      have hp := hp.upd (o := (.tup [V.int 0, V.int 0, V.int 0])) hq2
      have kb := kb.trans (But.new (o := (.tup [V.int 0, V.int 0, V.int 0])) hq2)
      have kc := kc.trans (But.new (o := (.tup [V.int 0, V.int 0, V.int 0])) hq2)
      refine cat_gen fs1 fq2 (by rw [List.length_take, List.length_cons, sizeLine_eq]; show _ + 3 ≤ _; omega) fun c1 Gc1 fc1 sm hc => ?_
      have nc1 : H c1 = none := by
        rcases hc with e | e | e
        · rw [e]; exact ns1
        · rw [e]; exact nq2
        · exact kb.none (hp.ne e) e
      have ft := sm _ _ ft
      have fl1 := sm _ _ fl1
      have fq1 := sm _ _ fq1
      have fs1 := sm _ _ fs1
      have fq2 := sm _ _ fq2
      have hp := hp.keep sm
      have kb : But p H Gc1 := fun x u m e => sm x u (kb x u m e)
      have kc : But p H5 Gc1 := fun x u m e => sm x u (kc x u m e)
      refine ⟨_, rfl, by show 1 ≤ sizeLine; decide, fun q3 hq3 => ?_⟩
      have nq3 := kb.none (hp.ne hq3) hq3
      have ft := same_new (o := (.tup [V.int 0])) hq3 _ _ ft
      have fl1 := same_new (o := (.tup [V.int 0])) hq3 _ _ fl1
      have fq1 := same_new (o := (.tup [V.int 0])) hq3 _ _ fq1
      have fs1 := same_new (o := (.tup [V.int 0])) hq3 _ _ fs1
      have fq2 := same_new (o := (.tup [V.int 0])) hq3 _ _ fq2
      have fc1 := same_new (o := (.tup [V.int 0])) hq3 _ _ fc1
      have fq3 := ff (o := (.tup [V.int 0])) kb hq3
      have hp := hp.upd (o := (.tup [V.int 0])) hq3
      have kb := kb.trans (But.new (o := (.tup [V.int 0])) hq3)
      have kc := kc.trans (But.new (o := (.tup [V.int 0])) hq3)
      refine cat_gen ft fq3 (by rw [List.length_cons, sizeLine_eq]; show _ + 1 ≤ _; omega) fun c2 Gc2 fc2 sm hc => ?_
      have nc2 : H c2 = none := by
        rcases hc with e | e | e
        · rw [e]; exact nt
        · rw [e]; exact nq3
        · exact kb.none (hp.ne e) e
      have ft := sm _ _ ft
      have fl1 := sm _ _ fl1
      have fq1 := sm _ _ fq1
      have fs1 := sm _ _ fs1
      have fq2 := sm _ _ fq2
      have fc1 := sm _ _ fc1
      have fq3 := sm _ _ fq3
      have hp := hp.keep sm
      have kb : But p H Gc2 := fun x u m e => sm x u (kb x u m e)
      have kc : But p H5 Gc2 := fun x u m e => sm x u (kc x u m e)
      refine ⟨by show 1 ≤ sizeLine; decide, fun q4 hq4 => ?_⟩
      have nq4 := kb.none (hp.ne hq4) hq4
      have ft := same_new (o := (.tup [V.str "nothing"])) hq4 _ _ ft
      have fl1 := same_new (o := (.tup [V.str "nothing"])) hq4 _ _ fl1
      have fq1 := same_new (o := (.tup [V.str "nothing"])) hq4 _ _ fq1
      have fs1 := same_new (o := (.tup [V.str "nothing"])) hq4 _ _ fs1
      have fq2 := same_new (o := (.tup [V.str "nothing"])) hq4 _ _ fq2
      have fc1 := same_new (o := (.tup [V.str "nothing"])) hq4 _ _ fc1
      have fq3 := same_new (o := (.tup [V.str "nothing"])) hq4 _ _ fq3
      have fc2 := same_new (o := (.tup [V.str "nothing"])) hq4 _ _ fc2
      have fq4 := ff (o := (.tup [V.str "nothing"])) kb hq4
      have hp := hp.upd (o := (.tup [V.str "nothing"])) hq4
      have kb := kb.trans (But.new (o := (.tup [V.str "nothing"])) hq4)
      have kc := kc.trans (But.new (o := (.tup [V.str "nothing"])) hq4)
      refine ⟨by show 1 ≤ sizeLine; decide, fun q5 hq5 => ?_⟩
      have nq5 := kb.none (hp.ne hq5) hq5
      have ft := same_new (o := (.tup [V.non])) hq5 _ _ ft
      have fl1 := same_new (o := (.tup [V.non])) hq5 _ _ fl1
      have fq1 := same_new (o := (.tup [V.non])) hq5 _ _ fq1
      have fs1 := same_new (o := (.tup [V.non])) hq5 _ _ fs1
      have fq2 := same_new (o := (.tup [V.non])) hq5 _ _ fq2
      have fc1 := same_new (o := (.tup [V.non])) hq5 _ _ fc1
      have fq3 := same_new (o := (.tup [V.non])) hq5 _ _ fq3
      have fc2 := same_new (o := (.tup [V.non])) hq5 _ _ fc2
      have fq4 := same_new (o := (.tup [V.non])) hq5 _ _ fq4
      have fq5 := ff (o := (.tup [V.non])) kb hq5
      have hp := hp.upd (o := (.tup [V.non])) hq5
      have kb := kb.trans (But.new (o := (.tup [V.non])) hq5)
      have kc := kc.trans (But.new (o := (.tup [V.non])) hq5)
      refine ⟨_, rfl, ⟨z, rfl⟩, z, rfl, rfl, wz.2.2.2, by show 1 ≤ sizeLine; decide, fun q6 hq6 => ?_⟩
      have nq6 := kb.none (hp.ne hq6) hq6
      have ft := same_new (o := (.tup [V.str (Txt.upper z)])) hq6 _ _ ft
      have fl1 := same_new (o := (.tup [V.str (Txt.upper z)])) hq6 _ _ fl1
      have fq1 := same_new (o := (.tup [V.str (Txt.upper z)])) hq6 _ _ fq1
      have fs1 := same_new (o := (.tup [V.str (Txt.upper z)])) hq6 _ _ fs1
      have fq2 := same_new (o := (.tup [V.str (Txt.upper z)])) hq6 _ _ fq2
      have fc1 := same_new (o := (.tup [V.str (Txt.upper z)])) hq6 _ _ fc1
      have fq3 := same_new (o := (.tup [V.str (Txt.upper z)])) hq6 _ _ fq3
      have fc2 := same_new (o := (.tup [V.str (Txt.upper z)])) hq6 _ _ fc2
      have fq4 := same_new (o := (.tup [V.str (Txt.upper z)])) hq6 _ _ fq4
      have fq5 := same_new (o := (.tup [V.str (Txt.upper z)])) hq6 _ _ fq5
      have fq6 := ff (o := (.tup [V.str (Txt.upper z)])) kb hq6
      have hp := hp.upd (o := (.tup [V.str (Txt.upper z)])) hq6
      have kb := kb.trans (But.new (o := (.tup [V.str (Txt.upper z)])) hq6)
      have kc := kc.trans (But.new (o := (.tup [V.str (Txt.upper z)])) hq6)
      refine ⟨_, rfl, _, rfl, t, _, rfl, SqT.of ft, fun e => absurd e.1 (by rw [show (some (1 : Int)) = some ((1 : Nat) : Int) from rfl, HT.sIx_nat, List.length_cons]; omega), fun _ s2 hs2 => ?_⟩
      rw [cut1]
      have ns2 := kb.none (hp.ne hs2) hs2
      have ft := same_new (o := (.tup vs)) hs2 _ _ ft
      have fl1 := same_new (o := (.tup vs)) hs2 _ _ fl1
      have fq1 := same_new (o := (.tup vs)) hs2 _ _ fq1
      have fs1 := same_new (o := (.tup vs)) hs2 _ _ fs1
      have fq2 := same_new (o := (.tup vs)) hs2 _ _ fq2
      have fc1 := same_new (o := (.tup vs)) hs2 _ _ fc1
      have fq3 := same_new (o := (.tup vs)) hs2 _ _ fq3
      have fc2 := same_new (o := (.tup vs)) hs2 _ _ fc2
      have fq4 := same_new (o := (.tup vs)) hs2 _ _ fq4
      have fq5 := same_new (o := (.tup vs)) hs2 _ _ fq5
      have fq6 := same_new (o := (.tup vs)) hs2 _ _ fq6
      have fs2 := ff (o := (.tup vs)) kb hs2
      have hp := hp.upd (o := (.tup vs)) hs2
      have kb := kb.trans (But.new (o := (.tup vs)) hs2)
      have kc := kc.trans (But.new (o := (.tup vs)) hs2)
      refine cat_gen fq6 fs2 (by show 1 + vs.length ≤ sizeLine; rw [sizeLine_eq]; omega) fun c3 Gc3 fc3 sm hc => ?_
      have nc3 : H c3 = none := by
        rcases hc with e | e | e
        · rw [e]; exact nq6
        · rw [e]; exact ns2
        · exact kb.none (hp.ne e) e
      have ft := sm _ _ ft
      have fl1 := sm _ _ fl1
      have fq1 := sm _ _ fq1
      have fs1 := sm _ _ fs1
      have fq2 := sm _ _ fq2
      have fc1 := sm _ _ fc1
      have fq3 := sm _ _ fq3
      have fc2 := sm _ _ fc2
      have fq4 := sm _ _ fq4
      have fq5 := sm _ _ fq5
      have fq6 := sm _ _ fq6
      have fs2 := sm _ _ fs2
      have hp := hp.keep sm
      have kb : But p H Gc3 := fun x u m e => sm x u (kb x u m e)
      have kc : But p H5 Gc3 := fun x u m e => sm x u (kc x u m e)
      refine ⟨_, rfl, by show 1 ≤ sizeLine; decide, fun q7 hq7 => ?_⟩
      have nq7 := kb.none (hp.ne hq7) hq7
      have ft := same_new (o := (.tup [V.ref t])) hq7 _ _ ft
      have fl1 := same_new (o := (.tup [V.ref t])) hq7 _ _ fl1
      have fq1 := same_new (o := (.tup [V.ref t])) hq7 _ _ fq1
      have fs1 := same_new (o := (.tup [V.ref t])) hq7 _ _ fs1
      have fq2 := same_new (o := (.tup [V.ref t])) hq7 _ _ fq2
      have fc1 := same_new (o := (.tup [V.ref t])) hq7 _ _ fc1
      have fq3 := same_new (o := (.tup [V.ref t])) hq7 _ _ fq3
      have fc2 := same_new (o := (.tup [V.ref t])) hq7 _ _ fc2
      have fq4 := same_new (o := (.tup [V.ref t])) hq7 _ _ fq4
      have fq5 := same_new (o := (.tup [V.ref t])) hq7 _ _ fq5
      have fq6 := same_new (o := (.tup [V.ref t])) hq7 _ _ fq6
      have fs2 := same_new (o := (.tup [V.ref t])) hq7 _ _ fs2
      have fc3 := same_new (o := (.tup [V.ref t])) hq7 _ _ fc3
      have fq7 := ff (o := (.tup [V.ref t])) kb hq7
      have hp := hp.upd (o := (.tup [V.ref t])) hq7
      have kb := kb.trans (But.new (o := (.tup [V.ref t])) hq7)
      have kc := kc.trans (But.new (o := (.tup [V.ref t])) hq7)
      refine fun d hd => ?_
      have nd := kb.none (hp.ne hd) hd
      have ft := same_new (o := (.dK [])) hd _ _ ft
      have fl1 := same_new (o := (.dK [])) hd _ _ fl1
      have fq1 := same_new (o := (.dK [])) hd _ _ fq1
      have fs1 := same_new (o := (.dK [])) hd _ _ fs1
      have fq2 := same_new (o := (.dK [])) hd _ _ fq2
      have fc1 := same_new (o := (.dK [])) hd _ _ fc1
      have fq3 := same_new (o := (.dK [])) hd _ _ fq3
      have fc2 := same_new (o := (.dK [])) hd _ _ fc2
      have fq4 := same_new (o := (.dK [])) hd _ _ fq4
      have fq5 := same_new (o := (.dK [])) hd _ _ fq5
      have fq6 := same_new (o := (.dK [])) hd _ _ fq6
      have fs2 := same_new (o := (.dK [])) hd _ _ fs2
      have fc3 := same_new (o := (.dK [])) hd _ _ fc3
      have fq7 := same_new (o := (.dK [])) hd _ _ fq7
      have fd := ff (o := (.dK [])) kb hd
      have hp := hp.upd (o := (.dK [])) hd
      have kb := kb.trans (But.new (o := (.dK [])) hd)
      have kc := kc.trans (But.new (o := (.dK [])) hd)
      refine ⟨by show 12 ≤ sizeLine; decide, fun L hL => ?_⟩
      have nL := kb.none (hp.ne hL) hL
      have ft := same_new (o := (.lst [V.non, V.int 5, V.str z, V.ref l1, V.ref q1, V.ref c1, V.ref c2, V.ref q4, V.ref q5, V.ref c3, V.ref q7, V.ref d])) hL _ _ ft
      have fl1 := same_new (o := (.lst [V.non, V.int 5, V.str z, V.ref l1, V.ref q1, V.ref c1, V.ref c2, V.ref q4, V.ref q5, V.ref c3, V.ref q7, V.ref d])) hL _ _ fl1
      have fq1 := same_new (o := (.lst [V.non, V.int 5, V.str z, V.ref l1, V.ref q1, V.ref c1, V.ref c2, V.ref q4, V.ref q5, V.ref c3, V.ref q7, V.ref d])) hL _ _ fq1
      have fs1 := same_new (o := (.lst [V.non, V.int 5, V.str z, V.ref l1, V.ref q1, V.ref c1, V.ref c2, V.ref q4, V.ref q5, V.ref c3, V.ref q7, V.ref d])) hL _ _ fs1
      have fq2 := same_new (o := (.lst [V.non, V.int 5, V.str z, V.ref l1, V.ref q1, V.ref c1, V.ref c2, V.ref q4, V.ref q5, V.ref c3, V.ref q7, V.ref d])) hL _ _ fq2
      have fc1 := same_new (o := (.lst [V.non, V.int 5, V.str z, V.ref l1, V.ref q1, V.ref c1, V.ref c2, V.ref q4, V.ref q5, V.ref c3, V.ref q7, V.ref d])) hL _ _ fc1
      have fq3 := same_new (o := (.lst [V.non, V.int 5, V.str z, V.ref l1, V.ref q1, V.ref c1, V.ref c2, V.ref q4, V.ref q5, V.ref c3, V.ref q7, V.ref d])) hL _ _ fq3
      have fc2 := same_new (o := (.lst [V.non, V.int 5, V.str z, V.ref l1, V.ref q1, V.ref c1, V.ref c2, V.ref q4, V.ref q5, V.ref c3, V.ref q7, V.ref d])) hL _ _ fc2
      have fq4 := same_new (o := (.lst [V.non, V.int 5, V.str z, V.ref l1, V.ref q1, V.ref c1, V.ref c2, V.ref q4, V.ref q5, V.ref c3, V.ref q7, V.ref d])) hL _ _ fq4
      have fq5 := same_new (o := (.lst [V.non, V.int 5, V.str z, V.ref l1, V.ref q1, V.ref c1, V.ref c2, V.ref q4, V.ref q5, V.ref c3, V.ref q7, V.ref d])) hL _ _ fq5
      have fq6 := same_new (o := (.lst [V.non, V.int 5, V.str z, V.ref l1, V.ref q1, V.ref c1, V.ref c2, V.ref q4, V.ref q5, V.ref c3, V.ref q7, V.ref d])) hL _ _ fq6
      have fs2 := same_new (o := (.lst [V.non, V.int 5, V.str z, V.ref l1, V.ref q1, V.ref c1, V.ref c2, V.ref q4, V.ref q5, V.ref c3, V.ref q7, V.ref d])) hL _ _ fs2
      have fc3 := same_new (o := (.lst [V.non, V.int 5, V.str z, V.ref l1, V.ref q1, V.ref c1, V.ref c2, V.ref q4, V.ref q5, V.ref c3, V.ref q7, V.ref d])) hL _ _ fc3
      have fq7 := same_new (o := (.lst [V.non, V.int 5, V.str z, V.ref l1, V.ref q1, V.ref c1, V.ref c2, V.ref q4, V.ref q5, V.ref c3, V.ref q7, V.ref d])) hL _ _ fq7
      have fd := same_new (o := (.lst [V.non, V.int 5, V.str z, V.ref l1, V.ref q1, V.ref c1, V.ref c2, V.ref q4, V.ref q5, V.ref c3, V.ref q7, V.ref d])) hL _ _ fd
      have fL := ff (o := (.lst [V.non, V.int 5, V.str z, V.ref l1, V.ref q1, V.ref c1, V.ref c2, V.ref q4, V.ref q5, V.ref c3, V.ref q7, V.ref d])) kb hL
      have hp := hp.upd (o := (.lst [V.non, V.int 5, V.str z, V.ref l1, V.ref q1, V.ref c1, V.ref c2, V.ref q4, V.ref q5, V.ref c3, V.ref q7, V.ref d])) hL
      have kb := kb.trans (But.new (o := (.lst [V.non, V.int 5, V.str z, V.ref l1, V.ref q1, V.ref c1, V.ref c2, V.ref q4, V.ref q5, V.ref c3, V.ref q7, V.ref d])) hL)
      have kc := kc.trans (But.new (o := (.lst [V.non, V.int 5, V.str z, V.ref l1, V.ref q1, V.ref c1, V.ref c2, V.ref q4, V.ref q5, V.ref c3, V.ref q7, V.ref d])) hL)
      have nLp : L ≠ p := hP.ne nL
      refine ⟨p, l, L, b, _, rfl, nLp, .inl (SqL.of fL), by show 0 < 12; decide, by show 12 ≤ 1099511627776; decide, hp, fun i x G hx kbp hpG => ?_⟩
      have kb := kb.trans kbp
      have kc := kc.trans kbp
      have ft := nw_of nt (kbp _ _ (hP.ne nt) ft)
      have fl1 := nw_of nl1 (kbp _ _ (hP.ne nl1) fl1)
      have fq1 := nw_of nq1 (kbp _ _ (hP.ne nq1) fq1)
      have fs1 := nw_of ns1 (kbp _ _ (hP.ne ns1) fs1)
      have fq2 := nw_of nq2 (kbp _ _ (hP.ne nq2) fq2)
      have fc1 := nw_of nc1 (kbp _ _ (hP.ne nc1) fc1)
      have fq3 := nw_of nq3 (kbp _ _ (hP.ne nq3) fq3)
      have fc2 := nw_of nc2 (kbp _ _ (hP.ne nc2) fc2)
      have fq4 := nw_of nq4 (kbp _ _ (hP.ne nq4) fq4)
      have fq5 := nw_of nq5 (kbp _ _ (hP.ne nq5) fq5)
      have fq6 := nw_of nq6 (kbp _ _ (hP.ne nq6) fq6)
      have fs2 := nw_of ns2 (kbp _ _ (hP.ne ns2) fs2)
      have fc3 := nw_of nc3 (kbp _ _ (hP.ne nc3) fc3)
      have fq7 := nw_of nq7 (kbp _ _ (hP.ne nq7) fq7)
      have fd := nw_of nd (kbp _ _ (hP.ne nd) fd)
      have fL := nw_of nL (kbp _ _ (hP.ne nL) fL)
      have fin : ∀ d, Dv K (nw H G) x d → ShortI d → isInstr d slots many = false → ∃ _ : 2 ≤ sizeLine, ∀ o, G o = none → Q (.ref o) (upd G o (.tup [x, .bl false])) := by
        intro d hd hs hi
        refine ⟨by decide, fun o ho => ?_⟩
        have ho0 := kb.none (hpG.ne ho) ho
        refine k o x d _ (hd.mono (nw_but hP (But.new ho))) hs ?_ (kb.trans (But.new ho)) (hpG.upd ho)
        rw [hi]
        exact nw_of ho0 upd_same
      have go : ∀ d, Dv K (nw H G) x d → ShortI d → isInstr d slots many = false → 2 ≤ sizeLine ∧ ∀ o, G o = none → Q (.ref o) (upd G o (.tup [x, .bl false])) := fun d a e i => let ⟨q1, q2⟩ := fin d a e i; ⟨q1, q2⟩
      have nt_ : ∀ {d : PyData}, (∀ ps, d ≠ .tuple ps) → ShortI d := fun h ps e => absurd e (h ps)
      have hAv : DvAll K (nw H G) vs ds := hA.mono (nw_but hP kc)
      have hAw : DvAll K (nw H G) (V.str z :: vs) (.str z :: ds) := .cons (.str z) hAv
      have dl : ds.length ≤ 2 := by omega
      have hS : ∀ d ∈ PyData.str z :: ds, Short d := fun d hd => by
        rcases List.mem_cons.mp hd with e | e
        · rw [e]
          exact short_str wz.2.2.1
        · exact hO.short d e
      have h0 : Short (.int 0) := short_of fun y e => by cases e
      have hm := List.mem_of_getElem? hx
      simp only [List.mem_cons, List.not_mem_nil, or_false] at hm
      rcases hm with rfl | rfl | rfl | rfl | rfl | rfl | rfl | rfl | rfl | rfl | rfl | rfl
      · exact go .none .non (nt_ fun ps e => by cases e) rfl
      · exact go (.int 5) (.int 5) (nt_ fun ps e => by cases e) rfl
      · exact go (.str z) (.str z) (nt_ fun ps e => by cases e) rfl
      · exact go (.list (.str z :: ds)) (.lst (SqL.of fl1) hAw) (nt_ fun ps e => by cases e) rfl
      · exact go (.tuple []) (.tup (SqT.of fq1) .nil) (shortI_of (by decide) fun _ h => nomatch h) rfl
      · have e : vs.length = ds.length := by omega
        rw [e] at fc1
        refine go (.tuple ((PyData.str z :: ds).take ds.length ++ [.int 0, .int 0, .int 0])) (.tup (SqT.of fc1) (dv_app (.cons (.int 0) (.cons (.int 0) (.cons (.int 0) .nil))) (dv_take _ hAw))) (shortI_of ?_ fun q hq => ?_) (not_cut z ks hz ds ld slots many)
        · rw [List.length_append, List.length_take, List.length_cons]
          show _ + 3 ≤ 1000
          omega
        · rcases List.mem_append.mp hq with e | e
          · exact hS q (List.mem_of_mem_take e)
          · simp only [List.mem_cons, List.not_mem_nil, or_false] at e
            rcases e with rfl | rfl | rfl <;> exact h0
      · refine go (.tuple (.str z :: (ds ++ [PyData.int 0]))) (.tup (SqT.of fc2) (dv_app (.cons (.int 0) .nil) hAw)) (shortI_of ?_ fun q hq => ?_) (instr_len z ks hz _ ?_ slots many)
        · rw [List.length_cons, List.length_append]
          show _ + 1 + 1 ≤ 1000
          omega
        · rcases List.mem_append.mp (show q ∈ (PyData.str z :: ds) ++ [.int 0] from hq) with e | e
          · exact hS q e
          · rw [List.mem_singleton.mp e]
            exact h0
        · rw [List.length_append]
          show _ + 1 ≠ _
          omega
      · exact go (.tuple [.str "nothing"]) (.tup (SqT.of fq4) (.cons (.str _) .nil)) (shortI_of (by decide) fun q hq => by rw [List.mem_singleton.mp hq]; exact short_str (by decide)) (instr_none _ (by decide +kernel) [] slots many)
      · exact go (.tuple [.none]) (.tup (SqT.of fq5) (.cons .non .nil)) (shortI_of (by decide) fun q hq => by rw [List.mem_singleton.mp hq]; exact short_of fun y e => by cases e) rfl
      · refine go (.tuple (.str (Txt.upper z) :: ds)) (.tup (SqT.of fc3) (.cons (.str _) hAv)) (shortI_of ?_ fun q hq => ?_) (instr_none _ wz.1 ds slots many)
        · rw [List.length_cons]
          omega
        · rcases List.mem_cons.mp hq with e | e
          · rw [e]
            exact short_str wz.2.1
          · exact hS q (List.mem_cons_of_mem _ e)
      · exact go (.tuple [.tuple (.str z :: ds)]) (.tup (SqT.of fq7) (.cons (.tup (SqT.of ft) hAw) .nil)) (shortI_of (by show 1 ≤ 1000; decide) fun q hq => by rw [List.mem_singleton.mp hq]; exact short_of fun y e => by cases e) rfl
      · exact go (.dict []) (.dic (kvs := []) fd .nil) (nt_ fun ps e => by cases e) rfl
    · refine ⟨_, rfl, _, rfl, by show 2 ≤ sizeLine; decide, fun o ho => ?_⟩
      have ho0 := kb5.none (hP5.ne ho) ho
      have up : ∀ a u, nw H H5 a = some u → nw H (upd H5 o (.tup [V.ref t, V.bl (allPart slots many ds ks)])) a = some u := nw_but hP (But.new ho)
      refine k o (.ref t) (.tuple (.str z :: ds)) _ (.tup (SqT.of (up _ _ ht)) (.cons (.str z) (hA.mono up))) (fun ps e => ?_) ?_ (kb5.trans (But.new ho)) (Pen.less (hP5.upd ho) (by omega))
      · cases e
        refine ⟨by rw [List.length_cons]; omega, fun d hd => ?_⟩
        rcases List.mem_cons.mp hd with e | e
        · rw [e]
          exact short_str wz.2.2.1
        · exact hO.short d e
      · rw [instr_step z ks hz ds ld]
        exact nw_of ho0 upd_same
end
end My
namespace My
open PySem PySem.Spec PyProof.Rows L2
/-! ### the rows that were drawn -/
def ROk (K : PySem.W.Frag) (H G : Hp) (slots many : Int) : List Addr → List V → List PyData → Prop
  | [], [], [] => True
  | t :: ts, v :: vs, d :: ds => nw H G t = some (.tup [v, .bl (isInstr d slots many)]) ∧ Dv K (nw H G) v d ∧ ShortI d ∧ ROk K H G slots many ts vs ds
  | _, _, _ => False
section
variable {K : PySem.W.Frag} {H G G' : Hp} {slots many : Int}
theorem ROk.mono {H2 : Hp} (k : ∀ a o, nw H G a = some o → nw H2 G' a = some o) : ∀ {ts : List Addr} {vs : List V} {ds : List PyData}, ROk K H G slots many ts vs ds → ROk K H2 G' slots many ts vs ds
  | [], [], [], _ => trivial
  | _ :: _, _ :: _, _ :: _, h => ⟨k _ _ h.1, h.2.1.mono k, h.2.2.1, ROk.mono k h.2.2.2⟩
theorem ROk.snoc {t : Addr} {v : V} {d : PyData} (h1 : nw H G t = some (.tup [v, .bl (isInstr d slots many)])) (h2 : Dv K (nw H G) v d) (h3 : ShortI d) :
    ∀ {ts : List Addr} {vs : List V} {ds : List PyData}, ROk K H G slots many ts vs ds → ROk K H G slots many (ts ++ [t]) (vs ++ [v]) (ds ++ [d])
  | [], [], [], _ => ⟨h1, h2, h3, trivial⟩
  | _ :: _, _ :: _, _ :: _, h => ⟨h.1, h.2.1, h.2.2.1, ROk.snoc h1 h2 h3 h.2.2.2⟩
theorem ROk.len : ∀ {ts : List Addr} {vs : List V} {ds : List PyData}, ROk K H G slots many ts vs ds → vs.length = ts.length ∧ ds.length = ts.length
  | [], [], [], _ => ⟨rfl, rfl⟩
  | _ :: _, _ :: _, _ :: _, h => by
    obtain ⟨a, b⟩ := ROk.len h.2.2.2
    simp only [List.length_cons, a, b, and_self]
theorem ROk.dv : ∀ {ts : List Addr} {vs : List V} {ds : List PyData}, ROk K H G slots many ts vs ds → DvAll K (nw H G) vs ds
  | [], [], [], _ => .nil
  | _ :: _, _ :: _, _ :: _, h => .cons h.2.1 (ROk.dv h.2.2.2)
theorem ROk.short : ∀ {ts : List Addr} {vs : List V} {ds : List PyData}, ROk K H G slots many ts vs ds → ∀ d ∈ ds, ShortI d
  | [], [], [], _ => fun _ h => nomatch h
  | _ :: _, _ :: _, _ :: _, h => fun d hd => by
    rcases List.mem_cons.mp hd with e | e
    · rw [e]; exact h.2.2.1
    · exact ROk.short h.2.2.2 d e
theorem ROk.at_ : ∀ {ts : List Addr} {vs : List V} {ds : List PyData} {i : Nat} {t : Addr}, ROk K H G slots many ts vs ds → ts[i]? = some t →
    ∃ v d, vs[i]? = some v ∧ ds[i]? = some d ∧ nw H G t = some (.tup [v, .bl (isInstr d slots many)])
  | [], [], [], _, _, _, e => by simp at e
  | t :: _, v :: _, d :: _, 0, _, h, e => ⟨v, d, rfl, rfl, by rw [← Option.some.inj e]; exact h.1⟩
  | _ :: _, _ :: _, _ :: _, i + 1, _, h, e => ROk.at_ (i := i) h.2.2.2 (by simpa using e)
end
/-- ('end',) is an instruction -/
theorem instr_end (slots many : Int) : isInstr (.tuple [.str "end"]) slots many = true := by
  have h : partsOf "end" = some [] := by decide +kernel
  show (match partsOf "end" with | some ks => decide (([] : List PyData).length = ks.length) && (([] : List PyData).zip ks).all fun p => isPart p.1 p.2 slots many | none => false) = true
  rw [h]
  rfl
end My

namespace My
open PySem PySem.Spec PyProof.Rows L2
/-! ### a good instruction is plain data -/
def scal : PyData → Bool
  | .int _ => true
  | .str x => x.cps.all (· < 0x110000)
  | _ => false
theorem letters_small : ∀ c ∈ letters.cps.toList, c < 0x110000 := by decide +kernel
theorem scal_bet {d : PyData} {a b : Int} (h : isBet d a b = true) : scal d = true := by
  cases d with
  | int i => rfl
  | _ => cases h
theorem scal_name {d : PyData} (h : isName d = true) : scal d = true := by
  cases d with
  | str x =>
    have h' := (Bool.and_eq_true_iff.mp h).2
    show x.cps.all _ = true
    rw [Array.all_eq_true']
    intro c hc
    exact decide_eq_true (letters_small c (of_decide_eq_true (List.all_eq_true.mp h' c (Array.mem_toList_iff.mpr hc))))
  | _ => cases h
theorem words_small : ∀ z ∈ partsL.map (·.1), z.cps.all (· < 0x110000) = true := by decide +kernel
theorem lookup_mem {z : Str} {ks : List Str} : ∀ {l : List (Str × List Str)}, l.lookup z = some ks → z ∈ l.map (·.1)
  | [], h => by cases h
  | p :: r, h => by
    rw [List.lookup_cons] at h
    cases q : z == p.1 with
    | true =>
      rw [eq_of_beq q]
      exact List.mem_cons_self
    | false =>
      rw [q] at h
      exact List.mem_cons_of_mem _ (lookup_mem h)
theorem scal_part {d : PyData} {z : Str} {slots many : Int} (h : isPart d z slots many = true) : scal d = true := by
  unfold isPart at h
  split at h
  · exact scal_name h
  · split at h
    · exact scal_bet h
    · split at h
      · exact scal_bet h
      · exact scal_bet h
theorem good_instr {d : PyData} {slots many : Int} (h : isInstr d slots many = true) : ∃ ds, d = .tuple ds ∧ ds.length ≤ 3 ∧ ∀ x ∈ ds, scal x = true := by
  unfold isInstr at h
  split at h
  · next z ps =>
    split at h
    · next ks hk =>
      have h' := Bool.and_eq_true_iff.mp h
      have hl := of_decide_eq_true h'.1
      have h2 := parts_few hk
      refine ⟨_, rfl, by rw [List.length_cons]; omega, fun x hx => ?_⟩
      rcases List.mem_cons.mp hx with e | e
      · rw [e]
        exact words_small z (lookup_mem hk)
      · obtain ⟨i, hi, e⟩ := List.mem_iff_getElem.mp e
        have hz : (ps.zip ks)[i]? = some (x, ks[i]'(by omega)) := by
          rw [List.getElem?_zip_eq_some]
          exact ⟨by rw [List.getElem?_eq_getElem hi, e], List.getElem?_eq_getElem _⟩
        exact scal_part (List.all_eq_true.mp h'.2 _ (List.mem_of_getElem? hz))
    · cases h
  · cases h
theorem dp_scal {K : PySem.W.Frag} {H : Hp} {v : V} {d : PyData} (h : Dv K H v d) (s : scal d = true) : Dp K H v d := by
  cases d with
  | int i => cases h; exact .int i
  | str x => cases h; exact .str x
  | _ => cases s
theorem dp_scals {K : PySem.W.Frag} {H : Hp} : ∀ {vs : List V} {ds : List PyData}, DvAll K H vs ds → (∀ x ∈ ds, scal x = true) → DpAll K H vs ds
  | _, _, .nil, _ => .nil
  | _, _, .cons a b, s => .cons (dp_scal a (s _ List.mem_cons_self)) (dp_scals b fun x hx => s x (List.mem_cons_of_mem _ hx))
theorem dp_instr {K : PySem.W.Frag} {H : Hp} {v : V} {d : PyData} {slots many : Int} (h : Dv K H v d) (s : isInstr d slots many = true) : Dp K H v d := by
  obtain ⟨ds, rfl, _, hs⟩ := good_instr s
  cases h with
  | tup a b => exact .tup a (dp_scals b hs)
theorem dp_instrs {K : PySem.W.Frag} {H : Hp} {slots many : Int} : ∀ {vs : List V} {ds : List PyData}, DvAll K H vs ds → (∀ x ∈ ds, isInstr x slots many = true) → DpAll K H vs ds
  | _, _, .nil, _ => .nil
  | _, _, .cons a b, s => .cons (dp_instr a (s _ List.mem_cons_self)) (dp_instrs b fun x hx => s x (List.mem_cons_of_mem _ hx))
theorem lay_scals : ∀ {ds : List PyData}, (∀ x ∈ ds, scal x = true) → PyData.canLayAll0 ds = true ∧ PyData.depthAll ds ≤ 1
  | [], _ => ⟨rfl, Nat.zero_le _⟩
  | d :: ds, h => by
    obtain ⟨a, b⟩ := lay_scals fun x hx => h x (List.mem_cons_of_mem _ hx)
    have hd := h d List.mem_cons_self
    have hc : PyData.canLay0 d = true ∧ PyData.depth d ≤ 1 := by
      cases d with
      | int i => exact ⟨rfl, by show 0 ≤ 1; decide⟩
      | str x => exact ⟨hd, by show 0 ≤ 1; decide⟩
      | _ => cases hd
    refine ⟨?_, ?_⟩
    · show (PyData.canLay0 d && PyData.canLayAll0 ds) = true
      rw [hc.1, a]
      rfl
    · show max (PyData.depth d) (PyData.depthAll ds) ≤ 1
      omega
theorem lay_instrs {slots many : Int} : ∀ {ds : List PyData}, (∀ x ∈ ds, isInstr x slots many = true) → PyData.canLayAll0 ds = true ∧ PyData.depthAll ds ≤ 2
  | [], _ => ⟨rfl, Nat.zero_le _⟩
  | d :: ds, h => by
    obtain ⟨a, b⟩ := lay_instrs fun x hx => h x (List.mem_cons_of_mem _ hx)
    obtain ⟨es, rfl, _, hs⟩ := good_instr (h d List.mem_cons_self)
    obtain ⟨a2, b2⟩ := lay_scals hs
    refine ⟨?_, ?_⟩
    · show (PyData.canLayAll0 es && PyData.canLayAll0 ds) = true
      rw [a2, a]
      rfl
    · show max (PyData.depthAll es + 1) (PyData.depthAll ds) ≤ 2
      omega
theorem shaped_code {slots many : Int} {ds : List PyData} (h : ∀ x ∈ ds, isInstr x slots many = true) : SeqAt.shaped (.tuple ds) = true ∧ PyData.eqv (.tuple ds) (.tuple ds) = true := by
  obtain ⟨a, b⟩ := lay_instrs h
  have c : PyData.canLay0 (.tuple ds) = true := a
  refine ⟨?_, SeqAt.eqv_refl _ c⟩
  show (PyData.canLay0 (.tuple ds) && decide (PyData.depthAll ds + 1 ≤ 64)) = true
  rw [c, decide_eq_true (by omega)]
  rfl
end My
namespace My
open PySem PySem.Spec PyProof.Rows L2
abbrev s_law3 : Stmt := top 41
theorem sc_law3 : FnScope ["script", "pen", "turn", "slots", "many", "rows", "wrong", "heard", "at", "step", "is_so"] ["script"] (defScope s_law3) := ⟨rfl, rfl, rfl, by decide +kernel, rfl, by decide +kernel, by decide +kernel⟩
/-- a def whose code object is known -/
structure FunC (K : PySem.W.Frag) (x qual : Str) (st : Stmt) (f : Addr) (fd : FuncData) (cdv : Value) : Prop where
  ex : ∃ (oc : Value) (od : Option Addr) (kV doc pm : Value) (an : Option Addr) (ct : Value) (osl : Array (Option Value)),
    fd = PySem.W.fnOf x qual (defArgs st) (defBody st) (defScope st) .none kV doc pm an cdv ct ∧ K.lookup f = some ⟨oc, od, .func fd, osl⟩ ∧ PySem.W.codeIn K cdv qual = true
  kp : PySem.W.keepIn K (.ref f) = true
abbrev tab : ME.Tab := [("Function", ["name", "arguments", "results", "slots", "code", "handlers"])]
abbrev bnames : List Str := ["int", "bool", "str", "list", "tuple", "dict", "len", "isinstance", "all", "range", "enumerate", "zip", "sorted", "super", "abs"]
structure Fx (P : Program) (w : World) (K : PySem.W.Frag) (mg : Str → Option Value) : Prop where
  kit : ME.KitF K tab
  bn : ∀ x ∈ bnames, mg x = none
  er : ErT P w K mg (fun i => He.ga K (nm i)) (He.ga K "StandError")
  c_Function : mg "Function" = some (.ref (He.ga K "Function"))
section
variable {P : Program} {w : World} {K : PySem.W.Frag} {mg : Str → Option Value} {base : Heap}
theorem fnC {x qual : Str} {st : Stmt} {f : Addr} {fd : FuncData} {cdv : Value} {N ps : List Str} {k : Nat} {ms : ME.Env → ME.M ME.Out} (F : FunC K x qual st f fd cdv) (Sc : FnScope N ps (defScope st))
    (hb : ∀ (A : Around) (outer : List PySem.Env) (s : Shared) (H : Hp) (E : XK), Room k (A.deeper (envOfC qual (defScope st) s.heap.objs.size f cdv)) → Takes (ME.CxM P w K mg base N qual (defScope st) f cdv A outer s H E) (fun cls d _ H => E cls d H) → Passes (L2.CX P w) (ME.CxM P w K mg base N qual (defScope st) f cdv A outer s H E) E →
      PassesOwn (model P w) (ME.CxM P w K mg base N qual (defScope st) f cdv A outer s H E).A (ME.CxM P w K mg base N qual (defScope st) f cdv A outer s H E).env (ME.CxM P w K mg base N qual (defScope st) f cdv A outer s H E).xe →
      ME.MSs (ME.CxM P w K mg base N qual (defScope st) f cdv A outer s H E) K E (defBody st) ms) :
    FnOk P w K mg base (L2.CX P w) (k + 1) f fd ps (ME.spM K (ME.callM ps.length N.length ms)) := by
  obtain ⟨oc, od, kV, doc, pm, an, ct, osl, rfl, lk, hcd⟩ := F.ex
  refine fn_of lk hcd Sc (fun vs H Q E ⟨ρ, S, ds, sr, r, h⟩ => ?_) fun A outer s H vs Q E hr ⟨ρ, S, ds, sr, r, h⟩ => ?_
  · obtain ⟨e, _⟩ := ME.grd_run h
    rw [r.len]
    exact eq_of_beq e
  · obtain ⟨_, h⟩ := ME.grd_run h
    have tk : Takes (ME.CxM P w K mg base N qual (defScope st) f cdv A outer s H E) (fun cls d _ H => E cls d H) := takes_of rfl rfl rfl rfl
    refine ⟨_, hb A outer s H E hr tk (passes_call tk fun _ _ _ _ q => q) (passes_of (X := ME.CxM P w K mg base N qual (defScope st) f cdv A outer s H E) rfl), ρ, S, ME.env0 N.length ds, sr, ME.ER.start r, ?_⟩
    exact (ms (ME.env0 N.length ds)).mono _ _ _ _ _ (fun o S' q => ME.out_run q fun d z => ME.trim_post sr.len z) (fun x S' q => ME.trim_epost sr.len q) h
/-! ### data -/
mutual
def toDv : ME.D → Option PyData
  | .non => some .none
  | .bl b => some (.bool b)
  | .int i => some (.int i)
  | .str x => some (.str x)
  | .tup ds => match toDvs ds with | some ps => some (.tuple ps) | none => none
  | .lst ds => match toDvs ds with | some ps => some (.list ps) | none => none
  | .dct ks ds => match toDvs ds with | some ps => some (.dict ((ks.map kD).zip ps)) | none => none
  | .lsk ds => match toDvs ds with | some ps => some (.list ps) | none => none
  | _ => none
def toDvs : List ME.D → Option (List PyData)
  | [] => some []
  | d :: ds => match toDv d with | some p => (match toDvs ds with | some ps => some (p :: ps) | none => none) | none => none
end
theorem dv_of {H : Hp} {ρ : ME.Rs} {d : ME.D} {v : V} (h : ME.VR K H ρ d v) : ∀ p, toDv d = some p → Dv K H v p := by
  refine ME.VR.rec (motive_1 := fun d v _ => ∀ p, toDv d = some p → Dv K H v p) (motive_2 := fun ds vs _ => ∀ ps, toDvs ds = some ps → DvAll K H vs ps)
    (fun p e => ?_) (fun b p e => ?_) (fun i p e => ?_) (fun x p e => ?_) (fun n p e => ?_) (fun a p e => ?_) (fun _ p e => ?_) (fun {a xs ds} e1 _ q p e => ?_) (fun {a xs ds} e1 _ q p e => ?_) (fun {a kvs ds} f1 e1 _ q p e => ?_) (fun _ _ _ _ p e => ?_) (fun _ p e => ?_) (fun {a xs ds} e1 _ q p e => ?_) (fun ps e => ?_) (fun {v vs d ds} _ _ p q ps e => ?_) h
  · cases e; exact .non
  · cases e; exact .bl b
  · cases e; exact .int i
  · cases e; exact .str x
  · cases e
  · cases e
  · cases e
  · unfold toDv at e
    cases z : toDvs ds with
    | none => rw [z] at e; cases e
    | some ps => rw [z] at e; cases e; exact .tup e1.sq (q ps z)
  · unfold toDv at e
    cases z : toDvs ds with
    | none => rw [z] at e; cases e
    | some ps => rw [z] at e; cases e; exact .lst e1.sq (q ps z)
  · unfold toDv at e
    cases z : toDvs ds with
    | none => rw [z] at e; cases e
    | some ps => rw [z] at e; cases e; rw [List.map_map]; exact .dic e1 (q ps z)
  · cases e
  · cases e
  · unfold toDv at e
    cases z : toDvs ds with
    | none => rw [z] at e; cases e
    | some ps => rw [z] at e; cases e; exact .lst e1.sq (q ps z)
  · cases e; exact .nil
  · unfold toDvs at e
    cases z : toDv d with
    | none => rw [z] at e; cases e
    | some x => cases y : toDvs ds with
      | none => rw [z, y] at e; cases e
      | some xs => rw [z, y] at e; cases e; exact .cons (p x z) (q xs y)
theorem dvs_of {H : Hp} {ρ : ME.Rs} : ∀ {ds : List ME.D} {vs : List V}, ME.VRs K H ρ ds vs → ∀ ps, toDvs ds = some ps → DvAll K H vs ps
  | _, _, .nil, ps, e => by cases e; exact .nil
  | d :: ds, v :: vs, .cons p q, ps, e => by
    unfold toDvs at e
    cases z : toDv d with
    | none => rw [z] at e; cases e
    | some x => cases y : toDvs ds with
      | none => rw [z, y] at e; cases e
      | some xs => rw [z, y] at e; cases e; exact .cons (dv_of p x z) (dvs_of q xs y)
/-- data in what is new -/
theorem of_dv {H H' : Hp} {ρ : ME.Rs} {S : List ME.SO} (sr : ME.SR K ρ S H) {v : V} {d : PyData} (h : Dv K (nw H H') v d) : ∃ e, toDv e = some d ∧ ME.VR K H' ρ e v := by
  refine Dv.rec (motive_1 := fun v d _ => ∃ e, toDv e = some d ∧ ME.VR K H' ρ e v) (motive_2 := fun vs ds _ => ∃ es, toDvs es = some ds ∧ ME.VRs K H' ρ es vs)
    ⟨.non, rfl, .non⟩ (fun b => ⟨.bl b, rfl, .bl b⟩) (fun i => ⟨.int i, rfl, .int i⟩) (fun x => ⟨.str x, rfl, .str x⟩) (fun {a xs ds} e _ ⟨es, h1, h2⟩ => ?_) (fun {a xs ds} e _ ⟨es, h1, h2⟩ => ?_) (fun {a kvs ds} e _ ⟨es, h1, h2⟩ => ?_) ⟨[], rfl, .nil⟩ (fun {v vs d ds} _ _ ⟨e, h1, h2⟩ ⟨es, h3, h4⟩ => ⟨e :: es, by unfold toDvs; rw [h1, h3], .cons h2 h4⟩) h
  · have hd : toDv (.lsk es) = some (.list ds) := by unfold toDv; rw [h1]
    rcases e with (e | ⟨o, e⟩) | e
    · obtain ⟨e1, e2⟩ := nw_to e
      exact ⟨.lsk es, hd, .lsk (.inl ⟨sr.new e1, .inl e2⟩) h2⟩
    · obtain ⟨e1, e2⟩ := nw_to e
      exact ⟨.lsk es, hd, .lsk (.inl ⟨sr.new e1, .inr ⟨o, e2⟩⟩) h2⟩
    · exact ⟨.lsk es, hd, .lsk (.inr e) h2⟩
  · have hd : toDv (.tup es) = some (.tuple ds) := by unfold toDv; rw [h1]
    rcases e with (e | ⟨o, e⟩) | e
    · obtain ⟨e1, e2⟩ := nw_to e
      exact ⟨.tup es, hd, .tup (.inl ⟨sr.new e1, .inl e2⟩) h2⟩
    · obtain ⟨e1, e2⟩ := nw_to e
      exact ⟨.tup es, hd, .tup (.inl ⟨sr.new e1, .inr ⟨o, e2⟩⟩) h2⟩
    · exact ⟨.tup es, hd, .tup (.inr e) h2⟩
  · obtain ⟨e1, e2⟩ := nw_to e
    refine ⟨.dct (kvs.map Prod.fst) es, by unfold toDv; rw [h1]; show some _ = _; rw [List.map_map]; rfl, .dct (sr.new e1) e2 h2⟩
/-- the pen drawn from, all else as it was -/
theorem but_sr {H H' : Hp} {ρ : ME.Rs} {S : List ME.SO} {p c : Addr} {i b b' : Nat} (sr : ME.SR K ρ S H) (e : ρ.ob[i]? = some p) (hb : S[i]? = some (.pen b')) (hc : Pen H p c b') (bt : But p H H') (hP : Pen H' p c b) : ME.Step ρ H ρ H' ∧ ME.SR K ρ (S.set i (.pen b)) H' := by
  obtain ⟨c0, ns, t, r0, h1, h2, h3, h4⟩ := sr.ok i p _ e hb
  have ec : c0 = c := by
    obtain ⟨_, _, _, w1, _⟩ := hc
    rw [h1] at w1
    have := HO.lst.inj (Option.some.inj w1)
    exact V.ref.inj (List.cons.inj this).1
  subst ec
  have hl : ∀ b o, ME.ntb o → H b = some o → ∃ o', ME.ntb o' ∧ H' b = some o' := fun b o w z => by
    by_cases y : b = p
    · obtain ⟨_, _, _, w1, _⟩ := hP
      rw [y]
      exact ⟨_, ME.ntb_lst, w1⟩
    · exact ⟨o, w, bt b o y z⟩
  have ma : p ∈ ρ.ob := List.mem_of_getElem? e
  have st : ME.Step ρ H ρ H' := ⟨⟨[], by simp, fun a h => nomatch h⟩, fun _ h => h, fun _ h => .inl h, fun b o n _ z => bt b o (fun y => n (y ▸ ma)) z, hl⟩
  refine ⟨st, sr.nd, by rw [List.length_set]; exact sr.len, fun j b o w1 w2 => ?_, fun b hb => ?_, fun b hb => ⟨?_, (sr.set b hb).2⟩⟩
  · by_cases z : i = j
    · subst z
      have hi : i < S.length := by rw [← sr.len]; exact (List.getElem?_eq_some_iff.mp e).1
      rw [List.getElem?_set_self hi] at w2
      rw [e] at w1
      rw [← Option.some.inj w1, ← Option.some.inj w2]
      obtain ⟨ns', t', r0', k1, k2, k3, k4, k5, k6⟩ := hP
      exact ⟨c0, ns', t', r0', k1, h2, k2, k3, k4, k5, k6⟩
    · rw [List.getElem?_set_ne z] at w2
      obtain ⟨u, hu⟩ := sr.live b (List.mem_of_getElem? w1)
      have nb : b ≠ p := fun y => z (ME.nodup_at sr.nd e (y ▸ w1))
      refine (sr.ok j b o w1 w2).mono st ?_
      rw [hu]
      exact bt b u nb hu
  · obtain ⟨o, q⟩ := sr.live b hb
    by_cases y : b = p
    · obtain ⟨_, _, _, w1, _⟩ := hP
      rw [y]
      exact ⟨_, w1⟩
    · exact ⟨o, bt b o y q⟩
  · obtain ⟨o, w, q⟩ := (sr.set b hb).1
    exact ⟨o, w, bt b o (fun y => (sr.set b hb).2 (y ▸ ma)) q⟩
/-- _law_step_drawn -/
def gStep : List ME.D → ME.M ME.D
  | [x, y, z] => (match x with
    | .ob i => (match y with
      | .int slots => (match z with
        | .int many => ME.M.get.bind fun S => (match S[i]? with
          | some (.pen b) => (ME.M.grdP (0 ≤ slots ∧ slots ≤ 9 ∧ 1 ≤ many ∧ many ≤ 9 ∧ 7 ≤ b)).bind fun _ => (ME.M.put (S.set i (.pen (b - 7)))).bind fun _ => (ME.M.any fun vd : ME.D × PyData => toDv vd.1 = some vd.2 ∧ ShortI vd.2).bind fun vd => ME.M.pure (.tup [vd.1, .bl (isInstr vd.2 slots many)])
          | _ => ME.M.fail)
        | _ => ME.M.fail)
      | _ => ME.M.fail)
    | _ => ME.M.fail)
  | _ => ME.M.fail
theorem step_sp {vs : List V} {H : Hp} {Q : VK} {E : XK} (h : ME.spM K gStep vs H Q E) : spStep K vs H Q E := by
  obtain ⟨ρ, S, ds, sr, r, h⟩ := h
  match ds, vs, r with
  | [x, y, z], [v, u, w], .cons p (.cons q (.cons s .nil)) => cases p with
    | @ob i a e => cases q with
      | int slots => cases s with
        | int many =>
          have h : (match S[i]? with
            | some (.pen b) => (ME.M.grdP (0 ≤ slots ∧ slots ≤ 9 ∧ 1 ≤ many ∧ many ≤ 9 ∧ 7 ≤ b)).bind fun _ => (ME.M.put (S.set i (.pen (b - 7)))).bind fun _ => (ME.M.any fun vd : ME.D × PyData => toDv vd.1 = some vd.2 ∧ ShortI vd.2).bind fun vd => ME.M.pure (ME.D.tup [vd.1, .bl (isInstr vd.2 slots many)])
            | _ => ME.M.fail).run S (ME.post K (ME.rV K) ρ H Q) (ME.epost K ρ H E) := h
          split at h
          · next b hb =>
            obtain ⟨⟨g1, g2, g3, g4, g5⟩, h⟩ := h
            obtain ⟨c, ns, t, r0, h1, h2, h3, h4⟩ := sr.ok i a _ e hb
            have hP : Pen H a c b := ⟨ns, t, r0, h1, h3, h4⟩
            refine ⟨a, c, b - 7, slots, many, rfl, g1, g2, g3, g4, by rw [show b - 7 + 7 = b by omega]; exact hP, fun t v d H' hd hs ht bt hP' => ?_⟩
            obtain ⟨st, sr2⟩ := but_sr sr e hb hP bt hP'
            obtain ⟨dv, k1, k2⟩ := of_dv sr hd
            obtain ⟨t1, t2⟩ := nw_to ht
            exact h (dv, d) ⟨k1, hs⟩ ρ H' (.ref t) st sr2 (.tup (.inl ⟨sr.new t1, .inl t2⟩) (.cons k2 (.cons (.bl _) .nil)))
          · exact h.elim
        | _ => exact h.elim
      | _ => exact h.elim
    | _ => exact h.elim
  | [], _, _ => exact h.elim
  | [_], _, _ => exact h.elim
  | [_, _], _, _ => exact h.elim
  | _ :: _ :: _ :: _ :: _, _, _ => exact h.elim
/-- Function.__init__ -/
def funNs : List Str := ["name", "arguments", "results", "slots", "code", "handlers"]
def funRes (n : Nat) (s : Int) (ds : List ME.D) (ps : List PyData) : ME.M ME.D := match firstBad ps s with
  | none => (ME.M.any fun _ : Addr => True).bind fun u => ME.M.get.bind fun S => (ME.M.put (S.set n (.ins "Function" funNs [.str "f", .int 0, .int 0, .int s, .tup ds, .raw u]))).bind fun _ => ME.M.pure .non
  | some i => ME.M.raise ⟨"BadCode", ["at"], [.int (i : Nat)]⟩
def gFunc : List ME.D → ME.M ME.D
  | [x, nme, a1, a2, sl, code, hd] => (match x with
    | .ob n => (match sl with
      | .int s => (match code with
        | .lst ds => ME.M.get.bind fun S => (ME.M.grdP (S[n]? = some (.ins "Function" [] []) ∧ nme = .str "f" ∧ a1 = .int 0 ∧ a2 = .int 0 ∧ hd = .tup [] ∧ 0 ≤ s ∧ s ≤ 8 ∧ 1 ≤ ds.length ∧ ds.length ≤ 200)).bind fun _ => (match toDvs ds with
          | some ps => (ME.M.grdP (∀ d ∈ ps, ShortI d)).bind fun _ => funRes n s ds ps
          | none => ME.M.fail)
        | _ => ME.M.fail)
      | _ => ME.M.fail)
    | _ => ME.M.fail)
  | _ => ME.M.fail
theorem toDvs_len : ∀ {ds : List ME.D} {ps : List PyData}, toDvs ds = some ps → ps.length = ds.length
  | [], _, h => by cases h; rfl
  | d :: ds, _, h => by
    unfold toDvs at h
    cases z : toDv d with
    | none => rw [z] at h; cases h
    | some x => cases y : toDvs ds with
      | none => rw [z, y] at h; cases h
      | some xs => rw [z, y] at h; cases h; rw [List.length_cons, List.length_cons, toDvs_len y]
theorem func_sp {vs : List V} {H : Hp} {Q : VK} {E : XK} (h : ME.spM K gFunc vs H Q E) : spFunc K (fun i => He.ga K (nm i)) (He.ga K "Function") vs H Q E := by
  obtain ⟨ρ, S, ds, sr, r, h⟩ := h
  match ds, vs, r with
  | [x, nme, a1, a2, sl, code, hd], [v1, v2, v3, v4, v5, v6, v7], .cons p1 (.cons p2 (.cons p3 (.cons p4 (.cons p5 (.cons p6 (.cons p7 .nil)))))) => cases p1 with
    | @ob n a e => cases p5 with
      | int s => cases p6 with
        | @lst cl xs ds f6 r6 =>
          obtain ⟨⟨g1, g2, g3, g4, g5, g6, g7, g8, g9⟩, h⟩ := h
          subst g2 g3 g4 g5
          cases p2
          cases p3
          cases p4
          cases p7 with
          | @tup h0 ys es f7 r7 =>
            cases r7
            have h : (match toDvs ds with
              | some ps => (ME.M.grdP (∀ d ∈ ps, ShortI d)).bind fun _ => funRes n s ds ps
              | none => ME.M.fail).run S (ME.post K (ME.rV K) ρ H Q) (ME.epost K ρ H E) := h
            cases z : toDvs ds with
            | none => rw [z] at h; exact h.elim
            | some ps =>
              rw [z] at h
              obtain ⟨gs, h⟩ := h
              have hl := toDvs_len z
              obtain ⟨dx, fs, k1, k2, k3⟩ := sr.ok n a _ e g1
              have fs0 : fs = [] := by
                cases fs with
                | nil => rfl
                | cons _ _ => cases k2
              subst fs0
              refine ⟨a, dx, cl, h0, xs, ps, s, rfl, k1, g6, g7, f6.2, f7.sq, dvs_of r6 ps z, gs, by rw [hl]; exact g8, by rw [hl]; exact g9, fun hn H' t u kb hx ht => ?_, fun i hi d H' sm hd => ?_⟩
              · have h : (match firstBad ps s with
                  | none => (ME.M.any fun _ : Addr => True).bind fun u => ME.M.get.bind fun S => (ME.M.put (S.set n (.ins "Function" funNs [.str "f", .int 0, .int 0, .int s, .tup ds, .raw u]))).bind fun _ => ME.M.pure ME.D.non
                  | some i => ME.M.raise ⟨"BadCode", ["at"], [.int (i : Nat)]⟩).run S (ME.post K (ME.rV K) ρ H Q) (ME.epost K ρ H E) := h
                rw [hn] at h
                have ma : a ∈ ρ.ob := List.mem_of_getElem? e
                have st : ME.Step ρ H ρ H' := ⟨⟨[], by simp, fun a h => nomatch h⟩, fun _ h => h, fun _ h => .inl h, fun b o n _ z => kb b o (fun y => n (y ▸ ma)) z, fun b o w z => by
                  by_cases y : b = a
                  · rw [y]; exact ⟨_, ME.ntb_ins, hx⟩
                  · exact ⟨o, w, kb b o y z⟩⟩
                have nt : ρ.fz t := by
                  refine ⟨fun z => ?_, fun z => ?_⟩
                  · by_cases y : t = a
                    · rw [y, hx] at ht; cases ht
                    · obtain ⟨j, hj, ej⟩ := List.mem_iff_getElem.mp z
                      have gj : ρ.ob[j]? = some t := by rw [List.getElem?_eq_getElem hj, ej]
                      have w := sr.ok j t _ gj (List.getElem?_eq_getElem (by rw [← sr.len]; exact hj))
                      have hne : ∀ o, H t = some o → o = .tup xs := fun o z => by
                        have := kb t o y z
                        rw [ht] at this
                        exact (Option.some.inj this).symm
                      cases q : S[j]'(by rw [← sr.len]; exact hj) with
                      | lst ds => rw [q] at w; obtain ⟨vs, w1, _⟩ := w; cases hne _ w1
                      | dct ks ds => rw [q] at w; obtain ⟨vs, w1, _⟩ := w; cases hne _ w1
                      | ins C ns ds => rw [q] at w; obtain ⟨dx, fs, w1, _⟩ := w; cases hne _ w1
                      | pen b => rw [q] at w; obtain ⟨_, _, _, _, w1, _⟩ := w; cases hne _ w1
                      | tbl T q2 => rw [q] at w; obtain ⟨_, ps, w1, _⟩ := w; cases hne _ w1
                  · obtain ⟨⟨o, w, hw⟩, nn⟩ := sr.set t z
                    have := kb t o (fun y => nn (y ▸ ma)) hw
                    rw [ht] at this
                    rcases w with ⟨_, rfl⟩ | ⟨_, rfl⟩ <;> cases this
                refine h u trivial ρ H' .non st ⟨sr.nd, by rw [List.length_set]; exact sr.len, fun j b o w1 w2 => ?_, fun b hb => ?_, fun b hb => ⟨?_, (sr.set b hb).2⟩⟩ .non
                · by_cases z : n = j
                  · subst z
                    have hi : n < S.length := by rw [← sr.len]; exact (List.getElem?_eq_some_iff.mp e).1
                    rw [List.getElem?_set_self hi] at w2
                    rw [e] at w1
                    rw [← Option.some.inj w1, ← Option.some.inj w2]
                    exact ⟨dx, _, hx, rfl, .cons (.str _) (.cons (.int _) (.cons (.int _) (.cons (.int _) (.cons (.tup (.inl ⟨nt, .inl ht⟩) (r6.mono st)) (.cons (.raw _) .nil)))))⟩
                  · rw [List.getElem?_set_ne z] at w2
                    obtain ⟨u, hu⟩ := sr.live b (List.mem_of_getElem? w1)
                    have nb : b ≠ a := fun y => z (ME.nodup_at sr.nd e (y ▸ w1))
                    refine (sr.ok j b o w1 w2).mono st ?_
                    rw [hu]
                    exact kb b u nb hu
                · obtain ⟨o, q⟩ := sr.live b hb
                  by_cases y : b = a
                  · rw [y]; exact ⟨_, hx⟩
                  · exact ⟨o, kb b o y q⟩
                · obtain ⟨o, w, q⟩ := (sr.set b hb).1
                  exact ⟨o, w, kb b o (fun y => (sr.set b hb).2 (y ▸ ma)) q⟩
              · have h : (match firstBad ps s with
                  | none => (ME.M.any fun _ : Addr => True).bind fun u => ME.M.get.bind fun S => (ME.M.put (S.set n (.ins "Function" funNs [.str "f", .int 0, .int 0, .int s, .tup ds, .raw u]))).bind fun _ => ME.M.pure ME.D.non
                  | some i => ME.M.raise ⟨"BadCode", ["at"], [.int (i : Nat)]⟩).run S (ME.post K (ME.rV K) ρ H Q) (ME.epost K ρ H E) := h
                rw [hi] at h
                exact h ρ H' (some d) (step_ext sm) (sr_ext sr sm) (.inr ⟨d, _, rfl, hd, rfl, .cons (.int _) .nil⟩)
          | _ => exact h.1.2.2.2.2.1 |> fun q => by cases q
        | _ => exact h.elim
      | _ => exact h.elim
    | _ => exact h.elim
end
end My
namespace My
open PySem PySem.Spec PyProof.Rows L2
abbrev lamQ : Str := "law.<locals>.<lambda>"
def m_pick : ME.Env → ME.M ME.Out := (ME.mRet (ME.mOp ME.ixD (ME.mVar 1) (ME.mCall ME.gDraw (ME.mCons (ME.mVar 0) (ME.mCons (ME.mCall ME.gLen (ME.mCons (ME.mVar 1) ME.mNil)) ME.mNil)))))
def m_law (T0 : Addr) : ME.Env → ME.M ME.Out := (ME.mSeq (ME.mSet 1 (ME.mCall ME.gPen (ME.mCons (ME.mVar 0) ME.mNil)))
    (ME.mSeq (ME.mFor (ME.mItA ME.itR1 (ME.mCons (ME.mC (.int 12)) ME.mNil)) [2] ME.gNm (ME.mSeq (ME.mAsg [3, 4] (ME.mTup (ME.mCons (ME.mCall ME.gDraw (ME.mCons (ME.mVar 1) (ME.mCons (ME.mC (.int 9)) ME.mNil))) (ME.mCons (ME.mOp ME.gAdd (ME.mC (.int 1)) (ME.mCall ME.gDraw (ME.mCons (ME.mVar 1) (ME.mCons (ME.mC (.int 6)) ME.mNil)))) ME.mNil))) (ME.gTp 2 (ME.gsCons ME.gNm (ME.gsCons ME.gNm ME.gsNil))))
    (ME.mSeq (ME.mSet 5 (ME.mLc (ME.mItA ME.itR1 (ME.mCons (ME.mVar 4) ME.mNil)) [8] ME.gNm ME.mYes (ME.mIf (ME.mTest (ME.mOp ME.gEq (ME.mCall ME.gDraw (ME.mCons (ME.mVar 1) (ME.mCons (ME.mC (.int 3)) ME.mNil))) (ME.mC (.int 0)))) (ME.mCall gStep (ME.mCons (ME.mVar 1) (ME.mCons (ME.mVar 3) (ME.mCons (ME.mVar 4) ME.mNil)))) (ME.mTup (ME.mCons (ME.mTup (ME.mCons (ME.mC (.str "end")) ME.mNil)) (ME.mCons (ME.mC (.bl true)) ME.mNil)))) [8]))
    (ME.mSeq (ME.mSet 6 (ME.mLc (ME.mItA ME.itE (ME.mCons (ME.mVar 5) ME.mNil)) [8, 9, 10] (ME.gTp 2 (ME.gsCons ME.gNm (ME.gsCons (ME.gTp 2 (ME.gsCons ME.gNm (ME.gsCons ME.gNm ME.gsNil))) ME.gsNil))) (ME.mNot (ME.mTru (ME.mVar 10))) (ME.mVar 8) [8, 9, 10]))
    (ME.mSeq (ME.mSet 7 (mHear T0 "law.<locals>.<lambda>" (ME.mMake "Function" gFunc [.tup []] (ME.mCons (ME.mC (.str "f")) (ME.mCons (ME.mC (.int 0)) (ME.mCons (ME.mC (.int 0)) (ME.mCons (ME.mVar 3) (ME.mCons (ME.mLc (ME.mIt (ME.mVar 5)) [9, 10] (ME.gTp 2 (ME.gsCons ME.gNm (ME.gsCons ME.gNm ME.gsNil))) ME.mYes (ME.mVar 9) [9, 10]) ME.mNil))))))))
    (ME.mSeq (ME.mIfS (ME.mAnd (ME.mTest (ME.mOp ME.gNe (ME.mVar 6) (ME.mLst ME.mNil))) (ME.mTest (ME.mOp ME.gNe (ME.mVar 7) (ME.mTup (ME.mCons (ME.mC (.str "code")) (ME.mCons (ME.mOp ME.ixD (ME.mVar 6) (ME.mC (.int 0))) ME.mNil)))))) (ME.mRet (ME.mC (.bl false))) ME.mNext)
    (ME.mIfS (ME.mAnd (ME.mTest (ME.mOp ME.gEq (ME.mVar 6) (ME.mLst ME.mNil))) (ME.mOr (ME.mNot (ME.mTest (ME.mIsi tab (ME.tyIs "list") (ME.mVar 7)))) (ME.mTest (ME.mOp ME.gNe (ME.mFld tab "code" (ME.mOp ME.ixD (ME.mVar 7) (ME.mC (.int 0)))) (ME.mCall ME.gTuple (ME.mCons (ME.mLc (ME.mIt (ME.mVar 5)) [9, 10] (ME.gTp 2 (ME.gsCons ME.gNm (ME.gsCons ME.gNm ME.gsNil))) ME.mYes (ME.mVar 9) [9, 10]) ME.mNil)))))) (ME.mRet (ME.mC (.bl false))) ME.mNext)))))))
    (ME.mRet (ME.mC (.bl true)))))
section
variable {P : Program} {w : World} {K : PySem.W.Frag} {mg : Str → Option Value} {base : Heap}
theorem ok_law3 {f cL T0 gHd : Addr} {fd fdH : FuncData} {cdv : Value} (F : FunC K "law" "law" s_law3 f fd (.ref cL)) (Fx : Fx P w K mg) (TB : LamX.TabB base mg cL T0)
    (c__law_pen : ME.Cl P w K mg base "_law_pen" 1 [] ME.gPen) (c__law_draw : ME.Cl P w K mg base "_law_draw" 1 [] ME.gDraw) (c__law_step_drawn : ME.Cl P w K mg base "_law_step_drawn" 4 [] gStep)
    (k_Function : ME.ClM P w K mg base "Function" 5 [.tup []] gFunc) (FH : Fun K "_law_heard" "_law_heard" sHeard gHd fdH) (gH : mg "_law_heard" = some (.ref gHd)) :
    FnOk P w K mg base (L2.CX P w) 12 f fd ["script"] (ME.spM K (ME.callM 1 11 (m_law T0))) := by
  obtain ⟨oc, od, kVH, docH, pmH, anH, cdvH, ctH, oslH, rfl, lkH, cdH⟩ := FH.ex
  have kH := FH.kp
  have bH : L2.Binds K (PySem.W.fnOf "_law_heard" "_law_heard" (defArgs sHeard) (defBody sHeard) (defScope sHeard) .none kVH docH pmH anH cdvH ctH) ["ask"] [] := FH.binds fun _ _ _ _ _ _ us hl => match us, hl with | [_], _ => rfl
  exact fnC (k := 11) F sc_law3 (fun A outer s H E hr tk hx po =>
    (ME.ms_cons (ME.ms_set (ps_set (i := 1) sc_law3.nd rfl (Or.inr rfl) (ME.me_call c__law_pen rfl (hr.mono (by omega)) (by rfl) hx (ME.ma_cons (ME.me_var (pv 0)) ME.ma_nil))))
    (ME.ms_cons (ME.ms_for (fun _ _ _ hi hg hb => ps_for po rfl hi hg hb) (ME.mi_range1 (by rfl) (Fx.bn "range" (by decide)) (ME.ma_cons ME.me_int ME.ma_nil)) (ME.mg_name (pg_name (i := 2) sc_law3.nd rfl (Or.inl rfl))) (ME.ms_cons (ME.ms_asg (ME.me_tup (ME.ma_cons (ME.me_call c__law_draw rfl (hr.mono (by omega)) (by rfl) hx (ME.ma_cons (ME.me_var (pv 1)) (ME.ma_cons ME.me_int ME.ma_nil))) (ME.ma_cons (ME.me_add rfl ME.me_int (ME.me_call c__law_draw rfl (hr.mono (by omega)) (by rfl) hx (ME.ma_cons (ME.me_var (pv 1)) (ME.ma_cons ME.me_int ME.ma_nil)))) ME.ma_nil))) (ME.mg_tup rfl rfl (ME.mgs_cons (ME.mg_name (pg_name (i := 3) sc_law3.nd rfl (Or.inr rfl))) (ME.mgs_cons (ME.mg_name (pg_name (i := 4) sc_law3.nd rfl (Or.inr rfl))) ME.mgs_nil))))
    (ME.ms_cons (ME.ms_set (ps_set (i := 5) sc_law3.nd rfl (Or.inr rfl) (ME.me_lc (own := [("at", 8)]) rfl sc_law3.nd (ME.mi_range1 (by rfl) (Fx.bn "range" (by decide)) (ME.ma_cons (ME.me_var (pv 4)) ME.ma_nil)) (blkOk_by (own := [("at", 8)]) (N := ["script", "pen", "turn", "slots", "many", "rows", "wrong", "heard", "at", "step", "is_so"]) (sc := defScope s_law3) (by decide +kernel)) (by decide) (fun _ _ _ _ _ => (ME.mg_name (pg_name (i := 8) sc_law3.nd rfl (Or.inl rfl)))) (fun _ _ _ _ _ => ME.mts_nil) (fun _ _ _ _ _ => (ME.me_if (ME.mt_eq hr.units rfl (ME.me_call c__law_draw rfl (hr.mono (by omega)) (by rfl) ME.passE0 (ME.ma_cons (ME.me_var (pv 1)) (ME.ma_cons ME.me_int ME.ma_nil))) ME.me_int) (ME.me_call c__law_step_drawn rfl (hr.mono (by omega)) (by rfl) ME.passE0 (ME.ma_cons (ME.me_var (pv 1)) (ME.ma_cons (ME.me_var (pv 3)) (ME.ma_cons (ME.me_var (pv 4)) ME.ma_nil)))) (ME.me_tup (ME.ma_cons (ME.me_tup (ME.ma_cons ME.me_str ME.ma_nil)) (ME.ma_cons ME.me_bl ME.ma_nil))))))))
    (ME.ms_cons (ME.ms_setLc (i := 6) (own := [("at", 8), ("step", 9), ("is_so", 10)]) rfl sc_law3.nd rfl rfl (sw_true rfl rfl rfl (by decide +kernel)) (ME.mi_enum rfl (by rfl) (Fx.bn "enumerate" (by decide)) (ME.ma_cons (ME.me_var (pv 5)) ME.ma_nil)) (blkOk_by (own := [("at", 8), ("step", 9), ("is_so", 10)]) (N := ["script", "pen", "turn", "slots", "many", "rows", "wrong", "heard", "at", "step", "is_so"]) (sc := defScope s_law3) (by decide +kernel)) (by decide) (fun _ _ _ _ _ => (ME.mg_tup rfl rfl (ME.mgs_cons (ME.mg_name (pg_name (i := 8) sc_law3.nd rfl (Or.inl rfl))) (ME.mgs_cons (ME.mg_tup rfl rfl (ME.mgs_cons (ME.mg_name (pg_name (i := 9) sc_law3.nd rfl (Or.inl rfl))) (ME.mgs_cons (ME.mg_name (pg_name (i := 10) sc_law3.nd rfl (Or.inl rfl))) ME.mgs_nil))) ME.mgs_nil)))) (fun _ _ _ _ _ => (ME.mts_one (ME.mt_not (ME.mt_tru rfl (ME.me_var (pv 10)))))) (fun _ _ _ _ _ => (ME.me_var (pv 8))))
    (ME.ms_cons (ME.ms_set (ps_set (i := 7) sc_law3.nd rfl (Or.inl rfl) (me_hear (LamX.pe_lamcall (T := [(T0, "law.<locals>.<lambda>")]) (TT := THeard fun i => He.ga K (nm i)) (c := cL) (P := T0) (k := 7) (by rfl) gH kH lkH cdH bH scHeard rfl (by exact Or.inl rfl) (heard_gives Fx.er (Fx.bn "isinstance" (by decide))) TB rfl (List.mem_singleton.mpr rfl) (by intro p hp _; rw [List.mem_singleton.mp hp]; rfl) (hr.mono (by omega)) (LamX.lamS_by (sc := defScope s_law3) (by decide +kernel)) rfl (fun _ _ _ _ _ => rfl) (fun A outer s H E f c' hr => (ME.me_make k_Function rfl (hr.mono (by omega)) (by rfl) (passes_call (takes_of (E := E) rfl rfl rfl rfl) fun _ _ _ _ q => q) (ME.ma_cons ME.me_str (ME.ma_cons ME.me_int (ME.ma_cons ME.me_int (ME.ma_cons (ME.me_var (pv 3)) (ME.ma_cons (ME.me_lc (own := [("step", 9), ("is_so", 10)]) rfl sc_law3.nd (ME.mi_lt rfl (ME.me_var (pv 5))) (blkOk_by (own := [("step", 9), ("is_so", 10)]) (N := ["script", "pen", "turn", "slots", "many", "rows", "wrong", "heard", "at", "step", "is_so"]) (sc := _) (by kernel_rfl)) (by decide) (fun _ _ _ _ _ => (ME.mg_tup rfl rfl (ME.mgs_cons (ME.mg_name (pg_name (i := 9) sc_law3.nd rfl (Or.inl rfl))) (ME.mgs_cons (ME.mg_name (pg_name (i := 10) sc_law3.nd rfl (Or.inl rfl))) ME.mgs_nil)))) (fun _ _ _ _ _ => ME.mts_nil) (fun _ _ _ _ _ => (ME.me_var (pv 9)))) ME.ma_nil)))))))))))
    (ME.ms_cons (ME.ms_if (ME.mt_pw (ME.mw_and (ME.mt_ne hr.units rfl (ME.me_var (pv 6)) (ME.me_lst ME.ma_nil)) (ME.mw_and1 (ME.mt_ne hr.units rfl (ME.me_var (pv 7)) (ME.me_tup (ME.ma_cons ME.me_str (ME.ma_cons (ME.me_sub_ rfl (ME.me_var (pv 6)) ME.me_int (fun _ _ => rfl)) ME.ma_nil))))))) (ME.ms_one (ME.ms_ret ME.me_bl)) ME.ms_nil)
    (ME.ms_one (ME.ms_if (ME.mt_pw (ME.mw_and (ME.mt_eq hr.units rfl (ME.me_var (pv 6)) (ME.me_lst ME.ma_nil)) (ME.mw_and1 (ME.mt_pw (ME.mw_or (ME.mt_not (ME.mt_val (ME.me_isi rfl Fx.kit.cf (Fx.kit.isa (by decide)) (.ty _) (by rfl) (Fx.bn "isinstance" (by decide)) (ME.me_var (pv 7)) (pe_bltn (v := .ty "list") (by rfl) (Fx.bn "list" (by decide)) (by decide +kernel) rfl)))) (ME.mw_or1 (ME.mt_ne hr.units rfl (ME.me_fld rfl Fx.kit.cf (ME.me_sub_ rfl (ME.me_var (pv 7)) ME.me_int (fun _ _ => rfl))) (ME.me_callTy L2.call_tuple_of ME.l_tuple (by rfl) (Fx.bn "tuple" (by decide)) (by decide +kernel) (ME.ma_cons (ME.me_lc (own := [("step", 9), ("is_so", 10)]) rfl sc_law3.nd (ME.mi_lt rfl (ME.me_var (pv 5))) (blkOk_by (own := [("step", 9), ("is_so", 10)]) (N := ["script", "pen", "turn", "slots", "many", "rows", "wrong", "heard", "at", "step", "is_so"]) (sc := defScope s_law3) (by decide +kernel)) (by decide) (fun _ _ _ _ _ => (ME.mg_tup rfl rfl (ME.mgs_cons (ME.mg_name (pg_name (i := 9) sc_law3.nd rfl (Or.inl rfl))) (ME.mgs_cons (ME.mg_name (pg_name (i := 10) sc_law3.nd rfl (Or.inl rfl))) ME.mgs_nil)))) (fun _ _ _ _ _ => ME.mts_nil) (fun _ _ _ _ _ => (ME.me_var (pv 9)))) ME.ma_nil))))))))) (ME.ms_one (ME.ms_ret ME.me_bl)) ME.ms_nil))))))))
    (ME.ms_one (ME.ms_ret ME.me_bl)))))
end
end My
namespace My
open PySem PySem.Spec PyProof.Rows L2
open ME (D SO)
def Rw (slots many : Int) (vd : D × PyData) : D := .tup [vd.1, .bl (isInstr vd.2 slots many)]
def RowsR (slots many : Int) (vds : List (D × PyData)) : Prop := ∀ vd ∈ vds, toDv vd.1 = some vd.2 ∧ ShortI vd.2
theorem st_draw (T0 : Addr) (b : Nat) (hb : 60 ≤ b) (ns : List Int) (x2 x3 x4 x5 x6 x7 x8 x9 x10 : Option D) (Q : ME.Out → List SO → Prop) (E : ME.Ex → List SO → Prop)
    (k : ∀ (s m : Int), 0 ≤ s → s ≤ 8 → 1 ≤ m → m ≤ 6 → Q (.nx [some (.scr ns), some (.ob 1), x2, some (.int s), some (.int m), x5, x6, x7, x8, x9, x10]) [.tbl T0 lamQ, .pen (b - 2)]) :
    ((ME.mAsg [3, 4] (ME.mTup (ME.mCons (ME.mCall ME.gDraw (ME.mCons (ME.mVar 1) (ME.mCons (ME.mC (.int 9)) ME.mNil))) (ME.mCons (ME.mOp ME.gAdd (ME.mC (.int 1)) (ME.mCall ME.gDraw (ME.mCons (ME.mVar 1) (ME.mCons (ME.mC (.int 6)) ME.mNil)))) ME.mNil))) (ME.gTp 2 (ME.gsCons ME.gNm (ME.gsCons ME.gNm ME.gsNil)))) [some (.scr ns), some (.ob 1), x2, x3, x4, x5, x6, x7, x8, x9, x10]).run [.tbl T0 lamQ, .pen b] Q E := by
  refine ME.draw_run (i := 1) (b := b) (m := 9) rfl (by omega) (by decide) (by decide) fun s s0 s1 => ?_
  refine ME.draw_run (i := 1) (b := b - 1) (m := 6) rfl (by omega) (by decide) (by decide) fun m m0 m1 => ?_
  exact k s (1 + m) s0 (by omega) (by omega) (by omega)
theorem step_run {S : List SO} {i b : Nat} {slots many : Int} {Q : D → List SO → Prop} {E : ME.Ex → List SO → Prop} (h : S[i]? = some (.pen b)) (hb : 7 ≤ b) (h0 : 0 ≤ slots) (h1 : slots ≤ 9) (h2 : 1 ≤ many) (h3 : many ≤ 9)
    (k : ∀ vd : D × PyData, toDv vd.1 = some vd.2 → ShortI vd.2 → Q (Rw slots many vd) (S.set i (.pen (b - 7)))) : (gStep [.ob i, .int slots, .int many]).run S Q E := by
  show (match S[i]? with
    | some (.pen b) => (ME.M.grdP (0 ≤ slots ∧ slots ≤ 9 ∧ 1 ≤ many ∧ many ≤ 9 ∧ 7 ≤ b)).bind fun _ => (ME.M.put (S.set i (.pen (b - 7)))).bind fun _ => (ME.M.any fun vd : D × PyData => toDv vd.1 = some vd.2 ∧ ShortI vd.2).bind fun vd => ME.M.pure (D.tup [vd.1, .bl (isInstr vd.2 slots many)])
    | _ => ME.M.fail).run S Q E
  rw [h]
  exact ⟨⟨h0, h1, h2, h3, hb⟩, fun vd hv => k vd hv.1 hv.2⟩
theorem int_nat {m : Int} (h0 : 1 ≤ m) (h1 : m ≤ 6) : m = 1 ∨ m = 2 ∨ m = 3 ∨ m = 4 ∨ m = 5 ∨ m = 6 := by omega
theorem in62_ok {m : Int} (h0 : 1 ≤ m) (h1 : m ≤ 6) : ME.in62 m = true := by
  unfold ME.in62
  rw [decide_eq_true (show -(2 ^ 62) ≤ m by omega), decide_eq_true (show m < 2 ^ 62 by omega)]
  rfl
theorem st_rows (T0 : Addr) (b : Nat) (hb : 48 ≤ b) (x0 x2 x5 x6 x7 x8 x9 x10 : Option D) (s m : Int) (s0 : 0 ≤ s) (s1 : s ≤ 8) (m0 : 1 ≤ m) (m1 : m ≤ 6) (Q : ME.Out → List SO → Prop) (E : ME.Ex → List SO → Prop)
    (k : ∀ (vds : List (D × PyData)) (b' : Nat), (vds.length : Int) = m → RowsR s m vds → b ≤ b' + 48 → Q (.nx [x0, some (.ob 1), x2, some (.int s), some (.int m), some (.lst (vds.map (Rw s m))), x6, x7, x8, x9, x10]) [.tbl T0 lamQ, .pen b']) :
    ((ME.mSet 5 (ME.mLc (ME.mItA ME.itR1 (ME.mCons (ME.mVar 4) ME.mNil)) [8] ME.gNm ME.mYes (ME.mIf (ME.mTest (ME.mOp ME.gEq (ME.mCall ME.gDraw (ME.mCons (ME.mVar 1) (ME.mCons (ME.mC (.int 3)) ME.mNil))) (ME.mC (.int 0)))) (ME.mCall gStep (ME.mCons (ME.mVar 1) (ME.mCons (ME.mVar 3) (ME.mCons (ME.mVar 4) ME.mNil)))) (ME.mTup (ME.mCons (ME.mTup (ME.mCons (ME.mC (.str "end")) ME.mNil)) (ME.mCons (ME.mC (.bl true)) ME.mNil)))) [8])) [x0, some (.ob 1), x2, some (.int s), some (.int m), x5, x6, x7, x8, x9, x10]).run [.tbl T0 lamQ, .pen b] Q E := by
  refine ME.grd_ok (in62_ok m0 m1) ?_
  have hl : (ME.rng 0 m.toNat).length = m.toNat := by unfold ME.rng; rw [List.length_map, List.length_range]
  refine ME.grd_ok (decide_eq_true (by rw [hl, sizeLine_eq]; omega)) ?_
  refine ME.lcGo_inv (Q := fun r S' => Q (.nx [x0, some (.ob 1), x2, some (.int s), some (.int m), some (.lst r), x6, x7, x8, x9, x10]) S') (fun i acc S => ∃ (vds : List (D × PyData)) (b' : Nat), acc = vds.map (Rw s m) ∧ vds.length = i ∧ RowsR s m vds ∧ S = [.tbl T0 lamQ, .pen b'] ∧ b ≤ b' + 8 * i) _ 0 [] _
    ⟨[], b, rfl, rfl, (fun _ h => nomatch h), rfl, by omega⟩ ?_ ?_
  · rintro i d acc S hd ⟨vds, b', rfl, hi, hR, rfl, hb'⟩
    have hil : i < m.toNat := by
      have := (List.getElem?_eq_some_iff.mp hd).1
      rwa [hl] at this
    rw [Nat.zero_add] at hi hb' ⊢
    refine ME.draw_run (i := 1) (b := b') (m := 3) rfl (by omega) (by decide) (by decide) fun r r0 r1 => ?_
    have fin : ∀ (vd : D × PyData) (b2 : Nat), toDv vd.1 = some vd.2 → ShortI vd.2 → b' ≤ b2 + 8 → ∃ (vs : List (D × PyData)) (b3 : Nat), vds.map (Rw s m) ++ [Rw s m vd] = vs.map (Rw s m) ∧ vs.length = i + 1 ∧ RowsR s m vs ∧ ([.tbl T0 lamQ, .pen b2] : List SO) = [.tbl T0 lamQ, .pen b3] ∧ b ≤ b3 + 8 * (i + 1) := fun vd b2 h1 h2 h3 =>
      ⟨vds ++ [vd], b2, by rw [List.map_append]; rfl, by rw [List.length_append, hi]; rfl, fun x hx => by
        rcases List.mem_append.mp hx with q | q
        · exact hR x q
        · rw [List.mem_singleton.mp q]; exact ⟨h1, h2⟩, rfl, by omega⟩
    by_cases hr : r = 0
    · refine ME.crun_t (c := decide (r = 0)) (decide_eq_true hr) ?_
      refine step_run (S := [.tbl T0 lamQ, .pen (b' - 1)]) (i := 1) (b := b' - 1) rfl (by omega) s0 (by omega) m0 (by omega) fun vd h1 h2 => ?_
      exact fin vd (b' - 1 - 7) h1 h2 (by omega)
    · refine ME.crun_f (c := decide (r = 0)) (decide_eq_false hr) ?_
      refine ME.grd_ok (c := decide (1 ≤ sizeLine)) (by decide) ?_
      refine ME.grd_ok (c := decide (2 ≤ sizeLine)) (by decide) ?_
      have z := fin (.tup [.str "end"], .tuple [.str "end"]) (b' - 1) rfl (fun ps e => by cases e; exact ⟨by decide, fun p hp => by rw [List.mem_singleton.mp hp]; exact fun x e => by cases e; decide⟩) (by omega)
      have w : Rw s m (.tup [.str "end"], .tuple [.str "end"]) = .tup [.tup [.str "end"], .bl true] := by unfold Rw; rw [instr_end]
      rw [w] at z
      exact z
  · rintro acc S ⟨vds, b', rfl, hi, hR, rfl, hb'⟩
    rw [hl, Nat.zero_add] at hi hb'
    exact k vds b' (by omega) hR (by omega)
/-! ### wrong -/
def wr (s m : Int) : Nat → List (D × PyData) → List D
  | _, [] => []
  | k, vd :: r => if isInstr vd.2 s m = true then wr s m (k + 1) r else .int (k : Nat) :: wr s m (k + 1) r
theorem nums_cons (k n : Nat) : ME.nums k (n + 1) = .int (k : Nat) :: ME.nums (k + 1) n := by
  unfold ME.nums
  rw [List.range'_succ, List.map_cons]
theorem lc_wrong (s m : Int) (env : ME.Env) (hl : env.length = 11) : ∀ (vds : List (D × PyData)) (k : Nat),
    ME.lcGo [8, 9, 10] (ME.gTp 2 (ME.gsCons ME.gNm (ME.gsCons (ME.gTp 2 (ME.gsCons ME.gNm (ME.gsCons ME.gNm ME.gsNil))) ME.gsNil))) (ME.mNot (ME.mTru (ME.mVar 10))) (ME.mVar 8) env (ME.pairs (ME.nums k vds.length) (vds.map (Rw s m))) = ME.M.pure (wr s m k vds)
  | [], k => by
    show ME.lcGo _ _ _ _ _ (ME.pairs (ME.nums k 0) []) = _
    rfl
  | vd :: r, k => by
    have ih := lc_wrong s m env hl r (k + 1)
    match env, hl with
    | [e0, e1, e2, e3, e4, e5, e6, e7, e8, e9, e10], _ =>
      rw [List.length_cons, nums_cons, List.map_cons]
      have step : ∀ (L : List D), ME.lcGo [8, 9, 10] (ME.gTp 2 (ME.gsCons ME.gNm (ME.gsCons (ME.gTp 2 (ME.gsCons ME.gNm (ME.gsCons ME.gNm ME.gsNil))) ME.gsNil))) (ME.mNot (ME.mTru (ME.mVar 10))) (ME.mVar 8) [e0, e1, e2, e3, e4, e5, e6, e7, e8, e9, e10] (.tup [.int (k : Nat), Rw s m vd] :: L) =
          cond (!isInstr vd.2 s m) ((ME.lcGo [8, 9, 10] (ME.gTp 2 (ME.gsCons ME.gNm (ME.gsCons (ME.gTp 2 (ME.gsCons ME.gNm (ME.gsCons ME.gNm ME.gsNil))) ME.gsNil))) (ME.mNot (ME.mTru (ME.mVar 10))) (ME.mVar 8) [e0, e1, e2, e3, e4, e5, e6, e7, e8, e9, e10] L).bind fun r => ME.M.pure (.int (k : Nat) :: r))
            (ME.lcGo [8, 9, 10] (ME.gTp 2 (ME.gsCons ME.gNm (ME.gsCons (ME.gTp 2 (ME.gsCons ME.gNm (ME.gsCons ME.gNm ME.gsNil))) ME.gsNil))) (ME.mNot (ME.mTru (ME.mVar 10))) (ME.mVar 8) [e0, e1, e2, e3, e4, e5, e6, e7, e8, e9, e10] L) := fun L => rfl
      have z := step (ME.pairs (ME.nums (k + 1) r.length) (r.map (Rw s m)))
      rw [ih] at z
      refine z.trans ?_
      have e : wr s m k (vd :: r) = if isInstr vd.2 s m = true then wr s m (k + 1) r else .int (k : Nat) :: wr s m (k + 1) r := rfl
      rw [e]
      cases isInstr vd.2 s m with
      | true => rfl
      | false => rfl
/-- the steps of the rows -/
theorem lc_steps (s m : Int) (env : ME.Env) (hl : env.length = 11) : ∀ (vds : List (D × PyData)),
    ME.lcGo [9, 10] (ME.gTp 2 (ME.gsCons ME.gNm (ME.gsCons ME.gNm ME.gsNil))) ME.mYes (ME.mVar 9) env (vds.map (Rw s m)) = ME.M.pure (vds.map Prod.fst)
  | [] => rfl
  | vd :: r => by
    have ih := lc_steps s m env hl r
    match env, hl with
    | [e0, e1, e2, e3, e4, e5, e6, e7, e8, e9, e10], _ =>
      have step : ∀ (L : List D), ME.lcGo [9, 10] (ME.gTp 2 (ME.gsCons ME.gNm (ME.gsCons ME.gNm ME.gsNil))) ME.mYes (ME.mVar 9) [e0, e1, e2, e3, e4, e5, e6, e7, e8, e9, e10] (Rw s m vd :: L) =
          (ME.lcGo [9, 10] (ME.gTp 2 (ME.gsCons ME.gNm (ME.gsCons ME.gNm ME.gsNil))) ME.mYes (ME.mVar 9) [e0, e1, e2, e3, e4, e5, e6, e7, e8, e9, e10] L).bind fun r => ME.M.pure (vd.1 :: r) := fun L => rfl
      rw [List.map_cons]
      refine (step _).trans ?_
      rw [ih]
      rfl
theorem mLc_pure {it : ME.Env → ME.M (List D)} {ix : List Nat} {g : D → ME.M (List D)} {t : ME.Env → ME.M Bool} {e : ME.Env → ME.M D} {vs : List Nat} {env : ME.Env} {ds r : List D} (hi : it env = ME.M.pure ds) (hl : ds.length < sizeLine) (h : ME.lcGo ix g t e (ME.wipeE env vs) ds = ME.M.pure r) : ME.mLc it ix g t e vs env = ME.M.pure (.lst r) := by
  unfold ME.mLc
  rw [hi]
  show ((ME.M.grd (decide (ds.length < sizeLine))).bind fun _ => (ME.M.noX (ME.lcGo ix g t e (ME.wipeE env vs) ds)).bind fun r => ME.M.pure (D.lst r)) = _
  rw [ME.M.grd_true (decide_eq_true hl), h]
  rfl
theorem small6 {n : Nat} (h : n ≤ 6) : n < sizeLine := small1000 (by omega)
/-! ### what the rows' data are -/
theorem dvs_rows {s m : Int} : ∀ {vds : List (D × PyData)}, RowsR s m vds → toDvs (vds.map Prod.fst) = some (vds.map Prod.snd)
  | [], _ => rfl
  | vd :: r, h => by
    have h1 := (h vd List.mem_cons_self).1
    have h2 := dvs_rows (s := s) (m := m) (vds := r) fun x hx => h x (List.mem_cons_of_mem _ hx)
    show toDvs (vd.1 :: r.map Prod.fst) = _
    unfold toDvs
    rw [h1, h2]
    rfl
theorem wr_none {s m : Int} : ∀ (vds : List (D × PyData)) (k : Nat), (∀ vd ∈ vds, isInstr vd.2 s m = true) → wr s m k vds = []
  | [], _, _ => rfl
  | vd :: r, k, h => by
    show (if isInstr vd.2 s m = true then wr s m (k + 1) r else .int (k : Nat) :: wr s m (k + 1) r) = []
    rw [if_pos (h vd List.mem_cons_self)]
    exact wr_none r (k + 1) fun x hx => h x (List.mem_cons_of_mem _ hx)
theorem wr_some {s m : Int} : ∀ (vds : List (D × PyData)) (k i : Nat), vds.findIdx? (fun vd => !isInstr vd.2 s m) = some i → ∃ r : List Int, wr s m k vds = .int ((k + i : Nat) : Int) :: r.map D.int
  | vd :: r, k, i, h => by
    have tl : ∀ (r : List (D × PyData)) (k : Nat), ∃ t : List Int, wr s m k r = t.map D.int := by
      intro r
      induction r with
      | nil => exact fun k => ⟨[], rfl⟩
      | cons x r ih =>
        intro k
        obtain ⟨t, e⟩ := ih (k + 1)
        show ∃ t : List Int, (if isInstr x.2 s m = true then wr s m (k + 1) r else .int (k : Nat) :: wr s m (k + 1) r) = t.map D.int
        rw [e]
        cases isInstr x.2 s m with
        | true => exact ⟨t, rfl⟩
        | false => exact ⟨(k : Nat) :: t, rfl⟩
    rw [List.findIdx?_cons] at h
    show ∃ t : List Int, (if isInstr vd.2 s m = true then wr s m (k + 1) r else .int (k : Nat) :: wr s m (k + 1) r) = _
    cases q : isInstr vd.2 s m with
    | false =>
      rw [q] at h
      have e : 0 = i := Option.some.inj h
      subst e
      obtain ⟨t, e⟩ := tl r (k + 1)
      exact ⟨t, by rw [if_neg Bool.false_ne_true, e, Nat.add_zero]⟩
    | true =>
      rw [q] at h
      obtain ⟨j, h1, h2⟩ := Option.map_eq_some_iff.mp (show Option.map (fun i => i + 1) (r.findIdx? fun vd => !isInstr vd.2 s m) = some i from h)
      subst h2
      obtain ⟨t, e⟩ := wr_some r (k + 1) j h1
      exact ⟨t, by rw [if_pos rfl, e, show k + 1 + j = k + (j + 1) by omega]⟩
theorem bad_rows {s m : Int} {vds : List (D × PyData)} (hl : (vds.length : Int) = m) : firstBad (vds.map Prod.snd) s = vds.findIdx? fun vd => !isInstr vd.2 s m := by
  unfold firstBad
  rw [List.length_map, hl, List.findIdx?_map]
  rfl
/-! ### good rows -/
theorem py_scals : ∀ {es : List D} {ds : List PyData}, toDvs es = some ds → (∀ x ∈ ds, scal x = true) → ME.toPys es = some ds
  | [], _, h, _ => by cases h; rfl
  | e :: es, ds, h, hs => by
    unfold toDvs at h
    cases z : toDv e with
    | none => rw [z] at h; cases h
    | some x => cases y : toDvs es with
      | none => rw [z, y] at h; cases h
      | some xs =>
        rw [z, y] at h
        cases h
        have h1 := hs x List.mem_cons_self
        have h2 := py_scals y fun w hw => hs w (List.mem_cons_of_mem _ hw)
        have h3 : ME.toPy e = some x := by
          cases e with
          | int i => cases z; rfl
          | str i => cases z; rfl
          | tup ds => unfold toDv at z; split at z <;> cases z; cases h1
          | lst ds => unfold toDv at z; split at z <;> cases z; cases h1
          | dct ks ds => unfold toDv at z; split at z <;> cases z; cases h1
          | lsk ds => unfold toDv at z; split at z <;> cases z; cases h1
          | non => cases z; cases h1
          | bl b => cases z; cases h1
          | _ => cases z
        unfold ME.toPys
        rw [h3, h2]
theorem py_good {s m : Int} {v : D} {d : PyData} (h : toDv v = some d) (g : isInstr d s m = true) : ME.toPy v = some d ∧ ∃ es ds, v = .tup es ∧ toDvs es = some ds ∧ ∀ x ∈ ds, scal x = true := by
  obtain ⟨ds, rfl, _, hs⟩ := good_instr g
  cases v with
  | tup es =>
    unfold toDv at h
    cases z : toDvs es with
    | none => rw [z] at h; cases h
    | some ps =>
      rw [z] at h
      cases h
      refine ⟨?_, es, _, rfl, z, hs⟩
      unfold ME.toPy
      rw [py_scals z hs]
  | lst es => unfold toDv at h; split at h <;> cases h
  | dct ks es => unfold toDv at h; split at h <;> cases h
  | lsk es => unfold toDv at h; split at h <;> cases h
  | _ => cases h
theorem pys_good {s m : Int} : ∀ {vds : List (D × PyData)}, RowsR s m vds → (∀ vd ∈ vds, isInstr vd.2 s m = true) → ME.toPys (vds.map Prod.fst) = some (vds.map Prod.snd)
  | [], _, _ => rfl
  | vd :: r, h, g => by
    have h1 := (py_good (h vd List.mem_cons_self).1 (g vd List.mem_cons_self)).1
    have h2 := pys_good (vds := r) (fun x hx => h x (List.mem_cons_of_mem _ hx)) fun x hx => g x (List.mem_cons_of_mem _ hx)
    show ME.toPys (vd.1 :: r.map Prod.fst) = _
    unfold ME.toPys
    rw [h1, h2]
    rfl
theorem frz_scals {n f : Nat} {S : List SO} : ∀ {es : List D} {ds : List PyData}, toDvs es = some ds → (∀ x ∈ ds, scal x = true) → ME.frzL (ME.frz n S (f + 1)) es = some es
  | [], _, _, _ => rfl
  | e :: es, ds, h, hs => by
    unfold toDvs at h
    cases z : toDv e with
    | none => rw [z] at h; cases h
    | some x => cases y : toDvs es with
      | none => rw [z, y] at h; cases h
      | some xs =>
        rw [z, y] at h
        cases h
        have h1 := hs x List.mem_cons_self
        have h2 := frz_scals (n := n) (f := f) (S := S) y fun w hw => hs w (List.mem_cons_of_mem _ hw)
        have h3 : ME.frz n S (f + 1) e = some e := by
          cases e with
          | int i => rfl
          | str i => rfl
          | tup ds => unfold toDv at z; split at z <;> cases z; cases h1
          | lst ds => unfold toDv at z; split at z <;> cases z; cases h1
          | dct ks ds => unfold toDv at z; split at z <;> cases z; cases h1
          | lsk ds => unfold toDv at z; split at z <;> cases z; cases h1
          | non => cases z; cases h1
          | bl b => cases z; cases h1
          | _ => cases z
        unfold ME.frzL
        rw [h3, h2]
theorem frz_good {s m : Int} {n f : Nat} {S : List SO} : ∀ {vds : List (D × PyData)}, RowsR s m vds → (∀ vd ∈ vds, isInstr vd.2 s m = true) → ME.frzL (ME.frz n S (f + 2)) (vds.map Prod.fst) = some (vds.map Prod.fst)
  | [], _, _ => rfl
  | vd :: r, h, g => by
    obtain ⟨_, es, ds, e1, e2, e3⟩ := py_good (h vd List.mem_cons_self).1 (g vd List.mem_cons_self)
    have h1 : ME.frz n S (f + 2) vd.1 = some vd.1 := by
      rw [e1]
      show (match ME.frzL (ME.frz n S (f + 1)) es with | some es => some (D.tup es) | none => none) = _
      rw [frz_scals e2 e3]
    have h2 := frz_good (n := n) (f := f) (S := S) (vds := r) (fun x hx => h x (List.mem_cons_of_mem _ hx)) fun x hx => g x (List.mem_cons_of_mem _ hx)
    show ME.frzL _ (vd.1 :: r.map Prod.fst) = _
    unfold ME.frzL
    rw [h1, h2]
    rfl
end My
namespace My
open PySem PySem.Spec PyProof.Rows L2
open ME (D SO)
theorem rows_len {s m : Int} {vds : List (D × PyData)} (hl : (vds.length : Int) = m) (m1 : m ≤ 6) : (vds.map (Rw s m)).length < sizeLine := by
  rw [List.length_map]
  exact small6 (by omega)
theorem e_wrong (T0 : Addr) (x0 x1 x2 x3 x4 x6 x7 x8 x9 x10 : Option D) {s m : Int} {vds : List (D × PyData)} (hl : (vds.length : Int) = m) (m1 : m ≤ 6) :
    (ME.mSet 6 (ME.mLc (ME.mItA ME.itE (ME.mCons (ME.mVar 5) ME.mNil)) [8, 9, 10] (ME.gTp 2 (ME.gsCons ME.gNm (ME.gsCons (ME.gTp 2 (ME.gsCons ME.gNm (ME.gsCons ME.gNm ME.gsNil))) ME.gsNil))) (ME.mNot (ME.mTru (ME.mVar 10))) (ME.mVar 8) [8, 9, 10])) [x0, x1, x2, x3, x4, some (.lst (vds.map (Rw s m))), x6, x7, x8, x9, x10] =
      ME.M.pure (.nx [x0, x1, x2, x3, x4, some (.lst (vds.map (Rw s m))), some (.lst (wr s m 0 vds)), x7, x8, x9, x10]) := by
  have hp : (ME.pairs (ME.nums 0 (vds.map (Rw s m)).length) (vds.map (Rw s m))).length < sizeLine := by
    rw [ME.pairs_len]
    exact Nat.lt_of_le_of_lt (Nat.min_le_right _ _) (rows_len hl m1)
  have z := lc_wrong s m (ME.wipeE [x0, x1, x2, x3, x4, some (.lst (vds.map (Rw s m))), x6, x7, x8, x9, x10] [8, 9, 10]) rfl vds 0
  have e := mLc_pure (it := ME.mItA ME.itE (ME.mCons (ME.mVar 5) ME.mNil)) (env := [x0, x1, x2, x3, x4, some (.lst (vds.map (Rw s m))), x6, x7, x8, x9, x10]) (vs := [8, 9, 10]) (ds := ME.pairs (ME.nums 0 (vds.map (Rw s m)).length) (vds.map (Rw s m))) rfl hp (by rw [List.length_map]; exact z)
  show ((ME.mLc _ _ _ _ _ _ _).bind fun d => _) = _
  rw [e]
  rfl
theorem e_steps (x0 x1 x2 x3 x4 x6 x7 x8 x9 x10 : Option D) {s m : Int} {vds : List (D × PyData)} (hl : (vds.length : Int) = m) (m1 : m ≤ 6) :
    ME.mLc (ME.mIt (ME.mVar 5)) [9, 10] (ME.gTp 2 (ME.gsCons ME.gNm (ME.gsCons ME.gNm ME.gsNil))) ME.mYes (ME.mVar 9) [9, 10] [x0, x1, x2, x3, x4, some (.lst (vds.map (Rw s m))), x6, x7, x8, x9, x10] = ME.M.pure (.lst (vds.map Prod.fst)) :=
  mLc_pure (ds := vds.map (Rw s m)) rfl (rows_len hl m1) (lc_steps s m _ rfl vds)
/-- what is heard -/
def hrd (s : Int) (vds : List (D × PyData)) (u : Addr) : Option Nat → D
  | none => .lst [.ins "Function" funNs [.str "f", .int 0, .int 0, .int s, .tup (vds.map Prod.fst), .raw u]]
  | some i => .tup [.str "code", .int (i : Nat)]
theorem hear_run {T : Addr} {q : Str} {m : ME.Env → ME.M D} {i : Nat} {env : ME.Env} {r : List SO} {Q : ME.Out → List SO → Prop} {E : ME.Ex → List SO → Prop} (hr : r.all noTbl = true)
    (h : (m env).run (.tbl T q :: r) (fun v S' => Q (.nx (env.set i (some (.lst [v])))) S') (fun x S' => match heardV x with | some d => Q (.nx (env.set i (some d))) S' | none => False)) : (ME.mSet i (mHear T q m) env).run (.tbl T q :: r) Q E := by
  have c : (T == T && q == q && r.all noTbl) = true := by rw [beq_self_eq_true, beq_self_eq_true, hr]; rfl
  have z : cond (T == T && q == q && r.all noTbl) ((m env).run (.tbl T q :: r) (fun v S' => Q (.nx (env.set i (some (.lst [v])))) S') (fun x S' => match heardV x with | some d => Q (.nx (env.set i (some d))) S' | none => False)) False := by
    rw [c]
    exact h
  exact z
theorem func_run {n : Nat} {s : Int} {ds : List D} {ps : List PyData} {S : List SO} {Q : D → List SO → Prop} {E : ME.Ex → List SO → Prop} (hS : S[n]? = some (.ins "Function" [] [])) (s0 : 0 ≤ s) (s1 : s ≤ 8) (l1 : 1 ≤ ds.length) (l2 : ds.length ≤ 200) (hd : toDvs ds = some ps) (hs : ∀ d ∈ ps, ShortI d)
    (h : (funRes n s ds ps).run S Q E) : (gFunc ([.ob n, .str "f", .int 0, .int 0, .int s, .lst ds] ++ [.tup []])).run S Q E := by
  refine ⟨⟨hS, rfl, rfl, rfl, rfl, s0, s1, l1, l2⟩, ?_⟩
  have z : (match toDvs ds with
    | some ps => (ME.M.grdP (∀ d ∈ ps, ShortI d)).bind fun _ => funRes n s ds ps
    | none => ME.M.fail).run S Q E := by
    rw [hd]
    exact ⟨hs, h⟩
  exact z
theorem res_none {n : Nat} {s : Int} {ds : List D} {ps : List PyData} {S : List SO} {Q : D → List SO → Prop} {E : ME.Ex → List SO → Prop} (hb : firstBad ps s = none) (h : ∀ u : Addr, Q .non (S.set n (.ins "Function" funNs [.str "f", .int 0, .int 0, .int s, .tup ds, .raw u]))) : (funRes n s ds ps).run S Q E := by
  unfold funRes
  rw [hb]
  exact fun u _ => h u
theorem res_some {n i : Nat} {s : Int} {ds : List D} {ps : List PyData} {S : List SO} {Q : D → List SO → Prop} {E : ME.Ex → List SO → Prop} (hb : firstBad ps s = some i) (h : E ⟨"BadCode", ["at"], [.int (i : Nat)]⟩ S) : (funRes n s ds ps).run S Q E := by
  unfold funRes
  rw [hb]
  exact h
def lamM : ME.Env → ME.M D := ME.mMake "Function" gFunc [.tup []] (ME.mCons (ME.mC (.str "f")) (ME.mCons (ME.mC (.int 0)) (ME.mCons (ME.mC (.int 0)) (ME.mCons (ME.mVar 3) (ME.mCons (ME.mLc (ME.mIt (ME.mVar 5)) [9, 10] (ME.gTp 2 (ME.gsCons ME.gNm (ME.gsCons ME.gNm ME.gsNil))) ME.mYes (ME.mVar 9) [9, 10]) ME.mNil)))))
theorem heard_code (i : Nat) : heardV ⟨"BadCode", ["at"], [.int (i : Nat)]⟩ = some (.tup [.str "code", .int (i : Nat)]) := by
  have e : (hTab.find? fun t => t.1 == ("BadCode" : Str) && (["at"] : List Str) == [t.2.1]) = some (("BadCode" : Str), ("at" : Str), ("code" : Str)) := by decide +kernel
  show (match hTab.find? fun t => t.1 == ("BadCode" : Str) && (["at"] : List Str) == [t.2.1] with
    | some t => some (D.tup [.str t.2.2, .int (i : Nat)])
    | none => none) = _
  rw [e]
theorem frz_fun {s m : Int} {vds : List (D × PyData)} (T0 : Addr) (b : Nat) (u : Addr) (hR : RowsR s m vds) (hg : ∀ vd ∈ vds, isInstr vd.2 s m = true) {S : List SO} (hS : S[2]? = some (.ins "Function" funNs [.str "f", .int 0, .int 0, .int s, .tup (vds.map Prod.fst), .raw u])) :
    ME.frz 2 S 40 (.ob 2) = some (.ins "Function" funNs [.str "f", .int 0, .int 0, .int s, .tup (vds.map Prod.fst), .raw u]) := by
  have e1 : ME.frz 2 S 39 (.tup (vds.map Prod.fst)) = some (.tup (vds.map Prod.fst)) := by
    unfold ME.frz
    simp only []
    rw [frz_good hR hg]
  have e2 : ME.frzL (ME.frz 2 S 39) [.str "f", .int 0, .int 0, .int s, .tup (vds.map Prod.fst), .raw u] = some [.str "f", .int 0, .int 0, .int s, .tup (vds.map Prod.fst), .raw u] := by
    have a1 : ME.frz 2 S 39 (.str "f") = some (.str "f") := rfl
    have a2 : ∀ i : Int, ME.frz 2 S 39 (.int i) = some (.int i) := fun _ => rfl
    have a3 : ME.frz 2 S 39 (.raw u) = some (.raw u) := rfl
    simp only [ME.frzL, a1, a2, a3, e1]
  unfold ME.frz
  simp only []
  rw [if_neg (Nat.lt_irrefl 2), hS]
  simp only []
  rw [e2]
theorem st_heard (T0 : Addr) (b : Nat) (x0 x1 x2 x4 x6 x7 x8 x9 x10 : Option D) {s m : Int} {vds : List (D × PyData)} (s0 : 0 ≤ s) (s1 : s ≤ 8) (hl : (vds.length : Int) = m) (m0 : 1 ≤ m) (m1 : m ≤ 6) (hR : RowsR s m vds) (Q : ME.Out → List SO → Prop) (E : ME.Ex → List SO → Prop)
    (k : ∀ u, Q (.nx [x0, x1, x2, some (.int s), x4, some (.lst (vds.map (Rw s m))), x6, some (hrd s vds u (vds.findIdx? fun vd => !isInstr vd.2 s m)), x8, x9, x10]) [.tbl T0 lamQ, .pen b]) :
    ((ME.mSet 7 (mHear T0 lamQ lamM)) [x0, x1, x2, some (.int s), x4, some (.lst (vds.map (Rw s m))), x6, x7, x8, x9, x10]).run [.tbl T0 lamQ, .pen b] Q E := by
  refine hear_run rfl ?_
  refine ME.make_run (ds := [.str "f", .int 0, .int 0, .int s, .lst (vds.map Prod.fst)]) (ME.mCons_pure rfl (ME.mCons_pure rfl (ME.mCons_pure rfl (ME.mCons_pure rfl (ME.mCons_pure (e_steps x0 x1 x2 (some (.int s)) x4 x6 x7 x8 x9 x10 (s := s) (vds := vds) hl m1) rfl))))) ?_
  refine func_run (n := 2) rfl s0 s1 (by rw [List.length_map]; omega) (by rw [List.length_map]; omega) (dvs_rows hR) (fun d hd => ?_) ?_
  · obtain ⟨vd, h1, h2⟩ := List.mem_map.mp hd
    rw [← h2]
    exact (hR vd h1).2
  cases hf : vds.findIdx? fun vd => !isInstr vd.2 s m with
  | none =>
    have hg : ∀ vd ∈ vds, isInstr vd.2 s m = true := fun vd h => by
      have := List.findIdx?_eq_none_iff.mp hf vd h
      simpa using this
    rw [hf] at k
    refine res_none ((bad_rows hl).trans hf) fun u => ?_
    have hz := frz_fun (S := [.tbl T0 lamQ, .pen b, .ins "Function" funNs [.str "f", .int 0, .int 0, .int s, .tup (vds.map Prod.fst), .raw u]]) T0 b u hR hg rfl
    have w : ME.trimQ 2 (.ob 2) [.tbl T0 lamQ, .pen b, .ins "Function" funNs [.str "f", .int 0, .int 0, .int s, .tup (vds.map Prod.fst), .raw u]] (fun v S' => Q (.nx [x0, x1, x2, some (.int s), x4, some (.lst (vds.map (Rw s m))), x6, some (.lst [v]), x8, x9, x10]) S') := by
      unfold ME.trimQ
      rw [hz]
      exact k u
    exact w
  | some i =>
    rw [hf] at k
    refine res_some ((bad_rows hl).trans hf) ?_
    have w : ME.trimX 2 ⟨"BadCode", ["at"], [.int (i : Nat)]⟩ [.tbl T0 lamQ, .pen b, .ins "Function" [] []] (fun x S' => match heardV x with | some d => Q (.nx [x0, x1, x2, some (.int s), x4, some (.lst (vds.map (Rw s m))), x6, some d, x8, x9, x10]) S' | none => False) := by
      unfold ME.trimX
      show match heardV ⟨"BadCode", ["at"], [.int (i : Nat)]⟩ with | some d => Q (.nx [x0, x1, x2, some (.int s), x4, some (.lst (vds.map (Rw s m))), x6, some d, x8, x9, x10]) [.tbl T0 lamQ, .pen b] | none => False
      rw [heard_code]
      exact k 0
    exact w
theorem eqM_py (f : Bool → Bool) {x y : D} {p q : PyData} (hs : ME.scalE x y = none) (hx : ∀ S, ME.toPy (ME.view S x) = some p) (hy : ∀ S, ME.toPy (ME.view S y) = some q) (sp : SeqAt.shaped p = true) (sq : SeqAt.shaped q = true) : ME.eqM f x y = ME.M.pure (.bl (f (PyData.eqv p q))) := ME.M.ext fun S Q E => by
  show (match ME.scalE x y with
    | some b => ME.M.pure (D.bl (f b))
    | none => match ME.toPy (ME.view S x), ME.toPy (ME.view S y) with
      | some p, some q => (ME.M.grd (SeqAt.shaped p && SeqAt.shaped q)).bind fun _ => ME.M.pure (.bl (f (PyData.eqv p q)))
      | _, _ => ME.M.fail).run S Q E ↔ _
  rw [hs]
  show (match ME.toPy (ME.view S x), ME.toPy (ME.view S y) with
      | some p, some q => (ME.M.grd (SeqAt.shaped p && SeqAt.shaped q)).bind fun _ => ME.M.pure (D.bl (f (PyData.eqv p q)))
      | _, _ => ME.M.fail).run S Q E ↔ _
  rw [hx, hy]
  show ((ME.M.grd (SeqAt.shaped p && SeqAt.shaped q)).bind fun _ => ME.M.pure (D.bl (f (PyData.eqv p q)))).run S Q E ↔ _
  rw [sp, sq]
  exact Iff.rfl
theorem py_ints : ∀ is : List Int, ME.toPys (is.map D.int) = some (is.map PyData.int)
  | [] => rfl
  | i :: is => by
    show ME.toPys (.int i :: is.map D.int) = _
    unfold ME.toPys
    rw [py_ints is]
    rfl
theorem shaped_ints (is : List Int) : SeqAt.shaped (.list (is.map PyData.int)) = true := by
  obtain ⟨a, b⟩ := lay_scals (ds := is.map PyData.int) fun x hx => by
    obtain ⟨i, _, e⟩ := List.mem_map.mp hx
    rw [← e]
    rfl
  show (PyData.canLayAll0 (is.map PyData.int) && decide (PyData.depthAll (is.map PyData.int) + 1 ≤ 64)) = true
  rw [a, decide_eq_true (by omega)]
  rfl
theorem ne_ints (f : Bool → Bool) (i : Int) (is : List Int) : ME.eqM f (.lst (.int i :: is.map D.int)) (.lst []) = ME.M.pure (.bl (f false)) := by
  have z := eqM_py f (x := .lst (.int i :: is.map D.int)) (y := .lst []) (p := .list ((i :: is).map PyData.int)) (q := .list []) rfl (fun S => by
    show ME.toPy (.lst ((i :: is).map D.int)) = _
    unfold ME.toPy
    rw [py_ints (i :: is)]) (fun S => rfl) (shaped_ints (i :: is)) (shaped_ints [])
  exact z
theorem ne_nil (f : Bool → Bool) : ME.eqM f (.lst []) (.lst []) = ME.M.pure (.bl (f true)) := eqM_py f (p := .list []) (q := .list []) rfl (fun S => rfl) (fun S => rfl) (shaped_ints []) (shaped_ints [])
theorem ne_code (f : Bool → Bool) (i : Int) : ME.eqM f (.tup [.str "code", .int i]) (.tup [.str "code", .int i]) = ME.M.pure (.bl (f true)) := by
  have hs : SeqAt.shaped (.tuple [.str "code", .int i]) = true := by
    show (PyData.canLayAll0 [.str "code", .int i] && decide (PyData.depthAll [.str "code", .int i] + 1 ≤ 64)) = true
    obtain ⟨a, b⟩ := lay_scals (ds := [.str "code", .int i]) fun x hx => by
      rcases List.mem_cons.mp hx with e | e
      · rw [e]; decide +kernel
      · rw [List.mem_singleton.mp e]; rfl
    rw [a, decide_eq_true (by omega)]
    rfl
  have z := eqM_py f (x := .tup [.str "code", .int i]) (y := .tup [.str "code", .int i]) (p := .tuple [.str "code", .int i]) (q := .tuple [.str "code", .int i]) rfl (fun S => rfl) (fun S => rfl) hs hs
  rw [SeqAt.eqv_refl _ (SeqAt.canLay_of_shaped hs)] at z
  exact z
theorem ix0 (d : D) (ds : List D) : ME.ixD (.lst (d :: ds)) (.int 0) = ME.M.pure d := ME.M.ext fun S Q E => by
  have e : atI (d :: ds) (0 : Int) = some d := atI_nat (j := 0) (v := d) rfl
  show (match atI (d :: ds) (0 : Int) with | some d => ME.M.pure d | none => ME.M.fail).run S Q E ↔ (ME.M.pure d).run S Q E
  rw [e]
theorem steps_eq (f : Bool → Bool) {s m : Int} {vds : List (D × PyData)} (hR : RowsR s m vds) (hg : ∀ vd ∈ vds, isInstr vd.2 s m = true) : ME.eqM f (.tup (vds.map Prod.fst)) (.tup (vds.map Prod.fst)) = ME.M.pure (.bl (f true)) := by
  have hp : ∀ S, ME.toPy (ME.view S (.tup (vds.map Prod.fst))) = some (.tuple (vds.map Prod.snd)) := fun S => by
    show ME.toPy (.tup (vds.map Prod.fst)) = _
    unfold ME.toPy
    rw [pys_good hR hg]
  obtain ⟨h1, h2⟩ := shaped_code (slots := s) (many := m) (ds := vds.map Prod.snd) fun x hx => by
    obtain ⟨vd, h1, h2⟩ := List.mem_map.mp hx
    rw [← h2]
    exact hg vd h1
  have z := eqM_py f rfl hp hp h1 h1
  rw [h2] at z
  exact z
def if1 : ME.Env → ME.M ME.Out := ME.mIfS (ME.mAnd (ME.mTest (ME.mOp ME.gNe (ME.mVar 6) (ME.mLst ME.mNil))) (ME.mTest (ME.mOp ME.gNe (ME.mVar 7) (ME.mTup (ME.mCons (ME.mC (.str "code")) (ME.mCons (ME.mOp ME.ixD (ME.mVar 6) (ME.mC (.int 0))) ME.mNil)))))) (ME.mRet (ME.mC (.bl false))) ME.mNext
def if2 : ME.Env → ME.M ME.Out := ME.mIfS (ME.mAnd (ME.mTest (ME.mOp ME.gEq (ME.mVar 6) (ME.mLst ME.mNil))) (ME.mOr (ME.mNot (ME.mTest (ME.mIsi tab (ME.tyIs "list") (ME.mVar 7)))) (ME.mTest (ME.mOp ME.gNe (ME.mFld tab "code" (ME.mOp ME.ixD (ME.mVar 7) (ME.mC (.int 0)))) (ME.mCall ME.gTuple (ME.mCons (ME.mLc (ME.mIt (ME.mVar 5)) [9, 10] (ME.gTp 2 (ME.gsCons ME.gNm (ME.gsCons ME.gNm ME.gsNil))) ME.mYes (ME.mVar 9) [9, 10]) ME.mNil)))))) (ME.mRet (ME.mC (.bl false))) ME.mNext
theorem e_if1 (x0 x1 x2 x3 x4 x5 x8 x9 x10 : Option D) {s m : Int} {vds : List (D × PyData)} (u : Addr) :
    if1 [x0, x1, x2, x3, x4, x5, some (.lst (wr s m 0 vds)), some (hrd s vds u (vds.findIdx? fun vd => !isInstr vd.2 s m)), x8, x9, x10] = ME.M.pure (.nx [x0, x1, x2, x3, x4, x5, some (.lst (wr s m 0 vds)), some (hrd s vds u (vds.findIdx? fun vd => !isInstr vd.2 s m)), x8, x9, x10]) := by
  cases hf : vds.findIdx? fun vd => !isInstr vd.2 s m with
  | none =>
    have hg : ∀ vd ∈ vds, isInstr vd.2 s m = true := fun vd h => by
      have := List.findIdx?_eq_none_iff.mp hf vd h
      simpa using this
    rw [wr_none vds 0 hg]
    have z := ne_nil not
    show (((ME.eqM not (.lst []) (.lst [])).bind ME.asB).bind _).bind _ = _
    rw [z]
    rfl
  | some i =>
    obtain ⟨r, e⟩ := wr_some vds 0 i hf
    rw [e, Nat.zero_add]
    have z := ne_ints not (i : Nat) r
    have z2 := ne_code not (i : Nat)
    have z3 := ix0 (.int (i : Nat)) (r.map D.int)
    show (((ME.eqM not (.lst (.int (i : Nat) :: r.map D.int)) (.lst [])).bind ME.asB).bind fun k => cond k (((ME.ixD (.lst (.int (i : Nat) :: r.map D.int)) (.int 0)).bind fun d => ME.eqM not (.tup [.str "code", .int (i : Nat)]) (.tup [.str "code", d])).bind ME.asB) (ME.M.pure false)).bind _ = _
    rw [z, z3]
    show ((ME.eqM not (.tup [.str "code", .int (i : Nat)]) (.tup [.str "code", .int (i : Nat)])).bind ME.asB).bind _ = _
    rw [z2]
    rfl
theorem e_if2 (x0 x1 x2 x3 x4 x8 x9 x10 : Option D) {s m : Int} {vds : List (D × PyData)} (u : Addr) (hl : (vds.length : Int) = m) (m1 : m ≤ 6) (hR : RowsR s m vds) :
    if2 [x0, x1, x2, x3, x4, some (.lst (vds.map (Rw s m))), some (.lst (wr s m 0 vds)), some (hrd s vds u (vds.findIdx? fun vd => !isInstr vd.2 s m)), x8, x9, x10] = ME.M.pure (.nx [x0, x1, x2, x3, x4, some (.lst (vds.map (Rw s m))), some (.lst (wr s m 0 vds)), some (hrd s vds u (vds.findIdx? fun vd => !isInstr vd.2 s m)), x8, x9, x10]) := by
  cases hf : vds.findIdx? fun vd => !isInstr vd.2 s m with
  | none =>
    have hg : ∀ vd ∈ vds, isInstr vd.2 s m = true := fun vd h => by
      have := List.findIdx?_eq_none_iff.mp hf vd h
      simpa using this
    rw [wr_none vds 0 hg]
    have z := ne_nil id
    have z2 := steps_eq not hR hg
    have z3 := e_steps x0 x1 x2 x3 x4 (some (.lst [])) (some (hrd s vds u none)) x8 x9 x10 (s := s) (vds := vds) hl m1
    have z4 : (ME.mFld tab "code" (ME.mOp ME.ixD (ME.mVar 7) (ME.mC (.int 0)))) [x0, x1, x2, x3, x4, some (.lst (vds.map (Rw s m))), some (.lst []), some (hrd s vds u none), x8, x9, x10] = ME.M.pure (.tup (vds.map Prod.fst)) := by
      have w := ix0 (.ins "Function" funNs [.str "f", .int 0, .int 0, .int s, .tup (vds.map Prod.fst), .raw u]) []
      show ((ME.ixD (.lst [.ins "Function" funNs [.str "f", .int 0, .int 0, .int s, .tup (vds.map Prod.fst), .raw u]]) (.int 0)).bind (ME.gFld tab "code")) = _
      rw [w]
      rfl
    have z5 : (ME.mCall ME.gTuple (ME.mCons (ME.mLc (ME.mIt (ME.mVar 5)) [9, 10] (ME.gTp 2 (ME.gsCons ME.gNm (ME.gsCons ME.gNm ME.gsNil))) ME.mYes (ME.mVar 9) [9, 10]) ME.mNil)) [x0, x1, x2, x3, x4, some (.lst (vds.map (Rw s m))), some (.lst []), some (hrd s vds u none), x8, x9, x10] = ME.M.pure (.tup (vds.map Prod.fst)) := by
      unfold ME.mCall
      rw [ME.mCons_pure z3 rfl]
      rfl
    have z6 : (ME.mOp ME.gNe (ME.mFld tab "code" (ME.mOp ME.ixD (ME.mVar 7) (ME.mC (.int 0)))) (ME.mCall ME.gTuple (ME.mCons (ME.mLc (ME.mIt (ME.mVar 5)) [9, 10] (ME.gTp 2 (ME.gsCons ME.gNm (ME.gsCons ME.gNm ME.gsNil))) ME.mYes (ME.mVar 9) [9, 10]) ME.mNil))) [x0, x1, x2, x3, x4, some (.lst (vds.map (Rw s m))), some (.lst []), some (hrd s vds u none), x8, x9, x10] = ME.M.pure (.bl false) := by
      rw [ME.mOp_pure z4 z5]
      exact z2
    have z7 : (ME.mOr (ME.mNot (ME.mTest (ME.mIsi tab (ME.tyIs "list") (ME.mVar 7)))) (ME.mTest (ME.mOp ME.gNe (ME.mFld tab "code" (ME.mOp ME.ixD (ME.mVar 7) (ME.mC (.int 0)))) (ME.mCall ME.gTuple (ME.mCons (ME.mLc (ME.mIt (ME.mVar 5)) [9, 10] (ME.gTp 2 (ME.gsCons ME.gNm (ME.gsCons ME.gNm ME.gsNil))) ME.mYes (ME.mVar 9) [9, 10]) ME.mNil))))) [x0, x1, x2, x3, x4, some (.lst (vds.map (Rw s m))), some (.lst []), some (hrd s vds u none), x8, x9, x10] = ME.M.pure false := by
      have w : (ME.mNot (ME.mTest (ME.mIsi tab (ME.tyIs "list") (ME.mVar 7)))) [x0, x1, x2, x3, x4, some (.lst (vds.map (Rw s m))), some (.lst []), some (hrd s vds u none), x8, x9, x10] = ME.M.pure false := rfl
      unfold ME.mOr
      rw [w, ME.M.pure_bind]
      unfold ME.mTest
      show ((ME.mOp ME.gNe _ _ _).bind ME.asB) = _
      rw [z6]
      rfl
    have z8 : (ME.mTest (ME.mOp ME.gEq (ME.mVar 6) (ME.mLst ME.mNil))) [x0, x1, x2, x3, x4, some (.lst (vds.map (Rw s m))), some (.lst []), some (hrd s vds u none), x8, x9, x10] = ME.M.pure true := by
      show ((ME.eqM id (.lst []) (.lst [])).bind ME.asB) = _
      rw [z]
      rfl
    unfold if2 ME.mIfS ME.mAnd
    rw [z8, ME.M.pure_bind]
    show (ME.mOr _ _ _).bind _ = _
    rw [z7]
    rfl
  | some i =>
    obtain ⟨r, e⟩ := wr_some vds 0 i hf
    rw [e, Nat.zero_add]
    have z := ne_ints id (i : Nat) r
    have z8 : (ME.mTest (ME.mOp ME.gEq (ME.mVar 6) (ME.mLst ME.mNil))) [x0, x1, x2, x3, x4, some (.lst (vds.map (Rw s m))), some (.lst (.int (i : Nat) :: r.map D.int)), some (hrd s vds u (some i)), x8, x9, x10] = ME.M.pure false := by
      show ((ME.eqM id (.lst (.int (i : Nat) :: r.map D.int)) (.lst [])).bind ME.asB) = _
      rw [z]
      rfl
    unfold if2 ME.mIfS ME.mAnd
    rw [z8, ME.M.pure_bind]
    rfl
def body3 (T0 : Addr) : ME.Env → ME.M ME.Out := (ME.mSeq (ME.mAsg [3, 4] (ME.mTup (ME.mCons (ME.mCall ME.gDraw (ME.mCons (ME.mVar 1) (ME.mCons (ME.mC (.int 9)) ME.mNil))) (ME.mCons (ME.mOp ME.gAdd (ME.mC (.int 1)) (ME.mCall ME.gDraw (ME.mCons (ME.mVar 1) (ME.mCons (ME.mC (.int 6)) ME.mNil)))) ME.mNil))) (ME.gTp 2 (ME.gsCons ME.gNm (ME.gsCons ME.gNm ME.gsNil))))
      (ME.mSeq (ME.mSet 5 (ME.mLc (ME.mItA ME.itR1 (ME.mCons (ME.mVar 4) ME.mNil)) [8] ME.gNm ME.mYes (ME.mIf (ME.mTest (ME.mOp ME.gEq (ME.mCall ME.gDraw (ME.mCons (ME.mVar 1) (ME.mCons (ME.mC (.int 3)) ME.mNil))) (ME.mC (.int 0)))) (ME.mCall gStep (ME.mCons (ME.mVar 1) (ME.mCons (ME.mVar 3) (ME.mCons (ME.mVar 4) ME.mNil)))) (ME.mTup (ME.mCons (ME.mTup (ME.mCons (ME.mC (.str "end")) ME.mNil)) (ME.mCons (ME.mC (.bl true)) ME.mNil)))) [8]))
      (ME.mSeq (ME.mSet 6 (ME.mLc (ME.mItA ME.itE (ME.mCons (ME.mVar 5) ME.mNil)) [8, 9, 10] (ME.gTp 2 (ME.gsCons ME.gNm (ME.gsCons (ME.gTp 2 (ME.gsCons ME.gNm (ME.gsCons ME.gNm ME.gsNil))) ME.gsNil))) (ME.mNot (ME.mTru (ME.mVar 10))) (ME.mVar 8) [8, 9, 10]))
      (ME.mSeq (ME.mSet 7 (mHear T0 lamQ lamM)) (ME.mSeq if1 if2)))))
/-- the law -/
theorem law_true (T0 : Addr) (ns : List Int) (hn : ns.length ≤ 63) : (ME.callM 1 11 (m_law T0) [.scr ns]).run [.tbl T0 lamQ] (fun d _ => d = .bl true) (fun _ _ => False) := by
  refine ME.grd_ok (c := ([D.scr ns].length == 1)) rfl ?_
  have main : ((ME.mSeq (ME.mSet 1 (ME.mCall ME.gPen (ME.mCons (ME.mVar 0) ME.mNil))) (ME.mSeq (ME.mFor (ME.mItA ME.itR1 (ME.mCons (ME.mC (.int 12)) ME.mNil)) [2] ME.gNm (body3 T0))
      (ME.mRet (ME.mC (.bl true)))) : ME.Env → ME.M ME.Out) (ME.env0 11 [.scr ns])).run [.tbl T0 lamQ] (fun o S' => ∃ b, o = .rt (.bl true) ∧ S' = [.tbl T0 lamQ, .pen b]) (fun _ _ => False) := by
    refine ME.grd_ok (decide_eq_true hn) ?_
    refine ME.mFor_inv (it := ME.mItA ME.itR1 (ME.mCons (ME.mC (.int 12)) ME.mNil)) (ix := [2]) (g := ME.gNm) (body := body3 T0) (ME.rng 0 12) rfl (fun i env S => ∃ (b : Nat) (x2 x3 x4 x5 x6 x7 x8 x9 x10 : Option D), env = [some (.scr ns), some (.ob 1), x2, x3, x4, x5, x6, x7, x8, x9, x10] ∧ S = [.tbl T0 lamQ, .pen b] ∧ 100 * (12 - i) ≤ b) 
      ⟨1048576, none, none, none, none, none, none, none, none, none, rfl, rfl, by decide⟩ ?_ ?_
    · rintro i d env S hd ⟨b, x2, x3, x4, x5, x6, x7, x8, x9, x10, rfl, rfl, hb⟩
      have hi : i < 12 := (List.getElem?_eq_some_iff.mp hd).1
      refine st_draw T0 b (by omega) ns _ x3 x4 x5 x6 x7 x8 x9 x10 _ _ fun s m s0 s1 m0 m1 => ?_
      refine st_rows T0 (b - 2) (by omega) _ _ x5 x6 x7 x8 x9 x10 s m s0 s1 m0 m1 _ _ fun vds b' hl hR hb' => ?_
      refine ME.nx_run (e_wrong T0 _ _ _ _ _ x6 x7 x8 x9 x10 hl m1) ?_
      refine st_heard T0 b' _ _ _ _ _ x7 x8 x9 x10 s0 s1 hl m0 m1 hR _ _ fun u => ?_
      refine ME.nx_run (e_if1 _ _ _ _ _ _ x8 x9 x10 u) ?_
      refine ME.pure_run (e_if2 _ _ _ _ _ x8 x9 x10 u hl m1 hR) ?_
      exact ⟨b', _, _, _, _, _, _, _, _, _, rfl, rfl, by omega⟩
    · rintro env S ⟨b, x2, x3, x4, x5, x6, x7, x8, x9, x10, rfl, rfl, hb⟩
      exact ⟨b, rfl, rfl⟩
  refine (m_law T0 (ME.env0 11 [.scr ns])).mono _ _ _ _ _ (fun o S' q => ?_) (fun _ _ z => z.elim) main
  obtain ⟨b, rfl, rfl⟩ := q
  show ME.trimQ 1 (.bl true) [.tbl T0 lamQ, .pen b] fun d _ => d = .bl true
  unfold ME.trimQ
  rfl
end My
/-! HeZ's hook widened: the law's code object and its table, tables with text keys; the empty tables of code objects are no part of K. -/
namespace HeW
open PySem PySem.Spec PyProof.Rows L2 He
open HandSHeadRun (frNat frNat_eq)
def isTabO : Obj → Bool
  | ⟨.none, none, .fields vs, sl⟩ => vs.isEmpty && sl.isEmpty
  | _ => false
def tabG (g : Addr → Option Obj) (a : Addr) : Bool := match g a with
  | some o => isTabO o
  | none => false
theorem tabG_ok {g : Addr → Option Obj} {a : Addr} (h : tabG g a = true) : g a = some { cls := .none, data := .fields #[] } := by
  unfold tabG at h
  cases q : g a with
  | none => rw [q] at h; cases h
  | some o =>
    rw [q] at h
    obtain ⟨c, d, dt, sl⟩ := o
    cases c <;> try cases h
    cases d <;> try cases h
    cases dt <;> try cases h
    rename_i vs
    obtain ⟨h1, h2⟩ := ba (show (vs.isEmpty && sl.isEmpty) = true from h)
    rw [Array.isEmpty_iff.mp h1, Array.isEmpty_iff.mp h2]
/-- K: sysModules, the statics, what the module's names reach, but no empty table -/
def kW (n : Nat) (g : Addr → Option Obj) : PySem.W.Frag := frG g ((sysModules :: cStatics :: asD g n).filter fun a => !tabG g a)
theorem frG_mem {g : Addr → Option Obj} {a : Addr} {o : Obj} : ∀ as : List Addr, (frG g as).lookup a = some o → a ∈ as
  | [], e => nomatch (show (none : Option Obj) = some o from e)
  | b :: r, e => by
    unfold frG at e
    cases hb : g b with
    | none =>
      rw [List.filterMap_cons, hb] at e
      exact List.mem_cons_of_mem _ (frG_mem r e)
    | some ob =>
      rw [List.filterMap_cons, hb] at e
      have e2 : (match a == b with | true => some ob | false => (frG g r).lookup a) = some o := e
      cases q : (a == b) with
      | true => rw [beq_iff_eq.mp q]; exact List.mem_cons_self
      | false =>
        rw [q] at e2
        exact List.mem_cons_of_mem _ (frG_mem r e2)
theorem kW_none {n : Nat} {g : Addr → Option Obj} {a : Addr} (h : tabG g a = true) : (kW n g).lookup a = none := by
  cases q : (kW n g).lookup a with
  | none => rfl
  | some o =>
    have m := List.mem_filter.mp (frG_mem _ q)
    rw [h] at m
    cases m.2
/-! ### the code object of a def -/
def cO (K : PySem.W.Frag) (x : Str) : Addr := match K.lookup (ga K x) with
  | some ⟨_, _, .func fd, _⟩ => (match fd.code with
    | .ref c => c
    | _ => 0)
  | _ => 0
def tO (K : PySem.W.Frag) (x : Str) : Addr := match K.lookup (cO K x) with
  | some ⟨_, _, .fields vs, _⟩ => (match (vs[11]? : Option Value) with
    | some (.ref P) => P
    | _ => 0)
  | _ => 0
def isRefB (a : Addr) : Value → Bool
  | .ref b => a == b
  | _ => false
def isStrB : Value → Bool
  | .str _ _ => true
  | _ => false
def isIntB : Value → Bool
  | .int _ _ => true
  | _ => false
def isBoolB : Value → Bool
  | .bool _ => true
  | _ => false
def hdF (P : Addr) (vs : Array Value) : Bool := (match (vs[11]? : Option Value) with | some v => isRefB P v | none => false) && (isStrB (vs.getD 18 .none) && (isIntB (vs.getD 7 .none) && (isBoolB (vs.getD 9 .none) && isIntB (vs.getD 10 .none))))
def codeRef (K : PySem.W.Frag) (x : Str) : Bool := match K.lookup (ga K x) with
  | some ⟨_, _, .func fd, _⟩ => isRefB (cO K x) fd.code
  | _ => false
def hdB (K : PySem.W.Frag) (x : Str) : Bool := codeRef K x && (!(cO K x == tO K x) && match K.lookup (cO K x) with
  | some ⟨.type t, _, .fields vs, _⟩ => t == "code" && hdF (tO K x) vs
  | _ => false)
theorem isRefB_ok {a : Addr} {v : Value} (h : isRefB a v = true) : v = .ref a := by
  cases v <;> try cases h
  exact congrArg Value.ref (beq_iff_eq.mp (show (a == _) = true from h)).symm
theorem hd_code {K : PySem.W.Frag} {x : Str} (h : hdB K x = true) {oc : Value} {od : Option Addr} {fd : FuncData} {osl : Array (Option Value)} (lk : K.lookup (ga K x) = some ⟨oc, od, .func fd, osl⟩) : fd.code = .ref (cO K x) := by
  have h1 := (ba h).1
  unfold codeRef at h1
  rw [lk] at h1
  exact isRefB_ok h1
theorem hd_ok {K : PySem.W.Frag} {h : Heap} (X : K.In h) {x : Str} (e : hdB K x = true) : PySem.W.CodeHd h (cO K x) (tO K x) := by
  obtain ⟨_, e⟩ := ba e
  obtain ⟨e1, e2⟩ := ba e
  have ne : cO K x ≠ tO K x := fun z => by
    rw [z] at e1
    simp at e1
  cases q : K.lookup (cO K x) with
  | none => rw [q] at e2; cases e2
  | some o =>
    rw [q] at e2
    obtain ⟨c, d, dt, sl⟩ := o
    cases c <;> try cases e2
    cases dt <;> try cases e2
    rename_i t vs
    obtain ⟨z1, z2⟩ := ba (show (t == "code" && hdF (tO K x) vs) = true from e2)
    have et : t = "code" := eq_of_beq z1
    obtain ⟨y1, y⟩ := ba z2
    obtain ⟨y2, y⟩ := ba y
    obtain ⟨y3, y⟩ := ba y
    obtain ⟨y4, y5⟩ := ba y
    have a1 : vs[11]? = some (.ref (tO K x)) := by
      cases w : vs[11]? with
      | none => rw [w] at y1; cases y1
      | some v => rw [w] at y1; rw [isRefB_ok y1]
    have a2 : vs.getD 11 .none = .ref (tO K x) := by
      rw [Array.getD_eq_getD_getElem?, a1]; rfl
    have b2 : ∃ f tf, vs.getD 18 .none = .str f tf := by
      cases w : vs.getD 18 .none <;> rw [w] at y2 <;> try cases y2
      exact ⟨_, _, rfl⟩
    have b3 : ∃ f tf, vs.getD 7 .none = .int f tf := by
      cases w : vs.getD 7 .none <;> rw [w] at y3 <;> try cases y3
      exact ⟨_, _, rfl⟩
    have b4 : ∃ f, vs.getD 9 .none = .bool f := by
      cases w : vs.getD 9 .none <;> rw [w] at y4 <;> try cases y4
      exact ⟨_, rfl⟩
    have b5 : ∃ f tf, vs.getD 10 .none = .int f tf := by
      cases w : vs.getD 10 .none <;> rw [w] at y5 <;> try cases y5
      exact ⟨_, _, rfl⟩
    obtain ⟨f1, t1, b2⟩ := b2
    obtain ⟨f2, t2, b3⟩ := b3
    obtain ⟨f3, b4⟩ := b4
    obtain ⟨f4, t4, b5⟩ := b5
    exact ⟨_, vs, f1, t1, f2, t2, f3, f4, t4, X _ _ q, congrArg Value.type et, rfl, a1, a2, b2, b3, b4, b5, ne⟩
/-! ### a table with text keys: what is not there -/
theorem dicW_map {K : PySem.W.Frag} {P : Params} {a : Addr} {ks : List Str} (h : dicW K a = some (keysIn P ks)) : ∃ es n, K.lookup a = some ⟨.type "dict", none, .dict es n, #[]⟩ ∧ es.toList.map keyOf = keysIn P ks := by
  unfold dicW at h
  cases q : K.lookup a with
  | none => rw [q] at h; cases h
  | some o =>
    obtain ⟨oc, od, dt, osl⟩ := o
    rw [q] at h
    cases oc <;> try (cases od <;> cases dt <;> cases h)
    cases od <;> try (cases dt <;> cases h)
    cases dt <;> try cases h
    rename_i c es n
    have h1 : (match decide (c = "dict") && (osl.isEmpty && !(a == sysModules)) with
      | true => some (es.toList.map keyOf)
      | false => none) = some (keysIn P ks) := h
    cases z : decide (c = "dict") && (osl.isEmpty && !(a == sysModules)) with
    | false => rw [z] at h1; cases h1
    | true =>
      rw [z] at h1
      obtain ⟨z1, z2⟩ := ba z
      obtain ⟨z3, z4⟩ := ba z2
      have e1 : c = "dict" := of_decide_eq_true z1
      have e2 : osl = #[] := Array.isEmpty_iff.mp z3
      subst e1 e2
      exact ⟨es, n, rfl, Option.some.inj h1⟩
theorem keysIn_mem {P : Params} {ks : List Str} {x : Str} {i : Int} (h : some (x, i) ∈ keysIn P ks) : x ∈ ks := by
  obtain ⟨k, hk, e⟩ := List.mem_map.mp h
  have e2 := Option.some.inj e
  rw [← (Prod.mk.inj e2).1]
  exact hk
theorem nsIn_none {K : PySem.W.Frag} {P : Params} {a : Addr} {ks : List Str} {z : Str} (h : dicW K a = some (keysIn P ks)) (hz : z ∉ ks) : PySem.W.nsIn K a z = some none := by
  obtain ⟨es, n, lk, e⟩ := dicW_map h
  have L := (keysLit_of e).all
  have key : ∀ u ∈ es.toList, u.key.isStr z = false ∧ u.refKey = false := fun u hu => by
    obtain ⟨x, t, e1, e2⟩ := L u hu
    have m : keyOf u ∈ keysIn P ks := by rw [← e]; exact List.mem_map.mpr ⟨u, hu, rfl⟩
    have eu : keyOf u = some (x, u.hash) := by unfold keyOf; rw [e1]
    rw [eu] at m
    have hx : x ≠ z := fun y => hz (y ▸ keysIn_mem m)
    refine ⟨?_, ?_⟩
    · rw [e1]
      show (x == z) = false
      cases q : x == z with
      | false => rfl
      | true => exact absurd (eq_of_beq q) hx
    · unfold DictEntry.refKey
      rw [e1]
  unfold PySem.W.nsIn
  rw [lk]
  have f1 : es.toList.find? (fun u => u.key.isStr z) = none := List.find?_eq_none.mpr fun u hu => by rw [(key u hu).1]; decide
  have f2 : es.toList.any (fun u => u.refKey) = false := by
    rw [List.any_eq_false]
    exact fun u hu => by rw [(key u hu).2]; decide
  show (match es.toList.find? (fun u => u.key.isStr z) with
    | some e => some (some e.val)
    | none => if es.toList.any (fun u => u.refKey) then none else some none) = some none
  rw [f1, f2]
  rfl
/-- a tuple of these at a -/
def tupAt (K : PySem.W.Frag) (a : Addr) (vs : List V) : Bool := match K.lookup a with
  | some ⟨.type c, _, .seq its _, _⟩ => decide (c = "tuple") && (decide (its.size ≤ sizeLine) && relAll vs its.toList)
  | _ => false
theorem tupAt_ok {K : PySem.W.Frag} {a : Addr} {vs : List V} (h : tupAt K a vs = true) : ∃ (o : Obj) (its : Array Value) (n : Nat), K.lookup a = some o ∧ o.cls = .type "tuple" ∧ o.data = .seq its n ∧ its.size ≤ sizeLine ∧ Vals vs its.toList := by
  unfold tupAt at h
  cases q : K.lookup a with
  | none => rw [q] at h; cases h
  | some o =>
    obtain ⟨oc, od, dt, osl⟩ := o
    rw [q] at h
    cases oc <;> try (cases dt <;> cases h)
    cases dt <;> try cases h
    rename_i c its n
    obtain ⟨h1, h2⟩ := ba (show (decide (c = "tuple") && (decide (its.size ≤ sizeLine) && relAll vs its.toList)) = true from h)
    obtain ⟨h3, h4⟩ := ba h2
    exact ⟨_, its, n, rfl, congrArg Value.type (of_decide_eq_true h1), rfl, of_decide_eq_true h3, relAll_ok h4⟩
/-- a module's dict of tuples of texts: its values -/
def rowsB (K : PySem.W.Frag) (a : Addr) (rows : List (Str × List Str)) : Bool := rows.all fun p => match PySem.W.nsIn K a p.1 with
  | some (some (.ref b)) => tupAt K b (p.2.map V.str)
  | _ => false
theorem rowsB_ok {K : PySem.W.Frag} {a : Addr} {rows : List (Str × List Str)} (h : rowsB K a rows = true) {p : Str × List Str} (hp : p ∈ rows) : ∃ b, PySem.W.nsIn K a p.1 = some (some (.ref b)) ∧ tupAt K b (p.2.map V.str) = true := by
  have h2 := List.all_eq_true.mp h p hp
  split at h2
  · next b e => exact ⟨b, e, h2⟩
  · cases h2
theorem lookup_mem {rows : List (Str × List Str)} {z : Str} {ks : List Str} (h : rows.lookup z = some ks) : (z, ks) ∈ rows := by
  induction rows with
  | nil => cases h
  | cons p r ih =>
    rw [List.lookup_cons] at h
    cases q : z == p.1 with
    | true =>
      rw [q] at h
      rw [eq_of_beq q, ← Option.some.inj h]
      exact List.mem_cons_self
    | false =>
      rw [q] at h
      exact List.mem_cons_of_mem _ (ih h)
theorem lookup_not {rows : List (Str × List Str)} {z : Str} (h : rows.lookup z = none) : z ∉ rows.map (·.1) := by
  induction rows with
  | nil => exact fun m => nomatch m
  | cons p r ih =>
    rw [List.lookup_cons] at h
    cases q : z == p.1 with
    | true => rw [q] at h; cases h
    | false =>
      rw [q] at h
      intro m
      rcases List.mem_cons.mp m with e | m
      · rw [e] at q; simp at q
      · exact ih h m
/-! ### a class whose instances are asked for their type -/
def objB (K : PySem.W.Frag) (C : Addr) : Bool := eqO (PySem.W.findIn K (.ref C) "__class__") (some (some (.builtin "object.__class__"))) && (eqO (PySem.W.specialIn K (.builtin "object.__class__") "__get__") (some (some (.builtin "getset_descriptor.__get__"))) && (decide (PySem.W.takesIn K (.builtin "object.__class__") = some true) && decide (PySem.W.mroIn K C (.type "object") = some true)))
def tyB (K : PySem.W.Frag) (C : Addr) : Bool := ((["int", "bool", "str", "tuple", "list", "dict"] : List String).all fun n => decide (PySem.W.kitOne K (.ref C) (.type n) = some false)) && (((["NoneType", "int", "bool", "str", "tuple", "list", "dict"] : List String).all fun n => decide (PySem.W.kitOne K (.type n) (.ref C) = some false)) && decide (PySem.W.kitAny K (.ref C) [.type "list", .type "tuple"] = some false))
def twoC (K : PySem.W.Frag) (cs : List (Str × Addr)) : Bool := cs.all fun p => cs.all fun q => decide (PySem.W.kitOne K (.ref p.2) (.ref q.2) = some (p.1 == q.1))
/-! ### the Hook -/
abbrev AlW : Type := AlD × Bool × List HeZ.FnI × List (Option (List (Option (Str × Int)))) × Bool
def obsW (n : Nat) (fa : List Fa) (fn : List DefD) (ini : List HeZ.IniD) (ex : PySem.W.Frag → Bool) (ts : List Tab) (x : Str) (g : Addr → Option Obj) : AlW :=
  (obsD fa fn (kW n g), ex (kW n g), ini.map (fun d => HeZ.fnI (kW n g) d.cls), ts.map (fun t => dicW (kW n g) (t.1 (kW n g))), hdB (kW n g) x && frNat (tO (kW n g) x) fun P => tabG g P)
def valW (fn : List DefD) (ini : List HeZ.IniD) (ts : List Tab) (w : World) : AlW := (valD fn, true, ini.map HeZ.IniD.val, ts.map (fun t => some (keysIn w.params t.2)), true)
structure SaysW (fa : List Fa) (fn : List DefD) (ini : List HeZ.IniD) (ex : PySem.W.Frag → Bool) (ts : List Tab) (x : Str) (w : World) (h : Heap) (K : PySem.W.Frag) : Prop where
  d : SaysD fa fn K
  ok : ex K = true
  i : ∀ (j : Nat) (d : HeZ.IniD), ini[j]? = some d → HeZ.fnI K d.cls = d.val
  t : ∀ (j : Nat) (d : Tab), ts[j]? = some d → dicW K (d.1 K) = some (keysIn w.params d.2)
  hd : hdB K x = true
  at_ : h.get? (tO K x) = some { cls := .none, data := .fields #[] }
  no : K.lookup (tO K x) = none
def hookW (n : Nat) (fa : List Fa) (fn : List DefD) (ini : List HeZ.IniD) (ex : PySem.W.Frag → Bool) (ts : List Tab) (x : Str) : PySem.W.Hook where
  α := AlW
  obs := fun s => obsW n fa fn ini ex ts x s.heap.get?
  val := fun w => valW fn ini ts w
  says := fun w h => ∃ K : PySem.W.Frag, K.In h ∧ SaysW fa fn ini ex ts x w h K
  of := fun w s e => by
    have e4 : (hdB (kW n s.heap.get?) x && frNat (tO (kW n s.heap.get?) x) fun P => tabG s.heap.get? P) = true := congrArg (fun z : AlW => z.2.2.2.2) e
    obtain ⟨e5, e6⟩ := ba e4
    rw [frNat_eq] at e6
    refine ⟨kW n s.heap.get?, frG_in, congrArg (fun z : AlW => z.1) e, congrArg (fun z : AlW => z.2.1) e, fun j d hj => ?_, fun j d hj => ?_, e5, tabG_ok e6, kW_none e6⟩
    · have e1 : ini.map (fun d => HeZ.fnI (kW n s.heap.get?) d.cls) = ini.map HeZ.IniD.val := congrArg (fun z : AlW => z.2.2.1) e
      have e2 : (ini.map fun d => HeZ.fnI (kW n s.heap.get?) d.cls)[j]? = (ini.map HeZ.IniD.val)[j]? := by rw [e1]
      rw [List.getElem?_map, List.getElem?_map, hj] at e2
      exact Option.some.inj e2
    · have e1 : ts.map (fun t => dicW (kW n s.heap.get?) (t.1 (kW n s.heap.get?))) = ts.map (fun t => some (keysIn w.params t.2)) := congrArg (fun z : AlW => z.2.2.2.1) e
      have e2 : (ts.map fun t => dicW (kW n s.heap.get?) (t.1 (kW n s.heap.get?)))[j]? = (ts.map fun t => some (keysIn w.params t.2))[j]? := by rw [e1]
      rw [List.getElem?_map, List.getElem?_map, hj] at e2
      exact Option.some.inj e2
  keeps := fun _ _ _ ⟨K, hK, c⟩ k => ⟨K, PySem.W.Frag.In.keeps hK k, c.d, c.ok, c.i, c.t, c.hd, k _ _ c.at_, c.no⟩
theorem obsW_eq {n : Nat} {fa : List Fa} {fn : List DefD} {ini : List HeZ.IniD} {ex : PySem.W.Frag → Bool} {ts : List Tab} {x : Str} {g : Addr → Option Obj} {s : Shared} (h : ∀ a, g a = s.heap.get? a) : obsW n fa fn ini ex ts x g = (hookW n fa fn ini ex ts x).obs s := by
  have e : g = s.heap.get? := funext h
  rw [e] <;> rfl
end HeW
namespace My
open PySem PySem.Spec PyProof.Rows L2
def dPen : He.DefD := ⟨("_law_pen", none), "_law_pen", "_law_pen", defArgs sPen, defBody sPen, defScope sPen, [], []⟩
def dDraw : He.DefD := ⟨("_law_draw", none), "_law_draw", "_law_draw", defArgs sDraw, defBody sDraw, defScope sDraw, [], []⟩
def dPick : He.DefD := ⟨("_law_pick", none), "_law_pick", "_law_pick", defArgs sPick, defBody sPick, defScope sPick, [], []⟩
def dHeard : He.DefD := ⟨("_law_heard", none), "_law_heard", "_law_heard", defArgs sHeard, defBody sHeard, defScope sHeard, [], []⟩
def dPart : He.DefD := ⟨("_law_part", none), "_law_part", "_law_part", defArgs s_law_part, defBody s_law_part, defScope s_law_part, [], []⟩
def dStep : He.DefD := ⟨("_law_step_drawn", none), "_law_step_drawn", "_law_step_drawn", defArgs s_law_step, defBody s_law_step, defScope s_law_step, [], []⟩
def dIsI : He.DefD := ⟨("is_integer", none), "is_integer", "is_integer", defArgs s_is_integer, defBody s_is_integer, defScope s_is_integer, [], []⟩
def dBet : He.DefD := ⟨("is_between", none), "is_between", "is_between", defArgs s_is_between, defBody s_is_between, defScope s_is_between, [], []⟩
def dNam : He.DefD := ⟨("is_name", none), "is_name", "is_name", defArgs s_is_name, defBody s_is_name, defScope s_is_name, [], []⟩
def dLis : He.DefD := ⟨("is_listed", none), "is_listed", "is_listed", defArgs s_is_listed, defBody s_is_listed, defScope s_is_listed, [], []⟩
def dIsP : He.DefD := ⟨("is_part", none), "is_part", "is_part", defArgs s_is_part, defBody s_is_part, defScope s_is_part, [], []⟩
def dIns : He.DefD := ⟨("is_instruction", none), "is_instruction", "is_instruction", defArgs s_is_instruction, defBody s_is_instruction, defScope s_is_instruction, [], []⟩
def dCop : He.DefD := ⟨("copied", none), "copied", "copied", defArgs s_copied, defBody s_copied, defScope s_copied, [], []⟩
def dFun : He.DefD := ⟨("Function", some "__init__"), "__init__", "Function.__init__", defArgs s_func, defBody s_func, defScope s_func, [.adr (He.dflAt ("Function", some "__init__") 0)], []⟩
def dLaw : He.DefD := ⟨("law", none), "law", "law", defArgs s_law3, defBody s_law3, defScope s_law3, [], []⟩
def fnW : List He.DefD := [dPen, dDraw, dPick, dHeard, dPart, dStep, dIsI, dBet, dNam, dLis, dIsP, dIns, dCop, dFun, dLaw]
def glW : List Str := ["_law_pen", "_law_draw", "_law_pick", "_law_heard", "_law_part", "_law_step_drawn", "is_integer", "is_between", "is_name", "is_listed", "is_part", "is_instruction", "copied", "Function", "law", "PARTS", "StandError", "BadShape", "BadFunction", "BadModule", "BadProgram", "BadCode", "BadEntry", "BadState", "BadNumber", "BadPaper", "TooMany"]
def faW : List He.Fa := glW.map He.Fa.glo ++ bnames.map He.Fa.free ++ [.int "MOST_SIGNS" 8, .str "LETTERS" letters, .int "MOST_ARGUMENTS" 3, .int "MOST_RESULTS" 2, .int "MOST_SLOTS" 8, .int "MOST_CODE" 200, .int "MOST_HANDLERS" 8, .int "WHOLE" 4294967296, .int "MOST_FIELDS" 4, .cls "Function", .mkr "Function"] ++ funNs.map (He.Fa.noat "Function")
def exW (K : PySem.W.Frag) : Bool := exE K && (HandSHeadRun.frNat (He.ga K "Function") (fun F => HeW.objB K F && (HeW.tyB K F && HeW.twoC K [("Function", F)])) && (HandSHeadRun.frNat (He.ga K "PARTS") (fun dP => HeW.rowsB K dP partsL) && HandSHeadRun.frNat (He.dflAt ("Function", some "__init__") 0 K) fun u => HeW.tupAt K u []))
def tsW : List He.Tab := [(fun K => He.ga K "PARTS", partsL.map (·.1))]
abbrev hk : PySem.W.Hook := HeW.hookW 6 faW fnW ini exW tsW "law"
def ob (s : PySem.W.SharedT) : HeW.AlW := HeW.obsW 6 faW fnW ini exW tsW "law" (HandSHeadRun.getT s)
theorem ob_eq (s : PySem.W.SharedT) : ob s = hk.obs s.abs := HeW.obsW_eq (HandSHeadRun.getT_eq s)
def looseA : List PySem.Str := ["LETTERS", "MOST_SIGNS", "MOST_FIELDS", "MOST_ARGUMENTS", "MOST_RESULTS", "MOST_SLOTS", "MOST_CODE", "MOST_HANDLERS", "WHOLE", "PARTS"]
def looseB : List PySem.Str := ["StandError", "BadShape", "BadFunction", "BadModule", "BadProgram", "BadCode", "BadEntry", "BadState", "BadNumber", "BadPaper", "TooMany", "Function", "is_integer", "is_between", "is_name", "is_listed", "copied", "is_part", "is_instruction", "is_handler", "_law_pen", "_law_draw", "_law_pick", "_law_heard", "_law_part", "_law_step_drawn"]
def loose : List PySem.Str := looseA ++ looseB
/-- a world that says b where the text's way of special-get-raises is asked: a dict's text key at the top asks it -/
def wB (w : World) (b : Bool) : World := ⟨w.draws, { w.params with followText := fun r => bif r == "special-get-raises" then b else w.params.followText r }⟩
theorem wB_eq (w : World) : wB w (w.params.followText "special-get-raises") = w := by
  obtain ⟨d, p⟩ := w
  have e : (fun r => bif r == "special-get-raises" then p.followText "special-get-raises" else p.followText r) = p.followText := funext fun r => by
    cases h : r == "special-get-raises" with
    | true => rw [eq_of_beq h]; rfl
    | false => rfl
  show (⟨d, { p with followText := fun r => bif r == "special-get-raises" then p.followText "special-get-raises" else p.followText r }⟩ : World) = ⟨d, p⟩
  rw [e]
theorem run_t (w : World) : HandSHeadRun.RunEq R (PySem.W.view R.prog [41]) hk ob 6000 loose (wB w true) := by
  intro os
  kernel_rfl
theorem run_f (w : World) : HandSHeadRun.RunEq R (PySem.W.view R.prog [41]) hk ob 6000 loose (wB w false) := by
  intro os
  kernel_rfl
theorem run (w : World) : HandSHeadRun.RunEq R (PySem.W.view R.prog [41]) hk ob 6000 loose w := by
  have e := wB_eq w
  cases q : w.params.followText "special-get-raises" with
  | true => rw [q] at e; rw [← e]; exact run_t w
  | false => rw [q] at e; rw [← e]; exact run_f w
end My
namespace My
open PySem PySem.Spec PyProof.Rows L2
section
variable {P : Program} {w : World} {K : PySem.W.Frag} {mg : Str → Option Value} {base : Heap}
/-- what law promises where its table is empty -/
theorem sp_law3 {T0 a : Addr} {ns : List Int} {H : Hp} {E : XK} (hn : ns.length ≤ 63) (hT : H T0 = some (.tbl #[])) (hS : SqL K H a (ns.map V.int)) : ME.spM K (ME.callM 1 11 (m_law T0)) [.ref a] H (fun v _ => v = .bl true) E := by
  have ne : ∀ xs, Rd H a (.lst xs) → a ≠ T0 := fun xs r z => by
    rw [z] at r
    rcases r with e | ⟨o, e⟩ <;> (rw [hT] at e; cases e)
  have sr : ME.SR K ⟨[T0], []⟩ [.tbl T0 lamQ] H := by
    refine ⟨by simp, rfl, fun i b o e1 e2 => ?_, fun b hb => ?_, fun b hb => nomatch hb⟩
    · cases i with
      | zero =>
        cases e1
        cases e2
        exact ⟨rfl, #[], hT, trivial, fun pos cv h => by cases h⟩
      | succ i => cases e1
    · rw [List.mem_singleton.mp hb]
      exact ⟨_, hT⟩
  have hv : ME.VRs K H ⟨[T0], []⟩ [.scr ns] [.ref a] := .cons (.scr (by
    rcases hS with r | r
    · exact .inl ⟨⟨fun m => ne _ r (List.mem_singleton.mp m), fun m => nomatch m⟩, r⟩
    · exact .inr r)) .nil
  refine ⟨_, _, _, sr, hv, ?_⟩
  refine (ME.callM 1 11 (m_law T0) [.scr ns]).mono _ _ _ _ _ (fun d S' q ρ' H' v _ _ r => ?_) (fun _ _ q => q.elim) (law_true T0 ns hn)
  subst q
  cases r
  rfl
/-! ### the facts -/
theorem factM {fa : List He.Fa} {fn : List He.DefD} (c : He.SaysD fa fn K) {f : He.Fa} (h : f ∈ fa) : f.ok K = true := by
  have c1 := (He.ba (show ((fa.all fun f => f.ok K) && fn.all fun d => d.ok K) = true from congrArg (fun z : He.AlD => z.1) c)).1
  exact List.all_eq_true.mp c1 f h
theorem mem_glo {x : Str} (h : x ∈ glW) : He.Fa.glo x ∈ faW := List.mem_append_left _ (List.mem_append_left _ (List.mem_append_left _ (List.mem_map.mpr ⟨x, h, rfl⟩)))
theorem mem_free {x : Str} (h : x ∈ bnames) : He.Fa.free x ∈ faW := List.mem_append_left _ (List.mem_append_left _ (List.mem_append_right _ (List.mem_map.mpr ⟨x, h, rfl⟩)))
end
section
variable {K : PySem.W.Frag} {w : World} {mg : Str → Option Value} {h : Heap} {f : Addr}
theorem kitF_of (c : HeW.SaysW faW fnW ini exW tsW "law" w h K) : ME.KitF K tab := by
  obtain ⟨_, x⟩ := He.ba c.ok
  obtain ⟨x, _⟩ := He.ba x
  rw [HandSHeadRun.frNat_eq] at x
  obtain ⟨x1, x⟩ := He.ba x
  obtain ⟨x2, x3⟩ := He.ba x
  obtain ⟨y1, y⟩ := He.ba x1
  obtain ⟨y2, y⟩ := He.ba y
  obtain ⟨y3, y4⟩ := He.ba y
  obtain ⟨z1, z⟩ := He.ba x2
  obtain ⟨z2, z3⟩ := He.ba z
  have t : ∀ p ∈ tab, p = ((("Function" : Str), funNs) : Str × List Str) := fun p hp => List.mem_singleton.mp hp
  refine ⟨fun p hp => ?_, fun p hp n hn => ?_, fun p hp n hn => ?_, fun p hp q hq => ?_, fun p hp => ?_⟩
  · rw [t p hp]
    exact ⟨He.cls_ok (factM c.d (f := .cls "Function") (List.mem_append_left _ (List.mem_append_right _ (by simp)))), fun f hf => He.noat_ok (factM c.d (f := .noat "Function" f) (List.mem_append_right _ (List.mem_map.mpr ⟨f, hf, rfl⟩))), He.eqO_ok y1, He.eqO_ok y2, of_decide_eq_true y3, of_decide_eq_true y4⟩
  · rw [t p hp]
    exact of_decide_eq_true (List.all_eq_true.mp z1 n hn)
  · rw [t p hp]
    exact of_decide_eq_true (List.all_eq_true.mp z2 n hn)
  · rw [t p hp, t q hq]
    exact of_decide_eq_true (List.all_eq_true.mp (List.all_eq_true.mp x3 ("Function", He.ga K "Function") (List.mem_singleton.mpr rfl)) ("Function", He.ga K "Function") (List.mem_singleton.mpr rfl))
  · rw [t p hp]
    exact of_decide_eq_true z3
theorem facts3 (X : K.In h) (G : h.Ns mainGlobals mg) (c : HeW.SaysW faW fnW ini exW tsW "law" w h K) (hfa : mg "law" = some (.ref f)) : LamX.LawAtS PySem.Challenge.rw_neverstand_k03_instructions_taken_and_re w K (L2.CX R.prog w) 12 63 "script" mg f h := by
  have glo : ∀ x : Str, x ∈ glW → mg x = some (.ref (He.ga K x)) := fun x e => He.glo_ok X G (factM c.d (mem_glo e))
  have free : ∀ x : Str, x ∈ bnames → mg x = none := fun x e => He.free_ok X G (factM c.d (mem_free e))
  have gi : ∀ (x : Str) (i : Int), He.Fa.int x i ∈ faW → ∃ t, mg x = some (.int i t) := fun x i e => He.int_ok X G (factM c.d e)
  have gn : ∀ i, i < 10 → mg (nm i) = some (.ref (He.ga K (nm i))) := fun i hi => glo (nm i) (match i, hi with
    | 0, _ => by decide +kernel
    | 1, _ => by decide +kernel
    | 2, _ => by decide +kernel
    | 3, _ => by decide +kernel
    | 4, _ => by decide +kernel
    | 5, _ => by decide +kernel
    | 6, _ => by decide +kernel
    | 7, _ => by decide +kernel
    | 8, _ => by decide +kernel
    | 9, _ => by decide +kernel
    | n + 10, h => absurd h (by omega))
  have er := erT_of (w := w) (He.ba c.ok).1 c.i (free "super" (by decide +kernel)) gn (glo "StandError" (by decide +kernel))
  have FX : Fx R.prog w K mg := ⟨kitF_of c, free, er, glo "Function" (by decide +kernel)⟩
  have BC : BlC mg := ⟨free "isinstance" (by decide +kernel), free "len" (by decide +kernel), free "all" (by decide +kernel), free "int" (by decide +kernel), free "bool" (by decide +kernel), free "str" (by decide +kernel), free "list" (by decide +kernel), free "tuple" (by decide +kernel), free "dict" (by decide +kernel)⟩
  have BP : BlP mg := ⟨BC, free "zip" (by decide +kernel)⟩
  have BF : BlF mg := ⟨BP, free "enumerate" (by decide +kernel)⟩
  have BS : BlS mg := ⟨BP, free "sorted" (by decide +kernel)⟩
  have B : Bl mg := ⟨free "int" (by decide +kernel), free "len" (by decide +kernel), free "abs" (by decide +kernel)⟩
  obtain ⟨xr, xu⟩ := He.ba (He.ba (He.ba c.ok).2).2
  rw [HandSHeadRun.frNat_eq] at xr xu
  have tk := c.t 0 _ rfl
  obtain ⟨es, n, KD⟩ := He.dicW_ok tk
  have T : PartsT K w mg (He.ga K "PARTS") es n := {
    kd := KD
    gP := glo "PARTS" (by decide +kernel)
    gW := gi "WHOLE" 4294967296 (List.mem_append_left _ (List.mem_append_right _ (by simp)))
    gF := gi "MOST_FIELDS" 4 (List.mem_append_left _ (List.mem_append_right _ (by simp)))
    no := fun z hz => HeW.nsIn_none tk (HeW.lookup_not hz)
    so := fun z ks e => by
      obtain ⟨b, e1, e2⟩ := HeW.rowsB_ok xr (HeW.lookup_mem e)
      exact ⟨b, e1, fun H => .inr (HeW.tupAt_ok e2)⟩ }
  obtain ⟨fd0, F0⟩ := c.d.def_ 0 (d := dPen) rfl
  obtain ⟨fd1, F1⟩ := c.d.def_ 1 (d := dDraw) rfl
  obtain ⟨fd2, F2⟩ := c.d.def_ 2 (d := dPick) rfl
  obtain ⟨fd3, F3⟩ := c.d.def_ 3 (d := dHeard) rfl
  obtain ⟨fd4, F4⟩ := c.d.def_ 4 (d := dPart) rfl
  obtain ⟨fd5, F5⟩ := c.d.def_ 5 (d := dStep) rfl
  obtain ⟨fd6, F6⟩ := c.d.def_ 6 (d := dIsI) rfl
  obtain ⟨fd7, F7⟩ := c.d.def_ 7 (d := dBet) rfl
  obtain ⟨fd8, F8⟩ := c.d.def_ 8 (d := dNam) rfl
  obtain ⟨fd9, F9⟩ := c.d.def_ 9 (d := dLis) rfl
  obtain ⟨fd10, F10⟩ := c.d.def_ 10 (d := dIsP) rfl
  obtain ⟨fd11, F11⟩ := c.d.def_ 11 (d := dIns) rfl
  obtain ⟨fd12, F12⟩ := c.d.def_ 12 (d := dCop) rfl
  obtain ⟨fd13, F13⟩ := c.d.def_ 13 (d := dFun) rfl
  obtain ⟨fd14, F14⟩ := c.d.def_ 14 (d := dLaw) rfl
  have e := hfa.symm.trans (glo "law" (by decide +kernel))
  cases e
  have b := FunD.bindsA (ps := ["script"]) F14 fun _ _ _ _ _ _ us hl => match us, hl with | [_], _ => rfl
  have FC : FunC K "law" "law" s_law3 (He.ga K "law") fd14 (.ref (HeW.cO K "law")) := by
    obtain ⟨⟨oc, od, dV, kV, doc, pm, an, cdv, ct, osl, e, lk, hcd, hD, _⟩, kp⟩ := F14
    rcases hD with ⟨_, rfl⟩ | ⟨z, _⟩
    · have ec := HeW.hd_code c.hd lk
      rw [e] at ec
      have ec' : cdv = .ref (HeW.cO K "law") := ec
      subst ec'
      exact ⟨⟨oc, od, kV, doc, pm, an, ct, osl, e, lk, hcd⟩, kp⟩
    · exact absurd rfl z
  obtain ⟨t8, g8⟩ := gi "MOST_SIGNS" 8 (List.mem_append_left _ (List.mem_append_right _ (by simp)))
  obtain ⟨tL, gL⟩ := He.str_ok X G (factM c.d (f := .str "LETTERS" letters) (List.mem_append_left _ (List.mem_append_right _ (by simp))))
  have FT : FuncT R.prog w K mg (fun i => He.ga K (nm i)) (He.ga K "StandError") (He.ga K "Function") := {
    er := er
    gA := gi "MOST_ARGUMENTS" 3 (List.mem_append_left _ (List.mem_append_right _ (by simp)))
    gR := gi "MOST_RESULTS" 2 (List.mem_append_left _ (List.mem_append_right _ (by simp)))
    gS := gi "MOST_SLOTS" 8 (List.mem_append_left _ (List.mem_append_right _ (by simp)))
    gC := gi "MOST_CODE" 200 (List.mem_append_left _ (List.mem_append_right _ (by simp)))
    gH := gi "MOST_HANDLERS" 8 (List.mem_append_left _ (List.mem_append_right _ (by simp)))
    cls := (FX.kit.cf ("Function", funNs) (List.mem_singleton.mpr rfl)).cls
    no := (FX.kit.cf ("Function", funNs) (List.mem_singleton.mpr rfl)).no }
  refine ⟨fd14, [(HeW.cO K "law", HeW.tO K "law")], ME.spM K (ME.callM 1 11 (m_law (HeW.tO K "law"))), fun p hp => ?_, fun p hp => ?_, fun p hp => ?_, fun s u => b s [u] rfl, fun H a ns hl _ hT hS => sp_law3 hl (hT _ (List.mem_singleton.mpr rfl)) hS, fun base KB GB TB => ?_⟩
  · rw [List.mem_singleton.mp hp]; exact c.at_
  · rw [List.mem_singleton.mp hp]; exact c.no
  · rw [List.mem_singleton.mp hp]; exact HeW.hd_ok X c.hd
  · have D : DrawF R.prog w K mg base _ fd1 := ⟨HeZ.fun_of F1, glo "_law_draw" (by decide +kernel), ok_draw (HeZ.fun_of F1) B⟩
    have CK : Cd R.prog w K mg base "_law_pick" sPick 2 ["pen", "some"] (spPick K) _ fd2 := ⟨HeZ.fun_of F2, glo "_law_pick" (by decide +kernel), ok_pick (HeZ.fun_of F2) D B⟩
    have CPD : Cd R.prog w K mg base "_law_part" s_law_part 3 ["pen", "kind", "slots", "many"] (spPartD K) _ fd4 := ⟨HeZ.fun_of F4, glo "_law_part" (by decide +kernel), ok_law_part (HeZ.fun_of F4) D CK BC⟩
    have FS : FnOk R.prog w K mg base CX0 4 _ fd5 ["pen", "slots", "many"] (spStep K) := ok_law_step (HeZ.fun_of F5) D CK CPD BS
    have cS : ME.Cl R.prog w K mg base "_law_step_drawn" 4 [] gStep := ME.cl_of ((ME.FnOk.toX FS).imp fun _ _ _ _ => step_sp) (glo "_law_step_drawn" (by decide +kernel)) F5.kp (b_law_step (HeZ.fun_of F5))
    have CI : Cd R.prog w K mg base "is_integer" s_is_integer 1 ["value"] (spIsI K) _ fd6 := ⟨HeZ.fun_of F6, glo "is_integer" (by decide +kernel), ok_is_integer (HeZ.fun_of F6) BC⟩
    have CB : Cd R.prog w K mg base "is_between" s_is_between 2 ["value", "least", "most"] (spBet K) _ fd7 := ⟨HeZ.fun_of F7, glo "is_between" (by decide +kernel), ok_is_between (HeZ.fun_of F7) CI.F CI.gl BC⟩
    have CN : Cd R.prog w K mg base "is_name" s_is_name 1 ["value"] (spName K) _ fd8 := ⟨HeZ.fun_of F8, glo "is_name" (by decide +kernel), ok_is_name (HeZ.fun_of F8) BC g8 gL⟩
    have CL : Cd R.prog w K mg base "is_listed" s_is_listed 1 ["value"] (spListed K) _ fd9 := ⟨HeZ.fun_of F9, glo "is_listed" (by decide +kernel), ok_is_listed (HeZ.fun_of F9) BC⟩
    have CP : Cd R.prog w K mg base "is_part" s_is_part 3 ["value", "kind", "slots", "many"] (spPart K) _ fd10 := ⟨HeZ.fun_of F10, glo "is_part" (by decide +kernel), ok_is_part (HeZ.fun_of F10) T CB CN⟩
    have CS : Cd R.prog w K mg base "is_instruction" s_is_instruction 4 ["value", "slots", "many"] (spInstr K) _ fd11 := ⟨HeZ.fun_of F11, glo "is_instruction" (by decide +kernel), ok_is_instruction (HeZ.fun_of F11) T BP CP⟩
    have CC : Cd R.prog w K mg base "copied" s_copied 1 ["value"] (spCopied0 K) _ fd12 := ⟨HeZ.fun_of F12, glo "copied" (by decide +kernel), ok_copied0 (HeZ.fun_of F12) (glo "copied" (by decide +kernel)) BP⟩
    have OF := ok_func (base := base) (fH := 0) (fdH := fd12) F13 FT BF CN CB CL CS CC
    obtain ⟨ds, hd, hb⟩ := FunD.binds1 (ps := ["self", "name", "arguments", "results", "slots", "code", "handlers"]) F13 6 0 (List.cons_ne_nil _ _) rfl fun _ _ _ _ _ _ _ us its hu hi => match us, its, hu, hi with
      | [_, _, _, _, _, _], [_], _, _ => ⟨_, rfl, rfl⟩
    have kF : ME.ClM R.prog w K mg base "Function" 5 [.tup []] gFunc := ⟨_, fd13, _, _, ds, OF.imp fun _ _ _ _ => func_sp, glo "Function" (by decide +kernel), He.mkr_ok (factM c.d (f := .mkr "Function") (List.mem_append_left _ (List.mem_append_right _ (by simp)))), hb, hd, fun H ρ => .cons (.tup (.inr (HeW.tupAt_ok xu)) .nil) .nil⟩
    exact ok_law3 (cdv := .none) FC FX (TB _ (List.mem_singleton.mpr rfl)) (pen_cl (HeZ.fun_of F0) (glo "_law_pen" (by decide +kernel)) B) (draw_cl (HeZ.fun_of F1) (glo "_law_draw" (by decide +kernel)) B) cS kF (HeZ.fun_of F3) (glo "_law_heard" (by decide +kernel))
end
end My
open PySem PySem.W PySem.Calls PyProof.Rows
theorem PySem.Challenge.cw_neverstand_k03_instructions_taken_and_re_holds : PySem.Challenge.rw_neverstand_k03_instructions_taken_and_re.Holds := by
  w_on; o_law
  refine HandSHeadRun.head_any (r := OpenLaw.row PySem.Challenge.rw_neverstand_k03_instructions_taken_and_re) (q := view (OpenLaw.row PySem.Challenge.rw_neverstand_k03_instructions_taken_and_re).prog [41]) (H := My.hk) (ob := My.ob) (M := 6000) (loose := My.loose) (d := HandSHeadRun.topDef (OpenLaw.row PySem.Challenge.rw_neverstand_k03_instructions_taken_and_re).prog 41) (kwd := []) My.ob_eq
    (by kernel_rfl) (fun s => by kernel_rfl) My.run (by kernel_rfl) (by kernel_rfl) (by kernel_rfl) (by rfl) (by first | assumption | decide +kernel) (by decide +kernel) ⟨rfl, rfl, rfl, rfl, rfl, by decide +kernel⟩ ?hw ?hc
  case hw => w_witness2
  case hc =>
    refine LamX.walk_ofTsE (l := PySem.Challenge.rw_neverstand_k03_instructions_taken_and_re) (n := 63) (k := 12) (x := "script") (CX := fun w => L2.CX My.R.prog w) rfl (by decide) (by kernel_rfl) ⟨rfl, by decide, by decide⟩ ?F ?X
    · intro w mg fa h Y G hmg0
      obtain ⟨K, KX, c⟩ := Y
      have hmg : mg ("law" : PySem.Str) = some (.ref fa) := by
        have e : (HandSHeadRun.topDef (OpenLaw.row PySem.Challenge.rw_neverstand_k03_instructions_taken_and_re).prog 41).name = ("law" : PySem.Str) := by kernel_rfl
        rw [← e]
        exact hmg0
      exact ⟨K, KX, My.facts3 KX G c hmg⟩
    · rintro w H s e s' ⟨_, _, _, _, _, _, _, _, _, _, _, _, h⟩
      exact h.elim
