import PyProof.Rows.All
import Wide.All
import OpenK.AllK
import Wide.FinOn
import HandS.ForMost
import HandS.Deep
import HandS.Zip
import HandS.TupAny
import HandS.TupMul
import HandS.DictComp
import HandS.IsInst
import HandS.Walk
import HandS.Star
import HandS.More
import KE.GoesNew
import HandS.TupLen
import KE.SortData
import HandS.Codes
import KE.KDictCopyH
import KE.KDictKeyed
import KE.DataMinMax
import HandS.Keys
import HandS.DictTup
import HandS.Style
import KE.KDictDisplayH
import KE.KDictPairs
import HandS.Conv
import KE.KStateDown
import HandS.Head0
import HandS.Head1
import HandS.Head2
import HandS.HeadEnd
import HandS.HeadHook1
import PySem.Challenge.RW_kaleidorooms_k33_whole_lots_of_rooms
set_option Elab.async false
set_option linter.all false
set_option maxRecDepth 100000
set_option maxHeartbeats 4000000
/-! K33a: a small layer over HandS: expressions told by the data they give; frozen and owned slots; pure contracts. -/
namespace K33
open PySem PySem.Spec PyProof.Rows L2

/-! ### data: lists by their own tracked objects -/
mutual
inductive Dq (K : PySem.W.Frag) (H : Hp) : V → PyData → Prop
  | non : Dq K H .non .none
  | bl (b : Bool) : Dq K H (.bl b) (.bool b)
  | int (i : Int) : Dq K H (.int i) (.int i)
  | str (x : Str) : Dq K H (.str x) (.str x)
  | lst {a : Addr} {xs : List V} {ds : List PyData} : H a = some (.lst xs) → DqAll K H xs ds → Dq K H (.ref a) (.list ds)
  | tup {a : Addr} {xs : List V} {ds : List PyData} : H a = some (.tup xs) → DqAll K H xs ds → Dq K H (.ref a) (.tuple ds)
inductive DqAll (K : PySem.W.Frag) (H : Hp) : List V → List PyData → Prop
  | nil : DqAll K H [] []
  | cons {v : V} {vs : List V} {d : PyData} {ds : List PyData} : Dq K H v d → DqAll K H vs ds → DqAll K H (v :: vs) (d :: ds)
end
mutual
theorem Dq.dp {K : PySem.W.Frag} {H : Hp} : ∀ (d : PyData) (v : V), Dq K H v d → Dp K H v d
  | .none, _, h => by cases h; exact .non
  | .bool b, _, h => by cases h; exact .bl b
  | .int i, _, h => by cases h; exact .int i
  | .str x, _, h => by cases h; exact .str x
  | .list ds, _, h => by
    cases h with
    | lst hs ha => exact .lst (SqL.of hs) (DqAll.dp ds _ ha)
  | .tuple ds, _, h => by
    cases h with
    | tup hs ha => exact .tup (SqT.of hs) (DqAll.dp ds _ ha)
  | .dict _, _, h => by cases h
theorem DqAll.dp {K : PySem.W.Frag} {H : Hp} : ∀ (ds : List PyData) (vs : List V), DqAll K H vs ds → DpAll K H vs ds
  | [], _, h => by cases h; exact .nil
  | d :: ds, _, h => by
    cases h with
    | cons h1 h2 => exact .cons (Dq.dp d _ h1) (DqAll.dp ds _ h2)
end

/-! ### data and slots -/
def iT (ns : List Int) : PyData := .tuple (ns.map .int)
def tups (ls : List (List Int)) : List PyData := ls.map iT
def isTupO : HO → Bool
  | .tup _ => true
  | .frz _ (.tup _) => true
  | _ => false
/-- any property of a value that later heaps keep -/
structure MP where
  r : Hp → V → Prop
  mono : ∀ {H H' : Hp} {v : V}, Same H H' → r H v → r H' v
/-- any property of an object's content, its parts in G -/
structure OP where
  r : Hp → Addr → HO → Prop
  mono : ∀ {G G' : Hp} {a : Addr} {o : HO}, Same G G' → r G a o → r G' a o
inductive SV where
  | p (m : MP)
  | o (m : OP)
  | d (x : PyData)
  | dT (kvs : List (List Int × PyData))
  | dK (kvs : List (Int × PyData))
  | hall (P : List (List Int))
  | row
  | ty (n : String)
  | tys (ns : List String)
  | cls
inductive Sl where
  | no
  | fr (x : SV)
  | ow (x : SV)
def Sl.get : Sl → Option SV
  | .no => none
  | .fr x => some x
  | .ow x => some x
def Sl.toFr : Sl → Sl
  | .no => .no
  | .fr x => .fr x
  | .ow x => .fr x
abbrev Ev' := List Sl

/-- what a hall's pushes must be -/
def hallOk (P : List (List Int)) : Bool :=
  decide (1 ≤ P.length) && decide (P.length ≤ 8) && P.all (fun r => decide (r.length = P.length) && r.all fun x => decide (0 ≤ x ∧ x ≤ 4)) &&
    (List.range P.length).all (fun i => decide ((P.getD i []).getD i 0 = 0)) &&
    (List.range P.length).all (fun i => (List.range P.length).all fun j => decide ((P.getD i []).getD j 0 = 0) == decide ((P.getD j []).getD i 0 = 0))

/-- fixed things: the text's facts K, the class Hall's address, the row's object by its content -/
structure Ct where
  K : PySem.W.Frag
  C : Addr
  scr : Addr
  ns : List Int
/-- the row of draws: the script and three numbers, whatever they are -/
def rowF (scr a : Addr) : Heap → Prop := fun h => ∃ (p q r : Int) (its : List Value) (n : Nat),
  0 ≤ p ∧ Vals [V.ref scr, .int p, .int q, .int r] its ∧ h.get? a = some { cls := .type "list", data := .seq its.toArray n }

section
variable (c : Ct)
def KVt (H : Hp) : List (List L2.Key × V) → List (List Int × PyData) → Prop := Paired fun p q => p.1 = q.1.map Sum.inl ∧ Dq c.K H p.2 q.2
def KVk (H : Hp) : List (L2.Key × V) → List (Int × PyData) → Prop := Paired fun p q => p.1 = Sum.inl q.1 ∧ Dq c.K H p.2 q.2
/-- a value reads as -/
def RV (H : Hp) (v : V) : SV → Prop
  | .d x => Dq c.K H v x
  | .dT kvs => ∃ a ws, v = .ref a ∧ H a = some (.dT ws) ∧ KVt c H ws kvs
  | .dK kvs => ∃ a ws, v = .ref a ∧ H a = some (.dK ws) ∧ KVk c H ws kvs
  | .hall P => hallOk P = true ∧ ∃ a dx t, v = .ref a ∧ H a = some (.ins c.C dx [("told", .ref t)]) ∧ Dq c.K H (.ref t) (.tuple (tups P))
  | .row => ∃ a, v = .ref a ∧ H a = some (.ext (rowF c.scr a)) ∧ SqL c.K H c.scr (c.ns.map V.int)
  | .ty n => v = .ty n
  | .tys ns => ∃ a, v = .ref a ∧ H a = some (.tup (ns.map .ty))
  | .cls => v = .ref c.C
  | .p m => m.r H v
  | .o m => ∃ a u, v = .ref a ∧ H a = some u ∧ m.r H a u
/-- an owned object's content: its parts in G -/
def OV (G H : Hp) (a : Addr) : SV → Prop
  | .d (.list ds) => ∃ xs, H a = some (.lst xs) ∧ DqAll c.K G xs ds
  | .dT kvs => ∃ ws, H a = some (.dT ws) ∧ KVt c G ws kvs
  | .dK kvs => ∃ ws, H a = some (.dK ws) ∧ KVk c G ws kvs
  | .o m => ∃ u, H a = some u ∧ isTupO u = false ∧ Mut (some u) ∧ m.r G a u
  | _ => False
end

/-! ### reading again in a later heap -/
theorem same_t {K : PySem.W.Frag} {H H' : Hp} {a : Addr} {xs : List V} (e : Same H H') (h : SqT K H a xs) : SqT K H' a xs := by
  rcases h with (h | ⟨o, h⟩) | h
  · exact .inl (.inl (e _ _ h))
  · exact .inl (.inr ⟨o, e _ _ h⟩)
  · exact .inr h
theorem same_l {K : PySem.W.Frag} {H H' : Hp} {a : Addr} {xs : List V} (e : Same H H') (h : SqL K H a xs) : SqL K H' a xs := by
  rcases h with (h | ⟨o, h⟩) | h
  · exact .inl (.inl (e _ _ h))
  · exact .inl (.inr ⟨o, e _ _ h⟩)
  · exact .inr h
theorem sqL_upd {K : PySem.W.Frag} {H : Hp} {a b : Addr} {xs : List V} {o : HO} (n : b ≠ a) (h : SqL K H b xs) : SqL K (upd H a o) b xs := by
  rcases h with (h | ⟨u, h⟩) | h
  · exact .inl (.inl (by rw [upd_ne n]; exact h))
  · exact .inl (.inr ⟨u, by rw [upd_ne n]; exact h⟩)
  · exact .inr h
mutual
theorem Dq.mono {K : PySem.W.Frag} {H H' : Hp} (e : Same H H') : ∀ (d : PyData) (v : V), Dq K H v d → Dq K H' v d
  | .none, _, h => by cases h; exact .non
  | .bool b, _, h => by cases h; exact .bl b
  | .int i, _, h => by cases h; exact .int i
  | .str x, _, h => by cases h; exact .str x
  | .list ds, _, h => by
    cases h with
    | lst hs ha => exact .lst (e _ _ hs) (DqAll.mono e ds _ ha)
  | .tuple ds, _, h => by
    cases h with
    | tup hs ha => exact .tup (e _ _ hs) (DqAll.mono e ds _ ha)
  | .dict _, _, h => by cases h
theorem DqAll.mono {K : PySem.W.Frag} {H H' : Hp} (e : Same H H') : ∀ (ds : List PyData) (vs : List V), DqAll K H vs ds → DqAll K H' vs ds
  | [], _, h => by cases h; exact .nil
  | d :: ds, _, h => by
    cases h with
    | cons h1 h2 => exact .cons (Dq.mono e d _ h1) (DqAll.mono e ds _ h2)
end
section
variable {c : Ct} {H H' : Hp}
theorem KVt.mono (e : Same H H') {ws kvs} (h : KVt c H ws kvs) : KVt c H' ws kvs := Paired.mapP h fun _ _ z => ⟨z.1, Dq.mono e _ _ z.2⟩
theorem KVk.mono (e : Same H H') {ws kvs} (h : KVk c H ws kvs) : KVk c H' ws kvs := Paired.mapP h fun _ _ z => ⟨z.1, Dq.mono e _ _ z.2⟩
theorem RV.mono (e : Same H H') {v : V} : ∀ {x : SV}, RV c H v x → RV c H' v x
  | .d x, h => Dq.mono e x v h
  | .dT kvs, ⟨a, ws, h1, h2, h3⟩ => ⟨a, ws, h1, e _ _ h2, h3.mono e⟩
  | .dK kvs, ⟨a, ws, h1, h2, h3⟩ => ⟨a, ws, h1, e _ _ h2, h3.mono e⟩
  | .hall P, ⟨h0, a, dx, t, h1, h2, h3⟩ => ⟨h0, a, dx, t, h1, e _ _ h2, Dq.mono e _ _ h3⟩
  | .row, ⟨a, h1, h2, h3⟩ => ⟨a, h1, e _ _ h2, same_l e h3⟩
  | .ty _, h => h
  | .tys _, ⟨a, h1, h2⟩ => ⟨a, h1, e _ _ h2⟩
  | .cls, h => h
  | .p m, h => m.mono e h
  | .o m, ⟨a, u, h1, h2, h3⟩ => ⟨a, u, h1, e _ _ h2, m.mono e h3⟩
end

/-! ### data without lists -/
/-- the tuples of a heap -/
def tupsOf (H : Hp) : Hp := fun a => match H a with
  | some o => if isTupO o = true then some o else none
  | none => none
theorem tupsOf_at {H : Hp} {a : Addr} {o : HO} (h : tupsOf H a = some o) : H a = some o ∧ isTupO o = true := by
  unfold tupsOf at h
  split at h
  · rename_i o' e
    split at h
    · rename_i t
      cases h
      exact ⟨e, t⟩
    · cases h
  · cases h
theorem tupsOf_of {H : Hp} {a : Addr} {o : HO} (h : H a = some o) (t : isTupO o = true) : tupsOf H a = some o := by
  unfold tupsOf
  rw [h]
  exact if_pos t
theorem tupsOf_sub (H : Hp) : Same (tupsOf H) H := fun _ _ h => (tupsOf_at h).1
mutual
def imm : PyData → Bool
  | .list _ => false
  | .dict _ => false
  | .tuple xs => immAll xs
  | _ => true
def immAll : List PyData → Bool
  | [] => true
  | x :: xs => imm x && immAll xs
end
theorem immAll_mem : ∀ {xs : List PyData}, (∀ x ∈ xs, imm x = true) → immAll xs = true
  | [], _ => by simp [immAll]
  | x :: xs, h => by
    rw [immAll, h x List.mem_cons_self, immAll_mem fun y hy => h y (List.mem_cons_of_mem _ hy)]
    rfl
theorem imm_mem : ∀ {xs : List PyData}, immAll xs = true → ∀ x ∈ xs, imm x = true
  | [], _, _, h => nomatch h
  | y :: ys, e, x, h => by
    rw [immAll, Bool.and_eq_true] at e
    rcases List.mem_cons.mp h with rfl | h
    · exact e.1
    · exact imm_mem e.2 x h
theorem imm_iT (ns : List Int) : imm (iT ns) = true := by
  unfold iT
  rw [imm]
  exact immAll_mem fun x hx => by
    obtain ⟨n, _, rfl⟩ := List.mem_map.mp hx
    simp [imm]
theorem imm_tups (ls : List (List Int)) : immAll (tups ls) = true := immAll_mem fun x hx => by
  obtain ⟨n, _, rfl⟩ := List.mem_map.mp hx
  exact imm_iT n
mutual
theorem Dq.tups {K : PySem.W.Frag} {H : Hp} : ∀ (d : PyData) (v : V), imm d = true → Dq K H v d → Dq K (tupsOf H) v d
  | .none, _, _, h => by cases h; exact .non
  | .bool b, _, _, h => by cases h; exact .bl b
  | .int i, _, _, h => by cases h; exact .int i
  | .str x, _, _, h => by cases h; exact .str x
  | .list ds, _, e, h => by simp [imm] at e
  | .tuple ds, _, e, h => by
    rw [imm] at e
    cases h with
    | tup hs ha => exact .tup (tupsOf_of hs rfl) (DqAll.tups ds _ e ha)
  | .dict _, _, _, h => by cases h
theorem DqAll.tups {K : PySem.W.Frag} {H : Hp} : ∀ (ds : List PyData) (vs : List V), immAll ds = true → DqAll K H vs ds → DqAll K (tupsOf H) vs ds
  | [], _, _, h => by cases h; exact .nil
  | d :: ds, _, e, h => by
    rw [immAll, Bool.and_eq_true] at e
    cases h with
    | cons h1 h2 => exact .cons (Dq.tups d _ e.1 h1) (DqAll.tups ds _ e.2 h2)
end

/-! ### new values -/
/-- a part of the heap H' that is new since H, or tuples -/
structure NewPart (H H' G : Hp) : Prop where
  sub : Same G H'
  new : ∀ a o, G a = some o → H a = none ∨ isTupO o = true
section
variable {c : Ct} {H H1 H' : Hp} {v : V}
/-- the value reads as x, by new objects and tuples alone -/
def RN (c : Ct) (H H' : Hp) (v : V) (x : SV) : Prop := ∃ G, NewPart H H' G ∧ RV c G v x
/-- a new object that may be changed -/
def RM (c : Ct) (x : SV) (H H' : Hp) (v : V) : Prop := ∃ G p, NewPart H H' G ∧ v = .ref p ∧ H p = none ∧ G p = none ∧ OV c G H' p x
theorem NewPart.mono (e : Same H H1) {G : Hp} (h : NewPart H1 H' G) : NewPart H H' G := ⟨h.sub, fun a o g => (h.new a o g).imp (fun z => e.free z) id⟩
theorem RN.mono (e : Same H H1) {x : SV} (h : RN c H1 H' v x) : RN c H H' v x := by
  obtain ⟨G, n, r⟩ := h
  exact ⟨G, n.mono e, r⟩
theorem RM.mono (e : Same H H1) {x : SV} (h : RM c x H1 H' v) : RM c x H H' v := by
  obtain ⟨G, p, n, h1, h2, h3, h4⟩ := h
  exact ⟨G, p, n.mono e, h1, e.free h2, h3, h4⟩
theorem RN.rv {x : SV} (h : RN c H H' v x) : RV c H' v x := by
  obtain ⟨G, n, r⟩ := h
  exact r.mono n.sub
theorem RN.imm {x : PyData} (e : imm x = true) (h : Dq c.K H' v x) : RN c H H' v (.d x) :=
  ⟨tupsOf H', ⟨tupsOf_sub H', fun a o g => .inr (tupsOf_at g).2⟩, Dq.tups x v e h⟩
theorem upd_sub {G : Hp} {p : Addr} {o : HO} (s : Same G H') (h : H' p = some o) : Same (upd G p o) H' := fun a u e => by
  by_cases q : a = p
  · subst q
    rw [upd_same] at e
    cases e
    exact h
  · rw [upd_ne q] at e
    exact s a u e
theorem sub_upd {G : Hp} {p : Addr} {o : HO} (h : G p = none) : Same G (upd G p o) := fun a u e => by
  rw [upd_ne (ne_of_none e h)]
  exact e
theorem RM.rn : ∀ {x : SV}, RM c x H H' v → RN c H H' v x
  | .d (.list ds), ⟨G, p, n, h1, h2, h3, xs, h4, h5⟩ => by
    refine ⟨upd G p (.lst xs), ⟨upd_sub n.sub h4, fun a o e => ?_⟩, ?_⟩
    · by_cases q : a = p
      · subst q; exact .inl h2
      · rw [upd_ne q] at e; exact n.new a o e
    · subst h1
      exact .lst upd_same (DqAll.mono (sub_upd h3) _ _ h5)
  | .dT kvs, ⟨G, p, n, h1, h2, h3, ws, h4, h5⟩ => by
    refine ⟨upd G p (.dT ws), ⟨upd_sub n.sub h4, fun a o e => ?_⟩, ?_⟩
    · by_cases q : a = p
      · subst q; exact .inl h2
      · rw [upd_ne q] at e; exact n.new a o e
    · exact ⟨p, ws, h1, upd_same, h5.mono (sub_upd h3)⟩
  | .dK kvs, ⟨G, p, n, h1, h2, h3, ws, h4, h5⟩ => by
    refine ⟨upd G p (.dK ws), ⟨upd_sub n.sub h4, fun a o e => ?_⟩, ?_⟩
    · by_cases q : a = p
      · subst q; exact .inl h2
      · rw [upd_ne q] at e; exact n.new a o e
    · exact ⟨p, ws, h1, upd_same, h5.mono (sub_upd h3)⟩
  | .d .none, ⟨_, _, _, _, _, _, h⟩ => h.elim
  | .d (.bool _), ⟨_, _, _, _, _, _, h⟩ => h.elim
  | .d (.int _), ⟨_, _, _, _, _, _, h⟩ => h.elim
  | .d (.str _), ⟨_, _, _, _, _, _, h⟩ => h.elim
  | .d (.tuple _), ⟨_, _, _, _, _, _, h⟩ => h.elim
  | .d (.dict _), ⟨_, _, _, _, _, _, h⟩ => h.elim
  | .hall _, ⟨_, _, _, _, _, _, h⟩ => h.elim
  | .row, ⟨_, _, _, _, _, _, h⟩ => h.elim
  | .ty _, ⟨_, _, _, _, _, _, h⟩ => h.elim
  | .tys _, ⟨_, _, _, _, _, _, h⟩ => h.elim
  | .cls, ⟨_, _, _, _, _, _, h⟩ => h.elim
  | .p _, ⟨_, _, _, _, _, _, h⟩ => h.elim
  | .o m, ⟨G, p, n, h1, h2, h3, u, h4, h5, h6, h7⟩ => by
    refine ⟨upd G p u, ⟨upd_sub n.sub h4, fun a o e => ?_⟩, ⟨p, u, h1, upd_same, m.mono (sub_upd h3) h7⟩⟩
    by_cases q : a = p
    · subst q; exact .inl h2
    · rw [upd_ne q] at e; exact n.new a o e
end

/-! ### slots that are read -/
structure Rd (c : Ct) (H : Hp) (σ : L2.St) (env : Ev') : Prop where
  len : σ.length = env.length
  at_ : ∀ (i : Nat) s x, env[i]? = some s → s.get = some x → ∃ v, σ[i]? = some (some v) ∧ RV c H v x
section
variable {c : Ct} {H H' : Hp} {σ : L2.St} {env : Ev'}
theorem Rd.mono (e : Same H H') (h : Rd c H σ env) : Rd c H' σ env := ⟨h.len, fun i s x a b => by
  obtain ⟨v, h1, h2⟩ := h.at_ i s x a b
  exact ⟨v, h1, h2.mono e⟩⟩
theorem Rd.set {v : V} {x : SV} {s : Sl} (j : Nat) (hs : s.get = some x) (h : Rd c H σ env) (r : RV c H v x) : Rd c H (σ.set j (some v)) (env.set j s) := by
  refine ⟨by rw [List.length_set, List.length_set, h.len], fun i s' y a b => ?_⟩
  by_cases q : j = i
  · subst q
    by_cases hj : j < env.length
    · rw [List.getElem?_set_self hj] at a
      cases a
      rw [hs] at b
      cases b
      exact ⟨v, List.getElem?_set_self (by rw [h.len]; exact hj), r⟩
    · rw [List.getElem?_eq_none (by rw [List.length_set]; omega)] at a
      cases a
  · rw [List.getElem?_set_ne q] at a
    obtain ⟨w, h1, h2⟩ := h.at_ i s' y a b
    exact ⟨w, by rw [List.getElem?_set_ne q]; exact h1, h2⟩
def wipeE (env : Ev') : List Nat → Ev'
  | [] => env
  | v :: vs => (wipeE env vs).set v .no
theorem Rd.wipe (h : Rd c H σ env) : ∀ vs, Rd c H (L2.wipe σ vs) (wipeE env vs)
  | [] => h
  | j :: vs => by
    have ih := h.wipe vs
    unfold L2.wipe wipeE
    refine ⟨by rw [List.length_set, List.length_set, ih.len], fun i s' y a b => ?_⟩
    by_cases q : j = i
    · subst q
      by_cases hj : j < (wipeE env vs).length
      · rw [List.getElem?_set_self hj] at a
        cases a
        cases b
      · rw [List.getElem?_eq_none (by rw [List.length_set]; omega)] at a
        cases a
    · rw [List.getElem?_set_ne q] at a
      obtain ⟨w, h1, h2⟩ := ih.at_ i s' y a b
      exact ⟨w, by rw [List.getElem?_set_ne q]; exact h1, h2⟩
end

/-! ### the weakest readings -/
section
variable (X : Cx)
def WE (e : Expr) : TE := fun σ H Q => ∀ pins s, Inv X pins σ H s → wpAny (model X.prog X.w) X.A (eval e X.env) (EP X pins σ Q) X.xe s
def WT (e : Expr) : TT := fun σ H Q => ∀ pins s, Inv X pins σ H s → wpAny (model X.prog X.w) X.A (isTrue e X.env (eval e X.env)) (TP X pins σ Q) X.xe s
def WW (e : Expr) : TT := fun σ H Q => ∀ whole pins s, Inv X pins σ H s → wpAny (model X.prog X.w) X.A (isTrue e X.env whole) (TP X pins σ Q) X.xe s
def WA (es : List Expr) : TA := fun σ H Q => ∀ pos pins s, Inv X pins σ H s → wpAny (model X.prog X.w) X.A (spliced (backTo pos (starEach es X.env))) (AP X pins σ Q) X.xe s
def WS (st : Stmt) : TS := fun D σ H => ∀ pins s, Inv X pins σ H s → wpAny (model X.prog X.w) X.A (exec st X.env) (SP X pins D) X.xe s
def WSs (st : List Stmt) : TS := fun D σ H => ∀ pins s, Inv X pins σ H s → wpAny (model X.prog X.w) X.A (execs st X.env) (SP X pins D) X.xe s
end
section
variable {X : Cx}
theorem pe_w {e : Expr} : PE X e (WE X e) := ⟨fun pins s _ _ _ I h => h pins s I⟩
theorem pt_w {e : Expr} : PT X e (WT X e) := ⟨fun pins s _ _ _ I h => h pins s I⟩
theorem pw_w {e : Expr} : PW X e (WW X e) := ⟨fun wh pins s _ _ _ I h => h wh pins s I⟩
theorem pa_w {es : List Expr} : PA X es (WA X es) := ⟨fun pos pins s _ _ _ I h => h pos pins s I⟩
theorem ps_w {st : Stmt} : PS X st (WS X st) := ⟨fun pins s _ _ _ I h => h pins s I⟩
theorem pss_w {st : List Stmt} : PSs X st (WSs X st) := ⟨fun pins s _ _ _ I h => h pins s I⟩
theorem WE.of {e : Expr} {t : TE} {σ H Q} (h : PE X e t) (q : t σ H Q) : WE X e σ H Q := fun pins s I => h.run pins s σ H Q I q
theorem WT.of {e : Expr} {t : TT} {σ H Q} (h : PT X e t) (q : t σ H Q) : WT X e σ H Q := fun pins s I => h.run pins s σ H Q I q
theorem WW.of {e : Expr} {t : TT} {σ H Q} (h : PW X e t) (q : t σ H Q) : WW X e σ H Q := fun wh pins s I => h.run wh pins s σ H Q I q
theorem WA.of {es : List Expr} {t : TA} {σ H Q} (h : PA X es t) (q : t σ H Q) : WA X es σ H Q := fun pos pins s I => h.run pos pins s σ H Q I q
theorem WS.of {st : Stmt} {t : TS} {D σ H} (h : PS X st t) (q : t D σ H) : WS X st D σ H := fun pins s I => h.run pins s σ H D I q
theorem WSs.of {st : List Stmt} {t : TS} {D σ H} (h : PSs X st t) (q : t D σ H) : WSs X st D σ H := fun pins s I => h.run pins s σ H D I q
end

/-! ### what an expression gives -/
abbrev Rel := Hp → Hp → V → Prop
/-- R's first heap may be taken earlier -/
def Back (R : Rel) : Prop := ∀ H H1 H' v, Same H H1 → R H1 H' v → R H H' v
def rE (c : Ct) (x : SV) : Rel := fun _ H' v => RV c H' v x
def rN (c : Ct) (x : SV) : Rel := fun H H' v => RN c H H' v x
theorem back_e {c : Ct} {x : SV} : Back (rE c x) := fun _ _ _ _ _ h => h
theorem back_n {c : Ct} {x : SV} : Back (rN c x) := fun _ _ _ _ e h => RN.mono e h
theorem back_m {c : Ct} {x : SV} : Back (RM c x) := fun _ _ _ _ e h => RM.mono e h
section
variable (c : Ct) (X : Cx) (env : Ev')
def EG (e : Expr) (R : Rel) : Prop := ∀ σ H, Rd c H σ env → ∀ Q : VK, (∀ v H', Same H H' → R H H' v → Q v H') → WE X e σ H Q
abbrev EE (e : Expr) (x : SV) : Prop := EG c X env e (rE c x)
abbrev EN (e : Expr) (x : SV) : Prop := EG c X env e (rN c x)
abbrev EM (e : Expr) (x : SV) : Prop := EG c X env e (RM c x)
def ET (e : Expr) (b : Bool) : Prop := ∀ σ H, Rd c H σ env → ∀ Q : Bool → Hp → Prop, (∀ H', Same H H' → Q b H') → WT X e σ H Q
def EW (e : Expr) (b : Bool) : Prop := ∀ σ H, Rd c H σ env → ∀ Q : Bool → Hp → Prop, (∀ H', Same H H' → Q b H') → WW X e σ H Q
def RVs (H : Hp) : List V → List SV → Prop := Paired fun v x => RV c H v x
def EA (es : List Expr) (xs : List SV) : Prop := ∀ σ H, Rd c H σ env → ∀ Q : List V → Hp → Prop, (∀ vs H', Same H H' → RVs c H' vs xs → Q vs H') → WA X es σ H Q
/-- several items of any new make -/
def RNs (H H' : Hp) : List V → List SV → Prop := Paired fun v x => RN c H H' v x
def EAN (es : List Expr) (xs : List SV) : Prop := ∀ σ H, Rd c H σ env → ∀ Q : List V → Hp → Prop, (∀ vs H', Same H H' → RNs c H H' vs xs → Q vs H') → WA X es σ H Q
end
section
variable {c : Ct} {X : Cx} {env : Ev'} {e : Expr} {x y : SV}
theorem EG.imp {R R' : Rel} (h : EG c X env e R) (i : ∀ H H' v, R H H' v → R' H H' v) : EG c X env e R' := fun σ H r Q q => h σ H r Q fun v H' s z => q v H' s (i _ _ _ z)
theorem EN.ee (h : EN c X env e x) : EE c X env e x := h.imp fun _ _ _ z => RN.rv z
theorem EM.en (h : EM c X env e x) : EN c X env e x := h.imp fun _ _ _ z => RM.rn z
theorem EM.ee (h : EM c X env e x) : EE c X env e x := h.en.ee
theorem EE.en {d : PyData} (h : EE c X env e (.d d)) (i : imm d = true) : EN c X env e (.d d) := h.imp fun _ _ _ z => RN.imm i z
theorem EE.is (h : EE c X env e x) (q : x = y) : EE c X env e y := q ▸ h
theorem EN.is (h : EN c X env e x) (q : x = y) : EN c X env e y := q ▸ h
theorem EM.is (h : EM c X env e x) (q : x = y) : EM c X env e y := q ▸ h
theorem ET.is {a b : Bool} (h : ET c X env e a) (q : a = b) : ET c X env e b := q ▸ h
end
end K33

set_option maxHeartbeats 4000000
/-! K33b: the rules of expressions, by data. -/
namespace K33
open PySem PySem.Spec PyProof.Rows L2

section
variable {c : Ct} {X : Cx} {env : Ev'} {e a b : Expr} {x y z : SV} {R : Rel} {pos : Pos}

/-! ### names and constants -/
theorem ee_name (i : Nat) {nm : Str} {s : Sl} (he : env[i]? = some s := by rfl) (hs : s.get = some x := by rfl) (hN : X.N[i]? = some nm := by rfl)
    (hv : Vis X.env.scope nm := by first | exact Or.inl rfl | exact Or.inr (Or.inl rfl) | exact Or.inr (Or.inr rfl)) (hd : (nm == ("__debug__" : Str)) = false := by decide)
    (hcd : (nm == ("__classdict__" : Str)) = false := by decide) : EE c X env (.Name nm pos) x := fun σ H r Q q => by
  obtain ⟨v, h1, h2⟩ := r.at_ i s x he hs
  exact WE.of (pe_var (i := i) hN hv hd hcd) ⟨v, h1, q v H (Same.refl H) h2⟩
theorem ee_c {v : V} (h : PE X e (tC v)) (r : ∀ H, RV c H v x) : EE c X env e x := fun σ H _ Q q => WE.of h (q v H (Same.refl H) (r H))
theorem ee_int {i : Int} {j} : EE c X env (.Constant (.int i) j pos) (.d (.int i)) := ee_c pe_int fun _ => .int i
theorem ee_bl {i : Bool} {j} : EE c X env (.Constant (.bool i) j pos) (.d (.bool i)) := ee_c pe_bl fun _ => .bl i
theorem ee_non {j} : EE c X env (.Constant .none j pos) (.d .none) := ee_c pe_non fun _ => .non
theorem ee_str {i : Str} {j} : EE c X env (.Constant (.str i) j pos) (.d (.str i)) := ee_c pe_str fun _ => .str i
/-- a module's constant -/
theorem ee_gint {i : Int} {nm : Str} (hm : ∃ t, X.mg nm = some (.int i t)) (hg : Gl X nm := by rfl) (hd : (nm == ("__debug__" : Str)) = false := by decide) : EE c X env (.Name nm pos) (.d (.int i)) := by
  obtain ⟨t, hm⟩ := hm
  exact ee_c (pe_glob (v := .int i) hg hm ⟨t, rfl⟩ hd) fun _ => .int i
theorem ee_gstr {i : Str} {nm : Str} (hm : ∃ t, X.mg nm = some (.str i t)) (hg : Gl X nm := by rfl) (hd : (nm == ("__debug__" : Str)) = false := by decide) : EE c X env (.Name nm pos) (.d (.str i)) := by
  obtain ⟨t, hm⟩ := hm
  exact ee_c (pe_glob (v := .str i) hg hm ⟨t, rfl⟩ hd) fun _ => .str i

/-! ### operations by values -/
def OG (c : Ct) (X : Cx) (f : Value → Value → Sem Value) (x y : SV) (R : Rel) : Prop :=
  ∃ r, OpR X f r ∧ ∀ H v w, RV c H v x → RV c H w y → ∀ Q : VK, (∀ u H', Same H H' → R H H' u → Q u H') → r v w H Q
theorem eg_two {t : R2} (ha : EE c X env a x) (hb : EE c X env b y) (hB : Back R) (ht : ∀ H v w, RV c H v x → RV c H w y → ∀ Q : VK, (∀ u H', Same H H' → R H H' u → Q u H') → t v w H Q)
    {e : Expr} (h : PE X e (tOp t (WE X a) (WE X b))) : EG c X env e R := fun σ H r Q q =>
  WE.of h (ha σ H r _ fun v H1 s1 r1 => hb σ H1 (r.mono s1) _ fun w H2 s2 r2 =>
    ht H2 v w (r1.mono s2) r2 _ fun u H3 s3 r3 => q u H3 ((s1.trans s2).trans s3) (hB _ _ _ _ (s1.trans s2) r3))
theorem eg_bin {op : Operator} (o : OG c X (binaryOp op) x y R) (ha : EE c X env a x) (hb : EE c X env b y) (hB : Back R) : EG c X env (.BinOp a op b pos) R := by
  obtain ⟨r, h1, h2⟩ := o
  exact eg_two ha hb hB h2 (pe_op h1 pe_w pe_w)
theorem ee_bin {op : Operator} (o : OG c X (binaryOp op) x y (rE c z)) (ha : EE c X env a x) (hb : EE c X env b y) : EE c X env (.BinOp a op b pos) z := eg_bin o ha hb back_e
theorem em_bin {op : Operator} (o : OG c X (binaryOp op) x y (RM c z)) (ha : EE c X env a x) (hb : EE c X env b y) : EM c X env (.BinOp a op b pos) z := eg_bin o ha hb back_m
theorem ee_cmp {op : CmpOp} (o : OG c X (compareOp op) x y (rE c z)) (ha : EE c X env a x) (hb : EE c X env b y) (hm : behindInMarks op b = false := by first | exact nomark _ | rfl | with_unfolding_all rfl) :
    EE c X env (.Compare a [op] [b] pos) z := by
  obtain ⟨r, h1, h2⟩ := o
  exact eg_two ha hb back_e h2 (pe_cmpR h1 pe_w pe_w hm)
theorem et_cmp {op : CmpOp} {k : Bool} (o : OG c X (compareOp op) x y (rE c (.d (.bool k)))) (ha : EE c X env a x) (hb : EE c X env b y) (hm : behindInMarks op b = false := by first | exact nomark _ | rfl | with_unfolding_all rfl) :
    ET c X env (.Compare a [op] [b] pos) k := by
  obtain ⟨r, h1, h2⟩ := o
  exact fun σ H rd Q q => WT.of (pt_cmpR h1 pe_w pe_w hm) (ha σ H rd _ fun v H1 s1 r1 => hb σ H1 (rd.mono s1) _ fun w H2 s2 r2 =>
    h2 H2 v w (r1.mono s2) r2 _ fun u H3 s3 r3 => by
      cases (show Dq c.K H3 u (.bool k) from r3)
      exact ⟨k, rfl, q H3 ((s1.trans s2).trans s3)⟩)
/-- two ints -/
theorem og_i {f : Value → Value → Sem Value} {g : Int → Int → V} {i j : Int} (h : OpR X f (rI0 g)) (hz : ∀ H, RV c H (g i j) z) : OG c X f (.d (.int i)) (.d (.int j)) (rE c z) :=
  ⟨_, h, fun H v w r1 r2 Q q => by
    cases (show Dq c.K H v (.int i) from r1)
    cases (show Dq c.K H w (.int j) from r2)
    exact ⟨i, j, rfl, rfl, q _ H (Same.refl H) (hz H)⟩⟩
theorem og_ic {f : Value → Value → Sem Value} {C : Int → Int → Prop} {g : Int → Int → V} {i j : Int} (h : OpR X f (rI C g)) (hc : C i j) (hz : ∀ H, RV c H (g i j) z) : OG c X f (.d (.int i)) (.d (.int j)) (rE c z) :=
  ⟨_, h, fun H v w r1 r2 Q q => by
    cases (show Dq c.K H v (.int i) from r1)
    cases (show Dq c.K H w (.int j) from r2)
    exact ⟨i, j, rfl, rfl, hc, q _ H (Same.refl H) (hz H)⟩⟩
section
variable {i j : Int}
theorem og_add : OG c X (binaryOp .Add) (.d (.int i)) (.d (.int j)) (rE c (.d (.int (i + j)))) := og_i op_add fun _ => .int _
theorem og_sub : OG c X (binaryOp .Sub) (.d (.int i)) (.d (.int j)) (rE c (.d (.int (i - j)))) := og_i op_sub fun _ => .int _
theorem og_mul (h : CMul i j) : OG c X (binaryOp .Mult) (.d (.int i)) (.d (.int j)) (rE c (.d (.int (i * j)))) := og_ic op_mul h fun _ => .int _
theorem og_fdiv (h : CDiv i j) : OG c X (binaryOp .FloorDiv) (.d (.int i)) (.d (.int j)) (rE c (.d (.int (i / j)))) := og_ic op_fdiv h fun _ => .int _
theorem og_mod (h : 0 < j) : OG c X (binaryOp .Mod) (.d (.int i)) (.d (.int j)) (rE c (.d (.int (i % j)))) := og_ic op_mod h fun _ => .int _
theorem og_pow (h : CPow i j) : OG c X (binaryOp .Pow) (.d (.int i)) (.d (.int j)) (rE c (.d (.int (i ^ j.toNat)))) := og_ic op_pow h fun _ => .int _
theorem og_lt : OG c X (compareOp .Lt) (.d (.int i)) (.d (.int j)) (rE c (.d (.bool (decide (i < j))))) := og_i op_lt fun _ => .bl _
theorem og_le : OG c X (compareOp .LtE) (.d (.int i)) (.d (.int j)) (rE c (.d (.bool (decide (i ≤ j))))) := og_i op_le fun _ => .bl _
theorem og_gt : OG c X (compareOp .Gt) (.d (.int i)) (.d (.int j)) (rE c (.d (.bool (decide (j < i))))) := og_i op_gt fun _ => .bl _
theorem og_ge : OG c X (compareOp .GtE) (.d (.int i)) (.d (.int j)) (rE c (.d (.bool (decide (j ≤ i))))) := og_i op_ge fun _ => .bl _
end
/-- == of data of any kind -/
theorem og_eq {d f : PyData} {k : Bool} (hu : X.A.units + 64 < cLine) (sd : SeqAt.shaped d = true) (sf : SeqAt.shaped f = true) (hk : PyData.eqv d f = k) (hK : X.K = c.K := by rfl) : OG c X (compareOp .Eq) (.d d) (.d f) (rE c (.d (.bool k))) :=
  ⟨_, op_eqD hu, fun H v w r1 r2 Q q => ⟨d, f, hK ▸ Dq.dp d v r1, hK ▸ Dq.dp f w r2, sd, sf, by
    subst hk
    exact q _ H (Same.refl H) (.bl _)⟩⟩
theorem og_ne {d f : PyData} {k : Bool} (hu : X.A.units + 64 < cLine) (sd : SeqAt.shaped d = true) (sf : SeqAt.shaped f = true) (hk : PyData.eqv d f = !k) (hK : X.K = c.K := by rfl) : OG c X (compareOp .NotEq) (.d d) (.d f) (rE c (.d (.bool k))) :=
  ⟨_, op_neD hu, fun H v w r1 r2 Q q => ⟨d, f, hK ▸ Dq.dp d v r1, hK ▸ Dq.dp f w r2, sd, sf, by
    have e : (!PyData.eqv d f) = k := by rw [hk, Bool.not_not]
    rw [e]
    exact q _ H (Same.refl H) (.bl _)⟩⟩
theorem og_in {d : PyData} {ds : List PyData} {k : Bool} (hu : X.A.units + 65 < cLine) (sd : SeqAt.shaped d = true) (sf : SeqAt.shaped (.list ds) = true) (hk : (ds.any fun z => PyData.eqv z d) = k) (hK : X.K = c.K := by rfl) :
    OG c X (compareOp .In) (.d d) (.d (.list ds)) (rE c (.d (.bool k))) :=
  ⟨_, op_inD hu, fun H v w r1 r2 Q q => ⟨d, ds, hK ▸ Dq.dp d v r1, hK ▸ Dq.dp _ w r2, sd, sf, by
    subst hk
    exact q _ H (Same.refl H) (.bl _)⟩⟩
theorem og_notIn {d : PyData} {ds : List PyData} {k : Bool} (hu : X.A.units + 65 < cLine) (sd : SeqAt.shaped d = true) (sf : SeqAt.shaped (.list ds) = true) (hk : (ds.any fun z => PyData.eqv z d) = !k) (hK : X.K = c.K := by rfl) :
    OG c X (compareOp .NotIn) (.d d) (.d (.list ds)) (rE c (.d (.bool k))) :=
  ⟨_, op_notInD hu, fun H v w r1 r2 Q q => ⟨d, ds, hK ▸ Dq.dp d v r1, hK ▸ Dq.dp _ w r2, sd, sf, by
    have e : (!(ds.any fun z => PyData.eqv z d)) = k := by rw [hk, Bool.not_not]
    rw [e]
    exact q _ H (Same.refl H) (.bl _)⟩⟩
/-- is None -/
def isNone : PyData → Bool
  | .none => true
  | _ => false
theorem non_iff {H : Hp} {v : V} {d : PyData} (h : Dq c.K H v d) : decide (v = .non) = isNone d := by
  cases h <;> first | rfl | exact decide_eq_false (fun z => nomatch z)
theorem og_isN {d : PyData} : OG c X (compareOp .Is) (.d d) (.d .none) (rE c (.d (.bool (isNone d)))) :=
  ⟨_, op_isN, fun H v w r1 r2 Q q => by
    cases (show Dq c.K H w .none from r2)
    exact ⟨rfl, q _ H (Same.refl H) (by rw [non_iff (c := c) r1]; exact .bl _)⟩⟩

/-! ### and, or, not, if -/
theorem et_val {k : Bool} (h : EE c X env e (.d (.bool k))) (he : ∀ whole, isTrue e X.env whole = (do let v ← whole; standAt e.pos; holding [v] (truthy v)) := by intro _; rfl) : ET c X env e k := fun σ H r Q q =>
  WT.of (pt_val pe_w he) (h σ H r _ fun v H' s rv => by
    cases (show Dq c.K H' v (.bool k) from rv)
    exact ⟨k, rfl, q H' s⟩)
theorem et_not {k : Bool} (h : ET c X env a k) : ET c X env (.UnaryOp .Not a pos) (!k) := fun σ H r Q q => WT.of (pt_not pt_w) (h σ H r _ fun H' s => q H' s)
theorem ew_pt {k : Bool} (h : EW c X env e k) : ET c X env e k := fun σ H r Q q => WT.of (PW.pt pw_w) (h σ H r Q q)
theorem ew_and1 {k : Bool} (h : ET c X env a k) : EW c X env (.BoolOp .And [a] pos) k := fun σ H r Q q => WW.of (pw_and1 pt_w) (h σ H r Q q)
theorem ew_or1 {k : Bool} (h : ET c X env a k) : EW c X env (.BoolOp .Or [a] pos) k := fun σ H r Q q => WW.of (pw_or1 pt_w) (h σ H r Q q)
theorem ew_and {k l : Bool} {rest : List Expr} (h : ET c X env a k) (h2 : k = true → EW c X env (.BoolOp .And (b :: rest) pos) l) : EW c X env (.BoolOp .And (a :: b :: rest) pos) (k && l) := fun σ H r Q q =>
  WW.of (pw_and pt_w pw_w) (h σ H r _ fun H1 s1 => by
    cases k with
    | true => exact iteT (h2 rfl σ H1 (r.mono s1) Q fun H2 s2 => q H2 (s1.trans s2))
    | false => exact iteF (q H1 s1))
theorem ew_or {k l : Bool} {rest : List Expr} (h : ET c X env a k) (h2 : k = false → EW c X env (.BoolOp .Or (b :: rest) pos) l) : EW c X env (.BoolOp .Or (a :: b :: rest) pos) (k || l) := fun σ H r Q q =>
  WW.of (pw_or pt_w pw_w) (h σ H r _ fun H1 s1 => by
    cases k with
    | true => exact iteT (q H1 s1)
    | false => exact iteF (h2 rfl σ H1 (r.mono s1) Q fun H2 s2 => q H2 (s1.trans s2)))
theorem et_and2 {k l : Bool} (h : ET c X env a k) (h2 : k = true → ET c X env b l) : ET c X env (.BoolOp .And [a, b] pos) (k && l) := ew_pt (ew_and h fun q => ew_and1 (h2 q))
theorem et_or2 {k l : Bool} (h : ET c X env a k) (h2 : k = false → ET c X env b l) : ET c X env (.BoolOp .Or [a, b] pos) (k || l) := ew_pt (ew_or h fun q => ew_or1 (h2 q))
theorem ee_not {k : Bool} (h : EE c X env a (.d (.bool k))) : EE c X env (.UnaryOp .Not a pos) (.d (.bool (!k))) := fun σ H r Q q =>
  WE.of (pe_not pe_w) (h σ H r _ fun v H1 s1 r1 => by
    cases (show Dq c.K H1 v (.bool k) from r1)
    exact ⟨k, rfl, q _ H1 s1 (.bl _)⟩)
theorem ee_one {op} (h : EE c X env a x) : EE c X env (.BoolOp op [a] pos) x := fun σ H r Q q => WE.of (pe_one pe_w) (h σ H r Q q)
theorem ee_and {k : Bool} {l : Bool} {rest : List Expr} (h : EE c X env a (.d (.bool k))) (h2 : k = true → EE c X env (.BoolOp .And (b :: rest) pos) (.d (.bool l))) : EE c X env (.BoolOp .And (a :: b :: rest) pos) (.d (.bool (k && l))) := fun σ H r Q q =>
  WE.of (pe_and pe_w pe_w) (h σ H r _ fun v H1 s1 r1 => by
    cases (show Dq c.K H1 v (.bool k) from r1)
    refine ⟨k, rfl, ?_⟩
    cases k with
    | true => exact iteT (h2 rfl σ H1 (r.mono s1) Q fun u H2 s2 r2 => q u H2 (s1.trans s2) r2)
    | false => exact iteF (q _ H1 s1 (.bl _)))
theorem ee_or {k : Bool} {l : Bool} {rest : List Expr} (h : EE c X env a (.d (.bool k))) (h2 : k = false → EE c X env (.BoolOp .Or (b :: rest) pos) (.d (.bool l))) : EE c X env (.BoolOp .Or (a :: b :: rest) pos) (.d (.bool (k || l))) := fun σ H r Q q =>
  WE.of (pe_or pe_w pe_w) (h σ H r _ fun v H1 s1 r1 => by
    cases (show Dq c.K H1 v (.bool k) from r1)
    refine ⟨k, rfl, ?_⟩
    cases k with
    | true => exact iteT (q _ H1 s1 (.bl _))
    | false => exact iteF (h2 rfl σ H1 (r.mono s1) Q fun u H2 s2 r2 => q u H2 (s1.trans s2) r2))
theorem ee_and2 {k l : Bool} (h : EE c X env a (.d (.bool k))) (h2 : k = true → EE c X env b (.d (.bool l))) : EE c X env (.BoolOp .And [a, b] pos) (.d (.bool (k && l))) := ee_and h fun q => ee_one (h2 q)
theorem ee_or2 {k l : Bool} (h : EE c X env a (.d (.bool k))) (h2 : k = false → EE c X env b (.d (.bool l))) : EE c X env (.BoolOp .Or [a, b] pos) (.d (.bool (k || l))) := ee_or h fun q => ee_one (h2 q)
theorem eg_if {k : Bool} {t : Expr} (hB : Back R) (h : ET c X env t k) (h1 : k = true → EG c X env a R) (h2 : k = false → EG c X env b R) : EG c X env (.IfExp t a b pos) R := fun σ H r Q q =>
  WE.of (pe_ifExp pt_w pe_w pe_w) (h σ H r _ fun H1 s1 => by
    cases k with
    | true => exact iteT (h1 rfl σ H1 (r.mono s1) Q fun u H2 s2 r2 => q u H2 (s1.trans s2) (hB _ _ _ _ s1 r2))
    | false => exact iteF (h2 rfl σ H1 (r.mono s1) Q fun u H2 s2 r2 => q u H2 (s1.trans s2) (hB _ _ _ _ s1 r2)))
theorem ee_if {k : Bool} {t : Expr} (h : ET c X env t k) (h1 : k = true → EE c X env a x) (h2 : k = false → EE c X env b x) : EE c X env (.IfExp t a b pos) x := eg_if back_e h h1 h2
theorem ee_neg {i : Int} (h : EE c X env a (.d (.int i))) : EE c X env (.UnaryOp .USub a pos) (.d (.int (-i))) := fun σ H r Q q =>
  WE.of (pe_un un_neg pe_w) (h σ H r _ fun v H1 s1 r1 => by
    cases (show Dq c.K H1 v (.int i) from r1)
    exact ⟨i, rfl, q _ H1 s1 (.int _)⟩)
/-- low <= value <= high -/
theorem ee_chain {i j k : Int} {d : Expr} (ha : EE c X env a (.d (.int i))) (hb : EE c X env b (.d (.int j))) (hd : EE c X env d (.d (.int k))) (hm : lastMarks [.LtE, .LtE] [b, d] = false := by with_unfolding_all rfl) :
    EE c X env (.Compare a [.LtE, .LtE] [b, d] pos) (.d (.bool (decide (i ≤ j) && decide (j ≤ k)))) := fun σ H r Q q =>
  WE.of (pe_chain op_le op_le pe_w pe_w pe_w hm) (ha σ H r _ fun v H1 s1 r1 => hb σ H1 (r.mono s1) _ fun w H2 s2 r2 => by
    cases (show Dq c.K H1 v (.int i) from r1)
    cases (show Dq c.K H2 w (.int j) from r2)
    refine ⟨i, j, rfl, rfl, _, rfl, ?_⟩
    by_cases h : i ≤ j
    · rw [decide_eq_true h]
      refine iteT (hd σ H2 (r.mono (s1.trans s2)) _ fun u H3 s3 r3 => ?_)
      cases (show Dq c.K H3 u (.int k) from r3)
      refine ⟨j, k, rfl, rfl, q _ H3 ((s1.trans s2).trans s3) ?_⟩
      rw [decide_eq_true h]
      exact .bl _
    · rw [decide_eq_false h]
      refine iteF (q _ H2 (s1.trans s2) ?_)
      rw [decide_eq_false h]
      exact .bl _)

/-! ### displays -/
theorem ea_nil : EA c X env [] [] := fun σ H r Q q => WA.of pa_nil (q [] H (Same.refl H) .nil)
theorem ea_cons {es : List Expr} {xs : List SV} (h : EE c X env e x) (t : EA c X env es xs) (hs : starEach (e :: es) X.env = (false, eval e X.env) :: starEach es X.env := by rfl) : EA c X env (e :: es) (x :: xs) := fun σ H r Q q =>
  WA.of (pa_cons pe_w pa_w hs) (h σ H r _ fun v H1 s1 r1 => t σ H1 (r.mono s1) _ fun vs H2 s2 r2 => q _ H2 (s1.trans s2) (.cons (r1.mono s2) r2))
theorem ean_nil : EAN c X env [] [] := fun σ H r Q q => WA.of pa_nil (q [] H (Same.refl H) .nil)
theorem RN.fwd {H H1 H2 : Hp} {v : V} (e : Same H1 H2) (h : RN c H H1 v x) : RN c H H2 v x := by
  obtain ⟨G, n, r⟩ := h
  exact ⟨G, ⟨n.sub.trans e, n.new⟩, r⟩
theorem RNs.back {H H1 H2 : Hp} {vs : List V} {xs : List SV} (e : Same H H1) (h : RNs c H1 H2 vs xs) : RNs c H H2 vs xs := Paired.mapP h fun _ _ z => RN.mono e z
theorem ean_cons {es : List Expr} {xs : List SV} (h : EN c X env e x) (t : EAN c X env es xs) (hs : starEach (e :: es) X.env = (false, eval e X.env) :: starEach es X.env := by rfl) : EAN c X env (e :: es) (x :: xs) := fun σ H r Q q =>
  WA.of (pa_cons pe_w pa_w hs) (h σ H r _ fun v H1 s1 r1 => t σ H1 (r.mono s1) _ fun vs H2 s2 r2 => q _ H2 (s1.trans s2) (.cons (RN.fwd s2 r1) (RNs.back s1 r2)))
theorem NewPart.union {H H' G G' : Hp} (h : NewPart H H' G) (h' : NewPart H H' G') : ∃ U, NewPart H H' U ∧ Same G U ∧ Same G' U := by
  refine ⟨fun a => match G a with | some o => some o | none => G' a, ⟨fun a o e => ?_, fun a o e => ?_⟩, fun a o e => by simp only [e], fun a o e => ?_⟩
  · cases q : G a with
    | some u => simp only [q] at e; cases e; exact h.sub a _ q
    | none => simp only [q] at e; exact h'.sub a o e
  · cases q : G a with
    | some u => simp only [q] at e; cases e; exact h.new a _ q
    | none => simp only [q] at e; exact h'.new a o e
  · cases q : G a with
    | some u =>
      simp only [q]
      have e1 := h.sub a u q
      have e2 := h'.sub a o e
      rw [e1] at e2
      exact e2
    | none => simp only [q]; exact e
/-- all of several new values in one part -/
theorem RNs.all {H H' : Hp} : ∀ {vs : List V} {ds : List PyData}, RNs c H H' vs (ds.map .d) → ∃ G, NewPart H H' G ∧ DqAll c.K G vs ds
  | _, [], h => by
    cases h
    exact ⟨fun _ => none, ⟨(fun _ _ e => nomatch e), fun _ _ e => nomatch e⟩, .nil⟩
  | _, d :: ds, h => by
    cases h with
    | cons h1 h2 =>
      obtain ⟨G, n, r⟩ := h1
      obtain ⟨G', n', r'⟩ := RNs.all h2
      obtain ⟨U, nu, s1, s2⟩ := n.union n'
      exact ⟨U, nu, .cons (Dq.mono s1 _ _ r) (DqAll.mono s2 _ _ r')⟩
theorem rvs_imm {H : Hp} : ∀ {vs : List V} {ds : List PyData}, RVs c H vs (ds.map .d) → DqAll c.K H vs ds
  | _, [], h => by cases h; exact .nil
  | _, d :: ds, h => by
    cases h with
    | cons h1 h2 => exact .cons h1 (rvs_imm h2)
theorem DqAll.len {K : PySem.W.Frag} {H : Hp} : ∀ {vs : List V} {ds : List PyData}, DqAll K H vs ds → vs.length = ds.length
  | _, _, .nil => rfl
  | _, _, .cons _ t => congrArg (· + 1) (DqAll.len t)
theorem same_upd {H : Hp} {p : Addr} {o : HO} (h : H p = none) : Same H (upd H p o) := fun a u e => by
  rw [upd_ne (ne_of_none e h)]
  exact e
theorem ee_tup {es : List Expr} {ds : List PyData} {k} (h : EA c X env es (ds.map .d)) (hl : ds.length ≤ 100000 := by decide) : EE c X env (.Tuple es k pos) (.d (.tuple ds)) := fun σ H r Q q =>
  WE.of (pe_tup pa_w) (h σ H r _ fun vs H1 s1 r1 => by
    have r2 := rvs_imm r1
    refine ⟨by rw [r2.len]; exact Nat.le_trans hl (by decide), fun p hp => q _ _ (s1.trans (same_upd hp)) ?_⟩
    exact .tup upd_same (DqAll.mono (same_upd hp) _ _ r2))
theorem em_lst {es : List Expr} {ds : List PyData} (h : EAN c X env es (ds.map .d)) (hl : ds.length ≤ 100000 := by decide) : EM c X env (.List es pos) (.d (.list ds)) := fun σ H r Q q =>
  WE.of (pe_lst pa_w) (h σ H r _ fun vs H1 s1 r1 => by
    obtain ⟨G, n, r2⟩ := RNs.all r1
    refine ⟨by rw [r2.len]; exact Nat.le_trans hl (by decide), fun p hp => q _ _ (s1.trans (same_upd hp)) ?_⟩
    have gp : G p = none := by
      cases e : G p with
      | none => rfl
      | some o => rw [n.sub p o e] at hp; cases hp
    exact ⟨G, p, ⟨n.sub.trans (same_upd hp), n.new⟩, rfl, s1.free hp, gp, vs, upd_same, r2⟩)
end
end K33

set_option maxHeartbeats 4000000
/-! K33c: enumerate and zip over lists and tuples in any mix, as things that a loop walks. -/
namespace K33
open PySem PySem.Spec PyProof.Rows L2

/-- a tuple (true) or a list (false) -/
def SqB (K : PySem.W.Frag) : Bool → Hp → Addr → List V → Prop
  | true, H, a, xs => SqT K H a xs
  | false, H, a, xs => SqL K H a xs
def ItAt : Bool → Heap → Addr → Addr → Nat → Prop
  | true, h, it, a, k => h.IsTupleIter it a k
  | false, h, it, a, k => h.IsListIter it a k
def SqAt : Bool → Heap → Addr → Array Value → Prop
  | true, h, a, its => h.IsTuple a its
  | false, h, a, its => h.IsList a its
def itObj : Bool → Addr → Obj
  | true, a => { cls := .type "tuple_iterator", data := .fields #[.ref a, .int 0 0] }
  | false, a => { cls := .type "list_iterator", data := .fields #[.ref a, .int 0 0] }
theorem begins_b (t : Bool) (a : Addr) (its : Array Value) : Begins (.ref a) (itObj t a) fun h => SqAt t h a its := by
  cases t
  · exact begins_list a its
  · exact begins_tuple a its
theorem draws_b (t : Bool) {prog : Program} {w : World} {A : Around} (hh : A.handled = none) (it a : Addr) (hne : a ≠ it) (its : Array Value) :
    Draws prog w A it [it, a] its.size (fun i v => its[i]? = some v) (fun i h => ItAt t h it a i ∧ SqAt t h a its) := by
  cases t
  · exact Draws.list hh it a hne its
  · exact Draws.tuple hh it a hne its
theorem ItAt.start {t : Bool} {h : Heap} {it a : Addr} (e : h.get? it = some (itObj t a)) : ItAt t h it a 0 := by
  cases t
  · exact ⟨_, e, rfl, rfl⟩
  · exact ⟨_, e, rfl, rfl⟩
theorem ItAt.obj {t : Bool} {h : Heap} {it a : Addr} {k : Nat} (x : ItAt t h it a k) : ∃ o, h.get? it = some o ∧ ∀ v, o.data ≠ .cell v := by
  cases t
  · obtain ⟨o, e, c, d⟩ := x
    exact ⟨o, e, fun v z => by rw [d] at z; cases z⟩
  · obtain ⟨o, e, c, d⟩ := x
    exact ⟨o, e, fun v z => by rw [d] at z; cases z⟩
theorem ItAt.keep {t : Bool} {h h' : Heap} {it a : Addr} {k : Nat} (x : ItAt t h it a k) (q : ∀ o, h.get? it = some o → h'.get? it = some o) : ItAt t h' it a k := by
  cases t
  · exact Heap.IsListIter.at x q
  · exact Heap.IsTupleIter.at x q
theorem itObj_free (t : Bool) (a : Addr) : (itObj t a).isFreed = false := by cases t <;> rfl
section
variable {X : Cx} {pins : List (Addr × Obj)} {σ : L2.St} {H : Hp} {s : Shared} {a : Addr} {xs ys : List V}
theorem seqB {t : Bool} (I : Inv X pins σ H s) (h : SqB X.K t H a xs) : ∃ its : List Value, Vals xs its ∧ SqAt t s.heap a its.toArray ∧ a < s.heap.objs.size := by
  cases t
  · obtain ⟨its, rv, p, _⟩ := I.list h
    exact ⟨its, rv, p.isList, p.lt⟩
  · obtain ⟨its, rv, p, _⟩ := I.tuple h
    exact ⟨its, rv, p, by obtain ⟨o, e, _⟩ := p; exact Heap.lt_size e⟩
theorem seqB_inj {t : Bool} (I : Inv X pins σ H s) (h : SqB X.K t H a xs) (h' : SqB X.K t H a ys) : xs = ys := by
  cases t
  · exact I.list_inj h h'
  · exact I.tuple_inj h h'
end

/-! ### zip -/
def Itz2 (K : PySem.W.Frag) (t1 t2 : Bool) (a b : Addr) : It :=
  ⟨fun i H => ∃ (xs ys : List V) (x y : V), SqB K t1 H a xs ∧ SqB K t2 H b ys ∧ xs[i]? = some x ∧ ys[i]? = some y,
    fun i H v H' => ∃ T x y, v = .ref T ∧ H T = none ∧ H' = upd H T (.tup [x, y]) ∧ (∀ xs, SqB K t1 H a xs → xs[i]? = some x) ∧ ∀ ys, SqB K t2 H b ys → ys[i]? = some y,
    fun i H => ∃ xs ys : List V, SqB K t1 H a xs ∧ SqB K t2 H b ys ∧ i = min xs.length ys.length⟩
theorem turn_zip2 {P : Program} {w : World} {K : PySem.W.Frag} {elts : List Expr} {kk : Nat} {tpos : Pos} {t1 t2 : Bool} {a b z TI TO i1 i2 : Addr} (ha : a ≠ i1) (hb : b ≠ i2) (D : ZipSep2 z TI TO i1 i2 [i1, a] [i2, b]) :
    Turn P w K (.Tuple elts kk tpos) (Itz2 K t1 t2 a b) [z, TI, TO, i1, i2] z (fun i h => IsZip h z TI TO .none ∧ IsTupOf2 h TI (.ref i1) (.ref i2) ∧ (∃ x y, IsTupOf2 h TO x y) ∧ ItAt t1 h i1 a i ∧ ItAt t2 h i2 b i) where
  mem := by simp
  obj := fun i h st c hc => by
    obtain ⟨hz, hTI, ⟨x, y, hTO⟩, h1, h2⟩ := st
    have e' : c = z ∨ c = TI ∨ c = TO ∨ c = i1 ∨ c = i2 := by simpa using hc
    rcases e' with q | q | q | q | q
    · rw [q]; exact ⟨_, hz, fun v q => nomatch q⟩
    · rw [q]; exact ⟨_, hTI, fun v q => nomatch q⟩
    · rw [q]; exact ⟨_, hTO, fun v q => nomatch q⟩
    · rw [q]; exact h1.obj
    · rw [q]; exact h2.obj
  keep := fun i h h' st k => by
    obtain ⟨hz, hTI, ⟨x, y, hTO⟩, h1, h2⟩ := st
    exact ⟨k z (by simp) _ hz, k TI (by simp) _ hTI, ⟨x, y, k TO (by simp) _ hTO⟩, h1.keep fun o q => k i1 (by simp) o q, h2.keep fun o q => k i2 (by simp) o q⟩
  item := by
    intro X hP hw hK hc i pins s σ H E I hf st hg
    subst hP hw hK
    obtain ⟨hz, hTI, hTO, h1, h2⟩ := st
    obtain ⟨xs, ys, x, y, hqx, hqy, hx, hy⟩ := hg
    obtain ⟨its, rv, p, la⟩ := seqB I hqx
    obtain ⟨its2, rv2, p2, lb⟩ := seqB I hqy
    obtain ⟨u, hu, ru⟩ := rv.get hx
    obtain ⟨u2, hu2, ru2⟩ := rv2.get hy
    have hh : X.A.in1.handled = none := I.ok.hd hc
    have G := GoesN.zip2 (prog := X.prog) (w := X.w) (A := X.A) (elts := elts) (x1 := kk) (pos := tpos) D (draws_b t1 hh i1 a ha its.toArray) (draws_b t2 hh i2 b hb its2.toArray)
    have hl1 : i < its.length := (List.getElem?_eq_some_iff.mp hu).1
    have hl2 : i < its2.length := (List.getElem?_eq_some_iff.mp hu2).1
    have lt : i < min its.toArray.size its2.toArray.size := by simp only [List.size_toArray]; omega
    refine G.goes i s _ E lt ⟨hz, hTI, hTO, ⟨h1, p⟩, ⟨h2, p2⟩⟩ fun v h' tk hY st' hk htk => ?_
    obtain ⟨T, u', u2', ev, hT, hu', hu2', hTt⟩ := hY
    have e1 : u' = u := by
      have z : its.toArray[i]? = some u' := hu'
      rw [List.getElem?_toArray, hu] at z
      exact (Option.some.inj z).symm
    have e2 : u2' = u2 := by
      have z : its2.toArray[i]? = some u2' := hu2'
      rw [List.getElem?_toArray, hu2] at z
      exact (Option.some.inj z).symm
    subst e1 e2 ev
    have new : ObjOk X.prog X.w (upd H T (.tup [x, y])) h' T (.tup [x, y]) := ⟨by show 2 ≤ sizeLine; decide, [u', u2'], .cons ru (.cons ru2 .nil), hTt⟩
    have I1 : Inv X pins σ (upd H T (.tup [x, y])) { s with heap := h', toks := tk } :=
      I.turnedNew (ch := [z, TI, TO, i1, i2]) (fun c o hb' q => hk c o (fun q' => hb' (by
        have e' : c = z ∨ c = TO ∨ c = i1 ∨ c = i2 := by simpa using q'
        rcases e' with q | q | q | q <;> simp [q])) q) hf hT new
    obtain ⟨z', TI', TO', ⟨h1', _⟩, ⟨h2', _⟩⟩ := st'
    refine ⟨.ref T, _, I1, rfl, ⟨T, x, y, rfl, I.hok.fresh hT, rfl, fun l hl => by rw [seqB_inj I hl hqx]; exact hx, fun l hl => by rw [seqB_inj I hl hqy]; exact hy⟩, ⟨z', TI', TO', h1', h2'⟩, fun c hcm => ?_⟩
    obtain ⟨o, ho, _⟩ : ∃ o, s.heap.get? c = some o ∧ ∀ v, o.data ≠ .cell v := by
      have e' : c = z ∨ c = TI ∨ c = TO ∨ c = i1 ∨ c = i2 := by simpa using hcm
      obtain ⟨x9, y9, hTO⟩ := hTO
      rcases e' with q | q | q | q | q
      · rw [q]; exact ⟨_, hz, fun v q => nomatch q⟩
      · rw [q]; exact ⟨_, hTI, fun v q => nomatch q⟩
      · rw [q]; exact ⟨_, hTO, fun v q => nomatch q⟩
      · rw [q]; exact h1.obj
      · rw [q]; exact h2.obj
    rw [upd_ne (Nat.ne_of_lt (Nat.lt_of_lt_of_le (Heap.lt_size ho) hT))]
    exact (hf c hcm).1
  done := by
    intro X hP hw hK hc i pins s σ H E I hf st hg
    subst hP hw hK
    obtain ⟨hz, hTI, hTO, h1, h2⟩ := st
    obtain ⟨xs, ys, hqx, hqy, hi⟩ := hg
    obtain ⟨its, rv, p, la⟩ := seqB I hqx
    obtain ⟨its2, rv2, p2, lb⟩ := seqB I hqy
    have hh : X.A.in1.handled = none := I.ok.hd hc
    have G := GoesN.zip2 (prog := X.prog) (w := X.w) (A := X.A) (elts := elts) (x1 := kk) (pos := tpos) D (draws_b t1 hh i1 a ha its.toArray) (draws_b t2 hh i2 b hb its2.toArray)
    have e : i = min its.toArray.size its2.toArray.size := by
      rw [hi, List.size_toArray, List.size_toArray, ← rv.length, ← rv2.length]
    refine G.stops s (fun s1 => Inv X pins σ H s1) E (by rw [← e]; exact ⟨hz, hTI, hTO, ⟨h1, p⟩, ⟨h2, p2⟩⟩) fun h' tk hk htk => ?_
    exact I.turnedL (ch := [z, TI, TO, i1, i2]) (fun c o hb' q => hk c o (fun q' => hb' (by
        have e' : c = z ∨ c = TO ∨ c = i1 ∨ c = i2 := by simpa using q'
        rcases e' with q | q | q | q <;> simp [q])) q) hf
  self := fun A i s Q E st h => wpAny_pyIter_zip st.1 h
def iZip2 (K : PySem.W.Frag) (t1 t2 : Bool) (ta : TA) : TI := fun σ H R => ta σ H fun vs H1 => ∃ a b xs ys, vs = [.ref a, .ref b] ∧ SqB K t1 H1 a xs ∧ SqB K t2 H1 b ys ∧ R (Itz2 K t1 t2 a b) H1
theorem sep2_new {N a b : Addr} (ha : a < N) (hb : b < N) : ZipSep2 (N + 4) (N + 2) (N + 3) N (N + 1) [N, a] [N + 1, b] := by
  have ne : ∀ i j : Nat, i ≠ j → N + i ≠ N + j := fun i j h e => h (Nat.add_left_cancel e)
  have an : ∀ i : Nat, a ≠ N + i := fun i e => absurd (show N + i < N from e ▸ ha) (by intro h; exact absurd (Nat.lt_of_le_of_lt (Nat.le_add_right N i) h) (Nat.lt_irrefl _))
  have bn : ∀ i : Nat, b ≠ N + i := fun i e => absurd (show N + i < N from e ▸ hb) (by intro h; exact absurd (Nat.lt_of_le_of_lt (Nat.le_add_right N i) h) (Nat.lt_irrefl _))
  refine ⟨ne 2 4 (by decide), ne 3 4 (by decide), ne 2 3 (by decide), ne 2 0 (by decide), List.mem_cons_self, ?_, ?_, ne 2 1 (by decide), List.mem_cons_self, ?_, ?_, ?_, ?_⟩
  · intro h
    rcases List.mem_cons.mp h with e | h
    · exact ne 4 0 (by decide) e
    · exact an 4 (List.mem_singleton.mp h).symm
  · intro h
    rcases List.mem_cons.mp h with e | h
    · exact ne 3 0 (by decide) e
    · exact an 3 (List.mem_singleton.mp h).symm
  · intro h
    rcases List.mem_cons.mp h with e | h
    · exact ne 4 1 (by decide) e
    · exact bn 4 (List.mem_singleton.mp h).symm
  · intro h
    rcases List.mem_cons.mp h with e | h
    · exact ne 3 1 (by decide) e
    · exact bn 3 (List.mem_singleton.mp h).symm
  · intro h
    rcases List.mem_cons.mp h with e | h
    · exact ne 0 1 (by decide) e
    · exact bn 0 (List.mem_singleton.mp h).symm
  · intro h
    rcases List.mem_cons.mp h with e | h
    · exact ne 1 0 (by decide) e
    · exact an 1 (List.mem_singleton.mp h).symm
theorem pi_zip2 {X : Cx} {t1 t2 : Bool} {e e2 : Expr} {ta : TA} {p pos tpos : Pos} {elts : List Expr} {kk : Nat} (hg : Gl X "zip") (hm : X.mg "zip" = none) (ha : PA X [e, e2] ta)
    (hs : starEach [e, e2] X.env = (false, eval e X.env) :: starEach [e2] X.env := by rfl) (hpl : (backTo pos (starEach [e2] X.env)).any (·.1) = false := by rfl) :
    PI X (.Tuple elts kk tpos) (.Call (.Name "zip" p) [e, e2] [] pos) (iZip2 X.K t1 t2 ta) := by
  refine ⟨fun pins s σ H R I h => ?_⟩
  refine Call_ (ld_blt I hg hm PyProof.Rows.boot_zip (PyProof.Rows.callWith_type1 (thn (ha.run pos pins s σ H _ I h) fun us s1 ⟨vs, H1, I1, r1, q1⟩ => ?_) hs hpl))
  obtain ⟨a, b, xs, ys, ex, hqx, hqy, q⟩ := q1
  subst ex
  cases r1 with
  | cons r rr =>
    cases rr with
    | cons r' rr =>
      cases rr
      cases r
      cases r'
      obtain ⟨its, rv, p1, la⟩ := seqB I1 hqx
      obtain ⟨its2, rv2, p2, lb⟩ := seqB I1 hqy
      refine zip_begins2 (begins_b t1 a its.toArray) (begins_b t2 b its2.toArray) p1 p2 fun h' hz hTI hTO h1 h2 hsz hk => wpAny_pyIter_zip hz ?_
      have I2 : Inv X pins σ H1 { s1 with heap := h' } := I1.kept (t' := s1.toks) hk
      have na : a ≠ s1.heap.objs.size := Nat.ne_of_lt la
      have nb : b ≠ s1.heap.objs.size + 1 := Nat.ne_of_lt (Nat.lt_succ_of_lt lb)
      refine ⟨s1.heap.objs.size + 4, [s1.heap.objs.size + 4, s1.heap.objs.size + 2, s1.heap.objs.size + 3, s1.heap.objs.size, s1.heap.objs.size + 1], _, _, H1, rfl, I2, turn_zip2 na nb (sep2_new la lb), ⟨hz, hTI, ⟨_, _, hTO⟩, .start h1, .start h2⟩, fun c hcm => ?_, q⟩
      have e' : c = s1.heap.objs.size + 4 ∨ c = s1.heap.objs.size + 2 ∨ c = s1.heap.objs.size + 3 ∨ c = s1.heap.objs.size ∨ c = s1.heap.objs.size + 1 := by simpa using hcm
      have hle : s1.heap.objs.size ≤ c := by
        rcases e' with z | z | z | z | z
        · rw [z]; exact Nat.le_add_right _ _
        · rw [z]; exact Nat.le_add_right _ _
        · rw [z]; exact Nat.le_add_right _ _
        · rw [z]; exact Nat.le_refl _
        · rw [z]; exact Nat.le_add_right _ _
      exact I1.fpOk hle (I1.hok.fresh hle)

/-! ### enumerate -/
section
set_option maxHeartbeats 4000000
theorem meets_enumerate_new1 {v : Value} {o : Obj} {H : Heap → Prop} (B : Begins v o H) :
    Meets (Builtin.«enumerate.__new__» ⟨[.type "enumerate", v], []⟩) (fun _ R s => H s.heap ∧
      R (.ok (.ret (.ref (s.heap.push o).objs.size))) { s with heap := (s.heap.push o).push { cls := .type "enumerate", data := .fields #[.none, .bool false, .ref s.heap.objs.size, rawInt 0, .none, .none] } }) :=
  .of_wp fun prog w A R s h => by
    obtain ⟨hp, g, d, tk, os⟩ := s; obtain ⟨h1, h⟩ := h
    have hsub := sub_enumerate
    have q1 : ∀ {A' : Around} {E : Value → Shared → Prop} {Q : Value → Shared → Prop}, Q (.ref hp.objs.size) ⟨hp.push o, g, d, tk, os⟩ → wpAny (model prog w) A' (pyIter v) Q E ⟨hp, g, d, tk, os⟩ :=
      fun q => B.iter prog w _ _ ⟨hp, g, d, tk, os⟩ _ h1 q
    wp_walk using q1
    refine wpAny_stack_any fun st => wpAny_pure ?_
    split
    · rename_i c _ _ _ _ _
      cases (c == Value.type "enumerate")
      · wp_walk using q1
        exact ⟨_, rfl, h⟩
      · wp_walk using q1
        exact ⟨_, rfl, h⟩
    · wp_walk using q1
      exact ⟨_, rfl, h⟩
end
theorem enum_begins1 {prog : Program} {w : World} {A : Around} {E : Value → Shared → Prop} {s : Shared} {v : Value} {o : Obj} {H : Heap → Prop} {Q : Value → Shared → Prop} (B : Begins v o H) (h1 : H s.heap)
    (h : ∀ h', IsEnum h' (s.heap.objs.size + 1) s.heap.objs.size 0 .none → h'.get? s.heap.objs.size = some o → h'.objs.size = s.heap.objs.size + 2 →
      (∀ b o, s.heap.get? b = some o → h'.get? b = some o) → Q (.ref (s.heap.objs.size + 1)) { s with heap := h' }) :
    wpAny (model prog w) A (call (.type "enumerate") [v]) Q E s := by
  refine callType_new F.called_enumerate (by decide) (F.typeCall_enumerate_1 _) (F.newCall_enumerate_1 _) (fun obj => F.args_object_init_2 obj _) F.entry_enumerate_new
    (meets_enumerate_new1 B) ⟨h1, ?_⟩
  have hz : (s.heap.push o).objs.size = s.heap.objs.size + 1 := Heap.size_push ..
  show _ ∧ _
  rw [hz]
  have he : IsEnum ((s.heap.push o).push { cls := .type "enumerate", data := .fields #[.none, .bool false, .ref s.heap.objs.size, rawInt 0, .none, .none] }) (s.heap.objs.size + 1) s.heap.objs.size 0 .none := by
    have := Heap.get?_push_size (s.heap.push o) (o := { cls := .type "enumerate", data := .fields #[.none, .bool false, .ref s.heap.objs.size, rawInt 0, .none, .none] }) rfl
    rw [hz] at this; exact this
  refine ⟨⟨_, he, rfl⟩, h _ he (Heap.get?_push_of_some _ (Heap.get?_push_size _ B.free)) (by rw [Heap.size_push, hz]) fun b o x => Heap.get?_push_of_some _ (Heap.get?_push_of_some _ x)⟩
def Ite2 (K : PySem.W.Frag) (t : Bool) (a : Addr) : It :=
  ⟨fun i H => ∃ (xs : List V) (x : V), SqB K t H a xs ∧ xs[i]? = some x,
    fun i H v H' => ∃ T x, v = .ref T ∧ H T = none ∧ H' = upd H T (.tup [.int (i : Nat), x]) ∧ ∀ xs, SqB K t H a xs → xs[i]? = some x,
    fun i H => ∃ xs : List V, SqB K t H a xs ∧ i = xs.length⟩
theorem turn_enum2 {P : Program} {w : World} {K : PySem.W.Frag} {elts : List Expr} {kk : Nat} {tpos : Pos} {t : Bool} {a e it : Addr} (ha : a ≠ it) (hei : e ≠ it) (hea : e ≠ a) :
    Turn P w K (.Tuple elts kk tpos) (Ite2 K t a) [e, it] e (fun i h => (∃ old, IsEnum h e it (0 + (i : Int)) old) ∧ ItAt t h it a i) where
  mem := by simp
  obj := fun i h st c hc => by
    obtain ⟨⟨old, he⟩, h1⟩ := st
    have e' : c = e ∨ c = it := by simpa using hc
    rcases e' with q | q
    · rw [q]; exact ⟨_, he, fun v q => nomatch q⟩
    · rw [q]; exact h1.obj
  keep := fun i h h' st k => by
    obtain ⟨⟨old, he⟩, h1⟩ := st
    exact ⟨⟨old, k e (by simp) _ he⟩, h1.keep fun o q => k it (by simp) o q⟩
  item := by
    intro X hP hw hK hc i pins s σ H E I hf st hg
    subst hP hw hK
    obtain ⟨he, h1⟩ := st
    obtain ⟨xs, x, hqx, hx⟩ := hg
    obtain ⟨its, rv, p, la⟩ := seqB I hqx
    obtain ⟨u, hu, ru⟩ := rv.get hx
    have hh : X.A.in1.handled = none := I.ok.hd hc
    have G := GoesN.enumFrom (prog := X.prog) (w := X.w) (A := X.A) (elts := elts) (x1 := kk) (pos := tpos) 0 (draws_b t hh it a ha its.toArray) e hei (by simp [hei, hea]) (by simp)
    have hl1 : i < its.length := (List.getElem?_eq_some_iff.mp hu).1
    refine G.goes i s _ E (by simpa using hl1) ⟨he, ⟨h1, p⟩⟩ fun v h' tk hY st' hk htk => ?_
    obtain ⟨T, tt, u', ev, hT, hu', hTt⟩ := hY
    have e1 : u' = u := by
      have z : its.toArray[i]? = some u' := hu'
      rw [List.getElem?_toArray, hu] at z
      exact (Option.some.inj z).symm
    subst e1 ev
    have z0 : (0 : Int) + (i : Int) = ((i : Nat) : Int) := Int.zero_add _
    rw [z0] at hTt
    have new : ObjOk X.prog X.w (upd H T (.tup [.int (i : Nat), x])) h' T (.tup [.int (i : Nat), x]) := ⟨by show 2 ≤ sizeLine; decide, [.int i tt, u'], .cons ⟨_, rfl⟩ (.cons ru .nil), hTt⟩
    have I1 : Inv X pins σ (upd H T (.tup [.int (i : Nat), x])) { s with heap := h', toks := tk } := I.turnedNew (ch := [e, it]) hk hf hT new
    obtain ⟨he', ⟨h1', _⟩⟩ := st'
    refine ⟨.ref T, _, I1, rfl, ⟨T, x, rfl, I.hok.fresh hT, rfl, fun l hl => by rw [seqB_inj I hl hqx]; exact hx⟩, ⟨he', h1'⟩, fun c hcm => ?_⟩
    obtain ⟨o, ho, _⟩ : ∃ o, s.heap.get? c = some o ∧ ∀ v, o.data ≠ .cell v := by
      have e' : c = e ∨ c = it := by simpa using hcm
      obtain ⟨old, he⟩ := he
      rcases e' with q | q
      · rw [q]; exact ⟨_, he, fun v q => nomatch q⟩
      · rw [q]; exact h1.obj
    rw [upd_ne (Nat.ne_of_lt (Nat.lt_of_lt_of_le (Heap.lt_size ho) hT))]
    exact (hf c hcm).1
  done := by
    intro X hP hw hK hc i pins s σ H E I hf st hg
    subst hP hw hK
    obtain ⟨he, h1⟩ := st
    obtain ⟨xs, hqx, hi⟩ := hg
    obtain ⟨its, rv, p, la⟩ := seqB I hqx
    have hh : X.A.in1.handled = none := I.ok.hd hc
    have G := GoesN.enumFrom (prog := X.prog) (w := X.w) (A := X.A) (elts := elts) (x1 := kk) (pos := tpos) 0 (draws_b t hh it a ha its.toArray) e hei (by simp [hei, hea]) (by simp)
    have e' : i = its.toArray.size := by rw [hi, List.size_toArray, ← rv.length]
    refine G.stops s (fun s1 => Inv X pins σ H s1) E (by rw [← e']; exact ⟨he, ⟨h1, p⟩⟩) fun h' tk hk htk => ?_
    exact I.turnedL (ch := [e, it]) hk hf
  self := fun A i s Q E st h => let ⟨⟨_, he⟩, _⟩ := st; wpAny_pyIter_enum he h
def iEnum2 (K : PySem.W.Frag) (t : Bool) (ta : TA) : TI := fun σ H R => ta σ H fun vs H1 => ∃ a xs, vs = [.ref a] ∧ SqB K t H1 a xs ∧ R (Ite2 K t a) H1
theorem pi_enum2 {X : Cx} {t : Bool} {e : Expr} {ta : TA} {p pos tpos : Pos} {elts : List Expr} {kk : Nat} (hg : Gl X "enumerate") (hm : X.mg "enumerate" = none) (ha : PA X [e] ta) (hs : starEach [e] X.env = [(false, eval e X.env)] := by rfl) :
    PI X (.Tuple elts kk tpos) (.Call (.Name "enumerate" p) [e] [] pos) (iEnum2 X.K t ta) := by
  refine ⟨fun pins s σ H R I h => ?_⟩
  refine Call_ (ld_blt I hg hm boot_enumerate (PyProof.Rows.callWith_type1 (thn (ha.run pos pins s σ H _ I h) fun us s1 ⟨vs, H1, I1, r1, q1⟩ => ?_) hs rfl))
  obtain ⟨a, xs, ex, hqx, q⟩ := q1
  subst ex
  cases r1 with
  | cons r rr =>
    cases rr
    cases r
    obtain ⟨its, rv, p', la⟩ := seqB I1 hqx
    refine enum_begins1 (begins_b t a its.toArray) p' fun h' he hit hsz hk => wpAny_pyIter_enum he ?_
    have I2 : Inv X pins σ H1 { s1 with heap := h' } := I1.kept (t' := s1.toks) hk
    refine ⟨s1.heap.objs.size + 1, [s1.heap.objs.size + 1, s1.heap.objs.size], _, _, H1, rfl, I2, turn_enum2 (Nat.ne_of_lt la) (Nat.succ_ne_self _) (Nat.ne_of_gt (Nat.lt_succ_of_lt la)), ⟨⟨.none, he⟩, .start hit⟩, fun b hb => ?_, q⟩
    have e' : b = s1.heap.objs.size + 1 ∨ b = s1.heap.objs.size := by simpa using hb
    have hle : s1.heap.objs.size ≤ b := by
      rcases e' with z | z
      · rw [z]; exact Nat.le_add_right _ _
      · rw [z]; exact Nat.le_refl _
    exact I1.fpOk hle (I1.hok.fresh hle)
end K33

set_option maxHeartbeats 4000000
/-! K33d: frozen parts, sources of loops, list comprehensions. -/
namespace K33
open PySem PySem.Spec PyProof.Rows L2

/-! ### a frozen part F of the heap -/
structure Fz (c : Ct) (F H : Hp) (σ : L2.St) (env : Ev') : Prop where
  sub : Same F H
  rd : Rd c H σ env
  fr : ∀ (i : Nat) x, env[i]? = some (.fr x) → ∃ v, σ[i]? = some (some v) ∧ RV c F v x
def NoOwn (F H F' : Hp) : Prop := ∀ a o, F a = none → H a = some o → isTupO o = false → F' a = none
theorem NoOwn.refl {F H : Hp} : NoOwn F H F := fun _ _ e _ _ => e
theorem NoOwn.trans {F H F1 H1 F2 : Hp} (s : Same H H1) (a : NoOwn F H F1) (b : NoOwn F1 H1 F2) : NoOwn F H F2 := fun p o e h t => b p o (a p o e h t) (s _ _ h) t
section
variable {c : Ct} {X : Cx} {F F' H H' : Hp} {σ : L2.St} {env : Ev'} {e : Expr} {x : SV} {pos : Pos}
theorem Fz.step (h : Fz c F H σ env) (s : Same H H') (f : Same F F') (g : Same F' H') : Fz c F' H' σ env :=
  ⟨g, h.rd.mono s, fun i x e => let ⟨v, a, b⟩ := h.fr i x e; ⟨v, a, b.mono f⟩⟩
theorem Fz.all (h : Rd c H σ env) : Fz c H H σ (env.map Sl.toFr) := by
  refine ⟨Same.refl H, ⟨by rw [List.length_map]; exact h.len, fun i s x a b => ?_⟩, fun i x a => ?_⟩
  · rw [List.getElem?_map] at a
    cases q : env[i]? with
    | none => rw [q] at a; cases a
    | some s' =>
      rw [q] at a
      cases a
      refine h.at_ i s' x q ?_
      cases s' <;> exact b
  · rw [List.getElem?_map] at a
    cases q : env[i]? with
    | none => rw [q] at a; cases a
    | some s' =>
      rw [q] at a
      refine h.at_ i s' x q ?_
      cases s' with
      | no => cases a
      | fr y => cases a; rfl
      | ow y => cases a; rfl
/-- the value lies in a later frozen part -/
def EF (c : Ct) (X : Cx) (env : Ev') (e : Expr) (x : SV) : Prop := ∀ σ H F, Fz c F H σ env → ∀ Q : VK, (∀ v H' F', Same H H' → Same F F' → Same F' H' → NoOwn F H F' → RV c F' v x → Q v H') → WE X e σ H Q
theorem union_new {F H H' G : Hp} (f : Same F H) (s : Same H H') (n : NewPart H H' G) : ∃ F', Same F F' ∧ Same G F' ∧ Same F' H' ∧ NoOwn F H F' := by
  refine ⟨fun a => match F a with | some o => some o | none => G a, fun a o e => by simp only [e], fun a o e => ?_, fun a o e => ?_, fun a o e h t => ?_⟩
  · cases q : F a with
    | some u =>
      simp only [q]
      have e1 := s _ _ (f a u q)
      have e2 := n.sub a o e
      rw [e1] at e2
      exact e2
    | none => simp only [q]; exact e
  · cases q : F a with
    | some u => simp only [q] at e; cases e; exact s _ _ (f a _ q)
    | none => simp only [q] at e; exact n.sub a o e
  · simp only [e]
    cases q : G a with
    | none => rfl
    | some u =>
      rcases n.new a u q with z | z
      · rw [z] at h; cases h
      · have e1 := s _ _ h
        have e2 := n.sub a u q
        rw [e1] at e2
        cases e2
        rw [z] at t; cases t
theorem EF.is {x y : SV} (h : EF c X env e x) (q : x = y) : EF c X env e y := q ▸ h
theorem EN.ef (h : EN c X env e x) : EF c X env e x := fun σ H F fz Q q => h σ H fz.rd Q fun v H' s r => by
  obtain ⟨G, n, r⟩ := r
  obtain ⟨F', f1, f2, f3, f4⟩ := union_new fz.sub s n
  exact q v H' F' s f1 f3 f4 (r.mono f2)
theorem ef_name (i : Nat) {nm : Str} (he : env[i]? = some (.fr x) := by rfl) (hN : X.N[i]? = some nm := by rfl)
    (hv : Vis X.env.scope nm := by first | exact Or.inl rfl | exact Or.inr (Or.inl rfl) | exact Or.inr (Or.inr rfl)) (hd : (nm == ("__debug__" : Str)) = false := by decide)
    (hcd : (nm == ("__classdict__" : Str)) = false := by decide) : EF c X env (.Name nm pos) x := fun σ H F fz Q q => by
  obtain ⟨v, h1, h2⟩ := fz.fr i x he
  exact WE.of (pe_var (i := i) hN hv hd hcd) ⟨v, h1, q v H F (Same.refl H) (Same.refl F) fz.sub NoOwn.refl h2⟩
end

/-! ### sources -/
def setV (σ : L2.St) : List Nat → List V → L2.St
  | j :: js, v :: vs => setV (σ.set j (some v)) js vs
  | _, _ => σ
def setE (env : Ev') : List Nat → List PyData → Ev'
  | j :: js, d :: ds => setE (env.set j (.fr (.d d))) js ds
  | _, _ => env
theorem Rd.setV {c : Ct} {H : Hp} : ∀ {js : List Nat} {vs : List V} {ds : List PyData} {σ : L2.St} {env : Ev'}, Rd c H σ env → DqAll c.K H vs ds → Rd c H (setV σ js vs) (setE env js ds)
  | [], _, _, _, _, r, h => by cases h <;> exact r
  | j :: js, _, _, _, _, r, .nil => r
  | j :: js, _, _, _, _, r, .cons h1 h2 => (Rd.set (x := .d _) j rfl r h1).setV h2
structure Feeds {β : Type} (c : Ct) (J : It) (g : TG) (js : List Nat) (zs : List β) (enc : β → List PyData) (F : Hp) : Prop where
  go : ∀ (i : Nat) (z : β) (H : Hp), zs[i]? = some z → Same F H → J.go i H
  stop : ∀ H, Same F H → J.stop zs.length H
  yld : ∀ (i : Nat) (z : β) (H : Hp) (x : V) (H' : Hp), zs[i]? = some z → Same F H → J.yld i H x H' → ∀ (σ : L2.St) (QQ : L2.St → Hp → Prop),
    (∀ vs, DqAll c.K F vs (enc z) → vs.length = js.length → QQ (setV σ js vs) H') → g x σ H' QQ
  grow : ∀ (i : Nat) (z : β) (H : Hp) (x : V) (H' : Hp), zs[i]? = some z → Same F H → J.yld i H x H' → Same H H'
def Src {β : Type} (c : Ct) (X : Cx) (env : Ev') (tg iter : Expr) (g : TG) (js : List Nat) (zs : List β) (enc : β → List PyData) : Prop :=
  ∃ wi : TI, PI X tg iter wi ∧ ∀ σ H F, Fz c F H σ env → ∀ R : It → Hp → Prop, (∀ J H1 F1, Same H H1 → Same F F1 → Same F1 H1 → NoOwn F H F1 → Feeds c J g js zs enc F1 → R J H1) → wi σ H R
section
variable {c : Ct} {X : Cx} {env : Ev'} {tg iter : Expr} {α β : Type}
theorem DqAll.get {K : PySem.W.Frag} {H : Hp} : ∀ {vs : List V} {ds : List PyData} {i : Nat} {d : PyData}, DqAll K H vs ds → ds[i]? = some d → ∃ v, vs[i]? = some v ∧ Dq K H v d
  | _, _, _, _, .nil, e => by simp at e
  | _, _, 0, _, .cons h _, e => by
    cases (show some _ = some _ from e)
    exact ⟨_, rfl, h⟩
  | _, _, i + 1, _, .cons _ t, e => by
    obtain ⟨v, h1, h2⟩ := DqAll.get (i := i) t (by simpa using e)
    exact ⟨v, by simpa using h1, h2⟩
theorem map_get {xs : List α} {f : α → PyData} {i : Nat} {x : α} (e : xs[i]? = some x) : (xs.map f)[i]? = some (f x) := by rw [List.getElem?_map, e]; rfl
/-- a list -/
theorem src_list (j : Nat) (xs : List α) (f : α → PyData) (h : EF c X env iter (.d (.list (xs.map f)))) (hK : X.K = c.K := by rfl) : Src c X env tg iter (gName j) [j] xs (fun x => [f x]) := by
  refine ⟨iList X.K (WE X iter), pi_list pe_w, fun σ H F fz R k => h σ H F fz _ fun v H' F' s1 s2 s3 s4 r => ?_⟩
  cases (show Dq c.K F' v (.list (xs.map f)) from r) with
  | @lst a vs _ ha hd =>
    refine ⟨a, rfl, ⟨vs, SqL.of (s3 _ _ ha)⟩, k (Itl X.K a) H' F' s1 s2 s3 s4 ⟨fun i z H2 hz s => ?_, fun H2 s => ?_, fun i z H2 x H3 hz s y σ2 QQ q => ?_, fun i z H2 x H3 hz s y => ?_⟩⟩
    · obtain ⟨v, hv, _⟩ := hd.get (map_get hz)
      exact ⟨vs, v, SqL.of (s _ _ ha), hv⟩
    · refine ⟨vs, SqL.of (s _ _ ha), ?_⟩
      rw [hd.len, List.length_map]
      exact Nat.le_refl _
    · obtain ⟨e, y⟩ := y
      subst e
      obtain ⟨v, hv, dv⟩ := hd.get (map_get hz)
      have e2 := y vs (SqL.of (s _ _ ha))
      rw [hv] at e2
      cases e2
      exact q [x] (.cons dv .nil) rfl
    · obtain ⟨e, y⟩ := y
      subst e
      exact Same.refl _
/-- a tuple -/
theorem src_tup (j : Nat) (xs : List α) (f : α → PyData) (h : EF c X env iter (.d (.tuple (xs.map f)))) (hK : X.K = c.K := by rfl) : Src c X env tg iter (gName j) [j] xs (fun x => [f x]) := by
  refine ⟨iTup X.K (WE X iter), pi_tup pe_w, fun σ H F fz R k => h σ H F fz _ fun v H' F' s1 s2 s3 s4 r => ?_⟩
  cases (show Dq c.K F' v (.tuple (xs.map f)) from r) with
  | @tup a vs _ ha0 hd =>
    have ha : SqT X.K F' a vs := SqT.of ha0
    refine ⟨a, rfl, ⟨vs, same_t s3 ha⟩, k (Itt X.K a) H' F' s1 s2 s3 s4 ⟨fun i z H2 hz s => ?_, fun H2 s => ?_, fun i z H2 x H3 hz s y σ2 QQ q => ?_, fun i z H2 x H3 hz s y => ?_⟩⟩
    · obtain ⟨v, hv, _⟩ := hd.get (map_get hz)
      exact ⟨vs, v, same_t s ha, hv⟩
    · refine ⟨vs, same_t s ha, ?_⟩
      rw [hd.len, List.length_map]
      exact Nat.le_refl _
    · obtain ⟨e, y⟩ := y
      subst e
      obtain ⟨v, hv, dv⟩ := hd.get (map_get hz)
      have e2 := y vs (same_t s ha)
      rw [hv] at e2
      cases e2
      exact q [x] (.cons dv .nil) rfl
    · obtain ⟨e, y⟩ := y
      subst e
      exact Same.refl _
theorem range_get {n i z : Nat} (h : (List.range n)[i]? = some z) : z = i ∧ i < n := by
  obtain ⟨h1, h2⟩ := List.getElem?_eq_some_iff.mp h
  rw [List.getElem_range] at h2
  rw [List.length_range] at h1
  exact ⟨h2.symm, h1⟩
/-- range(n) -/
theorem src_rng1 {a : Expr} {p pos : Pos} (j : Nat) (k : Int) (hm : X.mg "range" = none) (h : EE c X env a (.d (.int k))) (hb : -(2 ^ 62) ≤ k ∧ k < 2 ^ 62) (hg : Gl X "range" := by rfl)
    (hs : starEach [a] X.env = [(false, eval a X.env)] := by rfl) : Src c X env tg (.Call (.Name "range" p) [a] [] pos) (gName j) [j] (List.range k.toNat) (fun i : Nat => [.int i]) := by
  refine ⟨_, pi_range1 hg hm (pa_cons pe_w pa_nil hs) hs, fun σ H F fz R kk => h σ H fz.rd _ fun v H' s1 r => ?_⟩
  cases (show Dq c.K H' v (.int k) from r)
  refine ⟨k, rfl, hb.1, hb.2, kk _ H' F s1 (Same.refl F) (fz.sub.trans s1) NoOwn.refl ⟨fun i z H2 hz s => (range_get hz).2, fun H2 s => ?_, fun i z H2 x H3 hz s y σ2 QQ q => ?_, fun i z H2 x H3 hz s y => ?_⟩⟩
  · show k.toNat ≤ (List.range k.toNat).length
    rw [List.length_range]
    exact Nat.le_refl _
  · obtain ⟨e, y⟩ := y
    subst e y
    obtain ⟨rfl, _⟩ := range_get hz
    rw [Int.zero_add]
    exact q [.int _] (.cons (.int _) .nil) rfl
  · obtain ⟨e, y⟩ := y
    subst e
    exact Same.refl _
/-- range(lo, hi) -/
theorem src_rng2 {a b : Expr} {p pos : Pos} (j : Nat) (lo k : Int) (hm : X.mg "range" = none) (h : EE c X env a (.d (.int lo))) (h2 : EE c X env b (.d (.int k))) (hb : -(2 ^ 62) ≤ lo ∧ lo < 2 ^ 62 ∧ -(2 ^ 62) ≤ k ∧ k < 2 ^ 62) (hg : Gl X "range" := by rfl)
    (hs : starEach [a, b] X.env = [(false, eval a X.env), (false, eval b X.env)] := by rfl) (hs2 : starEach [b] X.env = [(false, eval b X.env)] := by rfl) :
    Src c X env tg (.Call (.Name "range" p) [a, b] [] pos) (gName j) [j] (List.range (k - lo).toNat) (fun i : Nat => [.int (lo + i)]) := by
  refine ⟨_, pi_range2 hg hm (pa_cons pe_w (pa_cons pe_w pa_nil hs2) (by rw [hs, hs2])) hs hs2, fun σ H F fz R kk => h σ H fz.rd _ fun v H1 s0 r0 => h2 σ H1 (fz.rd.mono s0) _ fun w H' s1 r => ?_⟩
  cases (show Dq c.K H1 v (.int lo) from r0)
  cases (show Dq c.K H' w (.int k) from r)
  refine ⟨lo, k, rfl, hb, kk _ H' F (s0.trans s1) (Same.refl F) (fz.sub.trans (s0.trans s1)) NoOwn.refl ⟨fun i z H2 hz s => (range_get hz).2, fun H2 s => ?_, fun i z H2 x H3 hz s y σ2 QQ q => ?_, fun i z H2 x H3 hz s y => ?_⟩⟩
  · show (k - lo).toNat ≤ (List.range (k - lo).toNat).length
    rw [List.length_range]
    exact Nat.le_refl _
  · obtain ⟨e, y⟩ := y
    subst e y
    obtain ⟨rfl, _⟩ := range_get hz
    exact q [.int _] (.cons (.int _) .nil) rfl
  · obtain ⟨e, y⟩ := y
    subst e
    exact Same.refl _
abbrev g2 (K : PySem.W.Frag) (i j : Nat) : TG := gTup K 2 (gCons (gName i) (gCons (gName j) gNil))
theorem g2_of {K : PySem.W.Frag} {i j : Nat} {a : Addr} {x y : V} {H : Hp} {σ : L2.St} {QQ : L2.St → Hp → Prop} (h : SqT K H a [x, y]) (q : QQ (setV σ [i, j] [x, y]) H) : g2 K i j (.ref a) σ H QQ :=
  ⟨a, [x, y], rfl, h, rfl, x, [y], rfl, y, [], rfl, rfl, q⟩
/-- a list of pairs -/
theorem src_pairs (i j : Nat) (xs : List α) (f f' : α → PyData) (h : EF c X env iter (.d (.list (xs.map fun x => .tuple [f x, f' x])))) (hK : X.K = c.K := by rfl) : Src c X env tg iter (g2 X.K i j) [i, j] xs (fun x => [f x, f' x]) := by
  refine ⟨iList X.K (WE X iter), pi_list pe_w, fun σ H F fz R k => h σ H F fz _ fun v H' F' s1 s2 s3 s4 r => ?_⟩
  cases (show Dq c.K F' v (.list (xs.map fun x => .tuple [f x, f' x])) from r) with
  | @lst a vs _ ha hd =>
    refine ⟨a, rfl, ⟨vs, SqL.of (s3 _ _ ha)⟩, k (Itl X.K a) H' F' s1 s2 s3 s4 ⟨fun i z H2 hz s => ?_, fun H2 s => ?_, fun i z H2 x H3 hz s y σ2 QQ q => ?_, fun i z H2 x H3 hz s y => ?_⟩⟩
    · obtain ⟨v, hv, _⟩ := hd.get (map_get hz)
      exact ⟨vs, v, SqL.of (s _ _ ha), hv⟩
    · refine ⟨vs, SqL.of (s _ _ ha), ?_⟩
      rw [hd.len, List.length_map]
      exact Nat.le_refl _
    · obtain ⟨e, y⟩ := y
      subst e
      obtain ⟨v, hv, dv⟩ := hd.get (map_get hz)
      have e2 := y vs (SqL.of (s _ _ ha))
      rw [hv] at e2
      cases e2
      cases dv with
      | tup ht hd2 =>
        cases hd2 with
        | cons d1 t1 =>
          cases t1 with
          | cons d2 t2 =>
            cases t2
            exact g2_of (same_t s (SqT.of ht)) (q _ (.cons d1 (.cons d2 .nil)) rfl)
    · obtain ⟨e, y⟩ := y
      subst e
      exact Same.refl _
/-- a tuple of pairs -/
theorem src_pairsT (i j : Nat) (xs : List α) (f f' : α → PyData) (h : EF c X env iter (.d (.tuple (xs.map fun x => .tuple [f x, f' x])))) (hK : X.K = c.K := by rfl) : Src c X env tg iter (g2 X.K i j) [i, j] xs (fun x => [f x, f' x]) := by
  refine ⟨iTup X.K (WE X iter), pi_tup pe_w, fun σ H F fz R k => h σ H F fz _ fun v H' F' s1 s2 s3 s4 r => ?_⟩
  cases (show Dq c.K F' v (.tuple (xs.map fun x => .tuple [f x, f' x])) from r) with
  | @tup a vs _ ha0 hd =>
    have ha : SqT X.K F' a vs := SqT.of ha0
    refine ⟨a, rfl, ⟨vs, same_t s3 ha⟩, k (Itt X.K a) H' F' s1 s2 s3 s4 ⟨fun i z H2 hz s => ?_, fun H2 s => ?_, fun i z H2 x H3 hz s y σ2 QQ q => ?_, fun i z H2 x H3 hz s y => ?_⟩⟩
    · obtain ⟨v, hv, _⟩ := hd.get (map_get hz)
      exact ⟨vs, v, same_t s ha, hv⟩
    · refine ⟨vs, same_t s ha, ?_⟩
      rw [hd.len, List.length_map]
      exact Nat.le_refl _
    · obtain ⟨e, y⟩ := y
      subst e
      obtain ⟨v, hv, dv⟩ := hd.get (map_get hz)
      have e2 := y vs (same_t s ha)
      rw [hv] at e2
      cases e2
      cases dv with
      | tup ht hd2 =>
        cases hd2 with
        | cons d1 t1 =>
          cases t1 with
          | cons d2 t2 =>
            cases t2
            exact g2_of (same_t s (SqT.of ht)) (q _ (.cons d1 (.cons d2 .nil)) rfl)
    · obtain ⟨e, y⟩ := y
      subst e
      exact Same.refl _
/-- a list or a tuple of the data ds -/
def sqD : Bool → List PyData → PyData
  | true, ds => .tuple ds
  | false, ds => .list ds
theorem sqD_of {t : Bool} {F : Hp} {v : V} {ds : List PyData} (h : Dq c.K F v (sqD t ds)) : ∃ a vs, v = .ref a ∧ SqB c.K t F a vs ∧ DqAll c.K F vs ds := by
  cases t
  · cases (show Dq c.K F v (.list ds) from h) with
    | lst ha hd => exact ⟨_, _, rfl, SqL.of ha, hd⟩
  · cases (show Dq c.K F v (.tuple ds) from h) with
    | tup ha hd => exact ⟨_, _, rfl, SqT.of ha, hd⟩
theorem SqB.mono {K : PySem.W.Frag} {t : Bool} {H H' : Hp} {a : Addr} {xs : List V} (e : Same H H') (h : SqB K t H a xs) : SqB K t H' a xs := by
  cases t
  · exact e.seq h
  · exact same_t e h
theorem zip_get {xs : List α} {ys : List β} {i : Nat} {z : α × β} (h : (xs.zip ys)[i]? = some z) : xs[i]? = some z.1 ∧ ys[i]? = some z.2 := List.getElem?_zip_eq_some.mp h
/-- zip(a, b) -/
theorem src_zip {a b : Expr} {p pos tpos : Pos} {elts : List Expr} {kk : Nat} (i j : Nat) (t1 t2 : Bool) (xs : List α) (ys : List β) (f : α → PyData) (f' : β → PyData) (hm : X.mg "zip" = none)
    (h1 : EF c X env a (.d (sqD t1 (xs.map f)))) (h2 : EF c X env b (.d (sqD t2 (ys.map f')))) (hK : X.K = c.K := by rfl) (hg : Gl X "zip" := by rfl)
    (hs : starEach [a, b] X.env = (false, eval a X.env) :: starEach [b] X.env := by rfl) (hs2 : starEach [b] X.env = [(false, eval b X.env)] := by rfl) (hpl : (backTo pos (starEach [b] X.env)).any (·.1) = false := by rfl) :
    Src c X env (.Tuple elts kk tpos) (.Call (.Name "zip" p) [a, b] [] pos) (g2 X.K i j) [i, j] (xs.zip ys) (fun z => [f z.1, f' z.2]) := by
  refine ⟨_, pi_zip2 (t1 := t1) (t2 := t2) hg hm (pa_cons pe_w (pa_cons pe_w pa_nil hs2) hs) hs hpl, fun σ H F fz R kk => h1 σ H F fz _ fun v H1 F1 s1 s2 s3 s4 r1 => ?_⟩
  refine h2 σ H1 F1 (fz.step s1 s2 s3) _ fun w H2 F2 u1 u2 u3 u4 r2 => ?_
  obtain ⟨p1, vs, e1, q1, d1⟩ := sqD_of r1
  obtain ⟨p2, ws, e2, q2, d2⟩ := sqD_of r2
  subst e1 e2
  rw [← hK] at q1 q2
  have q1 := q1.mono u2
  refine ⟨p1, p2, vs, ws, rfl, q1.mono u3, q2.mono u3, kk _ H2 F2 (s1.trans u1) (s2.trans u2) u3 (NoOwn.trans s1 s4 u4) ⟨fun i z H3 hz s => ?_, fun H3 s => ?_, fun i z H3 x H4 hz s y σ2 QQ q => ?_, fun i z H3 x H4 hz s y => ?_⟩⟩
  · obtain ⟨z1, z2⟩ := zip_get hz
    obtain ⟨v, hv, _⟩ := d1.get (map_get z1)
    obtain ⟨w, hw, _⟩ := d2.get (map_get z2)
    exact ⟨vs, ws, v, w, q1.mono s, q2.mono s, hv, hw⟩
  · refine ⟨vs, ws, q1.mono s, q2.mono s, ?_⟩
    rw [List.length_zip, d1.len, d2.len, List.length_map, List.length_map]
  · obtain ⟨T, x1, x2, ex, hT, eH, y1, y2⟩ := y
    subst ex eH
    obtain ⟨z1, z2⟩ := zip_get hz
    obtain ⟨v, hv, dv⟩ := d1.get (map_get z1)
    obtain ⟨w, hw, dw⟩ := d2.get (map_get z2)
    have e1 := y1 vs (q1.mono s)
    rw [hv] at e1
    cases e1
    have e2 := y2 ws (q2.mono s)
    rw [hw] at e2
    cases e2
    have up : Same H3 (upd H3 T (.tup [x1, x2])) := same_upd hT
    exact g2_of (SqT.of upd_same) (q _ (.cons (Dq.mono u2 _ _ dv) (.cons dw .nil)) rfl)
  · obtain ⟨T, x1, x2, ex, hT, eH, _, _⟩ := y
    subst eH
    exact same_upd hT
/-- enumerate(a) -/
theorem src_enum {a : Expr} {p pos tpos : Pos} {elts : List Expr} {kk : Nat} (i j : Nat) (t : Bool) (xs : List α) (f : α → PyData) (hm : X.mg "enumerate" = none)
    (h1 : EF c X env a (.d (sqD t (xs.map f)))) (hK : X.K = c.K := by rfl) (hg : Gl X "enumerate" := by rfl) (hs : starEach [a] X.env = [(false, eval a X.env)] := by rfl) :
    Src c X env (.Tuple elts kk tpos) (.Call (.Name "enumerate" p) [a] [] pos) (g2 X.K i j) [i, j] ((List.range xs.length).zip xs) (fun z => [.int (z.1 : Nat), f z.2]) := by
  refine ⟨_, pi_enum2 (t := t) hg hm (pa_cons pe_w pa_nil hs) hs, fun σ H F fz R kk => h1 σ H F fz _ fun v H1 F1 s1 s2 s3 s4 r1 => ?_⟩
  obtain ⟨p1, vs, e1, q1, d1⟩ := sqD_of r1
  subst e1
  rw [← hK] at q1
  refine ⟨p1, vs, rfl, q1.mono s3, kk _ H1 F1 s1 s2 s3 s4 ⟨fun i z H3 hz s => ?_, fun H3 s => ?_, fun i z H3 x H4 hz s y σ2 QQ q => ?_, fun i z H3 x H4 hz s y => ?_⟩⟩
  · obtain ⟨z1, z2⟩ := zip_get hz
    obtain ⟨v, hv, _⟩ := d1.get (map_get z2)
    exact ⟨vs, v, q1.mono s, hv⟩
  · refine ⟨vs, q1.mono s, ?_⟩
    rw [List.length_zip, List.length_range, d1.len, List.length_map, Nat.min_self]
  · obtain ⟨T, x2, ex, hT, eH, y2⟩ := y
    subst ex eH
    obtain ⟨z1, z2⟩ := zip_get hz
    obtain ⟨e0, _⟩ := range_get z1
    obtain ⟨w, hw, dw⟩ := d1.get (map_get z2)
    have e2 := y2 vs (q1.mono s)
    rw [hw] at e2
    cases e2
    subst e0
    have up : Same H3 (upd H3 T (.tup [.int (z.1 : Nat), x2])) := same_upd (by exact hT)
    exact g2_of (SqT.of upd_same) (q _ (.cons (.int _) (.cons dw .nil)) rfl)
  · obtain ⟨T, x2, ex, hT, eH, _⟩ := y
    subst eH
    exact same_upd hT
end
end K33

set_option maxHeartbeats 4000000
/-! K33e: list comprehensions. -/
namespace K33
open PySem PySem.Spec PyProof.Rows L2

section
variable {c : Ct} {X : Cx} {env : Ev'} {β : Type}
/-- in any of a comprehension's blocks -/
def InBlk (X : Cx) (scope : Scope) (p : Cx → Prop) : Prop := ∀ (s : Shared) (H : Hp) (C : Addr) (cl : List (Str × Addr)) (fp : List Addr), p (X.blk s H scope (compEnvC scope cl C X.env) fp)
def WTs (X : Cx) (ifs : List Expr) : TT := fun σ H Q => ∀ pins s, Inv X pins σ H s → wpAny (model X.prog X.w) X.A (forIn ifs true fun c r => if r = true then do let ok ← isTrue c X.env (eval c X.env); pure (ForInStep.yield ok) else pure (ForInStep.yield r)) (TP X pins σ Q) X.xe s
def ETs (c : Ct) (X : Cx) (env : Ev') (ifs : List Expr) (b : Bool) : Prop := ∀ σ H, Rd c H σ env → ∀ Q : Bool → Hp → Prop, (∀ H', Same H H' → Q b H') → WTs X ifs σ H Q
theorem ets_nil : ETs c X env [] true := fun σ H _ Q q pins s I => (pts_nil (X := X)).run pins s σ H Q I (q H (Same.refl H))
theorem ets_one {e : Expr} {b : Bool} (h : ET c X env e b) : ETs c X env [e] b := fun σ H r Q q pins s I => (pts_one (pt_w (X := X) (e := e))).run pins s σ H Q I (h σ H r Q q)
theorem setV_wipe {vs : List Nat} : ∀ {js : List Nat} {xs : List V} {σ : L2.St}, (∀ j ∈ js, j ∈ vs) → wipe (setV σ js xs) vs = wipe σ vs
  | [], _, _, _ => by cases ‹List V› <;> rfl
  | _ :: _, [], _, _ => rfl
  | j :: js, x :: xs, σ, h => by
    show wipe (setV (σ.set j (some x)) js xs) vs = wipe σ vs
    rw [setV_wipe fun k hk => h k (List.mem_cons_of_mem _ hk)]
    have hj := h j List.mem_cons_self
    clear h
    induction vs with
    | nil => cases hj
    | cons v vs ih =>
      unfold wipe
      by_cases e : j ∈ vs
      · rw [ih e]
      · have e2 : j = v := by
          rcases List.mem_cons.mp hj with z | z
          · exact z
          · exact absurd z e
        subst e2
        have : ∀ (us : List Nat) (σ : L2.St), j ∉ us → wipe (σ.set j (some x)) us = (wipe σ us).set j (some x) := by
          intro us
          induction us with
          | nil => intro _ _; rfl
          | cons u us ih2 =>
            intro σ hu
            have h1 : j ≠ u := fun z => hu (by rw [z]; exact List.mem_cons_self)
            have h2 : j ∉ us := fun z => hu (List.mem_cons_of_mem _ z)
            unfold wipe
            rw [ih2 σ h2, List.set_comm _ _ h1]
        rw [this vs σ e, List.set_set]
theorem wipe_wipe (σ : L2.St) (vs : List Nat) : wipe (wipe σ vs) vs = wipe σ vs := by
  apply List.ext_getElem?
  intro i
  by_cases h : i ∈ vs
  · have key : ∀ (us : List Nat) (τ : L2.St), i ∈ us → τ.length = σ.length → (wipe τ us)[i]? = if i < σ.length then some none else none := by
      intro us
      induction us with
      | nil => intro _ hh _; cases hh
      | cons u us ih =>
        intro τ hh hl
        unfold wipe
        by_cases e : u = i
        · subst e
          by_cases hi : u < σ.length
          · rw [if_pos hi, List.getElem?_set_self (by rw [wipe_length, hl]; exact hi)]
          · rw [if_neg hi, List.getElem?_eq_none (by rw [List.length_set, wipe_length, hl]; omega)]
        · rw [List.getElem?_set_ne e]
          rcases List.mem_cons.mp hh with z | z
          · exact absurd z.symm e
          · exact ih τ z hl
    rw [key vs _ h (wipe_length _ _), key vs σ h rfl]
  · rw [wipe_out h]
/-- what a list comprehension of the new values f z is -/
structure LcOk (c : Ct) (X : Cx) (env : Ev') (tg iter elt : Expr) (ifs : List Expr) (scope : Scope) (own : List (Str × Nat)) (ds : List PyData) : Prop where
  ok : BlkOk X.N X.env.scope scope own
  rd : ∃ (g : TG) (wi : TI) (tt : TT) (te : TE), PI X tg iter wi ∧ InBlk X scope (fun Y => PG Y tg g) ∧ InBlk X scope (fun Y => PTs Y ifs tt) ∧ InBlk X scope (fun Y => PE Y elt te) ∧
    ∀ σ H, Rd c H σ env → ∀ Q : VK, (∀ v H', Same H H' → RM c (.d (.list ds)) H H' v → Q v H') → tLc wi g tt te (own.map (·.2)) σ H Q
theorem lc_ok {zs : List β} {enc : β → List PyData} {tg iter elt : Expr} {ifs : List Expr} {scope : Scope} {own : List (Str × Nat)} {g : TG} {js : List Nat} (k : β → Bool) (f : β → PyData)
    (S : Src c X (env.map Sl.toFr) tg iter g js zs enc) (ok : BlkOk X.N X.env.scope scope own) (hg : InBlk X scope fun Y => PG Y tg g) (hjs : ∀ j ∈ js, j ∈ own.map (·.2))
    (ht : ∀ z ∈ zs, InBlk X scope fun Y => ETs c Y (setE (wipeE env (own.map (·.2))) js (enc z)) ifs (k z))
    (he : ∀ z ∈ zs, k z = true → InBlk X scope fun Y => EN c Y (setE (wipeE env (own.map (·.2))) js (enc z)) elt (.d (f z))) (hz : zs.length ≤ 100000) :
    LcOk c X env tg iter elt ifs scope own ((zs.filter k).map f) := by
  obtain ⟨wi, hpi, hwi⟩ := S
  refine ⟨ok, g, wi, fun σ H Q => InBlk X scope fun Y => WTs Y ifs σ H Q, fun σ H Q => InBlk X scope fun Y => WE Y elt σ H Q, hpi, hg, fun s H C cl fp => ⟨fun pins s1 σ H1 Q I h => h s H C cl fp pins s1 I⟩,
    fun s H C cl fp => ⟨fun pins s1 σ H1 Q I h => h s H C cl fp pins s1 I⟩, fun σ H r Q q => hwi σ H H (Fz.all r) _ fun J H1 F1 s1 s2 s3 _ fe => ?_⟩
  intro D hD
  have w : Walk J zs.length (fun H2 => Same F1 H2) (fun i H2 x H' => J.yld i H2 x H') :=
    ⟨fun i H2 hi s => fe.go i zs[i] H2 (by simp [hi]) s, fun H2 s => fe.stop H2 s, fun _ _ _ _ _ _ y => y⟩
  have sD : Same H1 (upd H1 D (.lst [])) := same_upd hD
  refine lc_it (g := g) (tt := fun σ H Q => InBlk X scope fun Y => WTs Y ifs σ H Q) (te := fun σ H Q => InBlk X scope fun Y => WE Y elt σ H Q) (vs := own.map (·.2)) (σ := σ) (Qd := fun H2 => Q (.ref D) H2) w (fun i H2 => ∃ G acc, Same H1 (fun a => if a = D then none else H2 a) ∧ H2 D = some (.lst acc) ∧ NewPart H1 H2 G ∧ G D = none ∧ DqAll c.K G acc (((zs.take i).filter k).map f))
    ⟨fun _ => none, [], fun a o e => ?_, upd_same, ⟨(fun _ _ e => nomatch e), fun _ _ e => nomatch e⟩, rfl, .nil⟩ (fun i H2 _ p => ?_) (fun i x H2 H3 hi p y => ?_) (fun H2 p => ?_)
  · have ne : a ≠ D := ne_of_none e hD
    show (if a = D then none else upd H1 D (.lst []) a) = some o
    rw [if_neg ne, upd_ne ne]
    exact e
  · obtain ⟨G, acc, p1, _⟩ := p
    intro a o e
    have z := p1 a o (s3 a o e)
    by_cases q : a = D
    · simp [q] at z
    · simpa [q] using z
  · obtain ⟨G, acc, p1, p2, p3, p4, p5⟩ := p
    have hz1 : zs[i]? = some zs[i] := by simp [hi]
    have sF : Same F1 H2 := fun a o e => by
      have z := p1 a o (s3 a o e)
      by_cases q : a = D
      · simp [q] at z
      · simpa [q] using z
    have s12 : Same H1 H2 := fun a o e => by
      have z := p1 a o e
      by_cases q : a = D
      · simp [q] at z
      · simpa [q] using z
    have gr := fe.grow i zs[i] H2 x H3 hz1 sF y
    have hm : zs[i] ∈ zs := List.getElem_mem hi
    have tk : zs.take (i + 1) = zs.take i ++ [zs[i]] := by rw [List.take_add_one, hz1]; rfl
    have alen : acc.length < sizeLine := by
      rw [p5.len, List.length_map]
      have a1 := List.length_filter_le k (zs.take i)
      have a2 : (zs.take i).length ≤ i := by rw [List.length_take]; omega
      exact Nat.lt_of_lt_of_le (show ((zs.take i).filter k).length < 100000 by omega) (by decide)
    refine fe.yld i zs[i] H2 x H3 hz1 sF y _ _ fun vs dv vl => ⟨(setV_wipe hjs).trans (wipe_wipe _ _), ?_⟩
    have rd3 : Rd c H3 (setV (wipe σ (own.map (·.2))) js vs) (setE (wipeE env (own.map (·.2))) js (enc zs[i])) := Rd.setV (((r.mono s1).mono (s12.trans gr)).wipe _) (DqAll.mono (sF.trans gr) _ _ dv)
    intro s0 H0 C0 cl0 fp0
    refine ht _ hm s0 H0 C0 cl0 fp0 _ H3 rd3 _ fun H4 s4 => ?_
    cases hk : k zs[i] with
    | false =>
      refine iteF ⟨G, acc, fun a o e => ?_, s4 _ _ (gr _ _ p2), ⟨p3.sub.trans (gr.trans s4), p3.new⟩, p4, ?_⟩
      · have ne : a ≠ D := ne_of_none e hD
        show (if a = D then none else H4 a) = some o
        rw [if_neg ne]
        exact s4 _ _ (gr _ _ (s12 a o e))
      · rw [tk, List.filter_append, List.filter_cons, if_neg (by rw [hk]; exact Bool.false_ne_true), List.filter_nil, List.append_nil]
        exact p5
    | true =>
      refine iteT ?_
      intro s0 H0 C0 cl0 fp0
      refine he _ hm hk s0 H0 C0 cl0 fp0 _ H4 (rd3.mono s4) _ fun y1 H5 s5 ry => ?_
      have d4 : H4 D = some (.lst acc) := s4 _ _ (gr _ _ p2)
      have d5 : H5 D = some (.lst acc) := s5 _ _ d4
      refine ⟨acc, d5, alen, ?_⟩
      obtain ⟨Gy, ny, ry⟩ := ry
      have gyD : Gy D = none := by
        cases e : Gy D with
        | none => rfl
        | some o =>
          rcases ny.new D o e with z | z
          · rw [d4] at z; cases z
          · have e2 := ny.sub D o e
            rw [d5] at e2
            cases e2
            cases z
      have s14 : Same H1 H4 := (s12.trans gr).trans s4
      obtain ⟨U, nu, u1, u2⟩ := NewPart.union (NewPart.mk (H := H1) (H' := H5) (G := G) (p3.sub.trans ((gr.trans s4).trans s5)) p3.new) (ny.mono s14)
      have nU : ∃ U', NewPart H1 H5 U' ∧ Same G U' ∧ Same Gy U' ∧ U' D = none := by
        refine ⟨fun a => if a = D then none else U a, ⟨fun a o e => ?_, fun a o e => ?_⟩, fun a o e => ?_, fun a o e => ?_, if_pos rfl⟩
        · by_cases q : a = D
          · simp [q] at e
          · simp only [q, if_false] at e; exact nu.sub a o e
        · by_cases q : a = D
          · simp [q] at e
          · simp only [q, if_false] at e; exact nu.new a o e
        · have q : a ≠ D := ne_of_none e p4
          simp only [q, if_false]
          exact u1 a o e
        · have q : a ≠ D := ne_of_none e gyD
          simp only [q, if_false]
          exact u2 a o e
      obtain ⟨U', nu', u1', u2', uD⟩ := nU
      refine ⟨U', acc ++ [y1], fun a o e => ?_, upd_same, ⟨fun a o e => ?_, nu'.new⟩, uD, ?_⟩
      · have ne : a ≠ D := ne_of_none e hD
        show (if a = D then none else upd H5 D _ a) = some o
        rw [if_neg ne, upd_ne ne]
        exact s5 _ _ (s14 a o e)
      · rw [upd_ne (ne_of_none e uD)]
        exact nu'.sub a o e
      · rw [tk, List.filter_append, List.filter_cons, if_pos hk, List.filter_nil, List.map_append]
        have app : ∀ {vs : List V} {ds : List PyData} {v : V} {d : PyData}, DqAll c.K U' vs ds → Dq c.K U' v d → DqAll c.K U' (vs ++ [v]) (ds ++ [d]) := by
          intro vs
          induction vs with
          | nil => intro ds v d h h'; cases h; exact .cons h' .nil
          | cons w ws ih =>
            intro ds v d h h'
            cases h with
            | cons h1 h2 => exact .cons h1 (ih h2 h')
        exact app (DqAll.mono u1' _ _ p5) (Dq.mono u2' _ _ ry)
  · obtain ⟨G, acc, p1, p2, p3, p4, p5⟩ := p
    have s12 : Same H1 H2 := fun a o e => by
      have z := p1 a o e
      by_cases q : a = D
      · simp [q] at z
      · simpa [q] using z
    refine q _ H2 (s1.trans s12) ⟨G, D, p3.mono s1, rfl, s1.free hD, p4, acc, p2, ?_⟩
    rw [List.take_length] at p5
    exact p5
theorem em_lc {tg iter elt : Expr} {ifs : List Expr} {scope : Scope} {own : List (Str × Nat)} {ds : List PyData} {pos : Pos} (L : LcOk c X env tg iter elt ifs scope own ds) (hN : X.N.Nodup) (hc : X.calm = true := by rfl)
    (hs : ∀ x, foldedSetIterable iter X.env x = pure x := by intro _; rfl) : EM c X env (.ListComp elt [⟨tg, iter, ifs, 0⟩] scope pos) (.d (.list ds)) := by
  obtain ⟨ok, g, wi, tt, te, h1, h2, h3, h4, h5⟩ := L
  exact fun σ H r Q q => WE.of (pe_lc hc hN h1 ok h2 h3 h4 hs) (h5 σ H r Q q)
end
end K33

set_option maxHeartbeats 4000000
/-! K33f: calls, subscripts, slices. -/
namespace K33
open PySem PySem.Spec PyProof.Rows L2

section
variable {c : Ct} {X : Cx} {env : Ev'} {e a b : Expr} {es : List Expr} {x y z : SV} {xs : List SV} {R : Rel} {pos p : Pos}

/-! ### defs of the text -/
abbrev Sc := List SV → (SV → Prop) → Prop
/-- a pure def's promise: from arguments that read as xs with S xs P, some new value that reads as an x with P x -/
def spOf (c : Ct) (S : Sc) : Sp := fun vs H Q _ => ∃ xs P, S xs P ∧ RVs c H vs xs ∧ ∀ v H' x, P x → Same H H' → RN c H H' v x → Q v H'
/-- a def stands by its name and keeps its promise -/
def Own (c : Ct) (P : Program) (w : World) (mg : Str → Option Value) (base : Heap) (nm : Str) (k : Nat) (S : Sc) : Prop :=
  ∃ f fd ps, FnOk P w c.K mg base CX0 k f fd ps (spOf c S) ∧ mg nm = some (.ref f) ∧ PySem.W.keepIn c.K (.ref f) = true ∧ Binds c.K fd ps []
abbrev rS (c : Ct) (P : SV → Prop) : Rel := fun H H' v => ∃ x, P x ∧ RN c H H' v x
theorem back_s {P : SV → Prop} : Back (rS c P) := fun _ _ _ _ e ⟨x, p, h⟩ => ⟨x, p, RN.mono e h⟩
theorem eg_call {nm : Str} {k : Nat} {S : Sc} {P : SV → Prop} (O : Own c X.prog X.w X.mg X.base nm k S) (hr : Room k X.A) (ha : EA c X env (e :: es) xs) (hS : S xs P) (hK : X.K = c.K := by rfl) (hg : Gl X nm := by rfl)
    (hdb : (nm == ("__debug__" : Str)) = false := by decide) (he : starEach (e :: es) X.env = (false, eval e X.env) :: starEach es X.env := by rfl) (hpl : (backTo pos (starEach es X.env)).any (·.1) = false := by rfl) :
    EG c X env (.Call (.Name nm p) (e :: es) [] pos) (rS c P) := by
  obtain ⟨f, fd, ps, F, hm, hk, hb⟩ := O
  rw [← hK] at F hk hb
  refine fun σ H r Q q => WE.of (pe_call F hr hg hm hk hb .nil pass0 pa_w hdb he hpl) (ha σ H r _ fun vs H1 s1 rv => ⟨xs, P, hS, by rw [List.append_nil]; exact rv, fun v H2 x px s2 rn => q v H2 (s1.trans s2) ⟨x, px, RN.mono s1 rn⟩⟩)
theorem en_call {nm : Str} {k : Nat} {S : Sc} (O : Own c X.prog X.w X.mg X.base nm k S) (hr : Room k X.A) (ha : EA c X env (e :: es) xs) (hS : S xs (fun y => y = x)) (hK : X.K = c.K := by rfl) (hg : Gl X nm := by rfl)
    (hdb : (nm == ("__debug__" : Str)) = false := by decide) (he : starEach (e :: es) X.env = (false, eval e X.env) :: starEach es X.env := by rfl) (hpl : (backTo pos (starEach es X.env)).any (·.1) = false := by rfl) :
    EN c X env (.Call (.Name nm p) (e :: es) [] pos) x := (eg_call O hr ha hS hK hg hdb he hpl).imp fun _ _ _ ⟨_, px, rn⟩ => px ▸ rn
theorem ee_call {nm : Str} {k : Nat} {S : Sc} (O : Own c X.prog X.w X.mg X.base nm k S) (hr : Room k X.A) (ha : EA c X env (e :: es) xs) (hS : S xs (fun y => y = x)) (hK : X.K = c.K := by rfl) (hg : Gl X nm := by rfl)
    (hdb : (nm == ("__debug__" : Str)) = false := by decide) (he : starEach (e :: es) X.env = (false, eval e X.env) :: starEach es X.env := by rfl) (hpl : (backTo pos (starEach es X.env)).any (·.1) = false := by rfl) :
    EE c X env (.Call (.Name nm p) (e :: es) [] pos) x := (en_call O hr ha hS hK hg hdb he hpl).ee

/-! ### built-in calls -/
def CG (c : Ct) (X : Cx) (f : Value) (xs : List SV) (R : Rel) : Prop :=
  ∃ r, CallR X f r ∧ ∀ H vs, RVs c H vs xs → ∀ Q : VK, (∀ u H', Same H H' → R H H' u → Q u H') → r vs H Q
theorem eg_callB {nm : Str} {id : String} (o : CG c X (.builtin id) xs R) (hm : X.mg nm = none) (ha : EA c X env (e :: es) xs) (hB : Back R) (hg : Gl X nm := by rfl) (hv : bootBuiltins nm = some (.builtin id) := by decide +kernel) (hn : nm ≠ "__name__" := by decide)
    (hdb : (nm == ("__debug__" : Str)) = false := by decide) (he : starEach (e :: es) X.env = (false, eval e X.env) :: starEach es X.env := by rfl) (hpl : (backTo pos (starEach es X.env)).any (·.1) = false := by rfl) :
    EG c X env (.Call (.Name nm p) (e :: es) [] pos) R := by
  obtain ⟨r, h1, h2⟩ := o
  exact fun σ H rd Q q => WE.of (pe_callB h1 hg hm hv pa_w hn hdb he hpl) (ha σ H rd _ fun vs H1 s1 rv => h2 H1 vs rv Q fun u H2 s2 ru => q u H2 (s1.trans s2) (hB _ _ _ _ s1 ru))
theorem eg_callT {nm : Str} {T : String} (o : CG c X (.type T) xs R) (hm : X.mg nm = none) (ha : EA c X env (e :: es) xs) (hB : Back R) (hg : Gl X nm := by rfl) (hv : bootBuiltins nm = some (.type T) := by decide +kernel) (hn : nm ≠ "__name__" := by decide)
    (hdb : (nm == ("__debug__" : Str)) = false := by decide) (he : starEach (e :: es) X.env = (false, eval e X.env) :: starEach es X.env := by rfl) (hpl : (backTo pos (starEach es X.env)).any (·.1) = false := by rfl) :
    EG c X env (.Call (.Name nm p) (e :: es) [] pos) R := by
  obtain ⟨r, h1, h2⟩ := o
  exact fun σ H rd Q q => WE.of (pe_callTy h1 hg hm hv pa_w hn hdb he hpl) (ha σ H rd _ fun vs H1 s1 rv => h2 H1 vs rv Q fun u H2 s2 ru => q u H2 (s1.trans s2) (hB _ _ _ _ s1 ru))
theorem rvs1 {H : Hp} {vs : List V} (h : RVs c H vs [x]) : ∃ v, vs = [v] ∧ RV c H v x := by
  cases h with
  | cons h1 t => cases t; exact ⟨_, rfl, h1⟩
theorem rvs2 {H : Hp} {vs : List V} (h : RVs c H vs [x, y]) : ∃ v w, vs = [v, w] ∧ RV c H v x ∧ RV c H w y := by
  cases h with
  | cons h1 t =>
    cases t with
    | cons h2 t => cases t; exact ⟨_, _, rfl, h1, h2⟩
theorem dq_lst {H : Hp} {v : V} {ds : List PyData} (h : RV c H v (.d (.list ds))) : ∃ a vs, v = .ref a ∧ H a = some (.lst vs) ∧ DqAll c.K H vs ds := by
  cases (show Dq c.K H v (.list ds) from h) with
  | lst h1 h2 => exact ⟨_, _, rfl, h1, h2⟩
theorem dq_tup {H : Hp} {v : V} {ds : List PyData} (h : RV c H v (.d (.tuple ds))) : ∃ a vs, v = .ref a ∧ H a = some (.tup vs) ∧ DqAll c.K H vs ds := by
  cases (show Dq c.K H v (.tuple ds) from h) with
  | tup h1 h2 => exact ⟨_, _, rfl, h1, h2⟩
theorem dq_ints {K : PySem.W.Frag} {H : Hp} : ∀ {ns : List Int} {vs : List V}, DqAll K H vs (ns.map .int) → vs = ns.map V.int
  | [], _, h => by cases h; rfl
  | n :: ns, _, h => by
    cases h with
    | cons h1 h2 =>
      cases h1
      rw [dq_ints h2]
      rfl
theorem dq_bls {K : PySem.W.Frag} {H : Hp} : ∀ {ns : List Bool} {vs : List V}, DqAll K H vs (ns.map .bool) → vs = ns.map V.bl
  | [], _, h => by cases h; rfl
  | n :: ns, _, h => by
    cases h with
    | cons h1 h2 =>
      cases h1
      rw [dq_bls h2]
      rfl
theorem cg_lenL {ds : List PyData} (hK : X.K = c.K := by rfl) : CG c X (.builtin "len") [.d (.list ds)] (rE c (.d (.int ds.length))) :=
  ⟨_, call_len_seq, fun H vs rv Q q => by
    obtain ⟨v, rfl, r⟩ := rvs1 rv
    obtain ⟨a, ws, rfl, h1, h2⟩ := dq_lst r
    refine ⟨a, ws, rfl, .inl (SqL.of h1), q _ H (Same.refl H) ?_⟩
    rw [h2.len]
    exact .int _⟩
theorem cg_lenT {ds : List PyData} (hK : X.K = c.K := by rfl) : CG c X (.builtin "len") [.d (.tuple ds)] (rE c (.d (.int ds.length))) :=
  ⟨_, call_len_seq, fun H vs rv Q q => by
    obtain ⟨v, rfl, r⟩ := rvs1 rv
    obtain ⟨a, ws, rfl, h1, h2⟩ := dq_tup r
    refine ⟨a, ws, rfl, .inr (SqT.of h1), q _ H (Same.refl H) ?_⟩
    rw [h2.len]
    exact .int _⟩
theorem cg_tuple {ds : List PyData} : CG c X (.type "tuple") [.d (.list ds)] (rE c (.d (.tuple ds))) :=
  ⟨_, call_tuple_of, fun H vs rv Q q => by
    obtain ⟨v, rfl, r⟩ := rvs1 rv
    obtain ⟨a, ws, rfl, h1, h2⟩ := dq_lst r
    exact ⟨a, ws, rfl, .inl ⟨SqL.of h1, fun l hl => q _ _ (same_upd hl) (.tup upd_same (DqAll.mono (same_upd hl) _ _ h2))⟩⟩⟩
theorem rm_list {H : Hp} {p : Addr} {vs : List V} {ds : List PyData} (hp : H p = none) (hi : immAll ds = true) (hd : DqAll c.K H vs ds) : RM c (.d (.list ds)) H (upd H p (.lst vs)) (.ref p) := by
  refine ⟨tupsOf H, p, ⟨(tupsOf_sub H).trans (same_upd hp), fun a o g => .inr (tupsOf_at g).2⟩, rfl, hp, ?_, vs, upd_same, DqAll.tups _ _ hi hd⟩
  cases e : tupsOf H p with
  | none => rfl
  | some o => rw [(tupsOf_at e).1] at hp; cases hp
theorem cg_list {t : Bool} {ds : List PyData} (hi : immAll ds = true) (hK : X.K = c.K := by rfl) : CG c X (.type "list") [.d (sqD t ds)] (RM c (.d (.list ds))) :=
  ⟨_, call_list_of, fun H vs rv Q q => by
    obtain ⟨v, rfl, r⟩ := rvs1 rv
    obtain ⟨a, ws, rfl, h1, h2⟩ := sqD_of r
    refine ⟨a, ws, rfl, ?_, fun l hl => q _ _ (same_upd hl) (rm_list hl hi h2)⟩
    cases t
    · exact .inl (hK ▸ h1)
    · exact .inr (hK ▸ h1)⟩
theorem cg_int {i : Int} : CG c X (.type "int") [.d (.int i)] (rE c (.d (.int i))) :=
  ⟨_, call_int1, fun H vs rv Q q => by
    obtain ⟨v, rfl, r⟩ := rvs1 rv
    cases (show Dq c.K H v (.int i) from r)
    exact .inl ⟨i, rfl, q _ H (Same.refl H) (.int _)⟩⟩
def b2n (k : Bool) : Int := if k = true then 1 else 0
theorem cg_intb {k : Bool} : CG c X (.type "int") [.d (.bool k)] (rE c (.d (.int (b2n k)))) :=
  ⟨_, call_int1, fun H vs rv Q q => by
    obtain ⟨v, rfl, r⟩ := rvs1 rv
    cases (show Dq c.K H v (.bool k) from r)
    exact .inr ⟨k, rfl, q _ H (Same.refl H) (.int _)⟩⟩
theorem cg_sum {ns : List Int} (hc : X.calm = true := by rfl) : CG c X (.builtin "sum") [.d (.list (ns.map .int))] (rE c (.d (.int ns.sum))) :=
  ⟨_, cr_sum hc, fun H vs rv Q q => by
    obtain ⟨v, rfl, r⟩ := rvs1 rv
    obtain ⟨a, ws, rfl, h1, h2⟩ := dq_lst r
    cases dq_ints h2
    exact ⟨a, ns, rfl, SqL.of h1, q _ H (Same.refl H) (.int _)⟩⟩
theorem cg_all {bs : List Bool} (hc : X.calm = true := by rfl) : CG c X (.builtin "all") [.d (.list (bs.map .bool))] (rE c (.d (.bool (bs.all id)))) :=
  ⟨_, cr_all hc, fun H vs rv Q q => by
    obtain ⟨v, rfl, r⟩ := rvs1 rv
    obtain ⟨a, ws, rfl, h1, h2⟩ := dq_lst r
    cases dq_bls h2
    exact ⟨a, bs, rfl, SqL.of h1, q _ H (Same.refl H) (.bl _)⟩⟩
theorem cg_max {ns : List Int} {m : Int} (h0 : 0 < ns.length) (hm : ∀ k, k ∈ ns → (∀ y, y ∈ ns → y ≤ k) → k = m) (hc : X.calm = true := by rfl) : CG c X (.builtin "max") [.d (.list (ns.map .int))] (rE c (.d (.int m))) :=
  ⟨_, cr_max hc, fun H vs rv Q q => by
    obtain ⟨v, rfl, r⟩ := rvs1 rv
    obtain ⟨a, ws, rfl, h1, h2⟩ := dq_lst r
    cases dq_ints h2
    exact ⟨a, ns, rfl, SqL.of h1, h0, fun k hk hle => q _ H (Same.refl H) (by rw [hm k hk hle]; exact .int _)⟩⟩
theorem cg_max2 {i j : Int} (hc : X.calm = true := by rfl) : CG c X (.builtin "max") [.d (.int i), .d (.int j)] (rE c (.d (.int (if j > i then j else i)))) :=
  ⟨_, call_max2 hc, fun H vs rv Q q => by
    obtain ⟨v, w, rfl, r1, r2⟩ := rvs2 rv
    cases (show Dq c.K H v (.int i) from r1)
    cases (show Dq c.K H w (.int j) from r2)
    exact ⟨i, j, rfl, q _ H (Same.refl H) (.int _)⟩⟩

/-! ### subscripts -/
theorem atI_dq {K : PySem.W.Frag} {H : Hp} {vs : List V} {ds : List PyData} {i : Int} {d : PyData} (h : DqAll K H vs ds) (e : atI ds i = some d) : ∃ v, atI vs i = some v ∧ Dq K H v d := by
  unfold atI at e ⊢
  rw [h.len]
  cases q : ixN ds.length i with
  | none => rw [q] at e; cases e
  | some j =>
    rw [q] at e
    exact h.get e
theorem ee_ixT {ds : List PyData} {i : Int} {d : PyData} (ha : EE c X env a (.d (.tuple ds))) (hb : EE c X env b (.d (.int i))) (hd : atI ds i = some d) (hK : X.K = c.K := by rfl) (hp : PlainIx b := by exact fun _ _ => rfl) : EE c X env (.Subscript a b pos) (.d d) :=
  eg_two ha hb back_e (fun H v w r1 r2 Q q => by
    obtain ⟨p, vs, rfl, h1, h2⟩ := dq_tup r1
    cases (show Dq c.K H w (.int i) from r2)
    obtain ⟨u, h3, h4⟩ := atI_dq h2 hd
    exact ⟨p, vs, i, u, rfl, rfl, SqT.of h1, h3, q u H (Same.refl H) h4⟩) (pe_ix ix_tup pe_w pe_w hp)
theorem ee_ixL {ds : List PyData} {i : Int} {d : PyData} (ha : EE c X env a (.d (.list ds))) (hb : EE c X env b (.d (.int i))) (hd : atI ds i = some d) (hK : X.K = c.K := by rfl) (hp : PlainIx b := by exact fun _ _ => rfl) : EE c X env (.Subscript a b pos) (.d d) :=
  eg_two ha hb back_e (fun H v w r1 r2 Q q => by
    obtain ⟨p, vs, rfl, h1, h2⟩ := dq_lst r1
    cases (show Dq c.K H w (.int i) from r2)
    obtain ⟨u, h3, h4⟩ := atI_dq h2 hd
    exact ⟨p, vs, i, u, rfl, rfl, SqL.of h1, h3, q u H (Same.refl H) h4⟩) (pe_ix ix_list pe_w pe_w hp)
theorem atI_nat' {ds : List PyData} {i : Int} {d : PyData} (h0 : 0 ≤ i) (h : ds[i.toNat]? = some d) : atI ds i = some d := by
  have e : i = ((i.toNat : Nat) : Int) := by omega
  rw [e]
  exact atI_nat h

/-! ### slices -/
def cutG {α : Type} (xs : List α) (lo hi : Option Int) : List α := (xs.drop (HT.sIx xs.length 0 lo)).take (HT.sIx xs.length xs.length hi - HT.sIx xs.length 0 lo)
theorem DqAll.drop {K : PySem.W.Frag} {H : Hp} : ∀ {vs : List V} {ds : List PyData} (n : Nat), DqAll K H vs ds → DqAll K H (vs.drop n) (ds.drop n)
  | _, _, 0, h => h
  | _, _, _ + 1, .nil => .nil
  | _, _, n + 1, .cons _ t => DqAll.drop n t
theorem DqAll.take {K : PySem.W.Frag} {H : Hp} : ∀ {vs : List V} {ds : List PyData} (n : Nat), DqAll K H vs ds → DqAll K H (vs.take n) (ds.take n)
  | _, _, 0, _ => .nil
  | _, _, _ + 1, .nil => .nil
  | _, _, n + 1, .cons h t => .cons h (DqAll.take n t)
theorem DqAll.cut {K : PySem.W.Frag} {H : Hp} {vs : List V} {ds : List PyData} (lo hi : Option Int) (h : DqAll K H vs ds) : DqAll K H (cutV vs lo hi) (cutG ds lo hi) := by
  unfold cutV cutG
  rw [h.len]
  exact (h.drop _).take _
def WO (X : Cx) (o : Option Expr) : TO := fun σ H Q => match o with
  | none => Q none H
  | some e => WE X e σ H fun x H1 => ∃ i, x = .int i ∧ Q (some i) H1
theorem po_w {o : Option Expr} : PO X o (WO X o) := by
  cases o with
  | none => exact po_none
  | some e => exact po_some pe_w
/-- an end of a slice -/
def EO (c : Ct) (X : Cx) (env : Ev') (o : Option Expr) (k : Option Int) : Prop := ∀ σ H, Rd c H σ env → ∀ Q : Option Int → Hp → Prop, (∀ H', Same H H' → Q k H') → WO X o σ H Q
theorem eo_none : EO c X env none none := fun σ H _ Q q => q H (Same.refl H)
theorem eo_some {i : Int} (h : EE c X env e (.d (.int i))) : EO c X env (some e) (some i) := fun σ H r Q q => h σ H r _ fun v H' s rv => by
  cases (show Dq c.K H' v (.int i) from rv)
  exact ⟨i, rfl, q H' s⟩
theorem cutG_whole {α : Type} {xs : List α} {lo hi : Option Int} (h : HT.sIx xs.length 0 lo = 0 ∧ HT.sIx xs.length xs.length hi = xs.length) : cutG xs lo hi = xs := by
  unfold cutG
  rw [h.1, h.2, Nat.sub_zero, List.drop_zero, List.take_length]
theorem ee_slT {lo hi : Option Expr} {l h : Option Int} {ds : List PyData} {p2 : Pos} (ha : EE c X env a (.d (.tuple ds))) (hl : EO c X env lo l) (hh : EO c X env hi h) (hK : X.K = c.K := by rfl) : EE c X env (.Subscript a (.Slice lo hi none p2) pos) (.d (.tuple (cutG ds l h))) := fun σ H r Q q =>
  WE.of (pe_slice sl_tupA pe_w po_w po_w) (ha σ H r _ fun v H1 s1 r1 => hl σ H1 (r.mono s1) _ fun H2 s2 => hh σ H2 (r.mono (s1.trans s2)) _ fun H3 s3 => by
    obtain ⟨p, vs, rfl, h1, h2⟩ := dq_tup r1
    have h2 := DqAll.mono (s2.trans s3) _ _ h2
    have h1 := (s2.trans s3) _ _ h1
    have s := (s1.trans s2).trans s3
    refine ⟨p, vs, rfl, SqT.of h1, fun w => q _ H3 s ?_, fun w p' hp => q _ _ (s.trans (same_upd hp)) (.tup upd_same (DqAll.mono (same_upd hp) _ _ (h2.cut _ _)))⟩
    have e : cutG ds l h = ds := cutG_whole (by rw [h2.len] at w; exact w)
    rw [e]
    exact .tup h1 h2)
theorem em_slL {lo hi : Option Expr} {l h : Option Int} {ds : List PyData} {p2 : Pos} (ha : EE c X env a (.d (.list ds))) (hl : EO c X env lo l) (hh : EO c X env hi h) (hi' : immAll (cutG ds l h) = true) : EM c X env (.Subscript a (.Slice lo hi none p2) pos) (.d (.list (cutG ds l h))) := fun σ H r Q q =>
  WE.of (pe_slice sl_list pe_w po_w po_w) (ha σ H r _ fun v H1 s1 r1 => hl σ H1 (r.mono s1) _ fun H2 s2 => hh σ H2 (r.mono (s1.trans s2)) _ fun H3 s3 => by
    obtain ⟨p, vs, rfl, h1, h2⟩ := dq_lst r1
    have h2 := DqAll.mono (s2.trans s3) _ _ h2
    have s := (s1.trans s2).trans s3
    exact ⟨p, vs, rfl, SqL.of ((s2.trans s3) _ _ h1), fun p' hp => q _ _ (s.trans (same_upd hp)) (RM.mono s (rm_list hp hi' (h2.cut _ _)))⟩)
theorem cut_take {α : Type} (xs : List α) (k : Nat) : cutG xs none (some (k : Int)) = xs.take k := by
  unfold cutG
  rw [HT.sIx_none, HT.sIx_nat, List.drop_zero, Nat.sub_zero]
  by_cases h : k ≤ xs.length
  · rw [Nat.min_eq_left h]
  · rw [Nat.min_eq_right (by omega), List.take_length, List.take_of_length_le (by omega)]
theorem cut_drop {α : Type} (xs : List α) (k : Nat) : cutG xs (some (k : Int)) none = xs.drop k := by
  unfold cutG
  rw [HT.sIx_none, HT.sIx_nat]
  by_cases h : k ≤ xs.length
  · rw [Nat.min_eq_left h, List.take_of_length_le (by rw [List.length_drop]; omega)]
  · rw [Nat.min_eq_right (by omega), Nat.sub_self, List.take_zero, List.drop_of_length_le (by omega)]
theorem immAll_take {ds : List PyData} (k : Nat) (h : immAll ds = true) : immAll (ds.take k) = true := immAll_mem fun x hx => imm_mem h x (List.mem_of_mem_take hx)
theorem immAll_drop {ds : List PyData} (k : Nat) (h : immAll ds = true) : immAll (ds.drop k) = true := immAll_mem fun x hx => imm_mem h x (List.mem_of_mem_drop hx)

/-! ### a hall's pushes -/
theorem ee_told {P : List (List Int)} (ha : EE c X env a (.hall P)) (hC : Cls X.K c.C) (hN : NoAttr X.K c.C "told") (hK : X.K = c.K := by rfl) (hb : attributeBase a "told" X.env (eval a X.env) = eval a X.env := by rfl) :
    EE c X env (.Attribute a "told" pos) (.d (.tuple (tups P))) := fun σ H r Q q => WE.of (pe_fld pe_w hb) (ha σ H r _ fun v H1 s1 r1 => by
  obtain ⟨_, p, dx, t, rfl, h1, h2⟩ := r1
  exact ⟨p, c.C, dx, _, .ref t, rfl, h1, hC, hN, by simp [List.lookup], q _ H1 s1 h2⟩)
/-! ### *e in a tuple -/
theorem rvs_app {H : Hp} {us : List V} {xs : List SV} : ∀ {vs : List V} {ds : List PyData}, DqAll c.K H vs ds → RVs c H us xs → RVs c H (vs ++ us) (ds.map .d ++ xs)
  | _, _, .nil, h => h
  | _, _, .cons h1 t, h => .cons h1 (rvs_app t h)
theorem ea_star {es : List Expr} {t : Bool} {ds fs : List PyData} {p : Pos} (h : EE c X env e (.d (sqD t ds))) (ht : EA c X env es (fs.map .d)) (hK : X.K = c.K := by rfl)
    (hs : starEach (.Starred e p :: es) X.env = (true, eval e X.env) :: starEach es X.env := by rfl) : EA c X env (.Starred e p :: es) ((ds ++ fs).map .d) := fun σ H r Q q =>
  WA.of (StX.pa_star pe_w pa_w hs) (h σ H r _ fun v H1 s1 r1 => by
    obtain ⟨a, ws, rfl, h1, h2⟩ := sqD_of r1
    refine ⟨a, ws, rfl, ?_, ht σ H1 (r.mono s1) _ fun us H2 s2 r2 => q _ H2 (s1.trans s2) ?_⟩
    · rw [← hK] at h1
      cases t
      · exact .inr h1
      · exact .inl h1
    · have h2 := DqAll.mono s2 _ _ h2
      rw [List.map_append]
      exact rvs_app h2 r2)
end
end K33

set_option maxHeartbeats 4000000
/-! K33g: statements over slots, frozen and owned. -/
namespace K33
open PySem PySem.Spec PyProof.Rows L2

structure RSF (c : Ct) (F H : Hp) (σ : L2.St) (env : Ev') : Prop where
  sub : Same F H
  len : σ.length = env.length
  fr : ∀ (i : Nat) x, env[i]? = some (.fr x) → ∃ v, σ[i]? = some (some v) ∧ RV c F v x
  ow : ∀ (i : Nat) x, env[i]? = some (.ow x) → ∃ a, σ[i]? = some (some (V.ref a)) ∧ F a = none ∧ OV c F H a x
  ap : ∀ (i j : Nat) a x y, i ≠ j → env[i]? = some (.ow x) → env[j]? = some (.ow y) → σ[i]? = some (some (V.ref a)) → σ[j]? = some (some (V.ref a)) → False
def RS (c : Ct) (H0 : Hp) (σ : L2.St) (H : Hp) (env : Ev') : Prop := ∃ F, Same H0 F ∧ RSF c F H σ env
section
variable {c : Ct} {X : Cx} {F F' H H' H0 : Hp} {σ : L2.St} {env : Ev'} {e : Expr} {x y : SV} {pos : Pos} {v : V}
theorem OV.rv {a : Addr} : ∀ {x : SV}, OV c F H a x → Same F H → RV c H (V.ref a) x
  | .d (.list ds), ⟨xs, h1, h2⟩, s => .lst h1 (DqAll.mono s _ _ h2)
  | .dT kvs, ⟨ws, h1, h2⟩, s => ⟨a, ws, rfl, h1, h2.mono s⟩
  | .dK kvs, ⟨ws, h1, h2⟩, s => ⟨a, ws, rfl, h1, h2.mono s⟩
  | .d .none, h, _ => h.elim
  | .d (.bool _), h, _ => h.elim
  | .d (.int _), h, _ => h.elim
  | .d (.str _), h, _ => h.elim
  | .d (.tuple _), h, _ => h.elim
  | .d (.dict _), h, _ => h.elim
  | .hall _, h, _ => h.elim
  | .row, h, _ => h.elim
  | .ty _, h, _ => h.elim
  | .tys _, h, _ => h.elim
  | .cls, h, _ => h.elim
  | .p _, h, _ => h.elim
  | .o m, ⟨u, h1, h2, h3, h4⟩, s => ⟨a, u, rfl, h1, m.mono s h4⟩
theorem OV.move {a : Addr} (f : Same F F') (k : ∀ o, H a = some o → H' a = some o) : ∀ {x : SV}, OV c F H a x → OV c F' H' a x
  | .d (.list ds), ⟨xs, h1, h2⟩ => ⟨xs, k _ h1, DqAll.mono f _ _ h2⟩
  | .dT kvs, ⟨ws, h1, h2⟩ => ⟨ws, k _ h1, h2.mono f⟩
  | .dK kvs, ⟨ws, h1, h2⟩ => ⟨ws, k _ h1, h2.mono f⟩
  | .d .none, h => h.elim
  | .d (.bool _), h => h.elim
  | .d (.int _), h => h.elim
  | .d (.str _), h => h.elim
  | .d (.tuple _), h => h.elim
  | .d (.dict _), h => h.elim
  | .hall _, h => h.elim
  | .row, h => h.elim
  | .ty _, h => h.elim
  | .tys _, h => h.elim
  | .cls, h => h.elim
  | .p _, h => h.elim
  | .o m, ⟨u, h1, h2, h3, h4⟩ => ⟨u, k _ h1, h2, h3, m.mono f h4⟩
theorem OV.there {a : Addr} : ∀ {x : SV}, OV c F H a x → ∃ o, H a = some o ∧ isTupO o = false ∧ Mut (some o)
  | .d (.list ds), ⟨xs, h1, _⟩ => ⟨_, h1, rfl, trivial⟩
  | .dT kvs, ⟨ws, h1, _⟩ => ⟨_, h1, rfl, trivial⟩
  | .dK kvs, ⟨ws, h1, _⟩ => ⟨_, h1, rfl, trivial⟩
  | .d .none, h => h.elim
  | .d (.bool _), h => h.elim
  | .d (.int _), h => h.elim
  | .d (.str _), h => h.elim
  | .d (.tuple _), h => h.elim
  | .d (.dict _), h => h.elim
  | .hall _, h => h.elim
  | .row, h => h.elim
  | .ty _, h => h.elim
  | .tys _, h => h.elim
  | .cls, h => h.elim
  | .p _, h => h.elim
  | .o m, ⟨u, h1, h2, h3, h4⟩ => ⟨u, h1, h2, h3⟩
theorem RSF.rd (h : RSF c F H σ env) : Rd c H σ env := ⟨h.len, fun i s x a b => by
  cases s with
  | no => cases b
  | fr y =>
    cases b
    obtain ⟨v, h1, h2⟩ := h.fr i _ a
    exact ⟨v, h1, h2.mono h.sub⟩
  | ow y =>
    cases b
    obtain ⟨p, h1, h2, h3⟩ := h.ow i _ a
    exact ⟨_, h1, h3.rv h.sub⟩⟩
theorem RSF.fz (h : RSF c F H σ env) : Fz c F H σ env := ⟨h.sub, h.rd, h.fr⟩
/-- later, nothing but new cells -/
theorem RSF.step (h : RSF c F H σ env) (s : Same H H') (f : Same F F') (g : Same F' H') (n : NoOwn F H F') : RSF c F' H' σ env :=
  ⟨g, h.len, fun i x e => let ⟨v, a, b⟩ := h.fr i x e; ⟨v, a, b.mono f⟩, fun i x e => by
    obtain ⟨a, h1, h2, h3⟩ := h.ow i x e
    obtain ⟨o, h4, h5, _⟩ := h3.there
    exact ⟨a, h1, n a o h2 h4 h5, h3.move f (fun o q => s _ _ q)⟩, h.ap⟩
theorem set_get {α : Type} {l : List α} {i j : Nat} {a b : α} (h : (l.set i a)[j]? = some b) : (i = j ∧ b = a ∧ j < l.length) ∨ (i ≠ j ∧ l[j]? = some b) := by
  by_cases q : i = j
  · subst q
    by_cases hi : i < l.length
    · rw [List.getElem?_set_self hi] at h
      exact .inl ⟨rfl, (Option.some.inj h).symm, hi⟩
    · rw [List.getElem?_eq_none (by rw [List.length_set]; omega)] at h
      cases h
  · rw [List.getElem?_set_ne q] at h
    exact .inr ⟨q, h⟩
/-- a slot forgotten or given -/
theorem RSF.setFr (h : RSF c F H σ env) (i : Nat) (r : RV c F v x) : RSF c F H (σ.set i (some v)) (env.set i (.fr x)) := by
  refine ⟨h.sub, by rw [List.length_set, List.length_set, h.len], fun j y e => ?_, fun j y e => ?_, fun j k a y z n e1 e2 e3 e4 => ?_⟩
  · rcases set_get e with ⟨rfl, q, hl⟩ | ⟨n, q⟩
    · cases q
      exact ⟨v, List.getElem?_set_self (by rw [h.len]; exact hl), r⟩
    · rw [List.getElem?_set_ne n]
      exact h.fr j y q
  · rcases set_get e with ⟨rfl, q, hl⟩ | ⟨n, q⟩
    · cases q
    · rw [List.getElem?_set_ne n]
      exact h.ow j y q
  · rcases set_get e1 with ⟨rfl, q, hl⟩ | ⟨n1, q1⟩
    · cases q
    rcases set_get e2 with ⟨rfl, q, hl⟩ | ⟨n2, q2⟩
    · cases q
    rw [List.getElem?_set_ne n1] at e3
    rw [List.getElem?_set_ne n2] at e4
    exact h.ap j k a y z n q1 q2 e3 e4
theorem RSF.setItems : ∀ {js : List Nat} {vs : List V} {ds : List PyData} {σ : L2.St} {env : Ev'}, RSF c F H σ env → DqAll c.K F vs ds → RSF c F H (setV σ js vs) (setE env js ds)
  | [], _, _, _, _, r, h => by cases h <;> exact r
  | j :: js, _, _, _, _, r, .nil => r
  | j :: js, _, _, _, _, r, .cons h1 h2 => (RSF.setFr (x := .d _) r j h1).setItems h2
theorem RSF.setOw {p : Addr} (h : RSF c F H σ env) (i : Nat) (hF : F p = none) (r : OV c F H p x) (hn : ∀ (j : Nat) y, env[j]? = some (.ow y) → j ≠ i → σ[j]? ≠ some (some (V.ref p))) : RSF c F H (σ.set i (some (V.ref p))) (env.set i (.ow x)) := by
  refine ⟨h.sub, by rw [List.length_set, List.length_set, h.len], fun j y e => ?_, fun j y e => ?_, fun j k a y z n e1 e2 e3 e4 => ?_⟩
  · rcases set_get e with ⟨rfl, q, hl⟩ | ⟨n, q⟩
    · cases q
    · rw [List.getElem?_set_ne n]
      exact h.fr j y q
  · rcases set_get e with ⟨rfl, q, hl⟩ | ⟨n, q⟩
    · cases q
      exact ⟨p, List.getElem?_set_self (by rw [h.len]; exact hl), hF, r⟩
    · rw [List.getElem?_set_ne n]
      exact h.ow j y q
  · rcases set_get e1 with ⟨rfl, q, hl⟩ | ⟨n1, q1⟩
    · rcases set_get e2 with ⟨rfl, q', hl'⟩ | ⟨n2, q2⟩
      · exact n rfl
      · rw [List.getElem?_set_self (by rw [h.len]; exact hl)] at e3
        cases e3
        rw [List.getElem?_set_ne n2] at e4
        exact hn k z q2 (Ne.symm n2) e4
    · rcases set_get e2 with ⟨rfl, q', hl'⟩ | ⟨n2, q2⟩
      · rw [List.getElem?_set_self (by rw [h.len]; exact hl')] at e4
        cases e4
        rw [List.getElem?_set_ne n1] at e3
        exact hn j y q1 (Ne.symm n1) e3
      · rw [List.getElem?_set_ne n1] at e3
        rw [List.getElem?_set_ne n2] at e4
        exact h.ap j k a y z n q1 q2 e3 e4
/-- an owned object is written -/
theorem RSF.write {i : Nat} {a : Addr} {o : HO} (h : RSF c F H σ env) (he : env[i]? = some (.ow x)) (hs : σ[i]? = some (some (V.ref a))) (r : OV c F (upd H a o) a y) : RSF c F (upd H a o) σ (env.set i (.ow y)) := by
  obtain ⟨a', h1, h2, h3⟩ := h.ow i x he
  rw [hs] at h1
  cases h1
  refine ⟨fun b u q => by rw [upd_ne (ne_of_none q h2)]; exact h.sub b u q, by rw [List.length_set, h.len], fun j z e => ?_, fun j z e => ?_, fun j k b z z' n e1 e2 e3 e4 => ?_⟩
  · rcases set_get e with ⟨rfl, q, hl⟩ | ⟨n, q⟩
    · cases q
    · exact h.fr j z q
  · rcases set_get e with ⟨rfl, q, hl⟩ | ⟨n, q⟩
    · cases q
      exact ⟨a, hs, h2, r⟩
    · obtain ⟨b, q1, q2, q3⟩ := h.ow j z q
      refine ⟨b, q1, q2, q3.move (Same.refl F) fun o' e' => ?_⟩
      have nb : b ≠ a := fun e2 => h.ap j i a z x (Ne.symm n) q he (e2 ▸ q1) hs
      rw [upd_ne nb]
      exact e'
  · have back : ∀ (m : Nat) w, (env.set i (.ow y))[m]? = some (.ow w) → ∃ w', env[m]? = some (.ow w') := fun m w e => by
      rcases set_get e with ⟨rfl, q, hl⟩ | ⟨n, q⟩
      · exact ⟨x, he⟩
      · exact ⟨w, q⟩
    obtain ⟨w1, q1⟩ := back j z e1
    obtain ⟨w2, q2⟩ := back k z' e2
    exact h.ap j k b w1 w2 n q1 q2 e3 e4
theorem RSF.no (h : RSF c F H σ env) (i : Nat) : RSF c F H σ (env.set i .no) := by
  refine ⟨h.sub, by rw [List.length_set, h.len], fun j y e => ?_, fun j y e => ?_, fun j k a y z n e1 e2 e3 e4 => ?_⟩
  · rcases set_get e with ⟨rfl, q, hl⟩ | ⟨n, q⟩
    · cases q
    · exact h.fr j y q
  · rcases set_get e with ⟨rfl, q, hl⟩ | ⟨n, q⟩
    · cases q
    · exact h.ow j y q
  · rcases set_get e1 with ⟨rfl, q, hl⟩ | ⟨n1, q1⟩
    · cases q
    rcases set_get e2 with ⟨rfl, q, hl⟩ | ⟨n2, q2⟩
    · cases q
    exact h.ap j k a y z n q1 q2 e3 e4
/-- an owned object is frozen -/
theorem RSF.freeze {i : Nat} (h : RSF c F H σ env) (he : env[i]? = some (.ow x)) : ∃ F', Same F F' ∧ RSF c F' H σ (env.set i (.fr x)) := by
  obtain ⟨a, h1, h2, h3⟩ := h.ow i x he
  obtain ⟨o, h4, h5, _⟩ := h3.there
  have sF : Same F (upd F a o) := sub_upd h2
  have gF : Same (upd F a o) H := upd_sub h.sub h4
  refine ⟨upd F a o, sF, gF, by rw [List.length_set, h.len], fun j y e => ?_, fun j y e => ?_, fun j k b y z n e1 e2 e3 e4 => ?_⟩
  · rcases set_get e with ⟨rfl, q, hl⟩ | ⟨n, q⟩
    · cases q
      exact ⟨_, h1, (h3.move (H' := upd F a o) (Same.refl F) (fun o' e' => by rw [h4] at e'; cases e'; exact upd_same)).rv sF⟩
    · obtain ⟨w, q1, q2⟩ := h.fr j y q
      exact ⟨w, q1, q2.mono sF⟩
  · rcases set_get e with ⟨rfl, q, hl⟩ | ⟨n, q⟩
    · cases q
    · obtain ⟨b, q1, q2, q3⟩ := h.ow j y q
      have nb : b ≠ a := fun e2 => h.ap j i a y x (Ne.symm n) q he (e2 ▸ q1) h1
      exact ⟨b, q1, by rw [upd_ne nb]; exact q2, q3.move sF fun _ e' => e'⟩
  · rcases set_get e1 with ⟨rfl, q, hl⟩ | ⟨n1, q1⟩
    · cases q
    rcases set_get e2 with ⟨rfl, q, hl⟩ | ⟨n2, q2⟩
    · cases q
    exact h.ap j k b y z n q1 q2 e3 e4
theorem RS.weak {H1 : Hp} (s : Same H0 H1) (h : RS c H1 σ H env) : RS c H0 σ H env := let ⟨F, a, b⟩ := h; ⟨F, s.trans a, b⟩
end

/-! ### judgements -/
structure NE where
  nx : Ev' → Prop
  bk : Ev' → Prop := fun _ => False
  ct : Ev' → Prop := fun _ => False
def NE.up (c : Ct) (H0 : Hp) (Q : VK) (N : NE) : Ends := ⟨fun σ H => ∃ env, RS c H0 σ H env ∧ N.nx env, Q, fun σ H => ∃ env, RS c H0 σ H env ∧ N.bk env, fun σ H => ∃ env, RS c H0 σ H env ∧ N.ct env⟩
def RetOk (c : Ct) (Rt : SV → Prop) (He : Hp) (Q : VK) : Prop := ∀ v H' x, Rt x → Same He H' → RN c He H' v x → Q v H'
def SS (c : Ct) (X : Cx) (Rt : SV → Prop) (sts : List Stmt) (env : Ev') (N : NE) : Prop := ∀ He H0 Q, Same He H0 → RetOk c Rt He Q → ∀ σ H, RS c H0 σ H env → WSs X sts (N.up c H0 Q) σ H
def S1 (c : Ct) (X : Cx) (Rt : SV → Prop) (st : Stmt) (env : Ev') (N : NE) : Prop := ∀ He H0 Q, Same He H0 → RetOk c Rt He Q → ∀ σ H, RS c H0 σ H env → WS X st (N.up c H0 Q) σ H
theorem SP.mono {X : Cx} {pins : List (Addr × Obj)} {D D' : Ends} {f : Flow} {s : Shared} (h : SP X pins D f s) (h1 : ∀ σ H, D.nx σ H → D'.nx σ H) (h2 : ∀ v H, D.rt v H → D'.rt v H) (h3 : ∀ σ H, D.bk σ H → D'.bk σ H) (h4 : ∀ σ H, D.ct σ H → D'.ct σ H) : SP X pins D' f s := by
  cases f with
  | next => obtain ⟨σ', H', I, q⟩ := h; exact ⟨σ', H', I, h1 _ _ q⟩
  | brk => obtain ⟨σ', H', I, q⟩ := h; exact ⟨σ', H', I, h3 _ _ q⟩
  | cont => obtain ⟨σ', H', I, q⟩ := h; exact ⟨σ', H', I, h4 _ _ q⟩
  | ret u => obtain ⟨v, σ', H', I, r, q⟩ := h; exact ⟨v, σ', H', I, r, h2 _ _ q⟩
theorem WSs.mono {X : Cx} {sts : List Stmt} {D D' : Ends} {σ : L2.St} {H : Hp} (h : WSs X sts D σ H) (h1 : ∀ σ H, D.nx σ H → D'.nx σ H) (h2 : ∀ v H, D.rt v H → D'.rt v H) (h3 : ∀ σ H, D.bk σ H → D'.bk σ H) (h4 : ∀ σ H, D.ct σ H → D'.ct σ H) : WSs X sts D' σ H :=
  fun pins s I => thn (h pins s I) fun _ _ q => SP.mono q h1 h2 h3 h4
section
variable {c : Ct} {X : Cx} {Rt : SV → Prop} {st : Stmt} {rest : List Stmt} {env : Ev'} {N : NE} {e a b : Expr} {x y : SV} {pos pos' : Pos} {M B C : Ev' → Prop}
theorem ss_nil (h : N.nx env) : SS c X Rt [] env N := fun _ _ _ _ _ σ H r => WSs.of pss_nil ⟨env, r, h⟩
theorem ss_cons (h : S1 c X Rt st env ⟨fun env' => SS c X Rt rest env' N, N.bk, N.ct⟩) : SS c X Rt (st :: rest) env N := fun He H0 Q s k σ H r =>
  WSs.of (pss_cons ps_w pss_w) (fun pins s' I => thn (h He H0 Q s k σ H r pins s' I) fun f s2 q => by
    refine SP.mono q (fun σ' H' z => ?_) (fun _ _ z => z) (fun _ _ z => z) fun _ _ z => z
    obtain ⟨env', r', z⟩ := z
    exact z He H0 Q s k σ' H' r')
/-- x = e, a new value -/
theorem s1_asg (i : Nat) {nm : Str} {pn : Pos} (h : EF c X env e x) (k : M (env.set i (.fr x))) (hN : X.N.Nodup) (hi : X.N[i]? = some nm := by rfl) (hx : Loc X.env.scope nm := by first | exact Or.inl rfl | exact Or.inr rfl)
    (hs : swapsWith e (some (.Name nm pn)) pos.line X.env = pure false := by rfl) (hf : X.fn nm = true ∨ X.env.scope.names.lookup nm = some .local := by first | exact .inl rfl | exact .inr rfl) : S1 c X Rt (.Assign [.Name nm pn] e pos) env ⟨M, B, C⟩ := fun He H0 Q s kq σ H r => by
  obtain ⟨F, f0, r⟩ := r
  exact WS.of (ps_set hN hi hx pe_w hs hf) (h σ H F r.fz _ fun v H' F' s1 s2 s3 s4 rv => ⟨_, ⟨F', f0.trans s2, (r.step s1 s2 s3 s4).setFr i rv⟩, k⟩)
/-- the union of a frozen part and a new one -/
theorem union_new2 {F H H' G : Hp} (f : Same F H) (s : Same H H') (n : NewPart H H' G) : ∃ F', Same F F' ∧ Same G F' ∧ Same F' H' ∧ NoOwn F H F' ∧ ∀ a, F a = none → G a = none → F' a = none := by
  refine ⟨fun a => match F a with | some o => some o | none => G a, fun a o e => by simp only [e], fun a o e => ?_, fun a o e => ?_, fun a o e h t => ?_, fun a h1 h2 => by simp only [h1, h2]⟩
  · cases q : F a with
    | some u =>
      simp only [q]
      have e1 := s _ _ (f a u q)
      have e2 := n.sub a o e
      rw [e1] at e2
      exact e2
    | none => simp only [q]; exact e
  · cases q : F a with
    | some u => simp only [q] at e; cases e; exact s _ _ (f a _ q)
    | none => simp only [q] at e; exact n.sub a o e
  · simp only [e]
    cases q : G a with
    | none => rfl
    | some u =>
      rcases n.new a u q with z | z
      · rw [z] at h; cases h
      · have e1 := s _ _ h
        have e2 := n.sub a u q
        rw [e1] at e2
        cases e2
        rw [z] at t; cases t
theorem RSF.own {F H H' : Hp} {σ : L2.St} {v : V} (r : RSF c F H σ env) (i : Nat) (s : Same H H') (h : RM c x H H' v) : ∃ F', Same F F' ∧ RSF c F' H' (σ.set i (some v)) (env.set i (.ow x)) := by
  obtain ⟨G, p, n, rfl, hp, gp, ov⟩ := h
  obtain ⟨F', f1, f2, f3, f4, f5⟩ := union_new2 r.sub s n
  have fp : F p = none := by
    cases q : F p with
    | none => rfl
    | some o => rw [r.sub p o q] at hp; cases hp
  refine ⟨F', f1, (r.step s f1 f3 f4).setOw i (f5 p fp gp) (ov.move f2 fun _ e => e) fun j y ey nj ej => ?_⟩
  obtain ⟨a, h1, h2, h3⟩ := r.ow j y ey
  rw [ej] at h1
  cases h1
  obtain ⟨o, h4, _⟩ := h3.there
  rw [hp] at h4
  cases h4
/-- x = e, a new object that is changed later -/
theorem s1_own (i : Nat) {nm : Str} {pn : Pos} (h : EM c X env e x) (k : M (env.set i (.ow x))) (hN : X.N.Nodup) (hi : X.N[i]? = some nm := by rfl) (hx : Loc X.env.scope nm := by first | exact Or.inl rfl | exact Or.inr rfl)
    (hs : swapsWith e (some (.Name nm pn)) pos.line X.env = pure false := by rfl) (hf : X.fn nm = true ∨ X.env.scope.names.lookup nm = some .local := by first | exact .inl rfl | exact .inr rfl) : S1 c X Rt (.Assign [.Name nm pn] e pos) env ⟨M, B, C⟩ := fun He H0 Q s kq σ H r => by
  obtain ⟨F, f0, r⟩ := r
  exact WS.of (ps_set hN hi hx pe_w hs hf) (h σ H r.rd _ fun v H' s1 rm => by
    obtain ⟨F', f1, r'⟩ := r.own i s1 rm
    exact ⟨_, ⟨F', f0.trans f1, r'⟩, k⟩)
/-- x = [..], x a local: the comprehension stored within its block -/
theorem s1_lc (i : Nat) {nm : Str} {pn cpos : Pos} {tg iter elt : Expr} {ifs : List Expr} {scope : Scope} {own : List (Str × Nat)} {ds : List PyData} (L : LcOk c X env tg iter elt ifs scope own ds) (k : M (env.set i (.ow (.d (.list ds))))) (hN : X.N.Nodup) (hi : X.N[i]? = some nm := by rfl)
    (hyl : X.env.scope.names.lookup nm = some .local := by rfl) (hsw : swapsWith (.ListComp elt [⟨tg, iter, ifs, 0⟩] scope cpos) (some (.Name nm pn)) pos.line X.env = pure true := by exact sw_true rfl rfl rfl (by decide +kernel)) (hc : X.calm = true := by rfl)
    (hs : ∀ x, foldedSetIterable iter X.env x = pure x := by intro _; rfl) : S1 c X Rt (.Assign [.Name nm pn] (.ListComp elt [⟨tg, iter, ifs, 0⟩] scope cpos) pos) env ⟨M, B, C⟩ := fun He H0 Q s kq σ H r => by
  obtain ⟨F, f0, r⟩ := r
  obtain ⟨ok, g, wi, tt, te, h1, h2, h3, h4, h5⟩ := L
  exact WS.of (ps_setLc (i := i) hc hN hi hyl hsw h1 ok h2 h3 h4 hs) (h5 σ H r.rd _ fun v H' s1 rm => by
    obtain ⟨F', f1, r'⟩ := r.own i s1 rm
    exact ⟨_, ⟨F', f0.trans f1, r'⟩, k⟩)
theorem RetOk.go {He H0 F H H' : Hp} {σ : L2.St} {Q : VK} {v : V} (k : RetOk c Rt He Q) (s : Same He H0) (f0 : Same H0 F) (f : Same F H) (s1 : Same H H') (hx : Rt x) (rn : RN c H H' v x) : Q v H' :=
  k v H' x hx (((s.trans f0).trans f).trans s1) (RN.mono ((s.trans f0).trans f) rn)
theorem s1_ret (h : EN c X env e x) (hx : Rt x) : S1 c X Rt (.Return (some e) pos) env N := fun He H0 Q s k σ H r => by
  obtain ⟨F, f0, r⟩ := r
  exact WS.of (ps_ret pe_w) (h σ H r.rd _ fun v H' s1 rn => k.go (σ := σ) s f0 r.sub s1 hx rn)
theorem s1_retN (hx : Rt (.d .none)) : S1 c X Rt (.Return none pos) env N := fun He H0 Q s k σ H r => by
  obtain ⟨F, f0, r⟩ := r
  exact WS.of ps_retN (k.go (σ := σ) s f0 r.sub (Same.refl H) hx (RN.imm (by simp [imm]) .non))
theorem KVt.tups {H : Hp} : ∀ {ws kvs}, (∀ p ∈ kvs, imm p.2 = true) → KVt c H ws kvs → KVt c (tupsOf H) ws kvs
  | _, _, _, .nil => .nil
  | _, _, h, .cons h1 t => .cons ⟨h1.1, Dq.tups _ _ (h _ List.mem_cons_self) h1.2⟩ (KVt.tups (fun p hp => h p (List.mem_cons_of_mem _ hp)) t)
/-- the parts of an owned value are plain -/
def immS : SV → Prop
  | .d (.list ds) => immAll ds = true
  | .dT kvs => ∀ p ∈ kvs, imm p.2 = true
  | _ => False
/-- return of an owned slot -/
theorem s1_retO (i : Nat) {nm : Str} (he : env[i]? = some (.ow x) := by rfl) (hx : Rt x) (hm : immS x) (hN : X.N[i]? = some nm := by rfl)
    (hv : Vis X.env.scope nm := by first | exact Or.inl rfl | exact Or.inr (Or.inl rfl) | exact Or.inr (Or.inr rfl)) (hd : (nm == ("__debug__" : Str)) = false := by decide) (hcd : (nm == ("__classdict__" : Str)) = false := by decide) : S1 c X Rt (.Return (some (.Name nm pos')) pos) env N := fun He H0 Q s k σ H r => by
  obtain ⟨F, f0, r⟩ := r
  obtain ⟨a, h1, h2, h3⟩ := r.ow i x he
  refine WS.of (ps_ret (pe_var (i := i) hN hv hd hcd)) ⟨_, h1, k _ H x hx ((s.trans f0).trans r.sub) ?_⟩
  have ha : He a = none := by
    cases q : He a with
    | none => rfl
    | some o => rw [(s.trans f0) a o q] at h2; cases h2
  refine RM.rn ⟨tupsOf H, a, ⟨tupsOf_sub H, fun b o g => .inr (tupsOf_at g).2⟩, rfl, ha, ?_, ?_⟩
  · obtain ⟨o, h4, h5, _⟩ := h3.there
    cases q : tupsOf H a with
    | none => rfl
    | some u =>
      obtain ⟨q1, q2⟩ := tupsOf_at q
      rw [h4] at q1
      cases q1
      rw [h5] at q2; cases q2
  · cases x with
    | d d =>
      cases d with
      | list ds =>
        obtain ⟨xs, h4, h5⟩ := h3
        exact ⟨xs, h4, DqAll.tups _ _ hm (DqAll.mono r.sub _ _ h5)⟩
      | _ => exact hm.elim
    | dT kvs =>
      obtain ⟨ws, h4, h5⟩ := h3
      exact ⟨ws, h4, KVt.tups hm (h5.mono r.sub)⟩
    | _ => exact hm.elim
theorem s1_if {k : Bool} {bt bf : List Stmt} (h : ET c X env e k) (h1 : k = true → SS c X Rt bt env N) (h2 : k = false → SS c X Rt bf env N) : S1 c X Rt (.If e bt bf pos) env N := fun He H0 Q s kq σ H r => by
  obtain ⟨F, f0, r⟩ := r
  refine WS.of (ps_if pt_w pss_w pss_w) (h σ H r.rd _ fun H' s1 => ?_)
  have f3 : Same F H' := r.sub.trans s1
  have r' : RS c H0 σ H' env := ⟨F, f0, r.step s1 (Same.refl F) f3 NoOwn.refl⟩
  cases k with
  | true => exact iteT (h1 rfl He H0 Q s kq σ H' r')
  | false => exact iteF (h2 rfl He H0 Q s kq σ H' r')
/-- an expression for nothing -/
theorem s1_expr (h : EE c X env e x) (k : M env) (hs : swapsWith e none pos.line X.env = pure false := by rfl) : S1 c X Rt (.Expr e pos) env ⟨M, B, C⟩ := fun He H0 Q s kq σ H r => by
  obtain ⟨F, f0, r⟩ := r
  exact WS.of (ps_expr pe_w hs) (h σ H r.rd _ fun v H' s1 _ => ⟨env, ⟨F, f0, r.step s1 (Same.refl F) (r.sub.trans s1) NoOwn.refl⟩, k⟩)
/-- xs.append(e) -/
theorem s1_app (i : Nat) {nm : Str} {pn pa pc : Pos} {ds : List PyData} {d : PyData} (he : env[i]? = some (.ow (.d (.list ds))) := by rfl) (h : EN c X env e (.d d)) (hz : ds.length < 100000) (k : M (env.set i (.ow (.d (.list (ds ++ [d]))))))
    (hN : X.N[i]? = some nm := by rfl) (hv : Vis X.env.scope nm := by first | exact Or.inl rfl | exact Or.inr (Or.inl rfl) | exact Or.inr (Or.inr rfl)) (hd : (nm == ("__debug__" : Str)) = false := by decide) (hcd : (nm == ("__classdict__" : Str)) = false := by decide)
    (hs : swapsWith (.Call (.Attribute (.Name nm pn) "append" pa) [e] [] pc) none pos.line X.env = pure false := by rfl)
    (hpe : ∀ te, PE X e te → PE X (.Call (.Attribute (.Name nm pn) "append" pa) [e] [] pc) (tBM X.K "list" rAppend (tVar i) (tCons te tNil)) := by
      intro te hte; exact pe_bm PySem.F.plainAttrs_list PySem.F.slot_list_append PySem.F.type_list_append mt_append (pv _) (pa_cons hte pa_nil)) :
    S1 c X Rt (.Expr (.Call (.Attribute (.Name nm pn) "append" pa) [e] [] pc) pos) env ⟨M, B, C⟩ := fun He H0 Q s kq σ H r => by
  obtain ⟨F, f0, r⟩ := r
  obtain ⟨a, h1, h2, xs, h3, h4⟩ := r.ow i _ he
  refine WS.of (ps_expr (hpe _ pe_w) hs) ⟨_, h1, Or.inl ⟨rfl, _, SqL.of h3⟩, h σ H r.rd _ fun v H' s1 rn => ?_⟩
  obtain ⟨G, n, rv⟩ := rn
  obtain ⟨F', f1, f2, f3, f4⟩ := union_new r.sub s1 n
  have r' := r.step s1 f1 f3 f4
  refine ⟨a, xs, v, rfl, rfl, s1 _ _ h3, by rw [h4.len]; exact Nat.lt_of_lt_of_le hz (by decide), _, ⟨F', f0.trans f1, r'.write (y := .d (.list (ds ++ [d]))) he h1 ⟨_, upd_same, ?_⟩⟩, k⟩
  have app : ∀ {vs : List V} {ds : List PyData} {v : V} {d : PyData}, DqAll c.K F' vs ds → Dq c.K F' v d → DqAll c.K F' (vs ++ [v]) (ds ++ [d]) := by
    intro vs
    induction vs with
    | nil => intro ds v d h h'; cases h; exact .cons h' .nil
    | cons w ws ih =>
      intro ds v d h h'
      cases h with
      | cons h1 h2 => exact .cons h1 (ih h2 h')
  exact app (DqAll.mono f1 _ _ h4) (Dq.mono f2 _ _ rv)
/-- a for loop -/
theorem s1_for {β : Type} {tg iter : Expr} {body : List Stmt} {g : TG} {js : List Nat} {zs : List β} {enc : β → List PyData} (S : Src c X env tg iter g js zs enc) (hg : PG X tg g) (Pv : Nat → Ev' → Prop) (h0 : Pv 0 env)
    (hs : ∀ i z env', zs[i]? = some z → Pv i env' → SS c X Rt body (setE env' js (enc z)) ⟨Pv (i + 1), M, Pv (i + 1)⟩) (hd : ∀ env', Pv zs.length env' → M env') (hc : X.calm = true := by rfl)
    (hfs : ∀ x, foldedSetIterable iter X.env x = pure x := by intro _; rfl) (hp : PassesOwn (model X.prog X.w) X.A X.env X.xe := by exact PassesOwn.never) : S1 c X Rt (.For tg iter body [] pos) env ⟨M, B, C⟩ := fun He H0 Q s kq σ H r => by
  obtain ⟨F, f0, r⟩ := r
  obtain ⟨wi, hpi, hwi⟩ := S
  refine WS.of (ps_for hp hc hpi hg pss_w hfs) (hwi σ H F r.fz _ fun J H1 F1 s1 s2 s3 s4 fe => ?_)
  have w : Walk J zs.length (fun H2 => Same F1 H2) (fun i H2 x H' => J.yld i H2 x H') :=
    ⟨fun i H2 hi s => fe.go i zs[i] H2 (by simp [hi]) s, fun H2 s => fe.stop H2 s, fun _ _ _ _ _ _ y => y⟩
  refine for_it (g := g) (tb := WSs X body) (D := NE.up c H0 Q ⟨M, B, C⟩) (σ := σ) (H := H1) w (fun i σ' H' => ∃ env', RS c F1 σ' H' env' ∧ Pv i env') ⟨env, ⟨F1, Same.refl F1, r.step s1 s2 s3 s4⟩, h0⟩
    (fun i σ' H' _ p => ?_) (fun i x σ' H' H'' hi p y => ?_) (fun σ' H' p => ?_)
  · obtain ⟨env', ⟨F', f1, r'⟩, _⟩ := p
    exact f1.trans r'.sub
  · obtain ⟨env', ⟨F', f1, r'⟩, pv⟩ := p
    have hz : zs[i]? = some zs[i] := by simp [hi]
    have sF : Same F1 H' := f1.trans r'.sub
    have gr := fe.grow i zs[i] H' x H'' hz sF y
    refine fe.yld i zs[i] H' x H'' hz sF y _ _ fun vs dv vl => ?_
    have r1 := r'.step gr (Same.refl F') (r'.sub.trans gr) NoOwn.refl
    have r2 := r1.setItems (js := js) (DqAll.mono f1 _ _ dv)
    have hb := hs i zs[i] env' hz pv He F1 Q ((s.trans f0).trans s2) kq _ H'' ⟨F', f1, r2⟩
    refine WSs.mono hb (fun _ _ z => z) (fun _ _ z => z) (fun σ3 H3 z => ?_) fun _ _ z => z
    obtain ⟨env3, r3, z⟩ := z
    exact ⟨env3, r3.weak (f0.trans s2), z⟩
  · obtain ⟨env', r', pv⟩ := p
    exact ⟨env', r'.weak (f0.trans s2), hd _ pv⟩
/-- while -/
theorem s1_while {body : List Stmt} (Pv : Nat → Ev' → Prop) (m0 : Nat) (h0 : Pv m0 env)
    (hs : ∀ m env', Pv m env' → ∃ k, ET c X env' e k ∧ (k = true → SS c X Rt body env' ⟨fun e' => ∃ m', m' < m ∧ Pv m' e', M, fun e' => ∃ m', m' < m ∧ Pv m' e'⟩) ∧ (k = false → M env'))
    (hp : PassesOwn (model X.prog X.w) X.A X.env X.xe := by exact PassesOwn.never) : S1 c X Rt (.While e body [] pos) env ⟨M, B, C⟩ := fun He H0 Q s kq σ H r => by
  refine WS.of (ps_while hp pt_w pss_w) ⟨fun m σ' H' => ∃ env', RS c H0 σ' H' env' ∧ Pv m env', ⟨m0, env, r, h0⟩, fun m σ1 H1 p => ?_⟩
  obtain ⟨env', ⟨F, f0, r'⟩, pv⟩ := p
  obtain ⟨k, h1, h2, h3⟩ := hs m env' pv
  refine h1 σ1 H1 r'.rd _ fun H2 s2 => ?_
  have r2 : RS c H0 σ1 H2 env' := ⟨F, f0, r'.step s2 (Same.refl F) (r'.sub.trans s2) NoOwn.refl⟩
  cases k with
  | true =>
    refine iteT ⟨fun σ' H' => ∃ env2, RS c H0 σ' H' env2 ∧ ∃ m', m' < m ∧ Pv m' env2, fun σ' H' z => ?_, h2 rfl He H0 Q s kq σ1 H2 r2⟩
    obtain ⟨env2, r3, m', hm, z⟩ := z
    exact ⟨m', hm, env2, r3, z⟩
  | false => exact iteF ⟨env', r2, h3 rfl⟩
end
end K33

set_option maxHeartbeats 4000000
/-! K33h: defs of the text. -/
namespace K33
open PySem PySem.Spec PyProof.Rows L2

def top (i : Nat) : Stmt := PySem.Challenge.pw_kaleidorooms_k33_whole_lots_of_rooms.main.body.getD i (.Pass ⟨0, 0, 0, 0⟩)

/-- the env at a def's entry -/
def env0 (n : Nat) (xs : List SV) : Ev' := xs.map .fr ++ List.replicate (n - xs.length) .no
section
variable {c : Ct} {P : Program} {w : World} {mg : Str → Option Value} {base : Heap}
theorem rs_start {N : List Str} {vs : List V} {xs : List SV} {H : Hp} (h : RVs c H vs xs) (hl : xs.length ≤ N.length) : RS c H (L2.start N vs) H (env0 N.length xs) := by
  have e1 : vs.length = xs.length := Paired.length h
  refine ⟨H, Same.refl H, Same.refl H, ?_, fun i x e => ?_, fun i x e => ?_, fun i j a x y n e1 => ?_⟩
  · unfold L2.start env0
    rw [List.length_append, List.length_append, List.length_map, List.length_map, List.length_replicate, List.length_replicate, e1]
  · unfold env0 at e
    by_cases hi : i < xs.length
    · rw [List.getElem?_append_left (by rw [List.length_map]; exact hi), List.getElem?_map] at e
      cases q : xs[i]? with
      | none => rw [q] at e; cases e
      | some y =>
        rw [q] at e
        cases e
        have : ∃ v, vs[i]? = some v ∧ RV c H v x := by
          clear e1 hl hi
          induction h generalizing i with
          | nil => simp at q
          | cons h1 _ ih =>
            cases i with
            | zero => cases (show some _ = some _ from q); exact ⟨_, rfl, h1⟩
            | succ i =>
              obtain ⟨v, a, b⟩ := ih i (by simpa using q)
              exact ⟨v, by simpa using a, b⟩
        obtain ⟨v, hv, r⟩ := this
        refine ⟨v, ?_, r⟩
        unfold L2.start
        rw [List.getElem?_append_left (by rw [List.length_map, e1]; exact hi), List.getElem?_map, hv]
        rfl
    · rw [List.getElem?_append_right (by rw [List.length_map]; omega), List.getElem?_replicate] at e
      split at e <;> cases e
  · unfold env0 at e
    by_cases hi : i < xs.length
    · rw [List.getElem?_append_left (by rw [List.length_map]; exact hi), List.getElem?_map] at e
      cases q : xs[i]? with
      | none => rw [q] at e; cases e
      | some y => rw [q] at e; cases e
    · rw [List.getElem?_append_right (by rw [List.length_map]; omega), List.getElem?_replicate] at e
      split at e <;> cases e
  · unfold env0 at e1
    by_cases hi : i < xs.length
    · rw [List.getElem?_append_left (by rw [List.length_map]; exact hi), List.getElem?_map] at e1
      cases q : xs[i]? with
      | none => rw [q] at e1; cases e1
      | some y => rw [q] at e1; cases e1
    · rw [List.getElem?_append_right (by rw [List.length_map]; omega), List.getElem?_replicate] at e1
      split at e1 <;> cases e1
/-- what the top says of a def -/
structure Df (c : Ct) (mg : Str → Option Value) (nm : Str) (st : Stmt) (ps : List Str) (f : Addr) (fd : FuncData) : Prop where
  fn : Fun c.K nm nm st f fd
  bd : Binds c.K fd ps []
  at_ : mg nm = some (.ref f)
/-- the context of a def's body -/
abbrev bx (c : Ct) (P : Program) (w : World) (mg : Str → Option Value) (base : Heap) (N : List Str) (qual : Str) (st : Stmt) (f : Addr) (cdv : Value) (A : Around) (outer : List Env) (s : Shared) (H : Hp) (E : XK) : Cx :=
  (cxOf CX0 P w c.K mg base N qual (defScope st) f cdv A outer s H E).nox
theorem fn_mk {nm qual : Str} {st : Stmt} {N ps : List Str} {f : Addr} {fd : FuncData} {k : Nat} {S : Sc} (Fn : Fun c.K nm qual st f fd) (Sc : FnScope N ps (defScope st)) (len : ∀ xs P, S xs P → xs.length = ps.length)
    (body : ∀ cdv A outer s H E, Room k (A.deeper (envOfC qual (defScope st) s.heap.objs.size f cdv)) → ∀ xs R, S xs R → SS c (bx c P w mg base N qual st f cdv A outer s H E) R (defBody st) (env0 N.length xs) ⟨fun _ => R (.d .none), fun _ => False, fun _ => False⟩) :
    FnOk P w c.K mg base CX0 (k + 1) f fd ps (spOf c S) := by
  refine Fn.ok Sc (fun vs H Q E h => ?_) (fun cdv A outer s H vs Q E hr h => ?_)
  · obtain ⟨xs, R, hS, rv, _⟩ := h
    exact (Paired.length rv).trans (len xs R hS)
  · obtain ⟨xs, R, hS, rv, k⟩ := h
    have hp : ps.length ≤ N.length := by
      have := congrArg List.length Sc.pre
      rw [List.length_take] at this
      omega
    refine ⟨_, pss_w, ?_⟩
    have hb := body cdv A outer s H E hr xs R hS H H Q (Same.refl H) (fun v H' x hx s rn => k v H' x hx s rn) (L2.start N vs) H (rs_start rv (by rw [len xs R hS]; exact hp))
    refine WSs.mono hb (fun σ H' z => ?_) (fun _ _ z => z) (fun _ _ ⟨_, _, z⟩ => z.elim) (fun _ _ ⟨_, _, z⟩ => z.elim)
    obtain ⟨env, ⟨F, f0, r⟩, z⟩ := z
    exact k .non H' (.d .none) z (f0.trans r.sub) (RN.imm (by simp [imm]) .non)
theorem own_mk {nm : Str} {st : Stmt} {N ps : List Str} {f : Addr} {fd : FuncData} {k : Nat} {S : Sc} (D : Df c mg nm st ps f fd) (Sc : FnScope N ps (defScope st)) (len : ∀ xs P, S xs P → xs.length = ps.length)
    (body : ∀ cdv A outer s H E, Room k (A.deeper (envOfC nm (defScope st) s.heap.objs.size f cdv)) → ∀ xs R, S xs R → SS c (bx c P w mg base N nm st f cdv A outer s H E) R (defBody st) (env0 N.length xs) ⟨fun _ => R (.d .none), fun _ => False, fun _ => False⟩) :
    Own c P w mg base nm (k + 1) S := ⟨f, fd, ps, fn_mk D.fn Sc len body, D.at_, D.fn.kp, D.bd⟩
end
theorem imm_int {ns : List Int} {x : PyData} (h : x ∈ ns.map PyData.int) : imm x = true := by
  obtain ⟨n, _, rfl⟩ := List.mem_map.mp h
  rfl
theorem pg1 {X : Cx} {scope : Scope} (i : Nat) {nm : Str} {pos : Pos} (hN : X.N.Nodup) (hi : X.N[i]? = some nm := by rfl)
    (hx : ∀ (s : Shared) (H : Hp) (C : Addr) (cl : List (Str × Addr)) (fp : List Addr), Loc (X.blk s H scope (compEnvC scope cl C X.env) fp).env.scope nm := by intros; first | exact Or.inl rfl | exact Or.inr rfl)
    (hf : ∀ (s : Shared) (H : Hp) (C : Addr) (cl : List (Str × Addr)) (fp : List Addr), (X.blk s H scope (compEnvC scope cl C X.env) fp).fn nm = true ∨ (X.blk s H scope (compEnvC scope cl C X.env) fp).env.scope.names.lookup nm = some .local := by intros; first | exact Or.inr rfl | exact Or.inl rfl) :
    InBlk X scope fun Y => PG Y (.Name nm pos) (gName i) := fun s H C cl fp => pg_name hN hi (hx s H C cl fp) (hf s H C cl fp)
theorem pg2 {X : Cx} {scope : Scope} (i j : Nat) {n1 n2 : Str} {p1 p2 pos : Pos} {k} (hN : X.N.Nodup) (hi : X.N[i]? = some n1 := by rfl) (hj : X.N[j]? = some n2 := by rfl) (hc : X.calm = true := by rfl)
    (hx : ∀ (s : Shared) (H : Hp) (C : Addr) (cl : List (Str × Addr)) (fp : List Addr), Loc (X.blk s H scope (compEnvC scope cl C X.env) fp).env.scope n1 := by intros; first | exact Or.inl rfl | exact Or.inr rfl)
    (hf : ∀ (s : Shared) (H : Hp) (C : Addr) (cl : List (Str × Addr)) (fp : List Addr), (X.blk s H scope (compEnvC scope cl C X.env) fp).fn n1 = true ∨ (X.blk s H scope (compEnvC scope cl C X.env) fp).env.scope.names.lookup n1 = some .local := by intros; first | exact Or.inr rfl | exact Or.inl rfl)
    (hx' : ∀ (s : Shared) (H : Hp) (C : Addr) (cl : List (Str × Addr)) (fp : List Addr), Loc (X.blk s H scope (compEnvC scope cl C X.env) fp).env.scope n2 := by intros; first | exact Or.inl rfl | exact Or.inr rfl)
    (hf' : ∀ (s : Shared) (H : Hp) (C : Addr) (cl : List (Str × Addr)) (fp : List Addr), (X.blk s H scope (compEnvC scope cl C X.env) fp).fn n2 = true ∨ (X.blk s H scope (compEnvC scope cl C X.env) fp).env.scope.names.lookup n2 = some .local := by intros; first | exact Or.inr rfl | exact Or.inl rfl)
    (hpg : ∀ (Y : Cx), Y.calm = true → ∀ t u, PG Y (.Name n1 p1) t → PG Y (.Name n2 p2) u → PG Y (.Tuple [.Name n1 p1, .Name n2 p2] k pos) (gTup Y.K 2 (gCons t (gCons u gNil))) := by
      intro Y h t u ht hu; exact pg_tup h (pgs_cons ht (pgs_cons hu pgs_nil))) :
    InBlk X scope fun Y => PG Y (.Tuple [.Name n1 p1, .Name n2 p2] k pos) (g2 X.K i j) := fun s H C cl fp => hpg (X.blk s H scope (compEnvC scope cl C X.env) fp) hc _ _ (pg_name (X := X.blk s H scope (compEnvC scope cl C X.env) fp) hN hi (hx s H C cl fp) (hf s H C cl fp)) (pg_name (X := X.blk s H scope (compEnvC scope cl C X.env) fp) hN hj (hx' s H C cl fp) (hf' s H C cl fp))
theorem filt_true {α : Type} (xs : List α) : xs.filter (fun _ => true) = xs := by simp
theorem hu65 {k : Nat} {A : Around} (r : Room k A) : A.units + 65 < cLine := by have := r.un; omega
/-- the built-in names that the text leaves alone -/
structure Bl (mg : Str → Option Value) : Prop where
  len : mg "len" = none
  isinstance : mg "isinstance" = none
  all : mg "all" = none
  tuple : mg "tuple" = none
  sorted : mg "sorted" = none
  range : mg "range" = none
  enumerate : mg "enumerate" = none
  zip : mg "zip" = none
  sum : mg "sum" = none
  max : mg "max" = none
  min : mg "min" = none
  list : mg "list" = none
  int : mg "int" = none
  dict : mg "dict" = none
  bool : mg "bool" = none
/-- the class Hall -/
structure Hc (K : PySem.W.Frag) (mg : Str → Option Value) (C : Addr) : Prop where
  cl : Cls K C
  told : NoAttr K C "told"
  ins : C8.InsC K C
  mgC : mg "Hall" = some (.ref C)

/-! ### the mirror of turned -/
def rowAt (P : List (List Int)) (i : Nat) : List Int := P.getD i []
def dot (xs ys : List Int) : Int := ((xs.zip ys).map fun z => z.1 * z.2).sum
def turnedM (P : List (List Int)) (a : List Int) (i : Nat) : List Int := a.take i ++ [dot (rowAt P i) a - a.getD i 0] ++ a.drop (i + 1)
def sTurned : Sc := fun xs R => ∃ P a i, xs = [.hall P, .d (iT a), .d (.int (i : Nat))] ∧ hallOk P = true ∧ i < P.length ∧ a.length = P.length ∧ R = fun y => y = .d (iT (turnedM P a i))
abbrev stTurned : Stmt := top 32
abbrev nTurned : List Str := ["hall", "arrow", "lamp", "other", "push", "number"]
theorem scTurned : FnScope nTurned ["hall", "arrow", "lamp"] (defScope stTurned) := ⟨rfl, rfl, rfl, by decide +kernel, rfl, by decide +kernel, by decide +kernel⟩
theorem hallOk_row {P : List (List Int)} (h : hallOk P = true) {i : Nat} (hi : i < P.length) : P[i]? = some (rowAt P i) ∧ (rowAt P i).length = P.length ∧ ∀ x ∈ rowAt P i, 0 ≤ x ∧ x ≤ 4 := by
  have e : P[i]? = some (rowAt P i) := by
    unfold rowAt
    rw [List.getD_eq_getElem?_getD]
    simp [hi]
  refine ⟨e, ?_⟩
  unfold hallOk at h
  simp only [Bool.and_eq_true, List.all_eq_true, decide_eq_true_eq] at h
  exact h.1.1.2 _ (List.mem_of_getElem? e)
theorem hallOk_len {P : List (List Int)} (h : hallOk P = true) : 1 ≤ P.length ∧ P.length ≤ 8 := by
  unfold hallOk at h
  simp only [Bool.and_eq_true, decide_eq_true_eq] at h
  exact ⟨h.1.1.1.1, h.1.1.1.2⟩
section
variable {c : Ct} {P : Program} {w : World} {mg : Str → Option Value} {base : Heap}
theorem own_turned {f : Addr} {fd : FuncData} (D : Df c mg "turned" stTurned ["hall", "arrow", "lamp"] f fd) (B : Bl mg) (T : Hc c.K mg c.C) : Own c P w mg base "turned" 1 sTurned := by
  refine own_mk D scTurned (fun xs R h => ?_) (fun cdv A outer s H E hr xs R h => ?_)
  · obtain ⟨P, a, i, rfl, _⟩ := h
    rfl
  · obtain ⟨Pu, a, i, rfl, ok, hi, hl, rfl⟩ := h
    obtain ⟨r1, r2, r3⟩ := hallOk_row ok hi
    have nd := scTurned.nd
    have e1 : atI (tups Pu) (i : Int) = some (iT (rowAt Pu i)) := atI_nat (by unfold tups; rw [List.getElem?_map, r1]; rfl)
    have e2 : atI (a.map PyData.int) (i : Int) = some (.int (a.getD i 0)) := atI_nat (by rw [List.getElem?_map, List.getD_eq_getElem?_getD]; simp [hl, hi])
    refine ss_cons (s1_asg (x := .d (.int (dot (rowAt Pu i) a - a.getD i 0))) 3 (EN.ef (EE.en (ee_bin og_sub (eg_callB (cg_sum (ns := ((rowAt Pu i).zip a).map fun z => z.1 * z.2)) B.sum (ea_cons (EE.is (EM.ee (em_lc
      (lc_ok (own := [("push", 4), ("number", 5)]) (fun _ => true) (fun z => .int (z.1 * z.2)) (src_zip 4 5 true true (rowAt Pu i) a .int .int B.zip (EN.ef (EE.en (ee_ixT (ee_told (ee_name 0) T.cl T.told) (ee_name 2) e1) (imm_iT _))) (ef_name 1))
        ?ok (pg2 4 5 nd) (by decide) (fun z hz s H C cl fp => ets_nil) (fun z hz _ s H C cl fp => EE.en (ee_bin (og_mul ?mul) (ee_name 4) (ee_name 5)) rfl) ?len) nd)) ?lc) ea_nil) back_e) (ee_ixT (ee_name 1) (ee_name 2) e2)) rfl)) ?_ nd)
    case ok => exact blkOk_by (N := nTurned) (sc := defScope stTurned) (by decide +kernel)
    case mul =>
      obtain ⟨z1, _⟩ := List.of_mem_zip hz
      have := r3 _ z1
      exact .inl ⟨by omega, by omega⟩
    case len => have := hallOk_len ok; rw [List.length_zip]; omega
    case lc => rw [filt_true]; simp [List.map_map, Function.comp_def]
    refine ss_cons (s1_ret (EE.en (ee_tup (ds := (a.map .int).take i ++ (.int (dot (rowAt Pu i) a - a.getD i 0) :: ((a.map .int).drop (i + 1) ++ [])))
      (ea_star (t := true) (ds := (a.map .int).take i) (fs := .int (dot (rowAt Pu i) a - a.getD i 0) :: ((a.map .int).drop (i + 1) ++ [])) (EE.is (ee_slT (ee_name 1) eo_none (eo_some (ee_name 2))) ?s1)
      (ea_cons (ee_name 3) (ea_star (t := true) (fs := []) (ds := (a.map .int).drop (i + 1)) (EE.is (ee_slT (ee_name 1) (eo_some (ee_bin og_add (ee_name 2) ee_int)) eo_none) ?s2) ea_nil))) ?sz) ?im) ?fin)
    case s1 => rw [cut_take]; rfl
    case s2 => rw [show ((i : Int) + 1) = ((i + 1 : Nat) : Int) by omega, cut_drop]; rfl
    case sz => have := hallOk_len ok; simp only [List.length_append, List.length_take, List.length_map, List.length_cons, List.length_drop, List.length_nil]; omega
    case im =>
      refine immAll_mem fun x hx => ?_
      simp only [List.mem_append, List.mem_cons, List.not_mem_nil, or_false] at hx
      rcases hx with h | rfl | h
      · exact imm_int (List.mem_of_mem_take h)
      · rfl
      · exact imm_int (List.mem_of_mem_drop h)
    case fin => simp [turnedM, iT]
end
end K33

set_option maxHeartbeats 4000000
/-! K33i: isinstance, lists and tuples joined and repeated, sorted, len of a hall. -/
namespace K33
open PySem PySem.Spec PyProof.Rows L2

section
variable {c : Ct} {X : Cx} {env : Ev'} {e a b : Expr} {es : List Expr} {x y z : SV} {xs : List SV} {R : Rel} {pos p : Pos}

/-! ### classes as values, isinstance -/
theorem ee_ty {n : String} {nm : Str} (hm : X.mg nm = none) (hv : bootBuiltins nm = some (.type n) := by decide +kernel) (hg : Gl X nm := by rfl) (hn : nm ≠ "__name__" := by decide) (hd : (nm == ("__debug__" : Str)) = false := by decide) : EE c X env (.Name nm pos) (.ty n) :=
  ee_c (pe_bltn (v := .ty n) hg hm hv rfl hn hd) fun _ => rfl
theorem ee_cls {nm : Str} (hm : X.mg nm = some (.ref c.C)) (hg : Gl X nm := by rfl) (hd : (nm == ("__debug__" : Str)) = false := by decide) : EE c X env (.Name nm pos) .cls :=
  ee_c (pe_glob (v := .ref c.C) hg hm rfl hd) fun _ => rfl
theorem ee_tys2 {n m : String} {k} (ha : EE c X env a (.ty n)) (hb : EE c X env b (.ty m)) (hs : starEach [a, b] X.env = (false, eval a X.env) :: starEach [b] X.env := by rfl) (hs2 : starEach [b] X.env = (false, eval b X.env) :: starEach [] X.env := by rfl) :
    EE c X env (.Tuple [a, b] k pos) (.tys [n, m]) := fun σ H r Q q => WE.of (pe_tup (pa_cons pe_w (pa_cons pe_w pa_nil hs2) hs)) (ha σ H r _ fun v H1 s1 r1 => hb σ H1 (r.mono s1) _ fun w H2 s2 r2 => by
  cases (show v = .ty n from r1)
  cases (show w = .ty m from r2)
  exact ⟨by show 2 ≤ sizeLine; decide, fun p hp => q _ _ ((s1.trans s2).trans (same_upd hp)) ⟨p, rfl, upd_same⟩⟩)
def tyD : PyData → String
  | .none => "NoneType"
  | .bool _ => "bool"
  | .int _ => "int"
  | .str _ => "str"
  | .list _ => "list"
  | .tuple _ => "tuple"
  | .dict _ => "dict"
theorem tyx {H : Hp} {v : V} : ∀ {d : PyData}, Dq c.K H v d → TyX c.K H v (.type (tyD d))
  | .none, h => by cases h; exact .base .non
  | .bool b, h => by cases h; exact .base (.bl b)
  | .int i, h => by cases h; exact .base (.int i)
  | .str s, h => by cases h; exact .base (.str s)
  | .list ds, h => by
    cases h with
    | lst h1 _ => exact .base (.lst h1)
  | .tuple ds, h => by
    cases h with
    | tup h1 _ => exact .base (.tup h1)
  | .dict _, h => by cases h
theorem cg_isi {d : PyData} {n : String} {k : Bool} (hk : kitB (tyD d) n = some k) (hK : X.K = c.K := by rfl) : CG c X (.builtin "isinstance") [.d d, .ty n] (rE c (.d (.bool k))) :=
  ⟨_, call_isi, fun H vs rv Q q => by
    obtain ⟨v, w, rfl, r1, r2⟩ := rvs2 rv
    cases (show w = .ty n from r2)
    exact ⟨v, .ty n, _, _, k, rfl, .ty n, hK ▸ tyx r1, kit_ty hk, q _ H (Same.refl H) (.bl _)⟩⟩
theorem cg_isi2 {d : PyData} {n m : String} {k l : Bool} (hk : kitB (tyD d) n = some k) (hl : kitB (tyD d) m = some l) (hkl : k = true ∨ l = true) (hK : X.K = c.K := by rfl) : CG c X (.builtin "isinstance") [.d d, .tys [n, m]] (rE c (.d (.bool true))) :=
  ⟨_, call_isiT, fun H vs rv Q q => by
    obtain ⟨v, w, rfl, r1, r2⟩ := rvs2 rv
    obtain ⟨p, rfl, hp⟩ := (show ∃ a, w = .ref a ∧ H a = some (.tup ([n, m].map .ty)) from r2)
    refine ⟨v, p, _, _, [.type n, .type m], true, rfl, hp, .cons (.ty n) (.cons (.ty m) .nil), hK ▸ tyx r1, ?_, q _ H (Same.refl H) (.bl _)⟩
    exact kitAny_cons (kit_ty hk) (fun e => kitAny_cons (r := true) (kit_ty hl) (fun e2 => by rcases hkl with h | h <;> simp_all) fun _ => rfl) fun _ => rfl⟩
theorem cg_isH {P : List (List Int)} (I : C8.InsC X.K c.C) : CG c X (.builtin "isinstance") [.hall P, .cls] (rE c (.d (.bool true))) :=
  ⟨_, C8.call_isC I, fun H vs rv Q q => by
    obtain ⟨v, w, rfl, r1, r2⟩ := rvs2 rv
    cases (show w = .ref c.C from r2)
    obtain ⟨_, a, dx, t, rfl, h1, _⟩ := r1
    exact ⟨a, dx, _, rfl, h1, q _ H (Same.refl H) (.bl _)⟩⟩

/-! ### joined, repeated -/
theorem immAll_app {xs ys : List PyData} (h1 : immAll xs = true) (h2 : immAll ys = true) : immAll (xs ++ ys) = true := immAll_mem fun x hx => (List.mem_append.mp hx).elim (imm_mem h1 x) (imm_mem h2 x)
theorem DqAll.app {K : PySem.W.Frag} {H : Hp} : ∀ {vs ws : List V} {ds es : List PyData}, DqAll K H vs ds → DqAll K H ws es → DqAll K H (vs ++ ws) (ds ++ es)
  | _, _, _, _, .nil, h => h
  | _, _, _, _, .cons h1 t, h => .cons h1 (t.app h)
theorem og_cat {ds fs : List PyData} (h1 : immAll ds = true) (h2 : immAll fs = true) (hz : ds.length + fs.length ≤ 100000) : OG c X (binaryOp .Add) (.d (.list ds)) (.d (.list fs)) (RM c (.d (.list (ds ++ fs)))) :=
  ⟨_, op_cat, fun H v w r1 r2 Q q => by
    obtain ⟨p1, vs, rfl, a1, d1⟩ := dq_lst r1
    obtain ⟨p2, ws, rfl, a2, d2⟩ := dq_lst r2
    exact ⟨p1, p2, vs, ws, rfl, rfl, a1, a2, by rw [d1.len, d2.len]; exact Nat.le_trans hz (by decide), fun p hp => q _ _ (same_upd hp) (rm_list hp (immAll_app h1 h2) (d1.app d2))⟩⟩
theorem DqAll.rep {K : PySem.W.Frag} {H : Hp} {vs : List V} {ds : List PyData} (h : DqAll K H vs ds) : ∀ n : Nat, DqAll K H (List.replicate n vs).flatten (List.replicate n ds).flatten
  | 0 => .nil
  | n + 1 => by
    rw [List.replicate_succ, List.replicate_succ, List.flatten_cons, List.flatten_cons]
    exact h.app (h.rep n)
theorem og_rep {ds : List PyData} {k : Int} (h1 : immAll ds = true) (hk : -(2 ^ 63) ≤ k ∧ k < 2 ^ 63) (hz : ds.length * k.toNat ≤ 100000) : OG c X (binaryOp .Mult) (.d (.list ds)) (.d (.int k)) (RM c (.d (.list (List.replicate k.toNat ds).flatten))) :=
  ⟨_, op_rep, fun H v w r1 r2 Q q => by
    obtain ⟨p1, vs, rfl, a1, d1⟩ := dq_lst r1
    cases (show Dq c.K H w (.int k) from r2)
    refine ⟨p1, k, vs, rfl, rfl, a1, hk.1, hk.2, by rw [d1.len]; exact Nat.le_trans hz (by decide), fun p hp => q _ _ (same_upd hp) (rm_list hp (immAll_mem fun x hx => ?_) (d1.rep _))⟩
    obtain ⟨l, hl, hx⟩ := List.mem_flatten.mp hx
    rw [(List.mem_replicate.mp hl).2] at hx
    exact imm_mem h1 x hx⟩
theorem og_catT {ds fs : List PyData} (hz : ds.length + fs.length ≤ 100000) (hK : X.K = c.K := by rfl) : OG c X (binaryOp .Add) (.d (.tuple ds)) (.d (.tuple fs)) (rE c (.d (.tuple (ds ++ fs)))) :=
  ⟨_, op_catA, fun H v w r1 r2 Q q => by
    obtain ⟨p1, vs, rfl, a1, d1⟩ := dq_tup r1
    obtain ⟨p2, ws, rfl, a2, d2⟩ := dq_tup r2
    refine ⟨p1, p2, vs, ws, rfl, rfl, SqT.of a1, SqT.of a2, by rw [d1.len, d2.len]; exact Nat.le_trans hz (by decide), fun e => q _ H (Same.refl H) ?_, fun _ e => q _ H (Same.refl H) ?_, fun _ _ p hp => q _ _ (same_upd hp) ?_⟩
    · subst e
      cases d1
      exact .tup a2 d2
    · subst e
      cases d2
      rw [List.append_nil]
      exact .tup a1 d1
    · exact .tup upd_same (DqAll.mono (same_upd hp) _ _ (d1.app d2))⟩
theorem og_ltT {ns ms : List Int} (hu : X.A.units < cLine) (hK : X.K = c.K := by rfl) : OG c X (compareOp .Lt) (.d (iT ns)) (.d (iT ms)) (rE c (.d (.bool (HT.lexLt ns ms)))) :=
  ⟨_, op_ltT hu, fun H v w r1 r2 Q q => by
    obtain ⟨p1, vs, rfl, a1, d1⟩ := dq_tup r1
    obtain ⟨p2, ws, rfl, a2, d2⟩ := dq_tup r2
    cases dq_ints d1
    cases dq_ints d2
    exact ⟨p1, p2, ns, ms, rfl, rfl, SqT.of a1, SqT.of a2, q _ H (Same.refl H) (.bl _)⟩⟩
/-- a tuple times 1, 2 or more -/
theorem og_repT {ds : List PyData} {k : Int} (hne : ds ≠ []) (hk : 2 ≤ k ∧ k ≤ 1000) (hz : ds.length ≤ 1000) (hK : X.K = c.K := by rfl) : OG c X (binaryOp .Mult) (.d (.tuple ds)) (.d (.int k)) (rE c (.d (.tuple (List.replicate k.toNat ds).flatten))) :=
  ⟨_, op_repT, fun H v w r1 r2 Q q => by
    obtain ⟨p1, vs, rfl, a1, d1⟩ := dq_tup r1
    cases (show Dq c.K H w (.int k) from r2)
    refine ⟨p1, k, vs, rfl, rfl, SqT.of a1, fun e => hne ?_, hk.1, hk.2, by rw [d1.len]; exact hz, fun p hp => q _ _ (same_upd hp) (.tup upd_same (DqAll.mono (same_upd hp) _ _ (d1.rep _)))⟩
    subst e
    cases d1
    rfl⟩

/-! ### sorted -/
section
variable {β : Type}
theorem eachIs_of {H : Hp} {enc : β → PyData} : ∀ {its : List Value} {vs : List V} {bs : List β}, Vals vs its → DqAll c.K H vs (bs.map enc) → PySem.W.EachIs (fun (v : Value) b => ∃ x, RelV x v ∧ Dq c.K H x (enc b)) its bs
  | _, _, [], r, h => by
    cases h
    cases r
    exact .nil
  | _, _, b :: bs, r, h => by
    cases h with
    | cons h1 h2 =>
      cases r with
      | cons r1 r2 => exact .cons ⟨_, r1, h1⟩ (eachIs_of r2 h2)
theorem of_eachIs {H : Hp} {enc : β → PyData} : ∀ {its : List Value} {bs : List β}, PySem.W.EachIs (fun (v : Value) b => ∃ x, RelV x v ∧ Dq c.K H x (enc b)) its bs → ∃ vs, Vals vs its ∧ DqAll c.K H vs (bs.map enc)
  | _, _, .nil => ⟨[], .nil, .nil⟩
  | _, _, .cons ⟨x, r, d⟩ t => by
    obtain ⟨vs, h1, h2⟩ := of_eachIs t
    exact ⟨x :: vs, .cons r h1, .cons d h2⟩
def rSortD (c : Ct) (bs : List β) (enc : β → PyData) : List V → Hp → VK → Prop := fun vs H Q => ∃ a xs, vs = [.ref a] ∧ H a = some (.lst xs) ∧ DqAll c.K H xs (bs.map enc) ∧
  ∀ p ys, H p = none → DqAll c.K H ys ((bs.mergeSort (PySem.W.dataLe false enc)).map enc) → Q (.ref p) (upd H p (.lst ys))
theorem cr_sortD {bs : List β} {enc : β → PyData} (hal : PySem.W.AllAlike (bs.map enc)) (hk : PySem.W.Sortable (bs.map enc)) (hd : ∀ b ∈ bs, (enc b).depth ≤ 8) (hu : X.A.units + 64 < cLine) (hK : X.K = c.K := by rfl) : CallR X (.builtin "sorted") (rSortD c bs enc) := by
  intro pins s σ H vs us Q I r h
  obtain ⟨a, xs, rfl, ha, hdq, q⟩ := h
  obtain ⟨its, rv, hl, hz⟩ := I.list (SqL.of ha)
  rw [Vals.ref1 r]
  have e1 := eachIs_of rv hdq
  have e2 : PySem.W.EachIs (fun (v : Value) b => ∃ as, Reads s.heap v (enc b) as) its bs := e1.mono fun v b ⟨x, rx, dx⟩ => Dp.reads I (enc b) x v (hK ▸ Dq.dp _ _ dx) rx
  have hlen : bs.length ≤ sizeLine := by rw [← e1.length, ← rv.length]; exact hz
  refine PySem.W.sorted_data hl.isList e1 e2 hal hk hlen (fun b hb => by have := hd b hb; omega) fun out hout eo => ?_
  obtain ⟨ys, h1, h2⟩ := of_eachIs eo
  obtain ⟨ep, he'⟩ := PyProof.Rows.sortedAll_at s.heap its out.toArray
  refine ⟨.ref _, upd H (s.heap.objs.size + 1) (.lst ys), I.laid (t' := s.toks) (fun _ _ => PyProof.Rows.sortedAll_old) (Nat.le_succ _) ⟨by rw [h1.length, hout]; exact hlen, out, ep, h1, he'⟩, rfl, q _ _ (I.hok.fresh (Nat.le_succ _)) h2⟩
theorem cg_sortD {bs : List β} {enc : β → PyData} (hal : PySem.W.AllAlike (bs.map enc)) (hk : PySem.W.Sortable (bs.map enc)) (hd : ∀ b ∈ bs, (enc b).depth ≤ 8) (hi : ∀ b ∈ bs, imm (enc b) = true) (hu : X.A.units + 64 < cLine) (hK : X.K = c.K := by rfl) :
    CG c X (.builtin "sorted") [.d (.list (bs.map enc))] (RM c (.d (.list ((bs.mergeSort (PySem.W.dataLe false enc)).map enc)))) :=
  ⟨_, cr_sortD (c := c) hal hk hd hu hK, fun H vs rv Q q => by
    obtain ⟨v, rfl, r⟩ := rvs1 rv
    obtain ⟨p1, ws, rfl, a1, d1⟩ := dq_lst r
    refine ⟨p1, ws, rfl, a1, d1, fun p ys hp hy => q _ _ (same_upd hp) (rm_list hp (immAll_mem fun x hx => ?_) hy)⟩
    obtain ⟨b, hb, rfl⟩ := List.mem_map.mp hx
    exact hi b ((List.mergeSort_perm _ _).mem_iff.mp hb)⟩
end

/-! ### len(hall) -/
def sLen : Sc := fun xs R => ∃ P, xs = [.hall P] ∧ R = fun y => y = .d (.int P.length)
/-- the class's own __len__ -/
structure Ln (c : Ct) (P : Program) (w : World) (mg : Str → Option Value) (base : Heap) (k : Nat) : Prop where
  ex : ∃ f fd ps, FnOk P w c.K mg base CX0 k f fd ps (spOf c sLen) ∧ PySem.W.findIn c.K (.ref c.C) "__len__" = some (some (.ref f)) ∧ PySem.W.isFn c.K (.ref f) = true ∧ Binds c.K fd ps []
theorem cg_lenH {P : List (List Int)} {k : Nat} (L : Ln c X.prog X.w X.mg X.base k) (hr : Room (k + 1) X.A) (hP : P.length < 1000) (hK : X.K = c.K := by rfl) : CG c X (.builtin "len") [.hall P] (rE c (.d (.int P.length))) := by
  obtain ⟨f, fd, ps, F, hf, hfn, hb⟩ := L.ex
  rw [← hK] at F hf hfn hb
  refine ⟨fun xs H Q => ∃ a dx fs, xs = [.ref a] ∧ H a = some (.ins c.C dx fs) ∧ spOf c sLen [.ref a] H (fun v H' => ∃ n : Int, v = .int n ∧ 0 ≤ n ∧ n < 2 ^ 63 ∧ Q (.int n) H') E0, ?_, fun H vs rv Q q => ?_⟩
  · intro pins s σ H xs us Q I r h
    obtain ⟨a, dx, fs, rfl, ha, hq⟩ := h
    obtain ⟨u, rfl, ru⟩ := vals1 r
    cases ru
    obtain ⟨mA, O, _⟩ := ins_get I.hok ha
    obtain ⟨od, J, _⟩ := O.look
    obtain ⟨m, Fm⟩ := I.fr
    refine PySem.W.len_K Fm I.mod.kin J hf hfn ?_
    have hl : [V.ref a].length = ps.length := F.len _ _ _ _ hq
    refine wpAny_call (codeAny_mono (F.run X.A.in1 X.stack s H ⟨[Value.ref a], []⟩ [Value.ref a] [V.ref a] _ E0 hr.in1 I.env0.in1 (hb s [Value.ref a] I.kIn (by simpa using hl)) (.cons rfl .nil) hq) fun r s' hq' => ?_)
    cases r with
    | error e => exact hq'.elim
    | ok fl =>
      cases fl with
      | ret u =>
        obtain ⟨v, H', I', rv, n, rfl, h0, h1, q⟩ := I.after hq'
        obtain ⟨t, rfl⟩ := rv
        exact ⟨⟨h0, h1⟩, .int n, H', I'.tok _, ⟨_, rfl⟩, q⟩
      | next => exact False.elim hq'
      | brk => exact False.elim hq'
      | cont => exact False.elim hq'
  · obtain ⟨v, rfl, r1⟩ := rvs1 rv
    have r0 := r1
    obtain ⟨_, a, dx, t, rfl, h1, _⟩ := r1
    refine ⟨a, dx, _, rfl, h1, [.hall P], _, ⟨P, rfl, rfl⟩, .cons r0 .nil, fun v H' x px s rn => ?_⟩
    subst px
    have rv := rn.rv
    cases (show Dq c.K H' v (.int P.length) from rv)
    exact ⟨_, rfl, by omega, by omega, q _ H' s (.int _)⟩
end
end K33

set_option maxHeartbeats 4000000
/-! K33j: dicts asked and filled, more statements. -/
namespace K33
open PySem PySem.Spec PyProof.Rows L2

/-! ### tables -/
section
variable {κ : Type} [DecidableEq κ]
def lookT (kvs : List (κ × PyData)) (k : κ) : Option PyData := (kvs.find? fun p => decide (p.1 = k)).map (·.2)
def putT (kvs : List (κ × PyData)) (k : κ) (v : PyData) : List (κ × PyData) :=
  if (kvs.any fun p => decide (p.1 = k)) = true then kvs.map (fun p => if p.1 = k then (p.1, v) else p) else kvs ++ [(k, v)]
theorem putT_len (kvs : List (κ × PyData)) (k : κ) (v : PyData) : (putT kvs k v).length ≤ kvs.length + 1 := by
  unfold putT
  split
  · rw [List.length_map]; omega
  · rw [List.length_append]; simp
end
section
variable {c : Ct} {H : Hp}
theorem inl_inj {α β : Type} : ∀ {a b : List α}, a.map (Sum.inl (β := β)) = b.map Sum.inl → a = b
  | [], [], _ => rfl
  | [], _ :: _, e => by simp at e
  | _ :: _, [], e => by simp at e
  | x :: xs, y :: ys, e => by
    rw [List.map_cons, List.map_cons] at e
    injection e with e1 e2
    rw [Sum.inl.inj e1, inl_inj e2]
/-- keys as the layer has them -/
structure Keys (κ : Type) [DecidableEq κ] where
  κ' : Type
  de : DecidableEq κ'
  f : κ → κ'
  inj : ∀ a b, f a = f b → a = b
def KVg (c : Ct) {κ κ' : Type} (f : κ → κ') (H : Hp) : List (κ' × V) → List (κ × PyData) → Prop := Paired fun p q => p.1 = f q.1 ∧ Dq c.K H p.2 q.2
theorem KVg.val {κ κ' : Type} [DecidableEq κ] [DecidableEq κ'] {f : κ → κ'} (inj : ∀ a b, f a = f b → a = b) (k : κ) : ∀ {ws : List (κ' × V)} {kvs : List (κ × PyData)}, KVg c f H ws kvs →
    (valV ws (f k) = none ∧ lookT kvs k = none) ∨ ∃ v d, valV ws (f k) = some v ∧ lookT kvs k = some d ∧ Dq c.K H v d
  | _, _, .nil => .inl ⟨rfl, rfl⟩
  | _, _, @Paired.cons _ _ _ p q ps qs h t => by
    by_cases e : q.1 = k
    · refine .inr ⟨p.2, q.2, valV_pos (h.1.trans (by rw [e])), ?_, h.2⟩
      simp [lookT, List.find?_cons, e]
    · have e' : ¬ p.1 = f k := fun z => e (inj _ _ (h.1.symm.trans z))
      have e2 : lookT (q :: qs) k = lookT qs k := by simp [lookT, List.find?_cons, e]
      rw [valV_neg e', e2]
      exact KVg.val inj k t
theorem KVg.any {κ κ' : Type} [DecidableEq κ] [DecidableEq κ'] {f : κ → κ'} (inj : ∀ a b, f a = f b → a = b) (k : κ) : ∀ {ws : List (κ' × V)} {kvs : List (κ × PyData)}, KVg c f H ws kvs →
    (ws.any fun p => decide (p.1 = f k)) = kvs.any fun p => decide (p.1 = k)
  | _, _, .nil => rfl
  | _, _, @Paired.cons _ _ _ p q ps qs h t => by
    rw [List.any_cons, List.any_cons, KVg.any inj k t]
    by_cases e : q.1 = k
    · rw [decide_eq_true e, decide_eq_true (h.1.trans (by rw [e]))]
    · rw [decide_eq_false e, decide_eq_false fun z => e (inj _ _ (h.1.symm.trans z))]
theorem KVg.repl {κ κ' : Type} [DecidableEq κ] [DecidableEq κ'] {f : κ → κ'} (inj : ∀ a b, f a = f b → a = b) (k : κ) {v : V} {d : PyData} (hv : Dq c.K H v d) : ∀ {ws : List (κ' × V)} {kvs : List (κ × PyData)}, KVg c f H ws kvs →
    KVg c f H (ws.map fun p => if p.1 = f k then (p.1, v) else p) (kvs.map fun p => if p.1 = k then (p.1, d) else p)
  | _, _, .nil => .nil
  | _, _, @Paired.cons _ _ _ p q ps qs h t => by
    rw [List.map_cons, List.map_cons]
    refine .cons ?_ (KVg.repl inj k hv t)
    by_cases e : q.1 = k
    · rw [if_pos e, if_pos (h.1.trans (by rw [e]))]
      exact ⟨h.1, hv⟩
    · rw [if_neg e, if_neg fun z => e (inj _ _ (h.1.symm.trans z))]
      exact h
theorem KVg.app {κ κ' : Type} {f : κ → κ'} : ∀ {ws us : List (κ' × V)} {kvs ks : List (κ × PyData)}, KVg c f H ws kvs → KVg c f H us ks → KVg c f H (ws ++ us) (kvs ++ ks)
  | _, _, _, _, .nil, h => h
  | _, _, _, _, .cons h1 t, h => .cons h1 (KVg.app t h)
theorem KVg.put {κ κ' : Type} [DecidableEq κ] [DecidableEq κ'] {f : κ → κ'} (inj : ∀ a b, f a = f b → a = b) (k : κ) {v : V} {d : PyData} (hv : Dq c.K H v d) {ws : List (κ' × V)} {kvs : List (κ × PyData)} (h : KVg c f H ws kvs) :
    KVg c f H (putK ws (f k) v) (putT kvs k d) := by
  unfold putK putT
  rw [KVg.any inj k h]
  split
  · exact KVg.repl inj k hv h
  · exact KVg.app h (.cons ⟨rfl, hv⟩ .nil)
theorem KVg.len {κ κ' : Type} {f : κ → κ'} {ws : List (κ' × V)} {kvs : List (κ × PyData)} (h : KVg c f H ws kvs) : ws.length = kvs.length := Paired.length h
theorem kVinl (ns : List Int) : (ns.map (Sum.inl (β := Str))).map kV = ns.map V.int := by rw [List.map_map]; rfl
theorem dq_key {v : V} {ns : List Int} (h : RV c H v (.d (iT ns))) : ∃ b, v = .ref b ∧ H b = some (.tup ((ns.map Sum.inl).map kV)) := by
  obtain ⟨a, vs, rfl, h1, h2⟩ := dq_tup h
  cases dq_ints h2
  exact ⟨a, rfl, by rw [kVinl]; exact h1⟩
end

section
variable {c : Ct} {X : Cx} {env : Ev'} {e a b : Expr} {es : List Expr} {x y z : SV} {xs : List SV} {R : Rel} {pos p : Pos}
abbrev tf : List Int → List L2.Key := fun k => k.map Sum.inl
theorem tf_inj : ∀ a b, tf a = tf b → a = b := fun _ _ e => inl_inj e
abbrev kf : Int → L2.Key := Sum.inl
theorem kf_inj : ∀ a b, kf a = kf b → a = b := fun _ _ e => Sum.inl.inj e
/-- what a dict holds at a key, both kinds of dicts -/
inductive Lk : SV → SV → Option PyData → Prop
  | t (kvs : List (List Int × PyData)) (k : List Int) : Lk (.dT kvs) (.d (iT k)) (lookT kvs k)
  | k (kvs : List (Int × PyData)) (k : Int) : Lk (.dK kvs) (.d (.int k)) (lookT kvs k)
theorem Lk.get {H : Hp} {o : Option PyData} {v w : V} (l : Lk x y o) (r1 : RV c H v x) (r2 : RV c H w y) : ∃ a r, v = .ref a ∧ DGet H a w r ∧ IsD H a ∧ ((r = none ∧ o = none) ∨ ∃ u d, r = some u ∧ o = some d ∧ Dq c.K H u d) := by
  cases l with
  | t kvs k =>
    obtain ⟨a, ws, rfl, h1, h2⟩ := r1
    obtain ⟨b, rfl, h3⟩ := dq_key r2
    exact ⟨a, _, rfl, DGet.t h1 h3, .inr ⟨_, .inl h1⟩, KVg.val (c := c) tf_inj k h2⟩
  | k kvs k =>
    obtain ⟨a, ws, rfl, h1, h2⟩ := r1
    cases (show Dq c.K H w (.int k) from r2)
    exact ⟨a, _, rfl, DGet.k (k := Sum.inl k) h1, .inl ⟨_, .inl h1⟩, KVg.val (c := c) kf_inj k h2⟩
theorem ee_din {o : Option PyData} (l : Lk x y o) (hu : X.A.units + 1 < cLine) (ha : EE c X env a y) (hb : EE c X env b x) (hm : behindInMarks .In b = false := by rfl) : EE c X env (.Compare a [.In] [b] pos) (.d (.bool o.isSome)) := fun σ H r Q q =>
  WE.of (pe_cmp (pc_din hu pe_w pe_w) hm) (ha σ H r _ fun v H1 s1 r1 => hb σ H1 (r.mono s1) _ fun w H2 s2 r2 => by
    obtain ⟨p, z, rfl, h1, _, h2⟩ := l.get r2 (r1.mono s2)
    refine ⟨p, z, rfl, h1, q _ H2 (s1.trans s2) ?_⟩
    rcases h2 with ⟨rfl, rfl⟩ | ⟨u, d, rfl, rfl, _⟩ <;> exact .bl _)
theorem et_din {o : Option PyData} (l : Lk x y o) (hu : X.A.units + 1 < cLine) (ha : EE c X env a y) (hb : EE c X env b x) (hm : behindInMarks .In b = false := by rfl) : ET c X env (.Compare a [.In] [b] pos) o.isSome := fun σ H r Q q =>
  WT.of (pt_cmp (pc_din hu pe_w pe_w) hm) (ha σ H r _ fun v H1 s1 r1 => hb σ H1 (r.mono s1) _ fun w H2 s2 r2 => by
    obtain ⟨p, z, rfl, h1, _, h2⟩ := l.get r2 (r1.mono s2)
    refine ⟨p, z, rfl, h1, _, rfl, ?_⟩
    rcases h2 with ⟨rfl, rfl⟩ | ⟨u, d, rfl, rfl, _⟩ <;> exact q H2 (s1.trans s2))
theorem ee_dnin {o : Option PyData} (l : Lk x y o) (hu : X.A.units + 1 < cLine) (ha : EE c X env a y) (hb : EE c X env b x) (hm : behindInMarks .NotIn b = false := by rfl) : EE c X env (.Compare a [.NotIn] [b] pos) (.d (.bool (!o.isSome))) := fun σ H r Q q =>
  WE.of (pe_cmp (pc_dnotin hu pe_w pe_w) hm) (ha σ H r _ fun v H1 s1 r1 => hb σ H1 (r.mono s1) _ fun w H2 s2 r2 => by
    obtain ⟨p, z, rfl, h1, _, h2⟩ := l.get r2 (r1.mono s2)
    refine ⟨p, z, rfl, h1, q _ H2 (s1.trans s2) ?_⟩
    rcases h2 with ⟨rfl, rfl⟩ | ⟨u, d, rfl, rfl, _⟩ <;> exact .bl _)
theorem et_dnin {o : Option PyData} (l : Lk x y o) (hu : X.A.units + 1 < cLine) (ha : EE c X env a y) (hb : EE c X env b x) (hm : behindInMarks .NotIn b = false := by rfl) : ET c X env (.Compare a [.NotIn] [b] pos) (!o.isSome) := fun σ H r Q q =>
  WT.of (pt_cmp (pc_dnotin hu pe_w pe_w) hm) (ha σ H r _ fun v H1 s1 r1 => hb σ H1 (r.mono s1) _ fun w H2 s2 r2 => by
    obtain ⟨p, z, rfl, h1, _, h2⟩ := l.get r2 (r1.mono s2)
    refine ⟨p, z, rfl, h1, _, rfl, ?_⟩
    rcases h2 with ⟨rfl, rfl⟩ | ⟨u, d, rfl, rfl, _⟩ <;> exact q H2 (s1.trans s2))
theorem ee_dget {d : PyData} (l : Lk x y (some d)) (hu : X.A.units + 1 < cLine) (ha : EE c X env a x) (hb : EE c X env b y) (hs : NoSl b := by exact fun _ _ => rfl) : EE c X env (.Subscript a b pos) (.d d) := fun σ H r Q q =>
  WE.of (pe_dget hu pe_w pe_w hs) (ha σ H r _ fun v H1 s1 r1 => hb σ H1 (r.mono s1) _ fun w H2 s2 r2 => by
    obtain ⟨p, z, rfl, h1, _, h2⟩ := l.get (r1.mono s2) r2
    rcases h2 with ⟨rfl, e⟩ | ⟨u, d', rfl, e, hd⟩
    · cases e
    · cases e
      exact ⟨p, u, rfl, h1, q u H2 (s1.trans s2) hd⟩)
/-- d.get(k, x) -/
theorem ee_dgetD {o : Option PyData} {f : Expr} {d0 : PyData} {pa : Pos} (l : Lk x y o) (hu : X.A.units + 1 < cLine) (ha : EE c X env a x) (hb : EE c X env b y) (hf : EE c X env f (.d d0)) (m : M2 X a "get" pa b f pos := by exact ⟨rfl, rfl, rfl⟩) : EE c X env (.Call (.Attribute a "get" pa) [b, f] [] pos) (.d (o.getD d0)) := fun σ H r Q q =>
  WE.of (pe_dget2 hu pe_w pe_w pe_w m) (ha σ H r _ fun v H1 s1 r1 => by
    have e0 : ∃ p, v = .ref p ∧ IsD H1 p := by
      cases l with
      | t kvs k => obtain ⟨p, ws, rfl, h1, _⟩ := r1; exact ⟨p, rfl, .inr ⟨_, .inl h1⟩⟩
      | k kvs k => obtain ⟨p, ws, rfl, h1, _⟩ := r1; exact ⟨p, rfl, .inl ⟨_, .inl h1⟩⟩
    obtain ⟨p0, e0, hd⟩ := e0
    refine ⟨p0, e0, hd, hb σ H1 (r.mono s1) _ fun w H2 s2 r2 => hf σ H2 (r.mono (s1.trans s2)) _ fun u0 H3 s3 r3 => ?_⟩
    obtain ⟨p, z, e1, h1, _, h2⟩ := l.get (r1.mono (s2.trans s3)) (r2.mono s3)
    rw [e0] at e1
    cases e1
    refine ⟨z, h1, q _ H3 ((s1.trans s2).trans s3) ?_⟩
    rcases h2 with ⟨rfl, rfl⟩ | ⟨u, d', rfl, rfl, hd'⟩
    · exact r3
    · exact hd')
theorem em_dnewT : EM c X env (.Dict [] [] pos) (.dT []) := fun σ H r Q q => WE.of pe_dnewT fun p hp => q _ _ (same_upd hp) ⟨fun _ => none, p, ⟨(fun _ _ e => nomatch e), fun _ _ e => nomatch e⟩, rfl, hp, rfl, [], upd_same, .nil⟩
theorem em_dnewK : EM c X env (.Dict [] [] pos) (.dK []) := fun σ H r Q q => WE.of pe_dnewK fun p hp => q _ _ (same_upd hp) ⟨fun _ => none, p, ⟨(fun _ _ e => nomatch e), fun _ _ e => nomatch e⟩, rfl, hp, rfl, [], upd_same, .nil⟩
end

/-! ### statements -/
section
variable {c : Ct} {X : Cx} {Rt : SV → Prop} {st : Stmt} {rest : List Stmt} {env : Ev'} {N : NE} {e a b : Expr} {x y : SV} {pos pos' : Pos} {M B C : Ev' → Prop}
/-- what a dict becomes -/
inductive Pt : SV → SV → PyData → SV → Prop
  | t (kvs : List (List Int × PyData)) (k : List Int) (d : PyData) (hz : kvs.length < 100000) : Pt (.dT kvs) (.d (iT k)) d (.dT (putT kvs k d))
  | k (kvs : List (Int × PyData)) (k : Int) (d : PyData) (hz : kvs.length < 100000) : Pt (.dK kvs) (.d (.int k)) d (.dK (putT kvs k d))
/-- d[k] = e -/
theorem s1_dput (i : Nat) {nm : Str} {pn : Pos} {d : PyData} {k : Expr} {z : SV} (he : env[i]? = some (.ow x)) (l : Pt x y d z) (hu : X.A.units + 1 < cLine) (h : EN c X env e (.d d)) (hk : EE c X env k y) (kk : M (env.set i (.ow z)))
    (hN : X.N[i]? = some nm := by rfl) (hv : Vis X.env.scope nm := by first | exact Or.inl rfl | exact Or.inr (Or.inl rfl) | exact Or.inr (Or.inr rfl)) (hd : (nm == ("__debug__" : Str)) = false := by decide) (hcd : (nm == ("__classdict__" : Str)) = false := by decide)
    (hs : swapsWith e (some (.Subscript (.Name nm pn) k pos')) pos.line X.env = pure false := by rfl) : S1 c X Rt (.Assign [.Subscript (.Name nm pn) k pos'] e pos) env ⟨M, B, C⟩ := fun He H0 Q s kq σ H r => by
  obtain ⟨F, f0, r⟩ := r
  obtain ⟨a, h1, h2, h3⟩ := r.ow i _ he
  refine WS.of (ps_dput hu (pe_var (i := i) hN hv hd hcd) pe_w pe_w hs) (h σ H r.rd _ fun v H1 s1 rn => ⟨_, h1, hk σ H1 (r.rd.mono s1) _ fun w H2 s2 r2 => ?_⟩)
  obtain ⟨G, n, rv⟩ := rn
  obtain ⟨F', f1, f2, f3, f4⟩ := union_new r.sub s1 n
  have r' := (r.step s1 f1 f3 f4).step s2 (Same.refl F') (f3.trans s2) NoOwn.refl
  have rv : Dq c.K F' v d := Dq.mono f2 _ _ rv
  cases l with
  | t kvs k d hz =>
    obtain ⟨ws, h4, h5⟩ := h3
    obtain ⟨b, rfl, h6⟩ := dq_key r2
    have h7 := s2 _ _ (s1 _ _ h4)
    have hl : ws.length < sizeLine := by rw [KVg.len (c := c) (f := tf) h5]; exact Nat.lt_of_lt_of_le hz (by decide)
    exact ⟨a, _, rfl, DPut.t h7 h6 hl, _, ⟨F', f0.trans f1, r'.write (y := .dT (putT kvs k d)) he h1 ⟨_, upd_same, KVg.put (c := c) tf_inj _ rv (h5.mono f1)⟩⟩, kk⟩
  | k kvs k d hz =>
    obtain ⟨ws, h4, h5⟩ := h3
    cases (show Dq c.K H2 w (.int k) from r2)
    have h7 := s2 _ _ (s1 _ _ h4)
    have hl : ws.length < sizeLine := by rw [KVg.len (c := c) (f := kf) h5]; exact Nat.lt_of_lt_of_le hz (by decide)
    exact ⟨a, _, rfl, DPut.k (k := Sum.inl k) h7 hl, _, ⟨F', f0.trans f1, r'.write (y := .dK (putT kvs k d)) he h1 ⟨_, upd_same, KVg.put (c := c) kf_inj _ rv (h5.mono f1)⟩⟩, kk⟩
theorem DqAll.set {K : PySem.W.Frag} {H : Hp} {v : V} {d : PyData} (h : Dq K H v d) : ∀ {vs : List V} {ds : List PyData} (i : Nat), DqAll K H vs ds → DqAll K H (vs.set i v) (ds.set i d)
  | _, _, _, .nil => .nil
  | _, _, 0, .cons _ t => .cons h t
  | _, _, i + 1, .cons h1 t => .cons h1 (DqAll.set h i t)
/-- xs[k] = e, the list owned -/
theorem s1_lput (i : Nat) {nm : Str} {pn : Pos} {ds : List PyData} {d : PyData} {k : Expr} {j : Nat} {m : Int} (he : env[i]? = some (.ow (.d (.list ds)))) (h : EN c X env e (.d d)) (hk : EE c X env k (.d (.int m))) (hm : m = (j : Nat)) (hj : j < ds.length) (kk : M (env.set i (.ow (.d (.list (ds.set j d))))))
    (hN : X.N[i]? = some nm := by rfl) (hv : Vis X.env.scope nm := by first | exact Or.inl rfl | exact Or.inr (Or.inl rfl) | exact Or.inr (Or.inr rfl)) (hd : (nm == ("__debug__" : Str)) = false := by decide) (hcd : (nm == ("__classdict__" : Str)) = false := by decide)
    (hs : swapsWithSole [.Subscript (.Name nm pn) k pos'] e pos.line X.env = pure false := by rfl) (hw : swappedStores [.Subscript (.Name nm pn) k pos'] e X.env = pure none := by rfl) (h1 : (assignEach [.Subscript (.Name nm pn) k pos'] X.env).map (·.2) = [assign (.Subscript (.Name nm pn) k pos') X.env] := by rfl)
    (ha : ∀ v, assign (.Subscript (.Name nm pn) k pos') X.env v = (do
      let ov ← holding [v] (eval (.Name nm pn) X.env)
      let iv ← holding [v, ov] (eval k X.env)
      standAt pos'
      holding [v, ov, iv] (setItem ov iv v)
      release [v, ov, iv] []) := by intro _; rfl) : S1 c X Rt (.Assign [.Subscript (.Name nm pn) k pos'] e pos) env ⟨M, B, C⟩ := fun He H0 Q s kq σ H r => by
  obtain ⟨F, f0, r⟩ := r
  obtain ⟨a, h1', h2, xs, h3, h4⟩ := r.ow i _ he
  refine WS.of (ps_asg pe_w (pg_sub (pe_var (i := i) hN hv hd hcd) pe_w set_list ha) hs hw h1) (h σ H r.rd _ fun v H1 s1 rn => ⟨_, h1', hk σ H1 (r.rd.mono s1) _ fun w H2 s2 r2 => ?_⟩)
  obtain ⟨G, n, rv⟩ := rn
  obtain ⟨F', f1, f2, f3, f4⟩ := union_new r.sub s1 n
  have r' := (r.step s1 f1 f3 f4).step s2 (Same.refl F') (f3.trans s2) NoOwn.refl
  have rv : Dq c.K F' v d := Dq.mono f2 _ _ rv
  cases (show Dq c.K H2 w (.int m) from r2)
  have hx : ixN xs.length m = some j := by
    rw [h4.len, hm]
    unfold ixN
    rw [if_pos (by omega), if_pos (by omega)]
    simp
  exact ⟨a, xs, m, j, rfl, rfl, s2 _ _ (s1 _ _ h3), hx, _, ⟨F', f0.trans f1, r'.write (y := .d (.list (ds.set j d))) he h1' ⟨_, upd_same, DqAll.set rv j (DqAll.mono f1 _ _ h4)⟩⟩, kk⟩
/-- x = xs.pop() -/
theorem s1_pop (i j : Nat) {nm nl : Str} {pn pl pa pc : Pos} {ds : List PyData} {d : PyData} (he : env[j]? = some (.ow (.d (.list (ds ++ [d]))))) (hij : i ≠ j) (kk : M ((env.set j (.ow (.d (.list ds)))).set i (.fr (.d d)))) (hNd : X.N.Nodup)
    (hi : X.N[i]? = some nm := by rfl) (hx : Loc X.env.scope nm := by first | exact Or.inl rfl | exact Or.inr rfl) (hf : X.fn nm = true ∨ X.env.scope.names.lookup nm = some .local := by first | exact .inl rfl | exact .inr rfl)
    (hN : X.N[j]? = some nl := by rfl) (hv : Vis X.env.scope nl := by first | exact Or.inl rfl | exact Or.inr (Or.inl rfl) | exact Or.inr (Or.inr rfl)) (hd : (nl == ("__debug__" : Str)) = false := by decide) (hcd : (nl == ("__classdict__" : Str)) = false := by decide)
    (hs : swapsWith (.Call (.Attribute (.Name nl pl) "pop" pa) [] [] pc) (some (.Name nm pn)) pos.line X.env = pure false := by rfl)
    (hpe : PE X (.Call (.Attribute (.Name nl pl) "pop" pa) [] [] pc) (tBM0 X.K "list" rPop (tVar j)) := by exact pe_bm0 PySem.F.plainAttrs_list PySem.F.slot_list_pop PySem.F.type_list_pop mt_pop (pv _)) :
    S1 c X Rt (.Assign [.Name nm pn] (.Call (.Attribute (.Name nl pl) "pop" pa) [] [] pc) pos) env ⟨M, B, C⟩ := fun He H0 Q s kq σ H r => by
  obtain ⟨F, f0, r⟩ := r
  obtain ⟨a, h1, h2, xs, h3, h4⟩ := r.ow j _ he
  obtain ⟨v, hv1, hv2⟩ : ∃ v, xs[xs.length - 1]? = some v ∧ Dq c.K F v d := by
    have e : (ds ++ [d])[xs.length - 1]? = some d := by rw [h4.len]; simp
    exact h4.get e
  have hdl : DqAll c.K F xs.dropLast ds := by
    have := h4.take ds.length
    rw [List.take_left] at this
    rw [List.dropLast_eq_take, h4.len]
    simpa using this
  exact WS.of (ps_set hNd hi hx hpe hs hf) ⟨_, h1, Or.inl ⟨rfl, _, SqL.of h3⟩, a, xs, v, rfl, rfl, h3, hv1, _, ⟨F, f0, (r.write (y := .d (.list ds)) he h1 ⟨_, upd_same, hdl⟩).setFr (x := .d d) i hv2⟩, kk⟩
/-- a, b = e1, e2: each frozen (new or frozen before) or owned -/
def asSl (o : Bool) (x : SV) : Sl := if o = true then .ow x else .fr x
def EX (c : Ct) (X : Cx) (env : Ev') (e : Expr) (o : Bool) (x : SV) : Prop := if o = true then EM c X env e x else EF c X env e x
theorem ex_m (h : EM c X env e x) : EX c X env e true x := h
theorem ex_f (h : EF c X env e x) : EX c X env e false x := h
theorem s1_par (i j : Nat) (o1 o2 : Bool) {n1 n2 : Str} {px py pt : Pos} {kt k2 : _} {pt2 : Pos} (h1 : EX c X env a o1 x) (h2 : EX c X env b o2 y) (kk : M ((env.set i (asSl o1 x)).set j (asSl o2 y))) (hNd : X.N.Nodup) (hi0 : i < env.length) (hij : i ≠ j)
    (hi : X.N[i]? = some n1 := by rfl) (hj : X.N[j]? = some n2 := by rfl) (hx : X.env.scope.names.lookup n1 = some .local := by rfl) (hy : X.env.scope.names.lookup n2 = some .local := by rfl)
    (ha : starEach [a, b] X.env = (false, eval a X.env) :: starEach [b] X.env := by rfl) (hb : starEach [b] X.env = (false, eval b X.env) :: starEach [] X.env := by rfl) (hc : X.calm = true := by rfl)
    (hw : swappedStores [.Tuple [.Name n1 px, .Name n2 py] kt pt] (.Tuple [a, b] k2 pt2) X.env = pure (some [n1, n2]) := by rfl) (hs : swapsWithSole [.Tuple [.Name n1 px, .Name n2 py] kt pt] (.Tuple [a, b] k2 pt2) pos.line X.env = pure false := by rfl) :
    S1 c X Rt (.Assign [.Tuple [.Name n1 px, .Name n2 py] kt pt] (.Tuple [a, b] k2 pt2) pos) env ⟨M, B, C⟩ := fun He H0 Q s kq σ H r => by
  obtain ⟨F, f0, r⟩ := r
  refine WS.of (ps_par hc hNd hi hj hij hx hy (pa_cons pe_w (pa_cons pe_w pa_nil hb) ha) hw hs) ?_
  have second : ∀ v H1 F1, Same H H1 → Same F F1 → RSF c F1 H1 (σ.set i (some v)) (env.set i (asSl o1 x)) → WE X b σ H1 fun w H2 => ∃ v' w', [v, w] = [v', w'] ∧ ∃ env', RS c H0 ((σ.set i (some v')).set j (some w')) H2 env' ∧ M env' := by
    intro v H1 F1 s1 f1 r1
    cases o2 with
    | false =>
      have h2 : EF c X env b y := h2
      refine h2 σ H1 F1 (r.fz.step s1 f1 r1.sub) _ fun w H2 F2 s2 f2 f3 f4 rv => ⟨v, w, rfl, _, ⟨F2, (f0.trans f1).trans f2, (r1.step s2 f2 f3 f4).setFr j rv⟩, kk⟩
    | true =>
      have h2 : EM c X env b y := h2
      refine h2 σ H1 (r.rd.mono s1) _ fun w H2 s2 rm => ?_
      obtain ⟨F2, f2, r2⟩ := r1.own j s2 rm
      exact ⟨v, w, rfl, _, ⟨F2, (f0.trans f1).trans f2, r2⟩, kk⟩
  cases o1 with
  | false =>
    have h1 : EF c X env a x := h1
    exact h1 σ H F r.fz _ fun v H1 F1 s1 f1 f3 f4 rv => second v H1 F1 s1 f1 ((r.step s1 f1 f3 f4).setFr i rv)
  | true =>
    have h1 : EM c X env a x := h1
    refine h1 σ H r.rd _ fun v H1 s1 rm => ?_
    obtain ⟨F1, f1, r1⟩ := r.own i s1 rm
    exact second v H1 F1 s1 f1 r1
/-- a, b = e: a pair of plain data -/
theorem s1_unpack (i j : Nat) {n1 n2 : Str} {px py pt : Pos} {kt : _} {d1 d2 : PyData} (h : EF c X env e (.d (.tuple [d1, d2]))) (kk : M ((env.set i (.fr (.d d1))).set j (.fr (.d d2)))) (hNd : X.N.Nodup)
    (hpg : PG X (.Tuple [.Name n1 px, .Name n2 py] kt pt) (g2 X.K i j)) (hK : X.K = c.K := by rfl)
    (hs : swapsWithSole [.Tuple [.Name n1 px, .Name n2 py] kt pt] e pos.line X.env = pure false := by rfl) (hw : swappedStores [.Tuple [.Name n1 px, .Name n2 py] kt pt] e X.env = pure none := by rfl)
    (h1 : (assignEach [.Tuple [.Name n1 px, .Name n2 py] kt pt] X.env).map (·.2) = [assign (.Tuple [.Name n1 px, .Name n2 py] kt pt) X.env] := by rfl) :
    S1 c X Rt (.Assign [.Tuple [.Name n1 px, .Name n2 py] kt pt] e pos) env ⟨M, B, C⟩ := fun He H0 Q s kq σ H r => by
  obtain ⟨F, f0, r⟩ := r
  refine WS.of (ps_asg pe_w hpg hs hw h1) (h σ H F r.fz _ fun v H1 F1 s1 f1 f3 f4 rv => ?_)
  cases (show Dq c.K F1 v (.tuple [d1, d2]) from rv) with
  | tup ha hd =>
    cases hd with
    | cons q1 t =>
      cases t with
      | cons q2 t =>
        cases t
        exact g2_of (SqT.of (f3 _ _ ha)) ⟨_, ⟨F1, f0.trans f1, ((r.step s1 f1 f3 f4).setFr (x := .d _) i q1).setFr (x := .d _) j q2⟩, kk⟩
/-- an owned slot is frozen, a slot is forgotten: no statement -/
theorem ss_freeze (i : Nat) {sts : List Stmt} (he : env[i]? = some (.ow x)) (h : SS c X Rt sts (env.set i (.fr x)) N) : SS c X Rt sts env N := fun He H0 Q s k σ H r => by
  obtain ⟨F, f0, r⟩ := r
  obtain ⟨F', f1, r'⟩ := r.freeze he
  exact h He H0 Q s k σ H ⟨F', f0.trans f1, r'⟩
theorem ss_no (i : Nat) {sts : List Stmt} (h : SS c X Rt sts (env.set i .no) N) : SS c X Rt sts env N := fun He H0 Q s k σ H r => by
  obtain ⟨F, f0, r⟩ := r
  exact h He H0 Q s k σ H ⟨F, f0, r.no i⟩
/-- x = y, y owned: x takes it, y is forgotten -/
theorem s1_move (i j : Nat) {nm nl : Str} {pn pl : Pos} (he : env[j]? = some (.ow x)) (hij : i ≠ j) (kk : M ((env.set j .no).set i (.ow x))) (hNd : X.N.Nodup) (hi0 : i < env.length)
    (hi : X.N[i]? = some nm := by rfl) (hx : Loc X.env.scope nm := by first | exact Or.inl rfl | exact Or.inr rfl) (hf : X.fn nm = true ∨ X.env.scope.names.lookup nm = some .local := by first | exact .inl rfl | exact .inr rfl)
    (hN : X.N[j]? = some nl := by rfl) (hv : Vis X.env.scope nl := by first | exact Or.inl rfl | exact Or.inr (Or.inl rfl) | exact Or.inr (Or.inr rfl)) (hd : (nl == ("__debug__" : Str)) = false := by decide) (hcd : (nl == ("__classdict__" : Str)) = false := by decide)
    (hs : swapsWith (.Name nl pl) (some (.Name nm pn)) pos.line X.env = pure false := by rfl) : S1 c X Rt (.Assign [.Name nm pn] (.Name nl pl) pos) env ⟨M, B, C⟩ := fun He H0 Q s kq σ H r => by
  obtain ⟨F, f0, r⟩ := r
  obtain ⟨a, h1, h2, h3⟩ := r.ow j _ he
  refine WS.of (ps_set hNd hi hx (pe_var (i := j) hN hv hd hcd) hs hf) ⟨_, h1, _, ⟨F, f0, (r.no j).setOw i h2 h3 fun k y ey nk es => ?_⟩, kk⟩
  rcases set_get ey with ⟨rfl, q, _⟩ | ⟨n, q⟩
  · cases q
  · exact r.ap k j a y x (Ne.symm n) q he es h1
end
end K33

set_option maxHeartbeats 4000000
/-! K33k: small defs. -/
namespace K33
open PySem PySem.Spec PyProof.Rows L2

/-! ### helpers -/
theorem atI_row {P : List (List Int)} {i : Nat} (h : P[i]? = some (rowAt P i)) : atI (tups P) (i : Int) = some (iT (rowAt P i)) := atI_nat (by unfold tups; rw [List.getElem?_map, h]; rfl)
theorem atI_int {a : List Int} {i : Nat} (h : i < a.length) : atI (a.map PyData.int) (i : Int) = some (.int (a.getD i 0)) := atI_nat (by rw [List.getElem?_map, List.getD_eq_getElem?_getD]; simp [h])
theorem shaped_int (i : Int) : SeqAt.shaped (.int i) = true := rfl
theorem shaped_bool (i : Bool) : SeqAt.shaped (.bool i) = true := rfl
theorem shaped_none : SeqAt.shaped .none = true := rfl
theorem canLay_ints : ∀ ns : List Int, PyData.canLayAll0 (ns.map .int) = true
  | [] => by simp [PyData.canLayAll0]
  | n :: ns => by
    show PyData.canLayAll0 (.int n :: ns.map .int) = true
    rw [PyData.canLayAll0, canLay_ints ns]
    rfl
theorem depthAll_ints : ∀ ns : List Int, PyData.depthAll (ns.map .int) = 0
  | [] => by simp [PyData.depthAll]
  | n :: ns => by
    show PyData.depthAll (.int n :: ns.map .int) = 0
    rw [PyData.depthAll, depthAll_ints ns]
    rfl
theorem canLay_iT (ns : List Int) : (iT ns).canLay0 = true := by
  unfold iT
  rw [PyData.canLay0]
  exact canLay_ints ns
theorem depth_iT (ns : List Int) : (iT ns).depth = 1 := by
  unfold iT
  rw [PyData.depth, depthAll_ints]
theorem shaped_iT (ns : List Int) : SeqAt.shaped (iT ns) = true := by
  unfold SeqAt.shaped
  rw [canLay_iT, depth_iT]
  rfl
theorem shaped_ints (ns : List Int) : SeqAt.shaped (.list (ns.map .int)) = true := by
  unfold SeqAt.shaped
  rw [PyData.canLay0, canLay_ints, PyData.depth, depthAll_ints]
  rfl
theorem canLay_tups : ∀ ls : List (List Int), PyData.canLayAll0 (tups ls) = true
  | [] => by simp [tups, PyData.canLayAll0]
  | l :: ls => by
    show PyData.canLayAll0 (iT l :: tups ls) = true
    rw [PyData.canLayAll0, canLay_tups ls, canLay_iT]
    rfl
theorem depth_tups : ∀ ls : List (List Int), PyData.depthAll (tups ls) ≤ 1
  | [] => by simp [tups, PyData.depthAll]
  | l :: ls => by
    show PyData.depthAll (iT l :: tups ls) ≤ 1
    rw [PyData.depthAll, depth_iT]
    have := depth_tups ls
    omega
theorem shaped_tups (ls : List (List Int)) : SeqAt.shaped (.list (tups ls)) = true := by
  unfold SeqAt.shaped
  rw [PyData.canLay0, canLay_tups, PyData.depth, Bool.true_and, decide_eq_true_eq]
  have := depth_tups ls
  omega
theorem eqvAll_ints : ∀ ns ms : List Int, PyData.eqvAll (ns.map .int) (ms.map .int) = decide (ns = ms)
  | [], [] => by simp [PyData.eqvAll]
  | [], _ :: _ => by simp [PyData.eqvAll]
  | _ :: _, [] => by simp [PyData.eqvAll]
  | n :: ns, m :: ms => by
    show PyData.eqvAll (.int n :: ns.map .int) (.int m :: ms.map .int) = decide (n :: ns = m :: ms)
    rw [PyData.eqvAll, eqvAll_ints ns ms]
    have e : PyData.eqv (.int n) (.int m) = decide (n = m) := by simp only [PyData.eqv]; exact Bool.beq_eq_decide_eq n m
    rw [e]
    by_cases h1 : n = m <;> by_cases h2 : ns = ms <;> simp [h1, h2]
theorem eqv_iT (ns ms : List Int) : PyData.eqv (iT ns) (iT ms) = decide (ns = ms) := by
  unfold iT
  simp only [PyData.eqv]
  exact eqvAll_ints ns ms
theorem eqv_int (n m : Int) : PyData.eqv (.int n) (.int m) = decide (n = m) := by simp only [PyData.eqv]; exact Bool.beq_eq_decide_eq n m
theorem any_tups (ls : List (List Int)) (k : List Int) : ((tups ls).any fun z => PyData.eqv z (iT k)) = decide (k ∈ ls) := by
  induction ls with
  | nil => rfl
  | cons l ls ih =>
    show (PyData.eqv (iT l) (iT k) || (tups ls).any fun z => PyData.eqv z (iT k)) = decide (k ∈ l :: ls)
    rw [ih, eqv_iT]
    by_cases h : l = k
    · subst h; simp
    · have h' : ¬ k = l := fun e => h e.symm
      simp [h, h']
section
variable {c : Ct} {P : Program} {w : World} {mg : Str → Option Value} {base : Heap} {f : Addr} {fd : FuncData}

/-! ### Hall.__len__ -/
abbrev stLen : Stmt := inClass (top 12) 2
theorem scLen : FnScope ["self"] ["self"] (defScope stLen) := ⟨rfl, rfl, rfl, by decide +kernel, rfl, by decide +kernel, by decide +kernel⟩
theorem fn_len (Fn : Fun c.K "__len__" "Hall.__len__" stLen f fd) (B : Bl mg) (T : Hc c.K mg c.C) : FnOk P w c.K mg base CX0 1 f fd ["self"] (spOf c sLen) := by
  refine fn_mk Fn scLen (fun xs R h => ?_) (fun cdv A outer s H E hr xs R h => ?_)
  · obtain ⟨P, rfl, _⟩ := h
    rfl
  · obtain ⟨Pu, rfl, rfl⟩ := h
    refine ss_cons (s1_ret (EE.en (eg_callB (cg_lenT) B.len (ea_cons (ee_told (ee_name 0) T.cl T.told) ea_nil) back_e) rfl) ?_)
    show SV.d (.int ((tups Pu).length : Nat)) = .d (.int Pu.length)
    rw [tups, List.length_map]

/-! ### need_hall -/
def sNeedHall : Sc := fun xs R => ∃ P, xs = [.hall P] ∧ R = fun y => y = .d .none
abbrev stNeedHall : Stmt := top 13
theorem scNeedHall : FnScope ["hall"] ["hall"] (defScope stNeedHall) := ⟨rfl, rfl, rfl, by decide +kernel, rfl, by decide +kernel, by decide +kernel⟩
theorem own_needHall (D : Df c mg "need_hall" stNeedHall ["hall"] f fd) (B : Bl mg) (T : Hc c.K mg c.C) : Own c P w mg base "need_hall" 1 sNeedHall := by
  refine own_mk D scNeedHall (fun xs R h => ?_) (fun cdv A outer s H E hr xs R h => ?_)
  · obtain ⟨P, rfl, _⟩ := h
    rfl
  · obtain ⟨Pu, rfl, rfl⟩ := h
    refine ss_cons (s1_if (et_not (et_val (eg_callB (cg_isH T.ins) B.isinstance (ea_cons (ee_name 0) (ea_cons (ee_cls T.mgC) ea_nil)) back_e))) (fun e => by cases e) fun _ => ss_nil ?_)
    exact ss_nil rfl

/-! ### neighbours_of -/
def nbM (P : List (List Int)) (i : Nat) : List Int := (((List.range P.length).zip (rowAt P i)).filter fun z => decide (z.2 > 0)).map fun z => (z.1 : Int)
def sNb : Sc := fun xs R => ∃ P i, xs = [.hall P, .d (.int (i : Nat))] ∧ hallOk P = true ∧ i < P.length ∧ R = fun y => y = .d (iT (nbM P i))
abbrev stNb : Stmt := top 14
abbrev nNb : List Str := ["hall", "lamp", "other", "many"]
theorem scNb : FnScope nNb ["hall", "lamp"] (defScope stNb) := ⟨rfl, rfl, rfl, by decide +kernel, rfl, by decide +kernel, by decide +kernel⟩
theorem own_nb (D : Df c mg "neighbours_of" stNb ["hall", "lamp"] f fd) (B : Bl mg) (T : Hc c.K mg c.C) : Own c P w mg base "neighbours_of" 1 sNb := by
  refine own_mk D scNb (fun xs R h => ?_) (fun cdv A outer s H E hr xs R h => ?_)
  · obtain ⟨P, i, rfl, _⟩ := h
    rfl
  · obtain ⟨Pu, i, rfl, ok, hi, rfl⟩ := h
    obtain ⟨r1, r2, r3⟩ := hallOk_row ok hi
    have nd := scNb.nd
    refine ss_cons (s1_ret (EE.en (eg_callT (cg_tuple) B.tuple (ea_cons (EM.ee (em_lc
      (lc_ok (own := [("other", 2), ("many", 3)]) (fun z => decide (z.2 > 0)) (fun z => .int (z.1 : Nat)) (src_enum 2 3 true (rowAt Pu i) .int B.enumerate (EN.ef (EE.en (ee_ixT (ee_told (ee_name 0) T.cl T.told) (ee_name 1) (atI_row r1)) (imm_iT _))))
        ?ok (pg2 2 3 nd) (by decide) (fun z hz s H C cl fp => ets_one (et_cmp og_gt (ee_name 3) ee_int)) (fun z hz _ s H C cl fp => EE.en (ee_name 2) rfl) ?len) nd)) ea_nil) back_e) ?im) ?fin)
    case ok => exact blkOk_by (N := nNb) (sc := defScope stNb) (by decide +kernel)
    case len => have := hallOk_len ok; rw [List.length_zip, List.length_range]; omega
    case im =>
      rw [imm]
      exact immAll_mem fun x hx => by
        obtain ⟨z, _, rfl⟩ := List.mem_map.mp hx
        rfl
    case fin => simp [nbM, iT, r2, List.map_map, Function.comp_def]

/-! ### weight -/
def weightM (P : List (List Int)) (ws : List Nat) (ls : List Int) (i : Nat) : Int := dot (ws.map fun o => (rowAt P i).getD o 0) ls
def nats (ws : List Nat) : List Int := ws.map fun n : Nat => (n : Int)
def sWeight : Sc := fun xs R => ∃ P ws ls i t, xs = [.hall P, .d (iT (nats ws)), .d (sqD t (ls.map .int)), .d (.int (i : Nat))] ∧ hallOk P = true ∧ i < P.length ∧ (∀ o ∈ ws, o < P.length) ∧ ws.length ≤ 8 ∧ R = fun y => y = .d (.int (weightM P ws ls i))
abbrev stWeight : Stmt := top 22
abbrev nWeight : List Str := ["hall", "wing", "load", "lamp", "other", "many", "own"]
theorem scWeight : FnScope nWeight ["hall", "wing", "load", "lamp"] (defScope stWeight) := ⟨rfl, rfl, rfl, by decide +kernel, rfl, by decide +kernel, by decide +kernel⟩
theorem own_weight (D : Df c mg "weight" stWeight ["hall", "wing", "load", "lamp"] f fd) (B : Bl mg) (T : Hc c.K mg c.C) : Own c P w mg base "weight" 1 sWeight := by
  refine own_mk D scWeight (fun xs R h => ?_) (fun cdv A outer s H E hr xs R h => ?_)
  · obtain ⟨P, ws, ls, i, t, rfl, _⟩ := h
    rfl
  · obtain ⟨Pu, ws, ls, i, t, rfl, ok, hi, hw, hwl, rfl⟩ := h
    obtain ⟨r1, r2, r3⟩ := hallOk_row ok hi
    have nd := scWeight.nd
    refine ss_cons (s1_ret (EE.en (eg_callB (cg_sum (ns := ((ws.map fun o => (rowAt Pu i).getD o 0).zip ls).map fun z => z.1 * z.2)) B.sum (ea_cons (EE.is (EM.ee (em_lc
      (lc_ok (own := [("many", 5), ("own", 6)]) (fun _ => true) (fun z => .int (z.1 * z.2)) (src_zip 5 6 false t (ws.map fun o => (rowAt Pu i).getD o 0) ls .int .int B.zip (EN.ef (EM.en (EM.is (em_lc
        (lc_ok (own := [("other", 4)]) (fun _ => true) (fun o : Nat => .int ((rowAt Pu i).getD o 0)) (src_tup 4 ws (fun o : Nat => .int (o : Int)) (EF.is (ef_name 1) (by unfold iT nats; rw [List.map_map]; rfl)))
          (blkOk_by (N := nWeight) (sc := defScope stWeight) (by decide +kernel)) (pg1 4 nd) (by decide) (fun z hz s H C cl fp => ets_nil)
          (fun z hz _ s H C cl fp => EE.en (ee_ixT (ee_ixT (ee_told (ee_name 0) T.cl T.told) (ee_name 3) (atI_row r1)) (ee_name 4) (atI_int (by rw [r2]; exact hw z hz))) rfl) (by omega)) nd) ?inn))) (ef_name 2))
        ?ok (pg2 5 6 nd) (by decide) (fun z hz s H C cl fp => ets_nil) (fun z hz _ s H C cl fp => EE.en (ee_bin (og_mul ?mul) (ee_name 5) (ee_name 6)) rfl) ?len) nd)) ?lc) ea_nil) back_e) rfl) ?fin)
    case inn => rw [filt_true]; simp [sqD, List.map_map, Function.comp_def]
    case ok => exact blkOk_by (N := nWeight) (sc := defScope stWeight) (by decide +kernel)
    case mul =>
      obtain ⟨z1, _⟩ := List.of_mem_zip hz
      obtain ⟨o, ho, e⟩ := List.mem_map.mp z1
      have hb := hw o ho
      have := r3 ((rowAt Pu i).getD o 0) (by rw [List.getD_eq_getElem?_getD, List.getElem?_eq_getElem (by omega)]; exact List.getElem_mem _)
      rw [← e]
      exact .inl ⟨by omega, by omega⟩
    case len => rw [List.length_zip, List.length_map]; omega
    case lc => rw [filt_true]; simp [List.map_map, Function.comp_def]
    case fin => rfl
end
end K33

set_option maxHeartbeats 4000000
/-! K33l: more small defs. -/
namespace K33
open PySem PySem.Spec PyProof.Rows L2
section
variable {c : Ct} {P : Program} {w : World} {mg : Str → Option Value} {base : Heap} {f : Addr} {fd : FuncData} {nm : Str} {j k : Nat} {S : Sc}
theorem Own.mono (O : Own c P w mg base nm j S) (h : j ≤ k) : Own c P w mg base nm k S := let ⟨f, fd, ps, F, r⟩ := O; ⟨f, fd, ps, F.mono h, r⟩

/-! ### unit_of -/
def unitM (n i : Nat) : List Int := (List.range n).map fun o : Nat => b2n (decide ((o : Int) = (i : Int)))
def sUnit : Sc := fun xs R => ∃ P i, xs = [.hall P, .d (.int (i : Nat))] ∧ hallOk P = true ∧ R = fun y => y = .d (iT (unitM P.length i))
abbrev stUnit : Stmt := top 31
abbrev nUnit : List Str := ["hall", "lamp", "other"]
theorem scUnit : FnScope nUnit ["hall", "lamp"] (defScope stUnit) := ⟨rfl, rfl, rfl, by decide +kernel, rfl, by decide +kernel, by decide +kernel⟩
theorem own_unit (D : Df c mg "unit_of" stUnit ["hall", "lamp"] f fd) (B : Bl mg) (T : Hc c.K mg c.C) (L : Ln c P w mg base 1) : Own c P w mg base "unit_of" 3 sUnit := by
  refine own_mk D scUnit (fun xs R h => ?_) (fun cdv A outer s H E hr xs R h => ?_)
  · obtain ⟨P, i, rfl, _⟩ := h
    rfl
  · obtain ⟨Pu, i, rfl, ok, rfl⟩ := h
    have nd := scUnit.nd
    have hl := hallOk_len ok
    refine ss_cons (s1_ret (EE.en (eg_callT (cg_tuple) B.tuple (ea_cons (EM.ee (em_lc
      (lc_ok (own := [("other", 2)]) (fun _ => true) (fun o : Nat => .int (b2n (decide ((o : Int) = (i : Int))))) (src_rng1 2 (Pu.length : Nat) B.range (eg_callB (cg_lenH (P := Pu) L hr (by omega)) B.len (ea_cons (ee_name 0) ea_nil) back_e) ?bd)
        ?ok (pg1 2 nd) (by decide) (fun z hz s H C cl fp => ets_nil) (fun z hz _ s H C cl fp => EE.en (eg_callT (cg_intb) B.int (ea_cons (ee_cmp (og_eq hr.units rfl rfl (eqv_int _ _)) (ee_name 2) (ee_name 1)) ea_nil) back_e) rfl) ?len) nd)) ea_nil) back_e) ?im) ?fin)
    case bd => omega
    case ok => exact blkOk_by (N := nUnit) (sc := defScope stUnit) (by decide +kernel)
    case len => rw [List.length_range]; omega
    case im =>
      rw [imm]
      exact immAll_mem fun x hx => by
        obtain ⟨z, _, rfl⟩ := List.mem_map.mp hx
        rfl
    case fin => rw [filt_true]; simp [unitM, iT, List.map_map, Function.comp_def]

/-! ### are_numbers -/
def sAreN : Sc := fun xs R => ∃ P ns, xs = [.hall P, .d (iT ns)] ∧ hallOk P = true ∧ R = fun y => y = .d (.bool (decide (ns.length = P.length)))
abbrev stAreN : Stmt := top 27
abbrev nAreN : List Str := ["hall", "value", "one"]
theorem scAreN : FnScope nAreN ["hall", "value"] (defScope stAreN) := ⟨rfl, rfl, rfl, by decide +kernel, rfl, by decide +kernel, by decide +kernel⟩
theorem own_areN (D : Df c mg "are_numbers" stAreN ["hall", "value"] f fd) (B : Bl mg) (T : Hc c.K mg c.C) (L : Ln c P w mg base 1) : Own c P w mg base "are_numbers" 3 sAreN := by
  refine own_mk D scAreN (fun xs R h => ?_) (fun cdv A outer s H E hr xs R h => ?_)
  · obtain ⟨P, ns, rfl, _⟩ := h
    rfl
  · obtain ⟨Pu, ns, rfl, ok, rfl⟩ := h
    have nd := scAreN.nd
    have hl := hallOk_len ok
    refine ss_cons (s1_if (et_or2 (et_not (et_val (eg_callB (cg_isi (d := .tuple (ns.map .int)) (n := "tuple") (k := true) rfl) B.isinstance (ea_cons (ee_name 1) (ea_cons (ee_ty (n := "tuple") B.tuple) ea_nil)) back_e)))
      fun _ => et_cmp (og_ne (k := !decide ((ns.length : Int) = (Pu.length : Int))) hr.units rfl rfl ?ne) (eg_callB (cg_lenT) B.len (ea_cons (ee_name 1) ea_nil) back_e) (eg_callB (cg_lenH (P := Pu) L hr (by omega)) B.len (ea_cons (ee_name 0) ea_nil) back_e)) (fun e => ?yes) fun e => ss_nil ?no)
    case ne => rw [eqv_int, List.length_map, Bool.not_not]
    case yes =>
      have : ¬ ns.length = Pu.length := by
        intro z
        rw [z] at e
        simp at e
      refine ss_cons (s1_ret (EE.en ee_bl rfl) ?_)
      rw [decide_eq_false this]
    case no =>
      have e2 : ns.length = Pu.length := by
        have := of_decide_eq_true (Bool.not_eq_false' .. ▸ e)
        omega
      refine ss_cons (s1_ret (EE.en (eg_callB (cg_all (bs := ns.map fun _ => true)) B.all (ea_cons (EE.is (EM.ee (em_lc
        (lc_ok (own := [("one", 2)]) (fun _ => true) (fun _ : Int => .bool true) (src_tup 2 ns .int (ef_name 1)) ?ok (pg1 2 nd) (by decide) (fun z hz s H C cl fp => ets_nil)
          (fun z hz _ s H C cl fp => EE.en (EE.is (ee_and2 (eg_callB (cg_isi (d := .int z) (n := "int") (k := true) rfl) B.isinstance (ea_cons (ee_name 2) (ea_cons (ee_ty (n := "int") B.int) ea_nil)) back_e)
            fun _ => ee_not (eg_callB (cg_isi (d := .int z) (n := "bool") (k := false) rfl) B.isinstance (ea_cons (ee_name 2) (ea_cons (ee_ty (n := "bool") B.bool) ea_nil)) back_e)) rfl) rfl) ?len) nd)) ?lc) ea_nil) back_e) rfl) ?fin)
      case ok => exact blkOk_by (N := nAreN) (sc := defScope stAreN) (by decide +kernel)
      case len => omega
      case lc => rw [filt_true]; simp [List.map_map, Function.comp_def]
      case fin => simp [e2]

/-! ### changed -/
def changedM (P : List (List Int)) (ns : List Int) (i : Nat) : List Int := ((ns.zip (rowAt P i)).map fun z => z.1 + z.2 * ns.getD i 0).set i (-(ns.getD i 0))
def sChanged : Sc := fun xs R => ∃ P ns i, xs = [.hall P, .d (iT ns), .d (.int (i : Nat))] ∧ hallOk P = true ∧ i < P.length ∧ ns.length = P.length ∧ R = fun y => y = .d (iT (changedM P ns i))
abbrev stChanged : Stmt := top 28
abbrev nChanged : List Str := ["hall", "numbers", "lamp", "own", "found", "number", "many"]
theorem scChanged : FnScope nChanged ["hall", "numbers", "lamp"] (defScope stChanged) := ⟨rfl, rfl, rfl, by decide +kernel, rfl, by decide +kernel, by decide +kernel⟩
theorem map_set {α β : Type} (f : α → β) (l : List α) (i : Nat) (a : α) : (l.set i a).map f = (l.map f).set i (f a) := by
  induction l generalizing i with
  | nil => rfl
  | cons x xs ih => cases i <;> simp [ih]
theorem own_changed (D : Df c mg "changed" stChanged ["hall", "numbers", "lamp"] f fd) (B : Bl mg) (T : Hc c.K mg c.C) : Own c P w mg base "changed" 1 sChanged := by
  refine own_mk D scChanged (fun xs R h => ?_) (fun cdv A outer s H E hr xs R h => ?_)
  · obtain ⟨P, ns, i, rfl, _⟩ := h
    rfl
  · obtain ⟨Pu, ns, i, rfl, ok, hi, hn, rfl⟩ := h
    obtain ⟨r1, r2, r3⟩ := hallOk_row ok hi
    have nd := scChanged.nd
    have hl := hallOk_len ok
    refine ss_cons (s1_asg 3 (EN.ef (EE.en (ee_ixT (ee_name 1) (ee_name 2) (atI_int (by omega))) rfl)) ?_ nd)
    refine ss_cons (s1_lc 4 (lc_ok (own := [("number", 5), ("many", 6)]) (fun _ => true) (fun z => .int (z.1 + z.2 * ns.getD i 0)) (src_zip 5 6 true true ns (rowAt Pu i) .int .int B.zip (ef_name 1) (EN.ef (EE.en (ee_ixT (ee_told (ee_name 0) T.cl T.told) (ee_name 2) (atI_row r1)) (imm_iT _))))
        ?ok (pg2 5 6 nd) (by decide) (fun z hz s H C cl fp => ets_nil) (fun z hz _ s H C cl fp => EE.en (ee_bin og_add (ee_name 5) (ee_bin (og_mul ?mul) (ee_name 6) (ee_name 3))) rfl) ?len) ?_ nd)
    case ok => exact blkOk_by (N := nChanged) (sc := defScope stChanged) (by decide +kernel)
    case mul =>
      obtain ⟨_, z1⟩ := List.of_mem_zip hz
      have := r3 _ z1
      exact .inl ⟨by omega, by omega⟩
    case len => rw [List.length_zip]; omega
    rw [filt_true]
    refine ss_cons (s1_lput (j := i) 4 rfl (EE.en (ee_neg (ee_name 3)) rfl) (ee_name 2) rfl (by rw [List.length_map, List.length_zip]; omega) ?_)
    refine ss_cons (s1_ret (EE.en (eg_callT (cg_tuple) B.tuple (ea_cons (ee_name 4) ea_nil) back_e) ?im) ?fin)
    case im =>
      rw [imm]
      exact immAll_mem fun x hx => by
        rcases List.mem_or_eq_of_mem_set hx with h | rfl
        · obtain ⟨z, _, rfl⟩ := List.mem_map.mp h
          rfl
        · rfl
    case fin => simp [changedM, iT, map_set, List.map_map, Function.comp_def]

/-! ### together -/
def plusM (a b : List Int) : List Int := (a.zip b).map fun z => z.1 + z.2
def sTog : Sc := fun xs R => ∃ a b, xs = [.d (iT a), .d (iT b)] ∧ a.length ≤ 8 ∧ R = fun y => y = .d (iT (plusM a b))
abbrev stTog : Stmt := top 39
abbrev nTog : List Str := ["one", "other", "some", "more"]
theorem scTog : FnScope nTog ["one", "other"] (defScope stTog) := ⟨rfl, rfl, rfl, by decide +kernel, rfl, by decide +kernel, by decide +kernel⟩
theorem own_tog (D : Df c mg "together" stTog ["one", "other"] f fd) (B : Bl mg) : Own c P w mg base "together" 1 sTog := by
  refine own_mk D scTog (fun xs R h => ?_) (fun cdv A outer s H E hr xs R h => ?_)
  · obtain ⟨a, b, rfl, _⟩ := h
    rfl
  · obtain ⟨a, b, rfl, hl, rfl⟩ := h
    have nd := scTog.nd
    refine ss_cons (s1_ret (EE.en (eg_callT (cg_tuple) B.tuple (ea_cons (EM.ee (em_lc
      (lc_ok (own := [("some", 2), ("more", 3)]) (fun _ => true) (fun z => .int (z.1 + z.2)) (src_zip 2 3 true true a b .int .int B.zip (ef_name 0) (ef_name 1))
        ?ok (pg2 2 3 nd) (by decide) (fun z hz s H C cl fp => ets_nil) (fun z hz _ s H C cl fp => EE.en (ee_bin og_add (ee_name 2) (ee_name 3)) rfl) ?len) nd)) ea_nil) back_e) ?im) ?fin)
    case ok => exact blkOk_by (N := nTog) (sc := defScope stTog) (by decide +kernel)
    case len => rw [List.length_zip]; omega
    case im =>
      rw [imm]
      exact immAll_mem fun x hx => by
        obtain ⟨z, _, rfl⟩ := List.mem_map.mp hx
        rfl
    case fin => rw [filt_true]; simp [plusM, iT, List.map_map, Function.comp_def]

/-! ### is_reason -/
/-- what is in a lot: a list of arrows, or a dict by arrows -/
inductive Mem : SV → (List Int → Bool) → Prop
  | l (ls : List (List Int)) : Mem (.d (.list (tups ls))) fun k => decide (k ∈ ls)
  | t (kvs : List (List Int × PyData)) : Mem (.dT kvs) fun k => (lookT kvs k).isSome
def isReasonM (mem : List Int → Bool) (a b s : List Int) : Bool := if mem s = true then !mem a && !mem b else mem a && mem b
section
variable {X : Cx} {env : Ev'} {a b : Expr} {x : SV} {mem : List Int → Bool} {ks : List Int} {pos : Pos}
theorem ee_mem (m : Mem x mem) (hu : X.A.units + 65 < cLine) (ha : EE c X env a (.d (iT ks))) (hb : EE c X env b x) (hm : behindInMarks .In b = false := by rfl) (hK : X.K = c.K := by rfl) : EE c X env (.Compare a [.In] [b] pos) (.d (.bool (mem ks))) := by
  cases m with
  | l ls => exact ee_cmp (og_in hu (shaped_iT _) (shaped_tups _) (any_tups _ _) hK) ha hb hm
  | t kvs => exact ee_din (.t kvs ks) (by omega) ha hb hm
theorem et_mem (m : Mem x mem) (hu : X.A.units + 65 < cLine) (ha : EE c X env a (.d (iT ks))) (hb : EE c X env b x) (hm : behindInMarks .In b = false := by rfl) (hK : X.K = c.K := by rfl) : ET c X env (.Compare a [.In] [b] pos) (mem ks) := by
  cases m with
  | l ls => exact et_cmp (og_in hu (shaped_iT _) (shaped_tups _) (any_tups _ _) hK) ha hb hm
  | t kvs => exact et_din (.t kvs ks) (by omega) ha hb hm
theorem ee_nmem (m : Mem x mem) (hu : X.A.units + 65 < cLine) (ha : EE c X env a (.d (iT ks))) (hb : EE c X env b x) (hm : behindInMarks .NotIn b = false := by rfl) (hK : X.K = c.K := by rfl) : EE c X env (.Compare a [.NotIn] [b] pos) (.d (.bool (!mem ks))) := by
  cases m with
  | l ls => exact ee_cmp (og_notIn hu (shaped_iT _) (shaped_tups _) (by rw [any_tups, Bool.not_not]) hK) ha hb hm
  | t kvs => exact ee_dnin (.t kvs ks) (by omega) ha hb hm
end
def sReason : Sc := fun xs R => ∃ x mem a b s, xs = [x, .d (iT a), .d (iT b), .d (iT s)] ∧ Mem x mem ∧ R = fun y => y = .d (.bool (isReasonM mem a b s))
abbrev stReason : Stmt := top 40
theorem scReason : FnScope ["lot", "one", "other", "whole"] ["lot", "one", "other", "whole"] (defScope stReason) := ⟨rfl, rfl, rfl, by decide +kernel, rfl, by decide +kernel, by decide +kernel⟩
theorem own_reason (D : Df c mg "is_reason" stReason ["lot", "one", "other", "whole"] f fd) : Own c P w mg base "is_reason" 1 sReason := by
  refine own_mk D scReason (fun xs R h => ?_) (fun cdv A outer s H E hr xs R h => ?_)
  · obtain ⟨x, mem, a, b, s, rfl, _⟩ := h
    rfl
  · obtain ⟨x, mem, a, b, s', rfl, hm, rfl⟩ := h
    refine ss_cons (s1_if (et_mem hm (hu65 hr) (ee_name 3) (ee_name 0)) (fun e => ?_) fun e => ss_nil ?_)
    · refine ss_cons (s1_ret (EE.en (ee_and2 (ee_nmem hm (hu65 hr) (ee_name 1) (ee_name 0)) fun _ => ee_nmem hm (hu65 hr) (ee_name 2) (ee_name 0)) rfl) ?_)
      unfold isReasonM
      rw [if_pos e]
    · refine ss_cons (s1_ret (EE.en (ee_and2 (ee_mem hm (hu65 hr) (ee_name 1) (ee_name 0)) fun _ => ee_mem hm (hu65 hr) (ee_name 2) (ee_name 0)) rfl) ?_)
      unfold isReasonM
      rw [if_neg (by rw [e]; exact Bool.false_ne_true)]
end
end K33

set_option maxHeartbeats 4000000
/-! K33m: tuple * 1, min of two tuples, dicts with tuple keys: list, sorted, update, len. -/
namespace K33
open PySem PySem.Spec PyProof.Rows L2

/-! ### tuple * 1 -/
theorem tuple_mul1 (l : Addr) (items : Array Value) (n : Nat) (dd : Option Addr) (sl : Array (Option Value)) (u : Tok) :
    Meets (Builtin.«tuple.__mul__» ⟨[.ref l, .int 1 u], []⟩) (fun _ R s => s.heap.get? l = some { cls := .type "tuple", dict := dd, data := .seq items n, slots := sl } ∧ R (.ok (.ret (Value.ref l))) s) :=
  .of_wp fun prog w A R s h => by
    obtain ⟨hp, g, d, tk, os⟩ := s
    obtain ⟨hl, h⟩ := h
    have f1 := AutoSeq1.idx_int
    have c0 : (decide ((1 : Int) < -(2 ^ 63)) || decide ((1 : Int) ≥ 2 ^ 63)) = false := by decide
    have c1 : (items.isEmpty || (1 : Int) == 1) = true := by simp
    wp_walk using wpAny_loadPart' hl
    repeat (first
      | (refine wpAny_ite_false (decide_eq_false (by rw [c0]; exact Bool.false_ne_true)) ?_; wp_walk using wpAny_loadPart' hl)
      | (refine wpAny_ite_true (decide_eq_true c1) ?_; wp_walk using wpAny_loadPart' hl)
      | (rw [if_pos c1]; wp_walk using wpAny_loadPart' hl))
    exact ⟨_, rfl, h⟩
def rRepT1 (K : PySem.W.Frag) : R2 := fun x y H Q => ∃ l xs, x = .ref l ∧ y = .int 1 ∧ SqT K H l xs ∧ Q (.ref l) H
section
variable {X : Cx}
theorem op_repT1 : OpR X (binaryOp .Mult) (rRepT1 X.K) := by
  intro pins s σ H x y v u Q I rx ry h
  obtain ⟨l, xs, rfl, rfl, hT, q⟩ := h
  cases rx
  obtain ⟨t, rfl⟩ := ry
  obtain ⟨its, r, ⟨⟨cls, dd, data, sl⟩, ho, hc, n, hd⟩, hs⟩ := I.tuple hT
  simp only at hc hd
  subst hc hd
  refine wpAny_binaryOp_repeat_ref (T := "tuple") (U := "int") (by decide) ⟨_, ho, rfl⟩ (fun s' => typeIs_int s' 1 t) noFill_tuple_mul F.fills_int_mul F.slot_int_rmul repeat_tuple F.slot_int_index.lookup
    (call_meets F.slot_int_rmul (typeIs_int s 1 t) F.entry_int_rmul (F.args_int_rmul_2 _ _) (int_rmul_tuple 1 t l its.toArray n dd sl)
      ⟨ho, rfl, ⟨_, ho, rfl⟩, call_meets F.slot_tuple_mul ⟨_, ho, rfl⟩ F.entry_tuple_mul (F.args_tuple_mul_2 _ _) (tuple_mul1 l its.toArray n dd sl t) ⟨ho, ?_⟩⟩)
  exact ⟨.ref l, H, I, rfl, q⟩
end
section
variable {c : Ct} {X : Cx} {env : Ev'} {e a b : Expr} {x y z : SV} {xs : List SV} {R : Rel} {pos p : Pos}
theorem og_repT1 {ds : List PyData} (hK : X.K = c.K := by rfl) : OG c X (binaryOp .Mult) (.d (.tuple ds)) (.d (.int 1)) (rE c (.d (.tuple ds))) :=
  ⟨_, op_repT1, fun H v w r1 r2 Q q => by
    have r0 := r1
    obtain ⟨p1, vs, rfl, a1, d1⟩ := dq_tup r1
    cases (show Dq c.K H w (.int 1) from r2)
    exact ⟨p1, vs, rfl, rfl, SqT.of a1, q _ H (Same.refl H) r0⟩⟩
/-- (1,) * n -/
theorem og_ones {n : Nat} (h : 1 ≤ n ∧ n ≤ 1000) (hK : X.K = c.K := by rfl) : OG c X (binaryOp .Mult) (.d (iT [1])) (.d (.int (n : Nat))) (rE c (.d (iT (List.replicate n 1)))) := by
  by_cases e : n = 1
  · subst e
    exact og_repT1 hK
  · have o := og_repT (c := c) (X := X) (ds := [PyData.int 1]) (k := (n : Int)) (by simp) ⟨by omega, by omega⟩ (by simp) hK
    have e2 : (List.replicate ((n : Int)).toNat [PyData.int 1]).flatten = (List.replicate n (1 : Int)).map PyData.int := by
      rw [Int.toNat_natCast]
      clear e o h
      induction n with
      | zero => rfl
      | succ n ih => rw [List.replicate_succ, List.replicate_succ, List.flatten_cons, List.map_cons, ih]; rfl
    rw [e2] at o
    exact o
/-- a if t else b, as a part that stays -/
theorem ef_if {k : Bool} {t : Expr} (h : ET c X env t k) (h1 : k = true → EF c X env a x) (h2 : k = false → EF c X env b x) : EF c X env (.IfExp t a b pos) x := fun σ H F fz Q q =>
  WE.of (pe_ifExp pt_w pe_w pe_w) (h σ H fz.rd _ fun H1 s1 => by
    have fz1 : Fz c F H1 σ env := fz.step s1 (Same.refl F) (fz.sub.trans s1)
    have g : ∀ {e : Expr}, EF c X env e x → WE X e σ H1 Q := fun h => h σ H1 F fz1 Q fun u H2 F2 s2 f2 f3 f4 ru => q u H2 F2 (s1.trans s2) f2 f3 (fun a o e0 e1 t0 => f4 a o e0 (s1 _ _ e1) t0) ru
    cases k with
    | true => exact iteT (g (h1 rfl))
    | false => exact iteF (g (h2 rfl)))
end

/-! ### min of two tuples of ints -/
section
variable {prog : Program} {w : World} {A : Around} {E : Value → Shared → Prop} {s : Shared}
theorem isTuple_of {h : Heap} {a : Addr} {its : Array Value} (x : IsTup h a its) : h.IsTuple a its := x
theorem min_two_tups {a b : Addr} {i1 i2 : Array Value} {x y : List Int} {Q : Value → Shared → Prop} (hh : A.handled = none) (ha : IsTup s.heap a i1) (hb : IsTup s.heap b i2) (hx : IntsAre i1.toList x) (hy : IntsAre i2.toList y) (hu : A.units + 1 < cLine)
    (h : ∀ h' tk, (∀ c o, s.heap.get? c = some o → h'.get? c = some o) → Q (.ref (if HT.lexLt y x = true then b else a)) { s with heap := h', toks := tk }) :
    wpAny (model prog w) A (call (.builtin "min") [.ref a, .ref b]) Q E s := by
  have hname : (toString "min" ++ toString ".loop" : String) = "min.loop" := by decide
  refine call_function_tree F.kind_min F.plain_min F.entry_min (F.args_min2 _ _) ?_
  show wpAny _ A.in1 (Builtin.Builtins.bindParams "min" ["key", "default"] 0 ⟨[], []⟩ >>= _) _ _ s
  refine wpAny_bind (wpAny_of_eq (show Builtin.Builtins.bindParams "min" ["key", "default"] 0 ⟨[], []⟩ = pure [none, none] from rfl) ?_)
  show wpAny _ A.in1 (newTuple [.ref a, .ref b] >>= _) _ _ s
  refine wpAny_bind (wpAny_newObj_type ?_)
  have hT : (s.heap.push { cls := .type "tuple", data := .seq #[Value.ref a, Value.ref b] }).IsTuple s.heap.objs.size #[Value.ref a, Value.ref b] := ⟨_, Heap.get?_push_size _ rfl, rfl, 0, rfl⟩
  have k1 : ∀ c o, s.heap.get? c = some o → (s.heap.push { cls := .type "tuple", data := .seq #[Value.ref a, Value.ref b] }).get? c = some o := fun c o e => Heap.get?_push_of_some _ e
  refine wpAny_bind (PySem.W.iter_tupleW (A := A.in1) (s := { s with heap := s.heap.push { cls := .type "tuple", data := .seq #[Value.ref a, Value.ref b] } }) hh hT fun s₂ e W st hfp hw hk => ?_)
  refine wpAny_bind (wpAny_newObj_type ?_)
  have hcmp : CmpIn prog w A.in1 .Lt (s.heap.push { cls := .type "tuple", data := .seq #[Value.ref a, Value.ref b] }) (fun i v => (#[Value.ref a, Value.ref b] : Array Value)[i]? = some v) (fun i j => HT.lexLt (if i = 0 then x else y) (if j = 0 then x else y)) := by
    intro i j vi vj s' Q' E' hkk hi hj hq
    have at_ : ∀ (i : Nat) v, (#[Value.ref a, Value.ref b] : Array Value)[i]? = some v → ∃ (p : Addr) (it : Array Value), v = .ref p ∧ IsTup s'.heap p it ∧ IntsAre it.toList (if i = 0 then x else y) := by
      intro i v e
      match i, e with
      | 0, e => cases (show some _ = some v from e); exact ⟨a, i1, rfl, ha.keeps fun c o q => hkk c o (k1 c o q), hx⟩
      | 1, e => cases (show some _ = some v from e); exact ⟨b, i2, rfl, hb.keeps fun c o q => hkk c o (k1 c o q), hy⟩
      | n + 2, e => simp at e
    obtain ⟨p1, t1, rfl, e1, e2⟩ := at_ i vi hi
    obtain ⟨p2, t2, rfl, e3, e4⟩ := at_ j vj hj
    exact HT.lt_tupInts e1 e3 e2 e4 hu hq
  have hSf : s₂.heap.objs.size ∉ [(s.heap.push { cls := .type "tuple", data := .seq #[Value.ref a, Value.ref b] }).objs.size, s.heap.objs.size] := fun hm => Nat.lt_irrefl _ (hfp _ hm)
  rw [hname]
  refine wpAny_pure ⟨plainId_quiet F.plain_min_loop _, codeAny_min_loop_firstH W _ hw _ hcmp s₂.heap.objs.size hSf (fresh_in hk) _ (by show 0 < 2; omega) (fun b o e => Heap.get?_push_of_some _ (hk b o e)) (W.frame 0 s₂ _ s₂.toks st (Nat.le_refl _) fun b _ o e => Heap.get?_push_of_some _ e) (Heap.get?_push_size _ rfl) fun v s' hP hm => ?_⟩
  obtain ⟨h', tk, e', hk'⟩ := PySem.W.moved_old e rfl (Moved.drop_new (tk := s₂.toks) hm (Nat.le_refl _))
  subst e'
  have hv : v = .ref (if HT.lexLt y x = true then b else a) := by
    have hP : (#[Value.ref a, Value.ref b] : Array Value)[if HT.lexLt y x = true then 1 else 0]? = some v := hP
    by_cases z : HT.lexLt y x = true
    · rw [if_pos z] at hP ⊢; exact (Option.some.inj (show some _ = some v from hP)).symm
    · rw [if_neg z] at hP ⊢; exact (Option.some.inj (show some _ = some v from hP)).symm
  rw [hv]
  exact h h' tk fun c o q => hk' c o (k1 c o q)
end
section
variable {X : Cx}
def rMinT (K : PySem.W.Frag) : List V → Hp → VK → Prop := fun vs H Q => ∃ (a b : Addr) (ns ms : List Int), vs = [.ref a, .ref b] ∧ SqT K H a (ns.map V.int) ∧ SqT K H b (ms.map V.int) ∧ Q (.ref (if HT.lexLt ms ns = true then b else a)) H
theorem call_min2T (hcalm : X.calm = true) (hu : X.A.units + 1 < cLine) : CallR X (.builtin "min") (rMinT X.K) := by
  intro pins s σ H xs us Q I r h
  obtain ⟨a, b, ns, ms, rfl, ha, hb, q⟩ := h
  obtain ⟨u1, u2, rfl, r1, r2⟩ := vals2 r
  cases r1
  cases r2
  obtain ⟨its, r1, p1, _⟩ := I.tuple ha
  obtain ⟨its2, r2, p2, _⟩ := I.tuple hb
  exact min_two_tups (I.ok.hd hcalm) p1 p2 (intsAre_of r1) (intsAre_of r2) hu fun h' tk hk => ⟨.ref _, H, I.kept (t' := tk) hk, rfl, q⟩
end

section
variable {c : Ct} {X : Cx}
theorem cg_minT {ns ms : List Int} (hu : X.A.units + 1 < cLine) (hcalm : X.calm = true := by rfl) (hK : X.K = c.K := by rfl) : CG c X (.builtin "min") [.d (iT ns), .d (iT ms)] (rE c (.d (iT (if HT.lexLt ms ns = true then ms else ns)))) :=
  ⟨_, call_min2T hcalm hu, fun H vs rv Q q => by
    obtain ⟨v, w, rfl, r1, r2⟩ := rvs2 rv
    have q1 := r1
    have q2 := r2
    obtain ⟨a, vs, rfl, h1, h2⟩ := dq_tup r1
    obtain ⟨b, ws, rfl, h3, h4⟩ := dq_tup r2
    cases dq_ints h2
    cases dq_ints h4
    refine ⟨a, b, ns, ms, rfl, SqT.of h1, SqT.of h3, q _ H (Same.refl H) ?_⟩
    by_cases z : HT.lexLt ms ns = true
    · rw [if_pos z, if_pos z]; exact q2
    · rw [if_neg z, if_neg z]; exact q1⟩
end

/-! ### list(d), sorted(d), len(d): keys that are tuples -/
section
variable {X : Cx}
abbrev KA (H : Hp) : List (List L2.Key × V) → List Addr → Prop := Paired fun p a => H a = some (.tup (p.1.map kV))
theorem ka_of {H : Hp} : ∀ {kvs : List (List L2.Key × V)} {xs : List (List L2.Key × Addr × Value)}, Paired (fun (p : List L2.Key × V) (q : List L2.Key × Addr × Value) => p.1 = q.1 ∧ H q.2.1 = some (.tup (p.1.map kV)) ∧ RelV p.2 q.2.2) kvs xs → KA H kvs (xs.map (·.2.1))
  | _, _, .nil => .nil
  | _, _, .cons h t => .cons h.2.1 (ka_of t)
theorem vals_refs : ∀ (as : List Addr) (its : List Value), its.length = as.length → (∀ (j : Nat) v, its[j]? = some v → ∃ a, as[j]? = some a ∧ v = .ref a) → Vals (as.map V.ref) its
  | [], [], _, _ => .nil
  | [], _ :: _, h, _ => by simp at h
  | _ :: _, [], h, _ => by simp at h
  | a :: as, v :: its, h, k => by
    obtain ⟨b, e1, e2⟩ := k 0 v rfl
    cases (show some a = some b from e1)
    exact .cons e2 (vals_refs as its (by simpa using h) fun j v e => k (j + 1) v e)
theorem raw_of {P : Program} {w : World} {H : Hp} {h : Heap} {a : Addr} {kvs : List (List L2.Key × V)} (ok : HOk P w H h) (e : H a = some (.dT kvs)) :
    kvs.length ≤ sizeLine ∧ (a == sysModules) = false ∧ ∃ (es : Array DictEntry) (ep : Nat) (as : List Addr), h.DictRaw a es ep ∧ es.size = as.length ∧ KA H kvs as ∧ ∀ (j : Nat) (hj : j < es.size), ∃ b, as[j]? = some b ∧ es[j].key = .ref b := by
  obtain ⟨z, hd, xs, rel, o, es, ep, ho, hx, hdat, hes, hn⟩ := (show ObjOk P w H h a (.dT kvs) from ok a _ e)
  refine ⟨z, hd, es, ep, xs.map (·.2.1), ⟨o, ho, hx, hdat⟩, by rw [List.length_map]; exact size_of_entries hes, ka_of rel, fun j hj => ?_⟩
  have h1 := entry_at hes j
  have h2 : es[j]? = some es[j] := by simp [hj]
  rw [h2] at h1
  cases q : xs[j]? with
  | none => rw [q] at h1; exact nomatch (show some es[j] = none from h1)
  | some x =>
    rw [q] at h1
    have h3 : es[j] = entryOfKey (tupleKind (mixKind P w)) x := Option.some.inj h1
    exact ⟨x.2.1, by rw [List.getElem?_map, q]; rfl, by rw [h3]; rfl⟩
def rListDT : List V → Hp → VK → Prop := fun vs H Q => ∃ (a : Addr) (kvs : List (List L2.Key × V)), vs = [.ref a] ∧ H a = some (.dT kvs) ∧ ∀ (as : List Addr) (p : Addr), KA H kvs as → H p = none → Q (.ref p) (upd H p (.lst (as.map V.ref)))
theorem call_listDT (hcalm : X.calm = true) : CallR X (.type "list") rListDT := by
  intro pins s σ H xs us Q I r q
  obtain ⟨a, kvs, ex, hd, q⟩ := q
  subst ex
  obtain ⟨u, eu, rx⟩ := vals1 r
  subst eu
  cases rx
  obtain ⟨z, lo, es, ep, as, hraw, hsz, ka, hk⟩ := raw_of I.hok hd
  have hl : kvs.length = as.length := Paired.length ka
  refine PySem.W.kdl_call (KdlSrc.rawDict (es := es) (ep := ep) lo) (I.ok.hd hcalm) hraw (by omega) fun h' tk acc c' hkp hD hacc => ?_
  have hv : Vals (as.map V.ref) acc.toList := vals_refs as _ (by rw [Array.length_toList, hacc.1, hsz]) fun j v e => by
    obtain ⟨hj, ev⟩ := hacc.2 j v (by rw [← Array.getElem?_toList]; exact e)
    obtain ⟨b, e1, e2⟩ := hk j hj
    exact ⟨b, e1, ev.trans e2⟩
  refine ⟨.ref s.heap.objs.size, upd H s.heap.objs.size (.lst (as.map V.ref)), I.laid (t' := tk) hkp (Nat.le_refl _)
    (show ObjOk X.prog X.w _ _ _ (.lst (as.map V.ref)) from ⟨by rw [List.length_map]; omega, acc.toList, c', hv, by rw [Array.toArray_toList]; exact hD⟩), rfl, q as _ ka (I.hok.fresh (Nat.le_refl _))⟩
end
section
variable {c : Ct} {X : Cx}
def keysT (kvs : List (List Int × PyData)) : List (List Int) := kvs.map (·.1)
theorem ka_dq {H : Hp} : ∀ {ws : List (List L2.Key × V)} {kvs : List (List Int × PyData)} {as : List Addr}, KVt c H ws kvs → KA H ws as → DqAll c.K H (as.map V.ref) (tups (keysT kvs))
  | _, _, _, .nil, .nil => .nil
  | _, _, _, .cons h1 t1, .cons h2 t2 => .cons (.tup h2 (by
      rw [h1.1, kVinl]
      have : ∀ ns : List Int, DqAll c.K H (ns.map V.int) (ns.map PyData.int) := by
        intro ns
        induction ns with
        | nil => exact .nil
        | cons n ns ih => exact .cons (.int n) ih
      exact this _)) (ka_dq t1 t2)
theorem cg_listDT {kvs : List (List Int × PyData)} (hcalm : X.calm = true := by rfl) : CG c X (.type "list") [.dT kvs] (RM c (.d (.list (tups (keysT kvs))))) :=
  ⟨_, call_listDT hcalm, fun H vs rv Q q => by
    obtain ⟨v, rfl, r⟩ := rvs1 rv
    obtain ⟨a, ws, rfl, h1, h2⟩ := r
    exact ⟨a, ws, rfl, h1, fun as p ka hp => q _ _ (same_upd hp) (rm_list hp (imm_tups _) (ka_dq h2 ka))⟩⟩
/-- sorted(d) -/
def rSortDT (c : Ct) : List V → Hp → VK → Prop := fun vs H Q => ∃ (a : Addr) (ws : List (List L2.Key × V)) (kvs : List (List Int × PyData)), vs = [.ref a] ∧ H a = some (.dT ws) ∧ KVt c H ws kvs ∧ PySem.W.AllAlike (tups (keysT kvs)) ∧ PySem.W.Sortable (tups (keysT kvs)) ∧
  ∀ p ys, H p = none → DqAll c.K H ys (tups ((keysT kvs).mergeSort (PySem.W.dataLe false iT))) → Q (.ref p) (upd H p (.lst ys))
theorem cr_sortDT (hcalm : X.calm = true) (hu : X.A.units + 64 < cLine) (hK : X.K = c.K := by rfl) : CallR X (.builtin "sorted") (rSortDT c) := by
  intro pins s σ H vs us Q I r h
  obtain ⟨a, ws, kvs, rfl, hd, kv, hal, hso, q⟩ := h
  obtain ⟨u, eu, rx⟩ := vals1 r
  subst eu
  cases rx
  obtain ⟨z, lo, es, ep, as, hraw, hsz, ka, hk⟩ := raw_of I.hok hd
  have hl : ws.length = as.length := Paired.length ka
  refine Calls.call_function_entry PyProof.Rows.kind_sorted PyProof.Rows.plain_sorted PyProof.Rows.entry_sorted (PyProof.Rows.args_sorted1 _) ?_
  unfold Builtin.«sorted»
  refine wpAny_bind (m := checkCount "sorted" 1 1 _) (wpAny_pure ?_)
  refine wpAny_bind (PySem.W.kdu_collect (A := X.A.in1) (KdlSrc.rawDict (es := es) (ep := ep) lo) (I.ok.hd hcalm) hraw (by omega) fun h' tk acc hkp hacc => ?_)
  have hv : Vals (as.map V.ref) acc.toList := vals_refs as _ (by rw [Array.length_toList, hacc.1, hsz]) fun j v e => by
    obtain ⟨hj, ev⟩ := hacc.2 j v (by rw [← Array.getElem?_toList]; exact e)
    obtain ⟨b, e1, e2⟩ := hk j hj
    exact ⟨b, e1, ev.trans e2⟩
  have hal' : acc.toList.length ≤ sizeLine := by rw [← hv.length, List.length_map]; omega
  have I1 : Inv X pins σ H { s with heap := h', toks := tk } := I.kept hkp
  have e1 := eachIs_of (enc := iT) hv (ka_dq kv ka)
  have e2 : PySem.W.EachIs (fun v b => ∃ as, Reads h' v (iT b) as) acc.toList (keysT kvs) := e1.mono fun v b ⟨x, rx, dx⟩ => Dp.reads I1 (iT b) x v (hK ▸ Dq.dp _ _ dx) rx
  refine wpAny_bind (wpAny_newList ?_ hal')
  have hoL : (h'.push (seqObj "list" acc.toList.toArray 0)).get? h'.objs.size = some (seqObj "list" acc.toList.toArray 0) := Heap.get?_push_size _ rfl
  show wpAny _ _ _ _ _ { s with heap := h'.push (seqObj "list" acc.toList.toArray 0), toks := tk }
  have er' : PySem.W.EachIs (fun v b => ∃ as, Reads (PySem.W.sortingHeap (h'.push (seqObj "list" acc.toList.toArray 0)) h'.objs.size acc.toList) v (iT b) as) acc.toList (keysT kvs) :=
    e2.mono fun v b ⟨as, r⟩ => ⟨as, PyProof.Rows.Reads.keeps (fun b o e => PySem.W.sortingHeap_old (Nat.ne_of_lt (Heap.lt_size e)) (Heap.get?_push_of_some _ e)) r⟩
  have hso2 : ∀ b, b ∈ keysT kvs → X.A.in1.units + 1 + (iT b).depth < cLine := fun b _ => by
    rw [depth_iT]
    show X.A.units + 1 + 1 + 1 < cLine
    omega
  refine wpAny_bind (wpAny_holding (wpAny_call_entry PyProof.Rows.slot_list_sort ⟨_, hoL, rfl⟩ PyProof.Rows.entry_list_sort
    (PySem.W.list_sort_vals (κ := PySem.W.dataKind (PySem.W.sortingHeap (h'.push (seqObj "list" acc.toList.toArray 0)) h'.objs.size acc.toList) ((keysT kvs).map iT)) (s := { s with heap := h'.push (seqObj "list" acc.toList.toArray 0), toks := tk }) hoL
      (PySem.W.SortsAt.data (s := { s with heap := PySem.W.sortingHeap (h'.push (seqObj "list" acc.toList.toArray 0)) h'.objs.size acc.toList, toks := tk }) (PySem.W.each_map (R := fun v d => ∃ as, Reads (PySem.W.sortingHeap (h'.push (seqObj "list" acc.toList.toArray 0)) h'.objs.size acc.toList) v d as) iT er') hal hso (PySem.W.bound_map hso2)) hal' ⟨.none, rfl, ?_⟩) (PyProof.Rows.args_list_sort _)))
  have eo := PySem.W.sortVals_data (R := fun v b => ∃ x, L2.RelV x v ∧ Dq c.K H x (iT b)) (enc := iT) false e1 er' hal
  obtain ⟨ys, h1, h2⟩ := of_eachIs eo
  generalize hout : PySem.W.sortVals (PySem.W.dataKind (PySem.W.sortingHeap (h'.push (seqObj "list" acc.toList.toArray 0)) h'.objs.size acc.toList) (List.map iT (keysT kvs))) false acc.toList acc.toList = out at h1
  have hol : out.length ≤ sizeLine := by rw [← hout, PySem.W.sortVals_length false rfl]; exact hal'
  obtain ⟨e', he'⟩ := PyProof.Rows.sortedHeap_at (vs := acc.toList) (out := out.toArray) hoL
  refine wpAny_pure ⟨_, rfl, .ref h'.objs.size, upd H h'.objs.size (.lst ys), I1.laid (t' := tk) (fun b u e => ?_) (Nat.le_refl _)
    (show ObjOk X.prog X.w _ _ _ (.lst ys) from ⟨by rw [h1.length]; exact hol, out, e', h1, he'⟩), rfl, q _ ys (I1.hok.fresh (Nat.le_refl _)) h2⟩
  have hb : b < h'.objs.size := Heap.lt_size e
  rw [PyProof.Rows.sortedHeap_old (Nat.ne_of_lt hb) (by rw [size_push']; exact Nat.lt_succ_of_lt hb)]
  exact Heap.get?_push_of_some _ e
theorem cg_sortDT {kvs : List (List Int × PyData)} (hal : PySem.W.AllAlike (tups (keysT kvs))) (hso : PySem.W.Sortable (tups (keysT kvs))) (hu : X.A.units + 64 < cLine) (hcalm : X.calm = true := by rfl) (hK : X.K = c.K := by rfl) :
    CG c X (.builtin "sorted") [.dT kvs] (RM c (.d (.list (tups ((keysT kvs).mergeSort (PySem.W.dataLe false iT)))))) :=
  ⟨_, cr_sortDT (c := c) hcalm hu hK, fun H vs rv Q q => by
    obtain ⟨v, rfl, r⟩ := rvs1 rv
    obtain ⟨a, ws, rfl, h1, h2⟩ := r
    exact ⟨a, ws, kvs, rfl, h1, h2, hal, hso, fun p ys hp hy => q _ _ (same_upd hp) (rm_list hp (imm_tups _) hy)⟩⟩
theorem cg_lenDT {kvs : List (List Int × PyData)} : CG c X (.builtin "len") [.dT kvs] (rE c (.d (.int (kvs.length : Nat)))) :=
  ⟨_, call_len_dT, fun H vs rv Q q => by
    obtain ⟨v, rfl, r⟩ := rvs1 rv
    obtain ⟨a, ws, rfl, h1, h2⟩ := r
    refine ⟨a, ws, rfl, h1, q _ H (Same.refl H) ?_⟩
    rw [KVg.len (c := c) (f := tf) h2]
    exact .int _⟩
/-- sorted(d), keys ints -/
theorem cg_sortDK {kvs : List (Int × PyData)} (hz : kvs.length < 64) (hcalm : X.calm = true := by rfl) : CG c X (.builtin "sorted") [.dK kvs] (RM c (.d (.list (((kvs.map (·.1)).mergeSort (fun a b => decide (a ≤ b))).map .int)))) :=
  ⟨_, call_sortedDI hcalm, fun H vs rv Q q => by
    obtain ⟨v, rfl, r⟩ := rvs1 rv
    obtain ⟨a, ws, rfl, h1, h2⟩ := r
    have hk : ∀ {ws : List (L2.Key × V)} {kvs : List (Int × PyData)}, KVk c H ws kvs → ws.map (·.1) = (kvs.map (·.1)).map Sum.inl := by
      intro ws kvs h
      induction h with
      | nil => rfl
      | cons h _ ih => rw [List.map_cons, List.map_cons, List.map_cons, ih, h.1]
    refine ⟨a, ws, kvs.map (·.1), rfl, .inl h1, hk h2, by rw [List.length_map]; exact hz, fun ys p hp hs hn => q _ _ (same_upd hn) ?_⟩
    have e : ys = (kvs.map (·.1)).mergeSort (fun a b => decide (a ≤ b)) := by
      refine List.Perm.eq_of_pairwise (le := fun a b : Int => a ≤ b) (fun a b _ _ h1 h2 => Int.le_antisymm h1 h2) hs ?_ (hp.trans (List.mergeSort_perm _ _).symm)
      have := List.pairwise_mergeSort (le := fun a b : Int => decide (a ≤ b)) (fun a b c h1 h2 => by simp at *; omega) (fun a b => by simp; omega) (kvs.map (·.1))
      exact this.imp fun h => of_decide_eq_true h
    rw [← e]
    have : ∀ ns : List Int, DqAll c.K H (ns.map V.int) (ns.map PyData.int) := by
      intro ns
      induction ns with
      | nil => exact .nil
      | cons n ns ih => exact .cons (.int n) ih
    exact rm_list hn (immAll_mem fun x hx => imm_int hx) (this ys)⟩
end

/-! ### d.update(d2): keys that are tuples -/
section
variable {X : Cx}
def putsK (ws us : List (List L2.Key × V)) : List (List L2.Key × V) := us.foldl (fun acc p => putK acc p.1 p.2) ws
def rUpdT : V → List V → Hp → VK → Prop := fun x vs H Q => ∃ (a o : Addr) (ws us : List (List L2.Key × V)), x = .ref a ∧ vs = [.ref o] ∧ H a = some (.dT ws) ∧ H o = some (.dT us) ∧ a ≠ o ∧ ws ≠ [] ∧ ws.length + us.length ≤ sizeLine ∧ Q .non (upd H a (.dT (putsK ws us)))
theorem KT.puts {H : Hp} : ∀ {us : List (List L2.Key × V)} {ys : List (List L2.Key × Addr × Value)} {ws : List (List L2.Key × V)} {xs : List (List L2.Key × Addr × Value)}, KT H ws xs → KT H us ys → KT H (putsK ws us) (storedAllH xs ys)
  | _, _, _, _, h, .nil => h
  | _, _, _, _, h, .cons h1 t => by
    refine KT.puts (KT.put h _ h1.2.1 h1.2.2) t |> fun z => ?_
    rw [h1.1] at z
    unfold putsK
    rw [List.foldl_cons, h1.1]
    exact z
theorem putsK_len : ∀ (us ws : List (List L2.Key × V)), (putsK ws us).length ≤ ws.length + us.length
  | [], ws => by simp [putsK]
  | u :: us, ws => by
    have h1 := putsK_len us (putK ws u.1 u.2)
    have h2 := length_putK ws u.1 u.2
    unfold putsK at h1 ⊢
    rw [List.foldl_cons, List.length_cons]
    omega
theorem mt_updT (hu : X.A.units + 2 < cLine) : MtM X "dict.update" rUpdT := by
  intro pins s σ H x vs v us Q I rx rv h
  obtain ⟨a, o, ws, zs, rfl, rfl, ha, ho, hne, hws, hz, q⟩ := h
  cases rx
  obtain ⟨u, rfl, ru⟩ := rv.one
  cases ru
  obtain ⟨z1, l1, xs, r1, d1⟩ := dt_of I.hok ha
  obtain ⟨z2, l2, ys, r2, d2⟩ := dt_of I.hok ho
  have e1 : ws.length = xs.length := Paired.length r1
  have e2 : zs.length = ys.length := Paired.length r2
  refine call_update_dictH (tupleKind_room_in1 (A := X.A) (by omega)) hne l2 d1 d2 (.inl fun e => hws (by subst e; exact List.eq_nil_of_length_eq_zero (by simpa using e1))) (by omega) fun h' hd' _ hs => ?_
  obtain ⟨ob, es, ep, hq, h2, h3, h4, _, h5⟩ := hd'
  refine ⟨.non, _, d_write (ob := .dT (putsK ws zs)) (t' := s.toks) I (by rw [ha]; exact True.intro) hs ⟨ob, hq⟩ ⟨Nat.le_trans (putsK_len zs ws) hz, l1, _, (KT.puts r1 r2).keeps fun c ys ec => ?_, ob, es, ep, hq, h2, h3, h4, h5⟩, rfl, q⟩
  rw [upd_ne (ne_of ec ha (fun z => nomatch z))]
  exact ec
end
end K33

set_option maxHeartbeats 4000000
/-! K33n: d.update, list.extend by a tuple, [::-1], dict comprehensions with tuple keys. -/
namespace K33
open PySem PySem.Spec PyProof.Rows L2

section
variable {c : Ct} {X : Cx} {Rt : SV → Prop} {st : Stmt} {rest : List Stmt} {env : Ev'} {N : NE} {e a b : Expr} {x y : SV} {pos pos' : Pos} {M B C : Ev' → Prop}
def putsT (kvs us : List (List Int × PyData)) : List (List Int × PyData) := us.foldl (fun acc p => putT acc p.1 p.2) kvs
theorem KVt.puts {H : Hp} : ∀ {us : List (List L2.Key × V)} {ys : List (List Int × PyData)} {ws : List (List L2.Key × V)} {xs : List (List Int × PyData)}, KVt c H ws xs → KVt c H us ys → KVt c H (putsK ws us) (putsT xs ys)
  | _, _, _, _, h, .nil => h
  | _, _, _, _, h, @Paired.cons _ _ _ p q ps qs h1 t => by
    have z := KVt.puts (KVg.put (c := c) tf_inj q.1 h1.2 h) t
    unfold putsK putsT
    rw [List.foldl_cons, List.foldl_cons, h1.1]
    exact z
/-- d.update(d2), d2 frozen -/
theorem s1_upd (i : Nat) {nm : Str} {pn pa pc : Pos} {kvs us : List (List Int × PyData)} (he : env[i]? = some (.ow (.dT kvs))) (h : EF c X env e (.dT us)) (hne : kvs ≠ []) (hz : kvs.length + us.length ≤ 100000) (k : M (env.set i (.ow (.dT (putsT kvs us)))))
    (hu : X.A.units + 2 < cLine)
    (hN : X.N[i]? = some nm := by rfl) (hv : Vis X.env.scope nm := by first | exact Or.inl rfl | exact Or.inr (Or.inl rfl) | exact Or.inr (Or.inr rfl)) (hd : (nm == ("__debug__" : Str)) = false := by decide) (hcd : (nm == ("__classdict__" : Str)) = false := by decide)
    (hs : swapsWith (.Call (.Attribute (.Name nm pn) "update" pa) [e] [] pc) none pos.line X.env = pure false := by rfl)
    (hpe : ∀ te, PE X e te → MtM X "dict.update" rUpdT → PE X (.Call (.Attribute (.Name nm pn) "update" pa) [e] [] pc) (tBM X.K "dict" rUpdT (tVar i) (tCons te tNil)) := by
      intro te hte hm; exact pe_bm PySem.F.plainAttrs_dict PySem.F.slot_dict_update PySem.F.type_dict_update hm (pv _) (pa_cons hte pa_nil)) :
    S1 c X Rt (.Expr (.Call (.Attribute (.Name nm pn) "update" pa) [e] [] pc) pos) env ⟨M, B, C⟩ := fun He H0 Q s kq σ H r => by
  obtain ⟨F, f0, r⟩ := r
  obtain ⟨a, h1, h2, ws, h3, h4⟩ := r.ow i _ he
  refine WS.of (ps_expr (hpe _ pe_w (mt_updT hu)) hs) ⟨_, h1, Or.inr (Or.inr (Or.inl ⟨rfl, .inr ⟨ws, h3⟩⟩)), h σ H F r.fz _ fun v H' F' s1 f1 f3 f4 rv => ?_⟩
  obtain ⟨o, zs, rfl, ho, kv⟩ := rv
  have r' := r.step s1 f1 f3 f4
  obtain ⟨a', h1', h2', ws', h3', h4'⟩ := r'.ow i _ he
  rw [h1] at h1'
  cases h1'
  have hw : ws = ws' := by
    have := s1 _ _ h3
    rw [h3'] at this
    cases this
    rfl
  subst hw
  have e1 : ws.length = kvs.length := KVg.len (c := c) (f := tf) h4
  have e2 : zs.length = us.length := KVg.len (c := c) (f := tf) kv
  refine ⟨a, o, ws, zs, rfl, rfl, h3', f3 _ _ ho, fun z => ?_, fun z => hne ?_, by rw [e1, e2]; exact Nat.le_trans hz (by decide), _, ⟨F', f0.trans f1, r'.write (y := .dT (putsT kvs us)) he h1 ⟨_, upd_same, KVt.puts h4' kv⟩⟩, k⟩
  · subst z
    rw [h2'] at ho
    cases ho
  · subst z
    exact List.eq_nil_of_length_eq_zero e1.symm
/-! ### xs.extend(t) -/
theorem extend_tup (l : Addr) (items : Array Value) (n : Nat) (b : Addr) (items2 : Array Value) (n2 : Nat) (dd : Option Addr) (sl : Array (Option Value)) (hs0 : ¬(!items.isEmpty && Builtin.List.listTooLong (items.size + items2.size)) = true) (hs1 : items.size ≤ sizeLine) (hs2 : items.size + items2.size ≤ sizeLine + 1) :
    Meets (Builtin.«list.extend» ⟨[.ref l, .ref b], []⟩) (fun _ R s => s.heap.get? l = some { cls := .type "list", dict := none, data := .seq items n, slots := #[] } ∧ s.heap.get? b = some { cls := .type "tuple", dict := dd, data := .seq items2 n2, slots := sl } ∧ R (.ok (.ret Value.none)) { s with heap := s.heap.update l (Obj.mapSeq fun x => x ++ items2), toks := s.toks }) :=
  .of_wp fun prog w A R s h => by
    obtain ⟨hp, g, d, tk, os⟩ := s; obtain ⟨hl, hb, h⟩ := h; have f1 := AutoSeq1.idx_int; have f2 := AutoSeq1.sub_tuple_tuple; have f3 := AutoSeq1.sub_list_list; have f4 := AutoSeq1.sub_tuple_list; have f5 := AutoSeq1.sub_list_tuple;
    have hz' : (items ++ items2).size ≤ sizeLine + 1 := by rw [Array.size_append]; exact hs2
    wp_walk using (wpAny_updateSeq hl rfl (hz := hs1) (_hz' := hz')), wpAny_loadPart' hl, wpAny_loadPart' hb; exact ⟨_, rfl, h⟩
def rExtT : V → List V → Hp → VK → Prop := fun x vs H Q => ∃ l b xs zs, x = .ref l ∧ vs = [.ref b] ∧ H l = some (.lst xs) ∧ H b = some (.tup zs) ∧ xs.length + zs.length ≤ sizeLine ∧ Q .non (upd H l (.lst (xs ++ zs)))
theorem mt_extT : MtM X "list.extend" rExtT := by
  intro pins s σ H x vs v us Q I rx rv h
  obtain ⟨l, b, xs, zs, rfl, rfl, hH, hB, hz, q⟩ := h
  cases rx
  obtain ⟨u, rfl, ru⟩ := rv.one
  cases ru
  obtain ⟨z, its, n, r, hl, e⟩ := I.lstM hH
  obtain ⟨its2, r2, ⟨⟨cls, dd, data, sl⟩, ho, hc, n2, hd⟩, hs⟩ := I.tuple (SqT.of hB)
  simp only at hc hd
  subst hc hd
  have hl2 : zs.length = its2.length := r2.length
  have hsz : its.toArray.size + its2.toArray.size ≤ sizeLine := by rw [List.size_toArray, List.size_toArray]; omega
  have hlong : ¬ (!its.toArray.isEmpty && Builtin.List.listTooLong (its.toArray.size + its2.toArray.size)) = true := by
    rw [notLongL hsz, Bool.and_false]
    exact Bool.false_ne_true
  refine call_meets F.slot_list_extend ⟨_, e, rfl⟩ F.entry_list_extend (F.args_list_extend_2 _ _)
    (extend_tup l its.toArray n b its2.toArray n2 dd sl hlong (by rw [List.size_toArray]; omega) (by omega)) ⟨e, ho, ?_⟩
  refine ⟨.non, _, I.lset (its' := its ++ its2) hH e (by simp) (r.append r2) ?_, rfl, q⟩
  rw [List.length_append]
  omega
theorem s1_extT (i : Nat) {nm : Str} {pn pa pc : Pos} {ds fs : List PyData} (he : env[i]? = some (.ow (.d (.list ds)))) (h : EF c X env e (.d (.tuple fs))) (hz : ds.length + fs.length ≤ 100000) (k : M (env.set i (.ow (.d (.list (ds ++ fs))))))
    (hN : X.N[i]? = some nm := by rfl) (hv : Vis X.env.scope nm := by first | exact Or.inl rfl | exact Or.inr (Or.inl rfl) | exact Or.inr (Or.inr rfl)) (hd : (nm == ("__debug__" : Str)) = false := by decide) (hcd : (nm == ("__classdict__" : Str)) = false := by decide)
    (hs : swapsWith (.Call (.Attribute (.Name nm pn) "extend" pa) [e] [] pc) none pos.line X.env = pure false := by rfl)
    (hpe : ∀ te, PE X e te → MtM X "list.extend" rExtT → PE X (.Call (.Attribute (.Name nm pn) "extend" pa) [e] [] pc) (tBM X.K "list" rExtT (tVar i) (tCons te tNil)) := by
      intro te hte hm; exact pe_bm PySem.F.plainAttrs_list PySem.F.slot_list_extend PySem.F.type_list_extend hm (pv _) (pa_cons hte pa_nil)) :
    S1 c X Rt (.Expr (.Call (.Attribute (.Name nm pn) "extend" pa) [e] [] pc) pos) env ⟨M, B, C⟩ := fun He H0 Q s kq σ H r => by
  obtain ⟨F, f0, r⟩ := r
  obtain ⟨a, h1, h2, xs, h3, h4⟩ := r.ow i _ he
  refine WS.of (ps_expr (hpe _ pe_w mt_extT) hs) ⟨_, h1, Or.inl ⟨rfl, _, SqL.of h3⟩, h σ H F r.fz _ fun v H' F' s1 f1 f3 f4 rv => ?_⟩
  obtain ⟨b, zs, rfl, hb, kv⟩ := dq_tup rv
  have r' := r.step s1 f1 f3 f4
  exact ⟨a, b, xs, zs, rfl, rfl, s1 _ _ h3, f3 _ _ hb, by rw [h4.len, kv.len]; exact Nat.le_trans hz (by decide), _, ⟨F', f0.trans f1, r'.write (y := .d (.list (ds ++ fs))) he h1 ⟨_, upd_same, (DqAll.mono f1 _ _ h4).app kv⟩⟩, k⟩
/-! ### xs[::-1] -/
theorem DqAll.rev {K : PySem.W.Frag} {H : Hp} : ∀ {vs : List V} {ds : List PyData}, DqAll K H vs ds → DqAll K H vs.reverse ds.reverse
  | _, _, .nil => .nil
  | _, _, .cons h t => by
    rw [List.reverse_cons, List.reverse_cons]
    exact t.rev.app (.cons h .nil)
theorem em_revL {k : Nat} {p1 p2 p3 : Pos} {ds : List PyData} (ha : EE c X env a (.d (.list ds))) (hi : immAll ds = true) : EM c X env (.Subscript a (.Slice none none (some (.UnaryOp .USub (.Constant (.int 1) k p1) p2)) p3) pos) (.d (.list ds.reverse)) := fun σ H r Q q =>
  WE.of (pe_revL pe_w) (ha σ H r _ fun v H1 s1 r1 => by
    obtain ⟨p, vs, rfl, h1, h2⟩ := dq_lst r1
    exact ⟨p, vs, rfl, SqL.of h1, fun p' hp => q _ _ (s1.trans (same_upd hp)) (RM.mono s1 (rm_list hp (immAll_mem fun x hx => imm_mem hi x (List.mem_reverse.mp hx)) h2.rev))⟩)
end
/-! ### t[::-1], t of three -/
section
variable {prog : Program} {w : World} {A : Around} {E : Value → Shared → Prop} {s : Shared}
theorem getItem_tup3_rev {t sl : Addr} {u1 u2 u3 vs : Value} {Q : Value → Shared → Prop} (ht : IsTup s.heap t #[u1, u2, u3]) (hs : s.heap.IsSliceOf sl .none .none vs) (ps : IsPart vs (some (-1)))
    (h : Q (.ref s.heap.objs.size) { s with heap := s.heap.push { cls := .type "tuple", data := .seq #[u3, u2, u1] } }) : wpAny (model prog w) A (getItem (.ref t) (.ref sl)) Q E s := by
  obtain ⟨os, hos, hcs, hds⟩ := id hs
  have hTs : s.TypeIs (.ref sl) "slice" := ⟨os, hos, hcs⟩
  unfold getItem
  try with_reducible refine wpAny_holding ?_
  first | refine wpAny_bind (wpAny_pure ?_) | skip
  refine wpAny_bind (wpAny_sequenceKey ht.typeIs (by decide) ?_)
  refine wpAny_bind (wpAny_callSpecial?_slot (name := Str.ofString "__getitem__") ht.typeIs PyProof.Rows.slot_tuple_getitem
    (wpAny_call_entry PyProof.Rows.slot_tuple_getitem ht.typeIs PyProof.Rows.entry_tuple_getitem ?_ (PyProof.Rows.args_tuple_getitem _ _)))
  show wpAny _ _ (Builtin.Tuple.tupleItemsOf (.ref t) >>= _) _ _ s
  refine wpAny_bind (tupleItemsOf_ ht ?_)
  refine wpAny_bind (wpAny_typeOf hTs ?_)
  rw [if_pos (by decide)]
  have app : ∀ {Q' : Int × Int × Nat → Shared → Prop}, Q' (2, -1, 3) s → wpAny (model prog w) A.in1 (Builtin.Slice.sliceApplied (.ref sl) (pure ((#[u1, u2, u3] : Array Value).size : Int))) Q' E s := by
    intro Q' h'
    unfold Builtin.Slice.sliceApplied Builtin.Slice.sliceFields
    refine wpAny_bind (wpAny_bind (wpAny_field hos hds (x := .none) rfl (wpAny_bind (wpAny_field hos hds (x := .none) rfl (wpAny_bind (wpAny_field hos hds (x := vs) rfl (wpAny_pure ?_)))))))
    refine wpAny_bind (HT.slicePart_ ps ?_)
    show wpAny _ _ (if ((-1 : Int) == 0) = true then _ else _) _ _ s
    rw [if_neg (by decide)]
    refine wpAny_bind (slicePart_none (wpAny_bind (slicePart_none (wpAny_bind (wpAny_pure ?_)))))
    have cast : ∀ t : Int × Int × Nat, t = (2, -1, 3) → Q' t s := fun t e => e ▸ h'
    exact wpAny_pure (cast _ (by with_unfolding_all rfl))
  refine wpAny_bind (app ?_)
  have hno : ¬ (((2 : Int) == 0 && (-1 : Int) == 1 && (3 : Nat) == (#[u1, u2, u3] : Array Value).size) = true) := fun e => by cases e
  show wpAny _ _ (if ((2 : Int) == 0 && (-1 : Int) == 1 && (3 : Nat) == (#[u1, u2, u3] : Array Value).size) = true then _ else _) _ _ s
  rw [if_neg hno]
  have pick : ((List.range 3).filterMap fun (m : Nat) => (#[u1, u2, u3] : Array Value)[((2 : Int) + (m : Int) * (-1)).toNat]?).toArray = #[u3, u2, u1] := rfl
  rw [pick]
  first
    | exact wpAny_bind (m := Builtin.Tuple.tupleExact _) (wpAny_newObj_type (wpAny_pure ⟨_, rfl, wpAny_pure h⟩))
    | exact wpAny_bind (m := Builtin.Tuple.tupleExact _) (wpAny_newObj_type (wpAny_bind (wpAny_pure (wpAny_pure ⟨_, rfl, wpAny_pure h⟩))))
    | exact wpAny_bind (wpAny_bind (m := Builtin.Tuple.tupleExact _) (wpAny_newObj_type (wpAny_pure (wpAny_pure ⟨_, rfl, wpAny_pure h⟩))))
    | exact wpAny_bind (wpAny_bind (m := Builtin.Tuple.tupleExact _) (wpAny_newObj_type (wpAny_pure ⟨_, rfl, wpAny_pure h⟩)))
end
section
variable {X : Cx}
def tRev3 (K : PySem.W.Frag) (te : TE) : TE := fun σ H Q => te σ H fun x H1 => ∃ a u v w, x = .ref a ∧ SqT K H1 a [u, v, w] ∧ ∀ p, H1 p = none → Q (.ref p) (upd H1 p (.tup [w, v, u]))
theorem pe_rev3 {e : Expr} {te : TE} {k : Nat} {p1 p2 p3 pos : Pos} (he : PE X e te) : PE X (.Subscript e (.Slice none none (some (.UnaryOp .USub (.Constant (.int 1) k p1) p2)) p3) pos) (tRev3 X.K te) := by
  refine ⟨fun pins s σ H Q I h => ?_⟩
  refine Subscript_ (thn (he.run pins s σ H _ I h) fun v s1 ⟨x, H1, I1, r1, q1⟩ => ?_)
  obtain ⟨a, x1, x2, x3, ex, hx, q⟩ := q1
  subst ex
  cases r1
  have hst : PO X (some (.UnaryOp .USub (.Constant (.int 1) k p1) p2)) (tPart (tUn (rU fun i => .int (-i)) (tC (.int 1)))) := po_some (pe_un un_neg pe_int)
  refine wpAny_Slice (thn (po_none.run pins s1 σ H1 (fun o H2 => o = none ∧ H2 = H1) I1 ⟨rfl, rfl⟩) fun vl s2 ⟨l, H2, I2, pl, el, e2⟩ => ?_)
  subst el e2
  refine thn (po_none.run pins s2 σ H2 (fun o H3 => o = none ∧ H3 = H2) I2 ⟨rfl, rfl⟩) fun vu s3 ⟨u, H3, I3, pu, eu, e3⟩ => ?_
  subst eu e3
  refine thn (hst.run pins s3 σ H3 (fun o H4 => o = some (-1) ∧ H4 = H3) I3 ⟨1, rfl, -1, rfl, rfl, rfl⟩) fun vs s4 ⟨o, H4, I4, ps, eo, e4⟩ => ?_
  subst eo e4
  cases pl
  cases pu
  have I5 : Inv X pins σ H4 { s4 with heap := s4.heap.push { cls := .type "slice", data := .fields #[.none, .none, vs] } } := I4.kept (t' := s4.toks) fun b ob q => Heap.get?_push_of_some _ q
  obtain ⟨its, r, ht, hz⟩ := I5.tuple hx
  obtain ⟨v1, v2, v3, rfl, r1, r2, r3⟩ : ∃ v1 v2 v3, its = [v1, v2, v3] ∧ L2.RelV x1 v1 ∧ L2.RelV x2 v2 ∧ L2.RelV x3 v3 := by
    cases r with
    | cons q1 t => cases t with
      | cons q2 t => cases t with
        | cons q3 t => cases t; exact ⟨_, _, _, rfl, q1, q2, q3⟩
  show wpAny (model X.prog X.w) X.A (subscriptTail e (.Slice none none (some (.UnaryOp .USub (.Constant (.int 1) k p1) p2)) p3) (.ref a) (.ref s4.heap.objs.size)) (EP X pins σ Q) X.xe { s4 with heap := s4.heap.push { cls := .type "slice", data := .fields #[.none, .none, vs] } }
  refine tail_any (ops := [.ref a, .ref s4.heap.objs.size]) ht.typeIs (PyProof.Rows.slot_tuple_getitem.lookup) ?_ (by with_unfolding_all rfl)
  refine getItem_tup3_rev ht (Heap.IsSliceOf.new _ .none .none vs) ps ?_
  refine ⟨.ref _, _, I5.laid (t' := s4.toks) (o := .tup [x3, x2, x1]) (fun b ob q => Heap.get?_push_of_some _ q) (Nat.le_refl _) ?_, rfl, q _ (I5.hok.fresh (Nat.le_refl _))⟩
  exact ⟨by show 3 ≤ sizeLine; decide, [v3, v2, v1], .cons r3 (.cons r2 (.cons r1 .nil)), IsTup.new _ _⟩
end
section
variable {c : Ct} {X : Cx} {env : Ev'} {a : Expr} {pos : Pos}
theorem ee_rev3 {k : Nat} {p1 p2 p3 : Pos} {d1 d2 d3 : PyData} (ha : EE c X env a (.d (.tuple [d1, d2, d3]))) : EE c X env (.Subscript a (.Slice none none (some (.UnaryOp .USub (.Constant (.int 1) k p1) p2)) p3) pos) (.d (.tuple [d3, d2, d1])) := fun σ H r Q q =>
  WE.of (pe_rev3 pe_w) (ha σ H r _ fun v H1 s1 r1 => by
    obtain ⟨p, vs, rfl, h1, h2⟩ := dq_tup r1
    cases h2 with
    | cons q1 t => cases t with
      | cons q2 t => cases t with
        | cons q3 t =>
          cases t
          exact ⟨p, _, _, _, rfl, SqT.of h1, fun p' hp => q _ _ (s1.trans (same_upd hp)) (.tup upd_same (DqAll.mono (same_upd hp) _ _ (.cons q3 (.cons q2 (.cons q1 .nil)))))⟩)
end

/-! ### dict comprehensions with tuple keys -/
theorem d_dictSetT {X : Cx} {pins : List (Addr × Obj)} {σ : L2.St} {H : Hp} {s : Shared} {E : Value → Shared → Prop} {D b : Addr} {kvs : List (List L2.Key × V)} {k : List L2.Key} {v : V} {r : Value} {Q : Unit → Shared → Prop} (hu : X.A.units + 1 < cLine) (I : Inv X pins σ H s) (hD : H D = some (.dT kvs)) (hz : kvs.length < sizeLine)
    (hb : H b = some (.tup (k.map kV))) (rv : L2.RelV v r) (h : ∀ s', Inv X pins σ (upd H D (.dT (putK kvs k v))) s' → Q () s') : wpAny (model X.prog X.w) X.A (dictSet D (.ref b) r) Q E s := by
  obtain ⟨z, hd, xs, rel, dd⟩ := dt_of I.hok hD
  have hzv : xs.length ≤ sizeLine := by rw [← Paired.length rel]; exact z
  have hl : (putK kvs k v).length ≤ sizeLine := by have := length_putK kvs k v; omega
  refine wpAny_dictSet_heap (hsz := hzv) (by show X.A.units < cLine; omega) (key_of I.hok hb) dd fun h' dd' hs => h _ ?_
  obtain ⟨q, es, ep, hq, h2, h3, h4, _, h5⟩ := dd'
  refine d_write (ob := .dT (putK kvs k v)) I (by rw [hD]; exact True.intro) hs ⟨q, hq⟩ ⟨hl, hd, _, (rel.put k hb rv).keeps fun c ys ec => ?_, q, es, ep, hq, h2, h3, h4, h5⟩
  rw [upd_ne (ne_of ec hD (fun z => nomatch z))]
  exact ec
/-- a store into a dict that a comprehension makes, of either kind -/
theorem d_store {X : Cx} {pins : List (Addr × Obj)} {σ : L2.St} {H H' : Hp} {s : Shared} {E : Value → Shared → Prop} {D : Addr} {y v : V} {u r : Value} {Q : Unit → Shared → Prop} (hu : X.A.units + 1 < cLine) (I : Inv X pins σ H s) (g : DPut H D y v H') (ry : L2.RelV y u) (rv : L2.RelV v r)
    (h : ∀ s', Inv X pins σ H' s' → Q () s') : wpAny (model X.prog X.w) X.A (dictSet D u r) Q E s := by
  rcases g with ⟨kvs, k, e, ey, l, eH⟩ | ⟨kvs, k, b, e, ey, eb, l, eH⟩
  · subst ey eH
    exact d_dictSet I e l ry rv h
  · subst ey eH
    cases (show u = Value.ref b from ry)
    exact d_dictSetT hu I e l eb rv h
section
variable {X : Cx}
/-- what a dict comprehension's loop must show, the new dict o0 at first -/
def tDcG (o0 : HO) (wi : TI) (g : TG) (tt : TT) (tk tv : TE) (vs : List Nat) : TE := fun σ H Q => wi σ H fun J H1 => ∀ D, H1 D = none → ∃ W : Nat → Nat → Hp → Prop, (∃ m, W 0 m (upd H1 D o0)) ∧ ∀ i m H, W i m H →
  (J.stop i H ∧ Q (.ref D) H) ∨ (J.go i H ∧ ∃ Nx : Hp → Prop, (∀ H', Nx H' → ∃ m', m' < m ∧ W (i + 1) m' H') ∧ ∀ x H', J.yld i H x H' → g x (wipe σ vs) H' fun σ2 H2 => wipe σ2 vs = wipe σ vs ∧ tt σ2 H2 fun b H3 =>
    if b = true then tk σ2 H3 fun y H4 => tv σ2 H4 fun z H5 => ∃ H6, DPut H5 D y z H6 ∧ Nx H6 else Nx H3)
theorem dcG_core {pins : List (Addr × Obj)} {s : Shared} {σ : L2.St} {H : Hp} {Q : VK} {o0 : HO} {kx vx tg iter : Expr} {ifs : List Expr} {scope : Scope} {own : List (Str × Nat)} {pos pos' : Pos} {wi : TI} {g : TG} {tt : TT} {tk tv : TE} {use : Option (Value → Sem Unit)} {Qf : Value → Shared → Prop}
    (hu : X.A.units + 1 < cLine) (ho0 : ∀ {H : Hp} (h : Heap), sysModules < h.objs.size → ObjOk X.prog X.w H (h.push { cls := .type "dict", data := .dict #[] }) h.objs.size o0) (hc : X.calm = true) (hN : X.N.Nodup) (I : Inv X pins σ H s) (hi : PI X tg iter wi) (ok : BlkOk X.N X.env.scope scope own)
    (hg : ∀ (s : Shared) (H : Hp) (C : Addr) (cl : List (Str × Addr)) (fp : List Addr), PG (X.blk s H scope (compEnvC scope cl C X.env) fp) tg g) (ht : ∀ (s : Shared) (H : Hp) (C : Addr) (cl : List (Str × Addr)) (fp : List Addr), PTs (X.blk s H scope (compEnvC scope cl C X.env) fp) ifs tt)
    (hk : ∀ (s : Shared) (H : Hp) (C : Addr) (cl : List (Str × Addr)) (fp : List Addr), PE (X.blk s H scope (compEnvC scope cl C X.env) fp) kx tk)
    (he : ∀ (s : Shared) (H : Hp) (C : Addr) (cl : List (Str × Addr)) (fp : List Addr), PE (X.blk s H scope (compEnvC scope cl C X.env) fp) vx tv) (hs : ∀ x, foldedSetIterable iter X.env x = pure x)
    (h : tDcG o0 wi g tt tk tv (own.map (·.2)) σ H Q)
    (hRR : ∀ D C s' m H', Inv X pins σ H' s' → Q (.ref D) H' → s'.heap.Ns C m → FpOk X pins H' C → compPost (model X.prog X.w) X.A X.xe use Qf (.ref D) C (.ok .next) s') :
    wpAny (model X.prog X.w) X.A (comprehension (.DictComp kx vx [⟨tg, iter, ifs, 0⟩] scope pos) scope X.env pos' newDict false (eval iter X.env) use) Qf X.xe s := by
  have hfree : ∀ y ∈ scope.names, y.2 = .free → ∃ c, X.env.cells.lookup y.1 = some c := fun y hy e => by
    rcases ok.free y hy e with k | k
    · exact I.ok.has _ (.inl k)
    · exact I.ok.has _ (.inr k)
  refine wpAny_comprehension_free (use := use) rfl hs (closure_ok hfree) ok.kind (fun y hy e => by rw [ok.uniq y hy, e])
    (thn (hi.run pins s σ H _ I h) fun xv s1 hx => thn hx fun itv s2 h2 => ?_)
  obtain ⟨it, fp, tn, J, H2, e, I2, T, st2, f2, q⟩ := h2
  subst e
  refine wpAny_newObj_type (newEnv_comp ?_)
  generalize hD : s2.heap.objs.size = D
  have hDn : H2 D = none := I2.hok.fresh (Nat.le_of_eq hD)
  obtain ⟨W, ⟨m0, w0⟩, turn⟩ := q D hDn
  -- the new list
  generalize hs3 : ({ s2 with heap := s2.heap.push { cls := .type "dict", data := .dict #[] } } : Shared) = s3
  have I3 : Inv X pins σ (upd H2 D (o0)) s3 := by
    rw [← hs3]
    refine I2.laid (t' := s2.toks) (fun b o e => Heap.get?_push_of_some _ e) (Nat.le_of_eq hD) ?_
    rw [← hD]
    exact ho0 _ I2.big
  have h3 : s3.heap = s2.heap.push { cls := .type "dict", data := .dict #[] } := by rw [← hs3]
  have sz : ∀ b ∈ fp, b < s2.heap.objs.size := fun b hb => by
    obtain ⟨o, e, _⟩ := T.obj _ _ st2 b hb
    exact Heap.lt_size e
  have f3 : ∀ b ∈ fp, FpOk X pins (upd H2 D (o0)) b ∧ b < s3.heap.objs.size := fun b hb => by
    have hlt := sz b hb
    refine ⟨⟨?_, (f2 b hb).2⟩, by rw [h3, Heap.size_push]; exact Nat.lt_succ_of_lt hlt⟩
    rw [upd_ne (by rw [← hD]; exact Nat.ne_of_lt hlt)]
    exact (f2 b hb).1
  have st3 : tn 0 s3.heap := T.keep _ _ _ st2 fun b _ o e => by rw [h3]; exact Heap.get?_push_of_some _ e
  have I4 := block_start I3 ok hN f3
  have pg := hg s3 (upd H2 D (o0)) s3.heap.objs.size (cellsFrom (s3.heap.objs.size + 1) scope.names (cloFrom X.env.cells scope.names [])) fp
  have pt := ht s3 (upd H2 D (o0)) s3.heap.objs.size (cellsFrom (s3.heap.objs.size + 1) scope.names (cloFrom X.env.cells scope.names [])) fp
  have pk := hk s3 (upd H2 D (o0)) s3.heap.objs.size (cellsFrom (s3.heap.objs.size + 1) scope.names (cloFrom X.env.cells scope.names [])) fp
  have pe := he s3 (upd H2 D (o0)) s3.heap.objs.size (cellsFrom (s3.heap.objs.size + 1) scope.names (cloFrom X.env.cells scope.names [])) fp
  show codeAny _ _ (.compStart (.DictComp kx vx [⟨tg, iter, ifs, 0⟩] scope pos) 0 (.ref it) (.ref D) (compEnvC scope (cellsFrom (s3.heap.objs.size + 1) scope.names (cloFrom X.env.cells scope.names [])) s3.heap.objs.size X.env)) (compPost (model X.prog X.w) X.A X.xe use Qf (.ref D) s3.heap.objs.size) { s3 with heap := pushCells (s3.heap.push { cls := .type "dict", data := .dict #[] }) scope.names }
  have nfp : ∀ b ∈ fp, (upd H2 D (o0)) b = none := fun b hb => (f3 b hb).1.1
  generalize hce : compEnvC scope (cellsFrom (s3.heap.objs.size + 1) scope.names (cloFrom X.env.cells scope.names [])) s3.heap.objs.size X.env = ce at I4 pg pt pk pe ⊢
  have cL : ce.locals = s3.heap.objs.size := by subst hce; rfl
  generalize hH3 : upd H2 D (o0) = H3 at I3 I4 pg pt pk pe w0 nfp f3
  generalize hs4 : ({ s3 with heap := pushCells (s3.heap.push { cls := .type "dict", data := .dict #[] }) scope.names } : Shared) = s4 at I4 ⊢
  have st4 : tn 0 s4.heap := T.keep _ _ _ st3 fun b _ o e => by rw [← hs4]; exact pushCells_keeps _ _ _ _ (Heap.get?_push_of_some _ e)
  have stat : ∀ {σ' : L2.St} {H' : Hp} {s' : Shared}, Inv (X.blk s3 H3 scope ce fp) [] σ' H' s' → (∀ b ∈ fp, H' b = none) → ∀ b ∈ fp, FpOk (X.blk s3 H3 scope ce fp) [] H' b := fun {σ' H' s'} I' hn b hb =>
    ⟨hn b hb, (I'.ok.exf b hb).1, I'.ok.exfs b hb, .inl hb, fun x c e => (I'.ok.exf b hb).2 x c e, fun p hp => absurd (show p ∈ ([] : List (Addr × Obj)) ++ [] from hp) (by simp)⟩
  have loop : codeAny (model X.prog X.w) X.A (.compLoop (.DictComp kx vx [⟨tg, iter, ifs, 0⟩] scope pos) 0 (.ref it) (.ref D) ce) (compPost (model X.prog X.w) X.A X.xe use Qf (.ref D) s3.heap.objs.size) s4 := by
    refine compLoop_anyD (fun n s' => ∃ i H', Inv (X.blk s3 H3 scope ce fp) [] (wipe σ (own.map (·.2))) H' s' ∧ tn i s'.heap ∧ (∀ b ∈ fp, H' b = none) ∧ W i n H') ?_ m0 ⟨0, H3, I4, st4, nfp, w0⟩
    rintro n s5 ⟨i, H5, I5, st5, n5, w5⟩
    rcases turn i n H5 w5 with ⟨stop, qq⟩ | ⟨go, Nx, hNx, step⟩
    · have td := T.done (X.blk s3 H3 scope ce fp) rfl rfl rfl hc i [] s5 _ H5 (fun _ _ => False) I5 (stat I5 n5) st5 stop
      refine thnF td fun r s6 ⟨hr, I6⟩ => ?_
      subst hr
      -- back in the def's context
      have I7 : Inv X pins σ H5 s6 := I3.call' (ch := fp) I6.os I6.base I6.hok I6.bare fun b hb => ⟨(f3 b hb).1.2.2.2.1, (f3 b hb).1.2.1, (f3 b hb).1.2.2.2.2.1, (f3 b hb).1.2.2.2.2.2⟩
      have nC : H5 s3.heap.objs.size = none := by
        have z : H5 ce.locals = none := I6.free
        rw [cL] at z
        exact z
      obtain ⟨m, hn, _⟩ := I6.loc
      have hn : s6.heap.Ns ce.locals m := hn
      rw [cL] at hn
      exact hRR D s3.heap.objs.size s6 m H5 I7 qq hn (I3.fpOk (Nat.le_refl _) nC)
    · have ti := T.item (X.blk s3 H3 scope ce fp) rfl rfl rfl hc i [] s5 _ H5 (fun _ _ => False) I5 (stat I5 n5) st5 go
      refine thnF ti fun r s6 ⟨u, hr, h6⟩ => ?_
      subst hr
      refine thnF h6 fun _ s7 ⟨x, H7, I7, r7, y7, st7, n7⟩ => ?_
      have I7' := I7.pinned (stat I7 n7) (T.obj _ _ st7)
      refine thnF (pg.run _ s7 _ H7 x u _ I7' r7 (step x H7 y7)) fun _ s8 ⟨σ8, H8, I8, hw8, q8⟩ => ?_
      refine thnF (pt.run _ s8 σ8 H8 _ I8 q8) fun b s9 ⟨H9, I9, q9⟩ => ?_
      -- the turn's end
      have fin : ∀ {s' : Shared} {H' : Hp}, Inv (X.blk s3 H3 scope ce fp) ([] ++ pinsAt fp s7.heap) σ8 H' s' → Nx H' → ∃ m, m < n ∧ ∃ i H', Inv (X.blk s3 H3 scope ce fp) [] (wipe σ (own.map (·.2))) H' s' ∧ tn i s'.heap ∧ (∀ b ∈ fp, H' b = none) ∧ W i m H' := fun {s' H'} I' nx => by
        obtain ⟨m', hm, w'⟩ := hNx H' nx
        have pin' : ∀ b ∈ fp, ∀ o, s7.heap.get? b = some o → s'.heap.get? b = some o ∧ H' b = none := fun b hb o e =>
          let z := I'.pin (b, o) (List.mem_append_right _ (List.mem_append_right _ (mem_pinsAt hb e)))
          ⟨z.1, z.2.1⟩
        have hl : (wipe σ (own.map (·.2))).length = σ8.length := by rw [← hw8, wipe_length]
        refine ⟨m', hm, i + 1, H', (I'.unpinned (pins := [])).weak hl (fun j v e => ?_), T.keep _ _ _ st7 fun b hb o e => (pin' b hb o e).1, fun b hb => ?_, w'⟩
        · rw [← hw8] at e
          exact (wipe_some e).1
        · obtain ⟨o, e, _⟩ := T.obj _ _ st7 b hb
          exact (pin' b hb o e).2
      cases b with
      | false =>
        simp only [Bool.false_eq_true, if_false] at q9 ⊢
        exact fin I9 q9
      | true =>
        simp only [if_true] at q9 ⊢
        refine thnF (pk.run _ s9 σ8 H9 _ I9 q9) fun z s10 ⟨yk, H10, I10, r10, q10⟩ => ?_
        refine thnF (pe.run _ s10 σ8 H10 _ I10 q10) fun z2 s11 ⟨yv, H11, I11, r11, H12, dp, nx⟩ => ?_
        exact d_store (X := X.blk s3 H3 scope ce fp) hu I11 dp r10 r11 fun s12 I12 => fin I12 nx
  exact codeAny_compStart_dict loop (T.self X.A 0 _ _ _ st4 loop)
/-- as a value -/
theorem pe_dcG {o0 : HO} {kx vx tg iter : Expr} {ifs : List Expr} {scope : Scope} {own : List (Str × Nat)} {pos : Pos} {wi : TI} {g : TG} {tt : TT} {tk tv : TE} (hu : X.A.units + 1 < cLine) (ho0 : ∀ {H : Hp} (h : Heap), sysModules < h.objs.size → ObjOk X.prog X.w H (h.push { cls := .type "dict", data := .dict #[] }) h.objs.size o0) (hc : X.calm = true) (hN : X.N.Nodup) (hi : PI X tg iter wi) (ok : BlkOk X.N X.env.scope scope own)
    (hg : ∀ (s : Shared) (H : Hp) (C : Addr) (cl : List (Str × Addr)) (fp : List Addr), PG (X.blk s H scope (compEnvC scope cl C X.env) fp) tg g) (ht : ∀ (s : Shared) (H : Hp) (C : Addr) (cl : List (Str × Addr)) (fp : List Addr), PTs (X.blk s H scope (compEnvC scope cl C X.env) fp) ifs tt)
    (hk : ∀ (s : Shared) (H : Hp) (C : Addr) (cl : List (Str × Addr)) (fp : List Addr), PE (X.blk s H scope (compEnvC scope cl C X.env) fp) kx tk)
    (he : ∀ (s : Shared) (H : Hp) (C : Addr) (cl : List (Str × Addr)) (fp : List Addr), PE (X.blk s H scope (compEnvC scope cl C X.env) fp) vx tv) (hs : ∀ x, foldedSetIterable iter X.env x = pure x := by intro _; rfl) :
    PE X (.DictComp kx vx [⟨tg, iter, ifs, 0⟩] scope pos) (tDcG o0 wi g tt tk tv (own.map (·.2))) := by
  refine ⟨fun pins s σ H Q I h => ?_⟩
  rw [arm_eval_DictComp]
  refine dcG_core hu ho0 hc hN I hi ok hg ht hk he hs h fun D C s' m H' I' q hn f => ⟨m, hn, fun h'' sb => ?_⟩
  obtain ⟨f0, f1, f2, f3, f4, f5⟩ := f
  exact ⟨.ref D, H', I'.turned (t' := s'.toks) (fun b o hb e => (sb.2 b hb).trans e) f0 f1 f3 f4 f5, rfl, q⟩
end
end K33

set_option maxHeartbeats 4000000
/-! K33o: dict comprehensions by data; a dict display of one pair; dict of pairs. -/
namespace K33
open PySem PySem.Spec PyProof.Rows L2

section
variable {c : Ct} {X : Cx} {env : Ev'} {β : Type}
theorem putsT_len : ∀ (us kvs : List (List Int × PyData)), (putsT kvs us).length ≤ kvs.length + us.length
  | [], kvs => by simp [putsT]
  | u :: us, kvs => by
    have h1 := putsT_len us (putT kvs u.1 u.2)
    have h2 := putT_len kvs u.1 u.2
    unfold putsT at h1 ⊢
    rw [List.foldl_cons, List.length_cons]
    omega
theorem putsT_snoc (kvs us : List (List Int × PyData)) (p : List Int × PyData) : putsT kvs (us ++ [p]) = putT (putsT kvs us) p.1 p.2 := by
  unfold putsT
  rw [List.foldl_append]
  rfl
theorem em_dcT {zs : List β} {enc : β → List PyData} {tg iter kx vx : Expr} {scope : Scope} {own : List (Str × Nat)} {g : TG} {js : List Nat} {pos : Pos} (key : β → List Int) (f : β → PyData)
    (S : Src c X (env.map Sl.toFr) tg iter g js zs enc) (ok : BlkOk X.N X.env.scope scope own) (hg : InBlk X scope fun Y => PG Y tg g) (hjs : ∀ j ∈ js, j ∈ own.map (·.2))
    (hk : ∀ z ∈ zs, InBlk X scope fun Y => EE c Y (setE (wipeE env (own.map (·.2))) js (enc z)) kx (.d (iT (key z))))
    (he : ∀ z ∈ zs, InBlk X scope fun Y => EN c Y (setE (wipeE env (own.map (·.2))) js (enc z)) vx (.d (f z))) (hz : zs.length ≤ 100000) (hu : X.A.units + 1 < cLine) (hN : X.N.Nodup) (hc : X.calm = true := by rfl)
    (hs : ∀ x, foldedSetIterable iter X.env x = pure x := by intro _; rfl) : EM c X env (.DictComp kx vx [⟨tg, iter, [], 0⟩] scope pos) (.dT (putsT [] (zs.map fun z => (key z, f z)))) := fun σ H r Q q => by
  obtain ⟨wi, hpi, hwi⟩ := S
  refine WE.of (pe_dcG (o0 := .dT []) (tk := fun σ H Q => InBlk X scope fun Y => WE Y kx σ H Q) (tv := fun σ H Q => InBlk X scope fun Y => WE Y vx σ H Q) hu (fun h hb => dt_empty h hb) hc hN hpi ok hg (fun s H C cl fp => pts_nil) (fun s H C cl fp => ⟨fun pins s1 _ _ _ I h => h s H C cl fp pins s1 I⟩)
    (fun s H C cl fp => ⟨fun pins s1 _ _ _ I h => h s H C cl fp pins s1 I⟩) hs) (hwi σ H H (Fz.all r) _ fun J H1 F1 s1 s2 s3 _ fe => ?_)
  intro D hD
  refine ⟨fun i m H2 => m = zs.length - i ∧ i ≤ zs.length ∧ ∃ G ws, Same H1 (fun a => if a = D then none else H2 a) ∧ H2 D = some (.dT ws) ∧ NewPart H1 H2 G ∧ G D = none ∧ KVt c G ws (putsT [] ((zs.take i).map fun z => (key z, f z))),
    ⟨zs.length, by simp, Nat.zero_le _, fun _ => none, [], fun a o e => ?_, upd_same, ⟨(fun _ _ e => nomatch e), fun _ _ e => nomatch e⟩, rfl, .nil⟩, ?_⟩
  · have ne : a ≠ D := ne_of_none e hD
    show (if a = D then none else upd H1 D (.dT []) a) = some o
    rw [if_neg ne, upd_ne ne]
    exact e
  rintro i m H2 ⟨rfl, hi, G, ws, p1, p2, p3, p4, p5⟩
  have s12 : Same H1 H2 := fun a o e => by
    have z := p1 a o e
    by_cases q : a = D
    · simp [q] at z
    · simpa [q] using z
  have sF : Same F1 H2 := s3.trans s12
  by_cases hlt : i < zs.length
  · have hz1 : zs[i]? = some zs[i] := by simp [hlt]
    have hm : zs[i] ∈ zs := List.getElem_mem hlt
    have tk : zs.take (i + 1) = zs.take i ++ [zs[i]] := by rw [List.take_add_one, hz1]; rfl
    refine .inr ⟨fe.go i zs[i] H2 hz1 sF, fun H' => ∃ G ws, Same H1 (fun a => if a = D then none else H' a) ∧ H' D = some (.dT ws) ∧ NewPart H1 H' G ∧ G D = none ∧ KVt c G ws (putsT [] ((zs.take (i + 1)).map fun z => (key z, f z))), fun H' p => ⟨zs.length - (i + 1), by omega, rfl, hlt, p⟩, fun x H3 y => ?_⟩
    have gr := fe.grow i zs[i] H2 x H3 hz1 sF y
    refine fe.yld i zs[i] H2 x H3 hz1 sF y _ _ fun vs dv vl => ⟨(setV_wipe hjs).trans (wipe_wipe _ _), ?_⟩
    have rd3 : Rd c H3 (setV (wipe σ (own.map (·.2))) js vs) (setE (wipeE env (own.map (·.2))) js (enc zs[i])) := Rd.setV (((r.mono s1).mono (s12.trans gr)).wipe _) (DqAll.mono (sF.trans gr) _ _ dv)
    unfold tYes
    dsimp only
    rw [if_pos rfl]
    intro s0 H0 C0 cl0 fp0
    refine hk _ hm s0 H0 C0 cl0 fp0 _ H3 rd3 _ fun y1 H4 s4 ry => ?_
    intro s0' H0' C0' cl0' fp0'
    refine he _ hm s0' H0' C0' cl0' fp0' _ H4 (rd3.mono s4) _ fun y2 H5 s5 rv => ?_
    obtain ⟨b, rfl, hb⟩ := dq_key ry
    have d5 : H5 D = some (.dT ws) := s5 _ _ (s4 _ _ (gr _ _ p2))
    have wl : ws.length < sizeLine := by
      rw [KVg.len (c := c) (f := tf) p5]
      have h1 := putsT_len ((zs.take i).map fun z => (key z, f z)) []
      rw [List.length_map, List.length_take] at h1
      exact Nat.lt_of_lt_of_le (show (putsT [] ((zs.take i).map fun z => (key z, f z))).length < 100000 by simp at h1 ⊢; omega) (by decide)
    refine ⟨_, DPut.t d5 (s5 _ _ hb) wl, ?_⟩
    obtain ⟨Gy, ny, ry2⟩ := rv
    have d4 : H4 D = some (.dT ws) := s4 _ _ (gr _ _ p2)
    have gyD : Gy D = none := by
      cases e : Gy D with
      | none => rfl
      | some o =>
        rcases ny.new D o e with z | z
        · rw [d4] at z; cases z
        · have e2 := ny.sub D o e
          rw [d5] at e2
          cases e2
          cases z
    have s14 : Same H1 H4 := (s12.trans gr).trans s4
    obtain ⟨U, nu, u1, u2⟩ := NewPart.union (NewPart.mk (H := H1) (H' := H5) (G := G) (p3.sub.trans ((gr.trans s4).trans s5)) p3.new) (ny.mono s14)
    have nU : ∃ U', NewPart H1 H5 U' ∧ Same G U' ∧ Same Gy U' ∧ U' D = none := by
      refine ⟨fun a => if a = D then none else U a, ⟨fun a o e => ?_, fun a o e => ?_⟩, fun a o e => ?_, fun a o e => ?_, if_pos rfl⟩
      · by_cases q : a = D
        · simp [q] at e
        · simp only [q, if_false] at e; exact nu.sub a o e
      · by_cases q : a = D
        · simp [q] at e
        · simp only [q, if_false] at e; exact nu.new a o e
      · have q : a ≠ D := ne_of_none e p4
        simp only [q, if_false]
        exact u1 a o e
      · have q : a ≠ D := ne_of_none e gyD
        simp only [q, if_false]
        exact u2 a o e
    obtain ⟨U', nu', u1', u2', uD⟩ := nU
    refine ⟨U', _, fun a o e => ?_, upd_same, ⟨fun a o e => ?_, nu'.new⟩, uD, ?_⟩
    · have ne : a ≠ D := ne_of_none e hD
      show (if a = D then none else upd H5 D _ a) = some o
      rw [if_neg ne, upd_ne ne]
      exact s5 _ _ (s14 a o e)
    · rw [upd_ne (ne_of_none e uD)]
      exact nu'.sub a o e
    · rw [tk, List.map_append, List.map_cons, List.map_nil, putsT_snoc]
      exact KVg.put (c := c) tf_inj (key zs[i]) (Dq.mono u2' _ _ ry2) (KVt.mono u1' p5)
  · have e : i = zs.length := by omega
    subst e
    refine .inl ⟨fe.stop H2 sF, ?_⟩
    refine q _ H2 (s1.trans s12) ⟨G, D, p3.mono s1, rfl, s1.free hD, p4, ws, p2, ?_⟩
    rw [List.take_length] at p5
    exact p5
end
end K33

set_option maxHeartbeats 4000000
/-! K33p: sorted tuples of ints, as an insertion. -/
namespace K33
open PySem PySem.Spec PyProof.Rows L2

theorem lexLt_dec : ∀ a b : List Int, HT.lexLt a b = decide (a < b)
  | [], [] => by simp [HT.lexLt]
  | [], _ :: _ => by simp [HT.lexLt]
  | _ :: _, [] => by simp [HT.lexLt]
  | x :: xs, y :: ys => by
    rw [HT.lexLt_cons, lexLt_dec xs ys]
    by_cases h : x = y
    · simp [h, List.cons_lt_cons_iff]
    · simp [h, List.cons_lt_cons_iff]
theorem dataLt_iT (a b : List Int) : PySem.W.dataLt (iT a) (iT b) = decide (a < b) := by
  unfold iT
  rw [PySem.W.dataLt_tuple]
  exact PySem.W.dataLt_ints a b
theorem dataLe_iT : PySem.W.dataLe false iT = fun p q => decide (p ≤ q) := by
  funext p q
  show (!PySem.W.dataLt (iT q) (iT p)) = _
  rw [dataLt_iT]
  by_cases h : q < p
  · have h' : ¬ p ≤ q := fun r => List.not_lt.mpr r h
    simp [h, h']
  · have h' : p ≤ q := List.not_lt.mp h
    simp [h, h']
def insL (a : List Int) : List (List Int) → List (List Int)
  | [] => [a]
  | b :: bs => if HT.lexLt b a = true then b :: insL a bs else a :: b :: bs
def sortL : List (List Int) → List (List Int)
  | [] => []
  | a :: as => insL a (sortL as)
theorem insL_perm (a : List Int) : ∀ bs, (insL a bs).Perm (a :: bs)
  | [] => List.Perm.refl _
  | b :: bs => by
    unfold insL
    split
    · exact ((insL_perm a bs).cons b).trans (List.Perm.swap a b bs)
    · exact List.Perm.refl _
theorem sortL_perm : ∀ as, (sortL as).Perm as
  | [] => List.Perm.refl _
  | a :: as => (insL_perm a _).trans ((sortL_perm as).cons a)
theorem insL_sorted (a : List Int) : ∀ bs : List (List Int), bs.Pairwise (· ≤ ·) → (insL a bs).Pairwise (· ≤ ·)
  | [], _ => List.pairwise_singleton _ _
  | b :: bs, h => by
    rw [List.pairwise_cons] at h
    unfold insL
    split
    · rename_i e
      rw [lexLt_dec] at e
      have e : b < a := of_decide_eq_true e
      rw [List.pairwise_cons]
      refine ⟨fun c hc => ?_, insL_sorted a bs h.2⟩
      rcases List.mem_cons.mp ((insL_perm a bs).mem_iff.mp hc) with rfl | hc
      · exact List.le_of_lt e
      · exact h.1 c hc
    · rename_i e
      rw [lexLt_dec] at e
      have e : ¬ b < a := fun z => e (decide_eq_true z)
      have e : a ≤ b := List.not_lt.mp e
      rw [List.pairwise_cons, List.pairwise_cons]
      refine ⟨fun c hc => ?_, h.1, h.2⟩
      rcases List.mem_cons.mp hc with rfl | hc
      · exact e
      · exact List.le_trans e (h.1 c hc)
theorem sortL_sorted : ∀ as, (sortL as).Pairwise (· ≤ ·)
  | [] => .nil
  | a :: as => insL_sorted a _ (sortL_sorted as)
theorem msort_eq (ls : List (List Int)) : ls.mergeSort (PySem.W.dataLe false iT) = sortL ls := by
  rw [dataLe_iT]
  refine List.Perm.eq_of_pairwise (le := fun a b : List Int => a ≤ b) (fun a b _ _ h1 h2 => List.le_antisymm h1 h2) ?_ (sortL_sorted ls) ((List.mergeSort_perm _ _).trans (sortL_perm ls).symm)
  have := List.pairwise_mergeSort (le := fun a b : List Int => decide (a ≤ b)) (fun a b c h1 h2 => decide_eq_true (List.le_trans (of_decide_eq_true h1) (of_decide_eq_true h2))) (fun a b => by
    rcases List.le_total a b with h | h
    · simp [h]
    · simp [h]) ls
  exact this.imp fun h => of_decide_eq_true h
theorem alike_ints : ∀ a b : List Int, PySem.W.alikeAll (a.map .int) (b.map .int) = true
  | [], b => by simp [PySem.W.alikeAll]
  | _ :: _, [] => by simp [PySem.W.alikeAll]
  | x :: xs, y :: ys => by
    show PySem.W.alikeAll (PyData.int x :: xs.map .int) (PyData.int y :: ys.map .int) = true
    rw [PySem.W.alikeAll, alike_ints xs ys]
    rfl
theorem alike_tups (ls : List (List Int)) : PySem.W.AllAlike (tups ls) := fun d hd e he => by
  obtain ⟨a, _, rfl⟩ := List.mem_map.mp hd
  obtain ⟨b, _, rfl⟩ := List.mem_map.mp he
  unfold iT
  rw [PySem.W.alike]
  exact alike_ints a b
theorem sortable_tups {ls : List (List Int)} (h : ∀ l ∈ ls, l ≠ []) : PySem.W.Sortable (tups ls) := .inl fun d hd => by
  obtain ⟨a, ha, rfl⟩ := List.mem_map.mp hd
  cases a with
  | nil => exact absurd rfl (h _ ha)
  | cons x xs => exact ⟨.int x, xs.map .int, rfl⟩
/-! ### ints -/
def insI (a : Int) : List Int → List Int
  | [] => [a]
  | b :: bs => if b < a then b :: insI a bs else a :: b :: bs
def sortI : List Int → List Int
  | [] => []
  | a :: as => insI a (sortI as)
theorem insI_perm (a : Int) : ∀ bs, (insI a bs).Perm (a :: bs)
  | [] => List.Perm.refl _
  | b :: bs => by
    unfold insI
    split
    · exact ((insI_perm a bs).cons b).trans (List.Perm.swap a b bs)
    · exact List.Perm.refl _
theorem sortI_perm : ∀ as, (sortI as).Perm as
  | [] => List.Perm.refl _
  | a :: as => (insI_perm a _).trans ((sortI_perm as).cons a)
theorem insI_sorted (a : Int) : ∀ bs : List Int, bs.Pairwise (· ≤ ·) → (insI a bs).Pairwise (· ≤ ·)
  | [], _ => List.pairwise_singleton _ _
  | b :: bs, h => by
    rw [List.pairwise_cons] at h
    unfold insI
    split
    · rename_i e
      rw [List.pairwise_cons]
      refine ⟨fun c hc => ?_, insI_sorted a bs h.2⟩
      rcases List.mem_cons.mp ((insI_perm a bs).mem_iff.mp hc) with rfl | hc
      · omega
      · exact h.1 c hc
    · rename_i e
      rw [List.pairwise_cons, List.pairwise_cons]
      refine ⟨fun c hc => ?_, h.1, h.2⟩
      rcases List.mem_cons.mp hc with rfl | hc
      · omega
      · have := h.1 c hc; omega
theorem sortI_sorted : ∀ as, (sortI as).Pairwise (· ≤ ·)
  | [] => .nil
  | a :: as => insI_sorted a _ (sortI_sorted as)
theorem msortI_eq (ls : List Int) : ls.mergeSort (fun a b => decide (a ≤ b)) = sortI ls := by
  refine List.Perm.eq_of_pairwise (le := fun a b : Int => a ≤ b) (fun a b _ _ h1 h2 => Int.le_antisymm h1 h2) ?_ (sortI_sorted ls) ((List.mergeSort_perm _ _).trans (sortI_perm ls).symm)
  have := List.pairwise_mergeSort (le := fun a b : Int => decide (a ≤ b)) (fun a b c h1 h2 => by simp at *; omega) (fun a b => by simp; omega) ls
  exact this.imp fun h => of_decide_eq_true h
end K33

set_option maxHeartbeats 400000
/-! K33q: the wings' kinds. -/
namespace K33
open PySem PySem.Spec PyProof.Rows L2

/-- the module's constants -/
structure Gc (mg : Str → Option Value) : Prop where
  lamps : ∃ t, mg "MOST_LAMPS" = some (.int 8 t)
  push : ∃ t, mg "MOST_PUSH" = some (.int 4 t)
  load : ∃ t, mg "MOST_LOAD" = some (.int 400 t)
  ending : ∃ t, mg "ENDING" = some (.str "ending" t)
  flat : ∃ t, mg "FLAT" = some (.str "flat" t)
  wild : ∃ t, mg "WILD" = some (.str "wild" t)
def maxL : List Int → Int
  | [] => 0
  | [a] => a
  | a :: b :: r => if maxL (b :: r) > a then maxL (b :: r) else a
theorem maxL_ok : ∀ {l : List Int}, l ≠ [] → maxL l ∈ l ∧ ∀ y ∈ l, y ≤ maxL l
  | [], h => absurd rfl h
  | [a], _ => ⟨List.mem_cons_self, fun y hy => by rw [List.mem_singleton] at hy; subst hy; exact Int.le_refl _⟩
  | a :: b :: r, _ => by
    obtain ⟨h1, h2⟩ := maxL_ok (l := b :: r) (by simp)
    unfold maxL
    split
    · rename_i e
      refine ⟨List.mem_cons_of_mem _ h1, fun y hy => ?_⟩
      rcases List.mem_cons.mp hy with rfl | hy
      · omega
      · exact h2 y hy
    · rename_i e
      refine ⟨List.mem_cons_self, fun y hy => ?_⟩
      rcases List.mem_cons.mp hy with rfl | hy
      · omega
      · have := h2 y hy; omega
section
variable {c : Ct} {P : Program} {w : World} {mg : Str → Option Value} {base : Heap} {f : Addr} {fd : FuncData} {nm : Str} {j k : Nat} {S : Sc}

/-! ### least_over -/
def laterM (P : List (List Int)) (ws : List Nat) (more : Int) (load : List Int) : List Int := (ws.zip load).map fun z => if (weightM P ws load z.1 + more + 1) / 2 > z.2 then (weightM P ws load z.1 + more + 1) / 2 else z.2
def leastM (P : List (List Int)) (ws : List Nat) (more : Int) : Nat → List Int → List Int → Option (Option (List Int))
  | 0, _, _ => none
  | n + 1, load, later => if later = load then some (some load) else
    let l2 := if later = [] then load else later
    if maxL (laterM P ws more l2) > 400 then some none else leastM P ws more n l2 (laterM P ws more l2)
def optT : Option (List Int) → PyData
  | none => .none
  | some l => iT l
def sLeast : Sc := fun xs R => ∃ P ws more r n, xs = [.hall P, .d (iT (nats ws)), .d (.int more)] ∧ hallOk P = true ∧ (∀ o ∈ ws, o < P.length) ∧ ws.length ≤ 8 ∧ ws ≠ [] ∧ leastM P ws more n (List.replicate ws.length 1) [] = some r ∧ R = fun y => y = .d (optT r)
abbrev stLeast : Stmt := top 23
abbrev nLeast : List Str := ["hall", "wing", "more", "load", "later", "lamp", "own"]
theorem scLeast : FnScope nLeast ["hall", "wing", "more"] (defScope stLeast) := ⟨rfl, rfl, rfl, by decide +kernel, rfl, by decide +kernel, by decide +kernel⟩
theorem eqv_ints (a b : List Int) : PyData.eqv (.list (a.map .int)) (.list (b.map .int)) = decide (a = b) := by simp only [PyData.eqv]; exact eqvAll_ints a b
theorem imm_ofM {α : Type} {l : List α} {f : α → PyData} (h : ∀ a ∈ l, imm (f a) = true) : immAll (l.map f) = true := immAll_mem fun x hx => by
  obtain ⟨a, ha, rfl⟩ := List.mem_map.mp hx
  exact h a ha
theorem imm_ints (l : List Int) : immAll (l.map .int) = true := immAll_mem fun x hx => imm_int hx
theorem nats_map (ws : List Nat) : iT (nats ws) = .tuple (ws.map fun o : Nat => .int (o : Int)) := by unfold iT nats; rw [List.map_map]; rfl
theorem div2 (i : Int) : CDiv i 2 := ⟨by omega, by omega⟩
theorem own_least (D : Df c mg "least_over" stLeast ["hall", "wing", "more"] f fd) (B : Bl mg) (G : Gc mg) (OW : Own c P w mg base "weight" 1 sWeight) : Own c P w mg base "least_over" 2 sLeast := by
  refine own_mk D scLeast (fun xs R h => ?_) (fun cdv A outer s H E hr xs R h => ?_)
  · obtain ⟨P, ws, more, r, n, rfl, _⟩ := h
    rfl
  · obtain ⟨Pu, ws, more, r, n, rfl, ok, hw, hwl, hne, hl, rfl⟩ := h
    have nd := scLeast.nd
    have rep : (List.replicate ((ws.length : Nat) : Int).toNat [PyData.int 1]).flatten = (List.replicate ws.length (1 : Int)).map PyData.int := by
      rw [Int.toNat_natCast]
      generalize ws.length = n
      induction n with
      | zero => rfl
      | succ n ih => rw [List.replicate_succ, List.replicate_succ, List.flatten_cons, List.map_cons, ih]; rfl
    have lw : (.tuple (ws.map fun o : Nat => PyData.int (o : Int)) : PyData) = iT (nats ws) := (nats_map ws).symm
    refine ss_cons (s1_asg (x := .d (.list ((List.replicate ws.length (1 : Int)).map .int))) 3 (EN.ef (EM.en (EM.is (em_bin (og_rep (ds := [.int 1]) (k := (ws.length : Nat)) rfl (by omega) (by simp; omega)) (EM.ee (em_lst (ds := [.int 1]) (ean_cons (EE.en ee_int rfl) ean_nil)))
      (EE.is (eg_callB (cg_lenT (ds := ws.map fun o : Nat => .int (o : Int))) B.len (ea_cons (EE.is (ee_name 1) (by rw [← nats_map])) ea_nil) back_e) (by rw [List.length_map]))) (by rw [rep])))) ?_ nd)
    refine ss_cons (s1_asg (x := .d (.list (([] : List Int).map .int))) 4 (EN.ef (EM.en (em_lst ean_nil))) ?_ nd)
    refine ss_cons (s1_while (fun m env' => ∃ load later, env' = [.fr (.hall Pu), .fr (.d (iT (nats ws))), .fr (.d (.int more)), .fr (.d (.list (load.map .int))), .fr (.d (.list (later.map .int))), .no, .no] ∧ leastM Pu ws more m load later = some r ∧ load.length = ws.length ∧ (later = [] ∨ later.length = ws.length)) n
      ⟨_, [], rfl, hl, List.length_replicate, .inl rfl⟩ ?_)
    rintro m env' ⟨load, later, rfl, hm, hll, hlt⟩
    refine ⟨!decide (later = load), et_cmp (og_ne hr.units (shaped_ints _) (shaped_ints _) (by rw [eqv_ints, Bool.not_not])) (ee_name 4) (ee_name 3), fun e => ?_, fun e => ?_⟩
    · have ne : ¬ later = load := by simpa using e
      cases m with
      | zero => cases hm
      | succ m =>
        unfold leastM at hm
        rw [if_neg ne] at hm
        simp only at hm
        generalize hl2 : (if later = [] then load else later) = l2 at hm
        have l2l : l2.length = ws.length := by
          rw [← hl2]
          split
          · exact hll
          · rename_i z
            exact hlt.resolve_left z
        refine ss_cons (s1_asg (x := .d (.list (l2.map .int))) 3 (ef_if (k := !decide (later = [])) (et_cmp (og_ne hr.units (shaped_ints _) (shaped_ints []) (by rw [eqv_ints, Bool.not_not])) (ee_name 4) (EM.ee (em_lst ean_nil))) (fun e => EF.is (ef_name 4) ?a1) fun e => EF.is (ef_name 3) ?a2) ?_ nd)
        case a1 =>
          have z : ¬ later = [] := by simpa using e
          rw [← hl2, if_neg z]
        case a2 =>
          have z : later = [] := by simpa using e
          rw [← hl2, if_pos z]
        refine ss_cons (s1_lc 4 (lc_ok (own := [("lamp", 5), ("own", 6)]) (fun _ => true) (fun z => .int (if (weightM Pu ws l2 z.1 + more + 1) / 2 > z.2 then (weightM Pu ws l2 z.1 + more + 1) / 2 else z.2)) (src_zip 5 6 true false ws l2 (fun o : Nat => .int (o : Int)) .int B.zip (EF.is (ef_name 1) (by rw [nats_map]; rfl)) (ef_name 3))
          ?ok (pg2 5 6 nd) (by decide) (fun z hz s H C cl fp => ets_nil) (fun z hz _ s H C cl fp => ?elt) ?len) ?_ nd)
        case ok => exact blkOk_by (N := nLeast) (sc := defScope stLeast) (by decide +kernel)
        case elt =>
          have wz := hw _ (List.of_mem_zip hz).1
          refine EE.en (eg_callB (cg_max2 (i := z.2) (j := (weightM Pu ws l2 z.1 + more + 1) / 2)) B.max (ea_cons (ee_name 6) (ea_cons (ee_bin (og_fdiv (j := 2) (div2 (weightM Pu ws l2 z.1 + more + 1))) (ee_bin (og_add (i := weightM Pu ws l2 z.1 + more) (j := 1)) (ee_bin (og_add (i := weightM Pu ws l2 z.1) (j := more)) ?call (ee_name 2)) ee_int) ee_int) ea_nil)) back_e) rfl
          refine ee_call (S := sWeight) (k := 1) (xs := [.hall Pu, .d (iT (nats ws)), .d (.list (l2.map .int)), .d (.int (z.1 : Nat))]) OW ?hr ?args ?S
          case hr => exact hr
          case S => exact ⟨Pu, ws, l2, z.1, false, rfl, ok, wz, hw, hwl, rfl⟩
          case args => exact ea_cons (ee_name 0) (ea_cons (ee_name 1) (ea_cons (ee_name 3) (ea_cons (ee_name 5) ea_nil)))
        case len => rw [List.length_zip]; omega
        have e3 : (.list (((ws.zip l2).filter fun _ => true).map fun z => PyData.int (if (weightM Pu ws l2 z.1 + more + 1) / 2 > z.2 then (weightM Pu ws l2 z.1 + more + 1) / 2 else z.2)) : PyData) = .list ((laterM Pu ws more l2).map .int) := by
          rw [filt_true]; simp [laterM, List.map_map, Function.comp_def]
        rw [e3]
        have l3l : (laterM Pu ws more l2).length = ws.length := by unfold laterM; rw [List.length_map, List.length_zip]; omega
        have l3n : laterM Pu ws more l2 ≠ [] := fun z => hne (List.eq_nil_of_length_eq_zero (by rw [← l3l, z]; rfl))
        obtain ⟨x1, x2⟩ := maxL_ok l3n
        refine ss_freeze 4 rfl (ss_cons (s1_if (et_cmp og_gt (eg_callB (cg_max (ns := laterM Pu ws more l2) (m := maxL (laterM Pu ws more l2)) (by rw [l3l]; exact List.length_pos_iff.mpr hne) (fun k hk hle => Int.le_antisymm (x2 k hk) (hle _ x1))) B.max (ea_cons (ee_name 4) ea_nil) back_e) (ee_gint G.load)) (fun e => ?_) fun e => ss_nil (ss_nil ?_)))
        · have z : maxL (laterM Pu ws more l2) > 400 := of_decide_eq_true e
          rw [if_pos z] at hm
          cases hm
          exact ss_cons (s1_ret (EE.en ee_non rfl) rfl)
        · have z : ¬ maxL (laterM Pu ws more l2) > 400 := of_decide_eq_false e
          rw [if_neg z] at hm
          exact ⟨m, Nat.lt_succ_self m, l2, _, rfl, hm, l2l, .inr l3l⟩
    · have ne : later = load := by simpa using e
      have hr2 : r = some load := by
        cases m with
        | zero => cases hm
        | succ m =>
          unfold leastM at hm
          rw [if_pos ne] at hm
          exact (Option.some.inj hm).symm
      subst hr2
      exact ss_cons (s1_ret (EE.en (eg_callT (cg_tuple) B.tuple (ea_cons (ee_name 3) ea_nil) back_e) (imm_iT load)) rfl)
end
end K33

set_option maxHeartbeats 400000
/-! K33r: word_of, kind_of, joined_to, wings_of, need_ending. -/
namespace K33
open PySem PySem.Spec PyProof.Rows L2
theorem hu1 {k : Nat} {A : Around} (r : Room k A) : A.units + 1 < cLine := by have := r.un; omega
theorem hu2 {k : Nat} {A : Around} (r : Room k A) : A.units + 2 < cLine := by have := r.un; omega
section
variable {c : Ct} {P : Program} {w : World} {mg : Str → Option Value} {base : Heap} {f : Addr} {fd : FuncData} {nm : Str} {j k : Nat} {S : Sc}

/-! ### word_of -/
def signM (own here : Int) : Int := if 2 * own = here then 0 else if 2 * own > here then 1 else -1
def signsM (P : List (List Int)) (ws : List Nat) (load : List Int) : List Int := (ws.zip load).map fun z => signM z.2 (weightM P ws load z.1)
def wordsM : List (Int × Str) := [(1, "ending"), (0, "flat"), (-1, "wild")]
def wordM (P : List (List Int)) (ws : List Nat) (load : List Int) : PyData :=
  match wordsM.find? fun p => decide (signsM P ws load = List.replicate ws.length p.1) with
  | some p => .str p.2
  | none => .none
def sWord : Sc := fun xs R => ∃ P ws ls, xs = [.hall P, .d (iT (nats ws)), .d (iT ls)] ∧ hallOk P = true ∧ (∀ o ∈ ws, o < P.length) ∧ ws.length ≤ 8 ∧ R = fun y => y = .d (wordM P ws ls)
abbrev stWord : Stmt := top 24
abbrev nWord : List Str := ["hall", "wing", "load", "signs", "lamp", "own", "here", "sign", "word"]
theorem scWord : FnScope nWord ["hall", "wing", "load"] (defScope stWord) := ⟨rfl, rfl, rfl, by decide +kernel, rfl, by decide +kernel, by decide +kernel⟩
theorem rep_flat (n : Nat) (a : Int) : (List.replicate ((n : Nat) : Int).toNat [PyData.int a]).flatten = (List.replicate n a).map PyData.int := by
  rw [Int.toNat_natCast]
  induction n with
  | zero => rfl
  | succ n ih => rw [List.replicate_succ, List.replicate_succ, List.flatten_cons, List.map_cons, ih]; rfl
theorem own_word (D : Df c mg "word_of" stWord ["hall", "wing", "load"] f fd) (B : Bl mg) (G : Gc mg) (OW : Own c P w mg base "weight" 1 sWeight) : Own c P w mg base "word_of" 2 sWord := by
  refine own_mk D scWord (fun xs R h => ?_) (fun cdv A outer s H E hr xs R h => ?_)
  · obtain ⟨P, ws, ls, rfl, _⟩ := h
    rfl
  · obtain ⟨Pu, ws, ls, rfl, ok, hw, hwl, rfl⟩ := h
    have nd := scWord.nd
    refine ss_cons (s1_own (x := .d (.list (([] : List Int).map .int))) 3 (em_lst ean_nil) ?_ nd)
    refine ss_cons (s1_for (src_zip 4 5 true true ws ls (fun o : Nat => .int (o : Int)) .int B.zip (EF.is (ef_name 1) (by rw [nats_map]; rfl)) (ef_name 2)) (pg_tup rfl (pgs_cons (pg_name nd rfl (Or.inl rfl) (Or.inr rfl)) (pgs_cons (pg_name nd rfl (Or.inl rfl) (Or.inr rfl)) pgs_nil)))
      (fun i env' => ∃ a b d, env' = [.fr (.hall Pu), .fr (.d (iT (nats ws))), .fr (.d (iT ls)), .ow (.d (.list (((signsM Pu ws ls).take i).map .int))), a, b, d, .no, .no]) ⟨_, _, _, rfl⟩ ?_ ?_)
    · rintro i z env' hz ⟨a, b, d, rfl⟩
      have hm := List.mem_of_getElem? hz
      have wz := hw _ (List.of_mem_zip hm).1
      have hi : i < (ws.zip ls).length := by
        obtain ⟨h, _⟩ := List.getElem?_eq_some_iff.mp hz
        exact h
      refine ss_cons (s1_asg (x := .d (.int (weightM Pu ws ls z.1))) 6 (EN.ef (EE.en (ee_call (S := sWeight) (k := 1) (xs := [.hall Pu, .d (iT (nats ws)), .d (iT ls), .d (.int (z.1 : Nat))]) OW hr (ea_cons (ee_name 0) (ea_cons (ee_name 1) (ea_cons (ee_name 2) (ea_cons (ee_name 4) ea_nil)))) ⟨Pu, ws, ls, z.1, true, rfl, ok, wz, hw, hwl, rfl⟩) rfl)) ?_ nd)
      refine ss_cons (s1_app (d := .int (signM z.2 (weightM Pu ws ls z.1))) 3 rfl (EE.en (ee_if (k := decide (2 * z.2 = weightM Pu ws ls z.1)) (et_cmp (og_eq hr.units (shaped_int _) (shaped_int _) (eqv_int _ _)) (ee_bin (og_mul (i := 2) (j := z.2) (.inl ⟨by omega, by omega⟩)) ee_int (ee_name 5)) (ee_name 6))
        (fun e => EE.is ee_int ?x0) (fun e => ee_if (k := decide (weightM Pu ws ls z.1 < 2 * z.2)) (et_cmp og_gt (ee_bin (og_mul (i := 2) (j := z.2) (.inl ⟨by omega, by omega⟩)) ee_int (ee_name 5)) (ee_name 6)) (fun e2 => EE.is ee_int ?x1) fun e2 => EE.is (ee_neg ee_int) ?x2)) rfl) ?sz ?nx)
      case x0 => unfold signM; rw [if_pos (of_decide_eq_true e)]
      case x1 => unfold signM; rw [if_neg (of_decide_eq_false e), if_pos (of_decide_eq_true e2)]
      case x2 => unfold signM; rw [if_neg (of_decide_eq_false e), if_neg (of_decide_eq_false e2)]
      case sz => rw [List.length_map, List.length_take]; have : (signsM Pu ws ls).length = (ws.zip ls).length := by unfold signsM; rw [List.length_map]
                 rw [this, List.length_zip]; omega
      case nx =>
        refine ss_nil ⟨.fr (.d (.int (z.1 : Nat))), .fr (.d (.int z.2)), .fr (.d (.int (weightM Pu ws ls z.1))), ?_⟩
        have tk : (signsM Pu ws ls).take (i + 1) = (signsM Pu ws ls).take i ++ [signM z.2 (weightM Pu ws ls z.1)] := by
          rw [List.take_add_one]
          unfold signsM
          rw [List.getElem?_map, hz]
          rfl
        rw [tk, List.map_append]
        rfl
    · rintro env' ⟨a, b, d, rfl⟩
      have tk : (signsM Pu ws ls).take (ws.zip ls).length = signsM Pu ws ls := by
        apply List.take_of_length_le
        unfold signsM
        rw [List.length_map]
        exact Nat.le_refl _
      rw [tk]
      refine ss_cons (s1_for (src_pairsT 7 8 wordsM (fun p => .int p.1) (fun p => .str p.2) (EN.ef (EE.en (EE.is (ee_tup (ds := [.tuple [.int 1, .str "ending"], .tuple [.int 0, .str "flat"], .tuple [.int (-1), .str "wild"]])
        (ea_cons (ee_tup (ds := [.int 1, .str "ending"]) (ea_cons ee_int (ea_cons (ee_gstr G.ending) ea_nil))) (ea_cons (ee_tup (ds := [.int 0, .str "flat"]) (ea_cons ee_int (ea_cons (ee_gstr G.flat) ea_nil))) (ea_cons (ee_tup (ds := [.int (-1), .str "wild"]) (ea_cons (ee_neg ee_int) (ea_cons (ee_gstr G.wild) ea_nil))) ea_nil)))) rfl) (by decide +kernel))))
        (pg_tup rfl (pgs_cons (pg_name nd rfl (Or.inl rfl) (Or.inr rfl)) (pgs_cons (pg_name nd rfl (Or.inl rfl) (Or.inr rfl)) pgs_nil)))
        (fun i env' => (∃ a b d e g, env' = [.fr (.hall Pu), .fr (.d (iT (nats ws))), .fr (.d (iT ls)), .ow (.d (.list ((signsM Pu ws ls).map .int))), a, b, d, e, g]) ∧ ∀ p ∈ wordsM.take i, ¬ signsM Pu ws ls = List.replicate ws.length p.1) ⟨⟨_, _, _, _, _, rfl⟩, fun p hp => by simp at hp⟩ ?_ ?_)
      · rintro i z env' hz ⟨⟨a, b, d, e, g, rfl⟩, hn⟩
        refine ss_cons (s1_if (et_cmp (og_eq (k := decide (signsM Pu ws ls = List.replicate ws.length z.1)) hr.units (shaped_ints _) (shaped_ints (List.replicate ws.length z.1)) (eqv_ints _ _)) (ee_name 3) (EE.is (EM.ee (em_bin (og_rep (ds := [.int z.1]) (k := (ws.length : Nat)) rfl (by omega) (by simp; omega)) (EM.ee (em_lst (ds := [.int z.1]) (ean_cons (EE.en (ee_name 7) rfl) ean_nil) (by simp)))
          (EE.is (eg_callB (cg_lenT (ds := ws.map fun o : Nat => .int (o : Int))) B.len (ea_cons (EE.is (ee_name 1) (by rw [← nats_map])) ea_nil) back_e) (by rw [List.length_map])))) (by rw [rep_flat]))) (fun e => ?_) fun e => ss_nil (ss_nil ?_))
        · refine ss_cons (s1_ret (EE.en (ee_name 8) rfl) ?_)
          have e : signsM Pu ws ls = List.replicate ws.length z.1 := of_decide_eq_true e
          have : wordsM.find? (fun p => decide (signsM Pu ws ls = List.replicate ws.length p.1)) = some z := by
            rw [List.find?_eq_some_iff_append]
            refine ⟨decide_eq_true e, wordsM.take i, wordsM.drop (i + 1), ?_, fun p hp => by simpa using hn p hp⟩
            have h1 := List.take_append_drop i wordsM
            obtain ⟨hl, hg⟩ := List.getElem?_eq_some_iff.mp hz
            rw [List.drop_eq_getElem_cons hl, hg] at h1
            exact h1.symm
          unfold wordM
          rw [this]
        · refine ⟨⟨_, _, _, _, _, rfl⟩, fun p hp => ?_⟩
          rw [List.take_add_one, hz] at hp
          rcases List.mem_append.mp hp with hp | hp
          · exact hn p hp
          · have e3 : p = z := by simpa using hp
            rw [e3]
            exact of_decide_eq_false e
      · rintro env' ⟨⟨a, b, d, e, g, rfl⟩, hn⟩
        refine ss_cons (s1_ret (EE.en ee_non rfl) ?_)
        have : wordsM.find? (fun p => decide (signsM Pu ws ls = List.replicate ws.length p.1)) = none := by
          rw [List.find?_eq_none]
          intro p hp
          rw [List.take_length] at hn
          simpa using hn p hp
        unfold wordM
        rw [this]

/-! ### kind_of -/
def kindM (P : List (List Int)) (ws : List Nat) (r : Option (List Int)) : Str := match r with
  | none => "wild"
  | some l => if PyData.eqv (wordM P ws l) (.str "flat") = true then "flat" else "ending"
def sKind : Sc := fun xs R => ∃ P ws r n, xs = [.hall P, .d (iT (nats ws))] ∧ hallOk P = true ∧ (∀ o ∈ ws, o < P.length) ∧ ws.length ≤ 8 ∧ ws ≠ [] ∧ leastM P ws 0 n (List.replicate ws.length 1) [] = some r ∧ R = fun y => y = .d (.str (kindM P ws r))
abbrev stKind : Stmt := top 25
theorem scKind : FnScope ["hall", "wing", "load"] ["hall", "wing"] (defScope stKind) := ⟨rfl, rfl, rfl, by decide +kernel, rfl, by decide +kernel, by decide +kernel⟩
theorem shaped_flat : SeqAt.shaped (.str "flat") = true := by decide +kernel
theorem words_ok : ∀ p ∈ wordsM, SeqAt.shaped (.str p.2) = true := by decide +kernel
theorem shaped_word (P : List (List Int)) (ws : List Nat) (l : List Int) : SeqAt.shaped (wordM P ws l) = true := by
  unfold wordM
  split
  · rename_i p e
    exact words_ok p (List.mem_of_find?_eq_some e)
  · rfl
theorem imm_word (P : List (List Int)) (ws : List Nat) (l : List Int) : imm (wordM P ws l) = true := by
  unfold wordM
  split <;> rfl
theorem own_kind (D : Df c mg "kind_of" stKind ["hall", "wing"] f fd) (G : Gc mg) (OL : Own c P w mg base "least_over" 2 sLeast) (OW : Own c P w mg base "word_of" 2 sWord) : Own c P w mg base "kind_of" 3 sKind := by
  refine own_mk D scKind (fun xs R h => ?_) (fun cdv A outer s H E hr xs R h => ?_)
  · obtain ⟨P, ws, r, n, rfl, _⟩ := h
    rfl
  · obtain ⟨Pu, ws, r, n, rfl, ok, hw, hwl, hne, hl, rfl⟩ := h
    have nd := scKind.nd
    refine ss_cons (s1_asg (x := .d (optT r)) 2 (EN.ef (en_call (S := sLeast) (k := 2) (xs := [.hall Pu, .d (iT (nats ws)), .d (.int 0)]) OL hr (ea_cons (ee_name 0) (ea_cons (ee_name 1) (ea_cons ee_int ea_nil))) ⟨Pu, ws, 0, r, n, rfl, ok, hw, hwl, hne, hl, rfl⟩)) ?_ nd)
    refine ss_cons (s1_if (et_cmp og_isN (ee_name 2) ee_non) (fun e => ?_) fun e => ss_nil ?_)
    · cases r with
      | none => exact ss_cons (s1_ret (EE.en (ee_gstr G.wild) rfl) rfl)
      | some l => cases e
    · cases r with
      | none => cases e
      | some l =>
        refine ss_cons (s1_ret (EE.en (d := .str (kindM Pu ws (some l))) (ee_if (k := PyData.eqv (wordM Pu ws l) (.str "flat")) (et_cmp (og_eq hr.units (shaped_word _ _ _) shaped_flat rfl) (ee_call (S := sWord) (k := 2) (xs := [.hall Pu, .d (iT (nats ws)), .d (iT l)]) OW hr (ea_cons (ee_name 0) (ea_cons (ee_name 1) (ea_cons (ee_name 2) ea_nil))) ⟨Pu, ws, l, rfl, ok, hw, hwl, rfl⟩) (ee_gstr G.flat)) (fun e => EE.is (ee_gstr G.flat) ?a1) fun e => EE.is (ee_gstr G.ending) ?a2) rfl) rfl)
        case a1 => simp only [kindM]; rw [if_pos e]
        case a2 => simp only [kindM]; rw [if_neg (by rw [e]; exact Bool.false_ne_true)]

/-! ### joined_to -/
def joinM (P : List (List Int)) : Nat → List (Int × PyData) → List Int → Option (List (Int × PyData))
  | 0, _, _ => none
  | n + 1, found, waiting => if waiting = [] then some found else
    let one := waiting.getLastD 0
    let w2 := waiting.dropLast
    if (lookT found one).isSome = true then joinM P n found w2 else joinM P n (putT found one (.bool true)) (w2 ++ nbM P one.toNat)
def sJoin : Sc := fun xs R => ∃ P i n r, xs = [.hall P, .d (.int (i : Nat))] ∧ hallOk P = true ∧ i < P.length ∧ joinM P n [] [(i : Int)] = some r ∧ n < 1000 ∧ r.length < 64 ∧ R = fun y => y = .d (iT (sortI (r.map (·.1))))
abbrev stJoin : Stmt := top 15
abbrev nJoin : List Str := ["hall", "lamp", "found", "waiting", "one"]
theorem scJoin : FnScope nJoin ["hall", "lamp"] (defScope stJoin) := ⟨rfl, rfl, rfl, by decide +kernel, rfl, by decide +kernel, by decide +kernel⟩
theorem nb_lt {P : List (List Int)} {i : Nat} : ∀ x ∈ nbM P i, ∃ m : Nat, x = m ∧ m < P.length := fun x hx => by
  unfold nbM at hx
  obtain ⟨z, hz, rfl⟩ := List.mem_map.mp hx
  have h1 := (List.of_mem_zip (List.mem_filter.mp hz).1).1
  exact ⟨z.1, rfl, List.mem_range.mp h1⟩
theorem nb_len {P : List (List Int)} {i : Nat} : (nbM P i).length ≤ P.length := by
  unfold nbM
  rw [List.length_map]
  refine Nat.le_trans (List.length_filter_le _ _) ?_
  rw [List.length_zip, List.length_range]
  omega
theorem own_join (D : Df c mg "joined_to" stJoin ["hall", "lamp"] f fd) (B : Bl mg) (ON : Own c P w mg base "neighbours_of" 1 sNb) : Own c P w mg base "joined_to" 2 sJoin := by
  refine own_mk D scJoin (fun xs R h => ?_) (fun cdv A outer s H E hr xs R h => ?_)
  · obtain ⟨P, i, n, r, rfl, _⟩ := h
    rfl
  · obtain ⟨Pu, i, n, r, rfl, ok, hi, hj, hn, hrl, rfl⟩ := h
    have nd := scJoin.nd
    have hl := hallOk_len ok
    refine ss_cons (s1_par (x := .dK []) (y := .d (.list (([(i : Int)] : List Int).map .int))) 2 3 true true (ex_m em_dnewK) (ex_m (em_lst (ds := [.int (i : Nat)]) (ean_cons (EE.en (ee_name 1) rfl) ean_nil) (by simp))) ?_ nd (by show 2 < 5; decide) (by decide))
    refine ss_cons (s1_while (fun m env' => ∃ found waiting a, env' = [.fr (.hall Pu), .fr (.d (.int (i : Nat))), .ow (.dK found), .ow (.d (.list (waiting.map .int))), a] ∧ joinM Pu m found waiting = some r ∧ (∀ x ∈ waiting, ∃ m : Nat, x = m ∧ m < Pu.length) ∧ waiting.length + 8 * m ≤ 9000 ∧ found.length + m ≤ 1000) n
      ⟨[], [(i : Int)], _, rfl, hj, fun x hx => ⟨i, by simpa using hx, hi⟩, by simp; omega, by simp; omega⟩ ?_)
    rintro m env' ⟨found, waiting, a, rfl, hm, hwt, hz1, hz2⟩
    refine ⟨!decide (waiting = []), et_cmp (og_ne hr.units (shaped_ints _) (shaped_ints []) (by rw [eqv_ints, Bool.not_not])) (ee_name 3) (EM.ee (em_lst ean_nil)), fun e => ?_, fun e => ?_⟩
    · have ne : ¬ waiting = [] := by simpa using e
      cases m with
      | zero => cases hm
      | succ m =>
        unfold joinM at hm
        rw [if_neg ne] at hm
        simp only at hm
        obtain ⟨w2, one, rfl⟩ : ∃ w2 one, waiting = w2 ++ [one] := ⟨waiting.dropLast, waiting.getLast ne, (List.dropLast_concat_getLast ne).symm⟩
        have g1 : (w2 ++ [one]).getLastD 0 = one := by rw [List.getLastD_eq_getLast?, List.getLast?_append]; rfl
        have g2 : (w2 ++ [one]).dropLast = w2 := List.dropLast_concat
        rw [g1, g2] at hm
        obtain ⟨o, rfl, ho⟩ := hwt one (List.mem_append_right _ List.mem_cons_self)
        have hw2 : ∀ x ∈ w2, ∃ m : Nat, x = m ∧ m < Pu.length := fun x hx => hwt x (List.mem_append_left _ hx)
        rw [List.length_append, List.length_singleton] at hz1
        refine ss_cons (s1_pop (ds := w2.map .int) (d := .int (o : Nat)) 4 3 (by show some (Sl.ow _) = some (Sl.ow _); rw [List.map_append]; rfl) (by decide) ?_ nd)
        refine ss_cons (s1_if (et_dnin (.k found (o : Int)) (hu1 hr) (ee_name 4) (ee_name 2)) (fun e2 => ?_) fun e2 => ss_nil (ss_nil ?_))
        · have e3 : ¬ (lookT found (o : Int)).isSome = true := by simpa using e2
          rw [if_neg e3, Int.toNat_natCast] at hm
          refine ss_cons (s1_dput (d := .bool true) 2 rfl (.k found (o : Int) (.bool true) (by omega)) (hu1 hr) (EE.en ee_bl rfl) (ee_name 4) ?_)
          refine ss_cons (s1_extT (ds := w2.map .int) (fs := (nbM Pu o).map .int) 3 rfl (EN.ef (en_call (S := sNb) (k := 1) (xs := [.hall Pu, .d (.int (o : Nat))]) ON hr (ea_cons (ee_name 0) (ea_cons (ee_name 4) ea_nil)) ⟨Pu, o, rfl, ok, ho, rfl⟩)) (by have := nb_len (P := Pu) (i := o); rw [List.length_map, List.length_map]; omega) ?_)
          refine ss_nil (ss_nil ⟨m, Nat.lt_succ_self m, _, w2 ++ nbM Pu o, _, by rw [List.map_append (l₁ := w2) (l₂ := nbM Pu o)]; rfl, hm, fun x hx => ?_, ?_, ?_⟩)
          · rcases List.mem_append.mp hx with hx | hx
            · exact hw2 x hx
            · exact nb_lt x hx
          · have := nb_len (P := Pu) (i := o); rw [List.length_append]; omega
          · have := putT_len found (o : Int) (.bool true); omega
        · have e3 : (lookT found (o : Int)).isSome = true := by simpa using e2
          rw [if_pos e3] at hm
          exact ⟨m, Nat.lt_succ_self m, _, w2, _, rfl, hm, hw2, by omega, by omega⟩
    · have ne : waiting = [] := by simpa using e
      have hr2 : r = found := by
        cases m with
        | zero => cases hm
        | succ m =>
          unfold joinM at hm
          rw [if_pos ne] at hm
          exact (Option.some.inj hm).symm
      subst hr2
      refine ss_cons (s1_ret (EE.en (eg_callT (cg_tuple) B.tuple (ea_cons (EM.ee (eg_callB (cg_sortDK hrl) B.sorted (ea_cons (ee_name 2) ea_nil) back_m)) ea_nil) back_e) (by rw [msortI_eq]; exact imm_iT _)) ?_)
      show SV.d (.tuple _) = .d (iT _)
      rw [msortI_eq]
      rfl
end
end K33

set_option maxHeartbeats 400000
/-! K33s: sum of a tuple; first_of, wings_of, need_ending. -/
namespace K33
open PySem PySem.Spec PyProof.Rows L2
section
variable {prog : Program} {w : World} {A : Around} {E : Value → Shared → Prop} {s : Shared}
theorem sum_tupG {l : Addr} {xs : Array (Int × Tok)} {Q : Value → Shared → Prop} (hh : A.handled = none) (hl : s.heap.IsTuple l (intItems xs))
    (h : ∀ h' tk t', (∀ b o, s.heap.get? b = some o → h'.get? b = some o) → Q (.int (preSum (numAt xs) xs.size) t') { s with heap := h', toks := tk }) :
    wpAny (model prog w) A (call (.builtin "sum") [.ref l]) Q E s := by
  refine call_sum_walkG (wpAny_pyIter_tuple hl ?_)
  have hlt : l < s.heap.objs.size := by obtain ⟨_, e, _⟩ := hl; exact Heap.lt_size e
  refine ⟨_, [_, l], [_], _, _, _, numAt xs, rfl, Walks.tuple (A := A.in1) hh _ l (Nat.ne_of_lt hlt) (intItems xs), ⟨⟨_, Heap.get?_push_size _ rfl, rfl, rfl⟩, hl.push _⟩, fun c hc => ?_, (fun _ _ => intItems_at), fun h' tk t' hk => ?_⟩
  · show c < (s.heap.push _).objs.size
    rw [Heap.size_push]
    rcases List.mem_cons.mp hc with rfl | hc
    · exact Nat.lt_succ_self _
    · rw [List.mem_singleton.mp hc]; exact Nat.lt_succ_of_lt hlt
  · have := h h' tk t' fun b o e => hk b o (fun hm => by rw [List.mem_singleton.mp hm] at e; exact absurd (Heap.lt_size e) (Nat.lt_irrefl _)) (Heap.get?_push_of_some _ e)
    simpa [intItems] using this
theorem sum_tup {l : Addr} {its : List Value} {ns : List Int} {Q : Value → Shared → Prop} (hh : A.handled = none) (hl : s.heap.IsTuple l its.toArray) (hi : IntsAre its ns)
    (h : ∀ h' tk t', (∀ b o, s.heap.get? b = some o → h'.get? b = some o) → Q (.int ns.sum t') { s with heap := h', toks := tk }) : wpAny (model prog w) A (call (.builtin "sum") [.ref l]) Q E s := by
  obtain ⟨xs, e⟩ := hi.allInts.items
  have hn : numsOf (intItems xs).toList = ns := by rw [← e]; exact hi.numsOf
  rw [nums_intItems] at hn
  rw [e] at hl
  refine sum_tupG hh hl fun h' tk t' hk => ?_
  have := h h' tk t' hk
  rw [preSum_eq, List.take_of_length_le (by simp), hn]; exact this
end
section
variable {c : Ct} {X : Cx}
theorem cr_sumT (hc : X.calm = true) : CallR X (.builtin "sum") (fun vs H Q => ∃ (a : Addr) (ns : List Int), vs = [V.ref a] ∧ SqT X.K H a (ns.map V.int) ∧ Q (.int ns.sum) H) := by
  intro pins s σ H vs us Q I r h
  obtain ⟨a, ns, rfl, hs, q⟩ := h
  obtain ⟨its, rv, hl, _⟩ := I.tuple hs
  rw [Vals.ref1 r]
  exact sum_tup (I.ok.hd hc) hl rv.ints fun h' tk t' hk => ⟨.int _, H, I.kept hk, ⟨_, rfl⟩, q⟩
theorem cg_sumT {ns : List Int} (hc : X.calm = true := by rfl) : CG c X (.builtin "sum") [.d (iT ns)] (rE c (.d (.int ns.sum))) :=
  ⟨_, cr_sumT hc, fun H vs rv Q q => by
    obtain ⟨v, rfl, r⟩ := rvs1 rv
    obtain ⟨a, ws, rfl, h1, h2⟩ := dq_tup r
    cases dq_ints h2
    exact ⟨a, ns, rfl, SqT.of h1, q _ H (Same.refl H) (.int _)⟩⟩
end
section
variable {c : Ct} {P : Program} {w : World} {mg : Str → Option Value} {base : Heap} {f : Addr} {fd : FuncData} {nm : Str} {j k : Nat} {S : Sc}

/-! ### first_of -/
def sFirst : Sc := fun xs R => ∃ P, xs = [.hall P] ∧ hallOk P = true ∧ R = fun y => y = .d (iT (List.replicate P.length 1))
abbrev stFirst : Stmt := top 35
theorem scFirst : FnScope ["hall"] ["hall"] (defScope stFirst) := ⟨rfl, rfl, rfl, by decide +kernel, rfl, by decide +kernel, by decide +kernel⟩
theorem own_first (D : Df c mg "first_of" stFirst ["hall"] f fd) (B : Bl mg) (L : Ln c P w mg base 1) : Own c P w mg base "first_of" 3 sFirst := by
  refine own_mk D scFirst (fun xs R h => ?_) (fun cdv A outer s H E hr xs R h => ?_)
  · obtain ⟨P, rfl, _⟩ := h
    rfl
  · obtain ⟨Pu, rfl, ok, rfl⟩ := h
    have hl := hallOk_len ok
    exact ss_cons (s1_ret (EE.en (ee_bin (og_ones (n := Pu.length) (by omega)) (ee_tup (ds := [.int 1]) (ea_cons ee_int ea_nil)) (eg_callB (cg_lenH (P := Pu) L hr (by omega)) B.len (ea_cons (ee_name 0) ea_nil) back_e)) (imm_iT _)) rfl)

/-! ### wings_of -/
def jM (P : List (List Int)) (i : Nat) : List Int := match joinM P 100 [] [(i : Int)] with
  | some r => sortI (r.map (·.1))
  | none => []
def joinOk (P : List (List Int)) : Bool := (List.range P.length).all fun i => match joinM P 100 [] [(i : Int)] with
  | some r => decide (r.length < 64) && decide (1 ≤ r.length)
  | none => false
def wingsM (P : List (List Int)) : List (List Int) := sortL (keysT (putsT [] ((List.range P.length).map fun i => (jM P i, .bool true))))
def sWings : Sc := fun xs R => ∃ P, xs = [.hall P] ∧ hallOk P = true ∧ joinOk P = true ∧ R = fun y => y = .d (.list (tups (wingsM P)))
abbrev stWings : Stmt := top 16
abbrev nWings : List Str := ["hall", "lamp"]
theorem scWings : FnScope nWings ["hall"] (defScope stWings) := ⟨rfl, rfl, rfl, by decide +kernel, rfl, by decide +kernel, by decide +kernel⟩
theorem keys_put (kvs : List (List Int × PyData)) (k : List Int) (d : PyData) : ∀ x ∈ keysT (putT kvs k d), x ∈ keysT kvs ∨ x = k := by
  intro x hx
  unfold keysT putT at hx
  split at hx
  · rw [List.map_map] at hx
    obtain ⟨p, hp, rfl⟩ := List.mem_map.mp hx
    refine .inl (List.mem_map.mpr ⟨p, hp, ?_⟩)
    simp only [Function.comp]
    split <;> rfl
  · rw [List.map_append] at hx
    rcases List.mem_append.mp hx with h | h
    · exact .inl h
    · exact .inr (by simpa using h)
theorem keys_puts : ∀ (us kvs : List (List Int × PyData)), ∀ x ∈ keysT (putsT kvs us), x ∈ keysT kvs ∨ x ∈ keysT us
  | [], kvs, x, hx => .inl hx
  | u :: us, kvs, x, hx => by
    have hx : x ∈ keysT (putsT (putT kvs u.1 u.2) us) := hx
    rcases keys_puts us _ x hx with h | h
    · rcases keys_put _ _ _ x h with h | h
      · exact .inl h
      · exact .inr (by rw [h]; exact List.mem_cons_self)
    · exact .inr (List.mem_cons_of_mem _ h)
theorem join_at {P : List (List Int)} (h : joinOk P = true) {i : Nat} (hi : i < P.length) : ∃ r, joinM P 100 [] [(i : Int)] = some r ∧ r.length < 64 ∧ 1 ≤ r.length ∧ jM P i = sortI (r.map (·.1)) := by
  unfold joinOk at h
  rw [List.all_eq_true] at h
  have := h i (List.mem_range.mpr hi)
  unfold jM
  cases e : joinM P 100 [] [(i : Int)] with
  | none => rw [e] at this; cases this
  | some r =>
    rw [e] at this
    simp only [Bool.and_eq_true, decide_eq_true_eq] at this
    exact ⟨r, rfl, this.1, this.2, rfl⟩
theorem jM_ne {P : List (List Int)} (h : joinOk P = true) {i : Nat} (hi : i < P.length) : jM P i ≠ [] := by
  obtain ⟨r, _, _, h2, e⟩ := join_at h hi
  rw [e]
  intro z
  have := (sortI_perm (r.map (·.1))).length_eq
  rw [z, List.length_map] at this
  simp at this
  omega
theorem own_wings (D : Df c mg "wings_of" stWings ["hall"] f fd) (B : Bl mg) (L : Ln c P w mg base 1) (OJ : Own c P w mg base "joined_to" 2 sJoin) : Own c P w mg base "wings_of" 3 sWings := by
  refine own_mk D scWings (fun xs R h => ?_) (fun cdv A outer s H E hr xs R h => ?_)
  · obtain ⟨P, rfl, _⟩ := h
    rfl
  · obtain ⟨Pu, rfl, ok, jo, rfl⟩ := h
    have nd := scWings.nd
    have hl := hallOk_len ok
    refine ss_cons (s1_ret (EM.en (EM.is (eg_callB (cg_sortDT (kvs := putsT [] ((List.range Pu.length).map fun i => (jM Pu i, .bool true))) (alike_tups _) (sortable_tups ?ne) (hu65 hr |> fun h => by exact Nat.lt_of_succ_lt h)) B.sorted (ea_cons (EM.ee (EM.is (em_dcT (own := [("lamp", 1)]) (fun i : Nat => jM Pu i) (fun _ => .bool true)
      (src_rng1 1 (Pu.length : Nat) B.range (eg_callB (cg_lenH (P := Pu) L hr (by omega)) B.len (ea_cons (ee_name 0) ea_nil) back_e) (by omega)) ?ok (pg1 1 nd) (by decide) (fun i hi s H C cl fp => ?key) (fun i hi s H C cl fp => EE.en ee_bl rfl) (by rw [List.length_range]; omega) (hu1 hr) nd) ?rn)) ea_nil) back_m) ?fin)) rfl)
    case ok => exact blkOk_by (N := nWings) (sc := defScope stWings) (by decide +kernel)
    case rn => rw [Int.toNat_natCast]
    case fin => rw [msort_eq]; rfl
    case ne =>
      intro l hl2
      rcases keys_puts _ _ l hl2 with h | h
      · cases h
      · unfold keysT at h
        rw [List.map_map] at h
        obtain ⟨i, hi, rfl⟩ := List.mem_map.mp h
        exact jM_ne jo (List.mem_range.mp hi)
    case key =>
      have hi : i < Pu.length := by simpa using List.mem_range.mp hi
      obtain ⟨r, h1, h2, h3, h4⟩ := join_at jo hi
      rw [h4]
      exact ee_call (S := sJoin) (k := 2) (xs := [.hall Pu, .d (.int (i : Nat))]) OJ hr (ea_cons (ee_name 0) (ea_cons (ee_name 1) ea_nil)) ⟨Pu, i, 100, r, rfl, ok, hi, h1, by decide, h2, rfl⟩

/-! ### need_ending -/
def endOk (P : List (List Int)) : Bool := joinOk P && (wingsM P).all fun wg => wg.all (fun x => decide (0 ≤ x) && decide (x.toNat < P.length)) && decide (wg.length ≤ 8) && !wg.isEmpty &&
  match leastM P (wg.map Int.toNat) 0 500 (List.replicate wg.length 1) [] with
  | some r => PyData.eqv (.str (kindM P (wg.map Int.toNat) r)) (.str "ending")
  | none => false
def sNeedEnd : Sc := fun xs R => ∃ P, xs = [.hall P] ∧ hallOk P = true ∧ endOk P = true ∧ R = fun y => y = .d .none
abbrev stNeedEnd : Stmt := top 30
abbrev nNeedEnd : List Str := ["hall", "wing"]
theorem scNeedEnd : FnScope nNeedEnd ["hall"] (defScope stNeedEnd) := ⟨rfl, rfl, rfl, by decide +kernel, rfl, by decide +kernel, by decide +kernel⟩
theorem kind_shaped (P : List (List Int)) (ws : List Nat) (r : Option (List Int)) : SeqAt.shaped (.str (kindM P ws r)) = true := by
  unfold kindM
  split
  · decide +kernel
  · split <;> decide +kernel
theorem shaped_ending : SeqAt.shaped (.str "ending") = true := by decide +kernel
theorem nats_of {wg : List Int} (h : ∀ x ∈ wg, 0 ≤ x) : nats (wg.map Int.toNat) = wg := by
  unfold nats
  rw [List.map_map]
  conv => rhs; rw [← List.map_id wg]
  refine List.map_congr_left fun x hx => ?_
  have := h x hx
  simp only [Function.comp, id]
  omega
theorem own_needEnd (D : Df c mg "need_ending" stNeedEnd ["hall"] f fd) (B : Bl mg) (G : Gc mg) (OH : Own c P w mg base "need_hall" 1 sNeedHall) (OW : Own c P w mg base "wings_of" 3 sWings) (OK : Own c P w mg base "kind_of" 3 sKind) : Own c P w mg base "need_ending" 4 sNeedEnd := by
  refine own_mk D scNeedEnd (fun xs R h => ?_) (fun cdv A outer s H E hr xs R h => ?_)
  · obtain ⟨P, rfl, _⟩ := h
    rfl
  · obtain ⟨Pu, rfl, ok, eo, rfl⟩ := h
    have nd := scNeedEnd.nd
    have hl := hallOk_len ok
    unfold endOk at eo
    rw [Bool.and_eq_true] at eo
    obtain ⟨jo, wo⟩ := eo
    have wl : (wingsM Pu).length ≤ 100000 := by
      unfold wingsM
      rw [(sortL_perm _).length_eq]
      unfold keysT
      rw [List.length_map]
      refine Nat.le_trans (putsT_len _ _) ?_
      simp
      omega
    refine ss_cons (s1_expr (ee_call (S := sNeedHall) (k := 1) (xs := [.hall Pu]) (x := .d .none) OH (hr.mono (by omega)) (ea_cons (ee_name 0) ea_nil) ⟨Pu, rfl, rfl⟩) ?_)
    refine ss_cons (s1_if (k := false) (et_not (k := true) (et_val (EE.is (eg_callB (cg_all (bs := (wingsM Pu).map fun _ => true)) B.all (ea_cons (EE.is (EM.ee (em_lc
      (lc_ok (own := [("wing", 1)]) (fun _ => true) (fun _ : List Int => .bool true) (src_list 1 (wingsM Pu) iT (EN.ef (en_call (S := sWings) (k := 3) (xs := [.hall Pu]) (x := .d (.list (tups (wingsM Pu)))) OW hr (ea_cons (ee_name 0) ea_nil) ⟨Pu, rfl, ok, jo, rfl⟩)))
        ?ok (pg1 1 nd) (by decide) (fun z hz s H C cl fp => ets_nil) (fun wg hz _ s H C cl fp => ?elt) wl) nd)) ?lc) ea_nil) back_e) ?tt))) (fun e => by cases e) fun _ => ss_nil (ss_nil rfl))
    case ok => exact blkOk_by (N := nNeedEnd) (sc := defScope stNeedEnd) (by decide +kernel)
    case lc => rw [filt_true, List.map_map]; rfl
    case tt => simp
    case elt =>
      rw [List.all_eq_true] at wo
      have w1 := wo wg hz
      simp only [Bool.and_eq_true, List.all_eq_true, decide_eq_true_eq, Bool.not_eq_true'] at w1
      obtain ⟨⟨⟨w1, w2⟩, w3⟩, w4⟩ := w1
      cases e : leastM Pu (wg.map Int.toNat) 0 500 (List.replicate wg.length 1) [] with
      | none => rw [e] at w4; cases w4
      | some r =>
        rw [e] at w4
        have en : nats (wg.map Int.toNat) = wg := nats_of fun x hx => (w1 x hx).1
        refine EE.en (ee_cmp (og_eq hr.units (kind_shaped _ _ _) shaped_ending w4) (ee_call (S := sKind) (k := 3) (xs := [.hall Pu, .d (iT (nats (wg.map Int.toNat)))]) OK hr (ea_cons (ee_name 0) (ea_cons (EE.is (ee_name 1) (by rw [en])) ea_nil))
          ⟨Pu, wg.map Int.toNat, r, 500, rfl, ok, fun o ho => ?_, by rw [List.length_map]; exact w2, fun z => ?_, by rw [List.length_map]; exact e, rfl⟩) (ee_gstr G.ending)) rfl
        · obtain ⟨x, hx, rfl⟩ := List.mem_map.mp ho
          exact (w1 x hx).2
        · rw [List.map_eq_nil_iff.mp z] at w3
          cases w3
end
end K33

set_option maxHeartbeats 400000
/-! K33t: all_up. -/
namespace K33
open PySem PySem.Spec PyProof.Rows L2

abbrev Wy := List (List Int × List Int)
def encW (w : Wy) : List (List Int × PyData) := w.map fun p => (p.1, iT p.2)
def lookW (w : Wy) (k : List Int) : Option (List Int) := (w.find? fun p => decide (p.1 = k)).map (·.2)
def putW (w : Wy) (k v : List Int) : Wy := if (w.any fun p => decide (p.1 = k)) = true then w.map (fun p => if p.1 = k then (p.1, v) else p) else w ++ [(k, v)]
def putsW (w u : Wy) : Wy := u.foldl (fun acc p => putW acc p.1 p.2) w
theorem look_enc (w : Wy) (k : List Int) : lookT (encW w) k = (lookW w k).map iT := by
  induction w with
  | nil => rfl
  | cons p w ih =>
    unfold lookT lookW encW at *
    rw [List.map_cons, List.find?_cons, List.find?_cons]
    by_cases h : p.1 = k
    · simp [h]
    · simp only [h, decide_false]
      exact ih
theorem put_enc (w : Wy) (k v : List Int) : putT (encW w) k (iT v) = encW (putW w k v) := by
  unfold putT putW encW
  rw [List.any_map]
  have e : ((fun p : List Int × PyData => decide (p.1 = k)) ∘ fun p : List Int × List Int => (p.1, iT p.2)) = fun p => decide (p.1 = k) := rfl
  rw [e]
  split
  · rw [List.map_map, List.map_map]
    refine List.map_congr_left fun p _ => ?_
    simp only [Function.comp]
    split <;> rfl
  · rw [List.map_append]; rfl
theorem puts_enc : ∀ (u w : Wy), putsT (encW w) (encW u) = encW (putsW w u)
  | [], w => rfl
  | p :: u, w => by
    show putsT (putT (encW w) p.1 (iT p.2)) (encW u) = encW (putsW (putW w p.1 p.2) u)
    rw [put_enc, puts_enc u]
theorem keys_enc (w : Wy) : keysT (encW w) = w.map (·.1) := by unfold keysT encW; rw [List.map_map]; rfl
theorem encW_len (w : Wy) : (encW w).length = w.length := by unfold encW; rw [List.length_map]
/-- one lamp -/
def upLamp (P : List (List Int)) (found : Wy) (arrow : List Int) (later : Wy) (i : Nat) : Option Wy := match lookW found arrow with
  | none => none
  | some w => if arrow.length ≠ P.length ∨ later.length > 1000 ∨ w.length > 1000 then none else
    let more := turnedM P arrow i
    let way := (i : Int) :: w
    let old := (lookW later more).getD way
    some (if (!(lookW found more).isSome && decide (arrow.sum < more.sum)) = true then putW later more (if HT.lexLt way old = true then way else old) else later)
def upArrow (P : List (List Int)) (found : Wy) (later : Wy) (arrow : List Int) : Option Wy := (List.range P.length).foldlM (upLamp P found arrow) later
def upM (P : List (List Int)) : Nat → Wy → List (List Int) → Option Wy
  | 0, _, _ => none
  | n + 1, found, layer => if layer = [] then some found else
    match layer.foldlM (upArrow P found) [] with
    | none => none
    | some later => if found = [] ∨ found.length + later.length > 1000 then none else upM P n (putsW found later) (later.map (·.1))
def layer0 (P : List (List Int)) : List (List Int) := sortL ((List.range P.length).map (unitM P.length))
def found0 (P : List (List Int)) : Wy := putsW [] ((layer0 P).map fun a => (a, []))
theorem fold_step {α β : Type} {f : α → β → Option α} {zs : List β} {i : Nat} {z : β} {acc res : α} (hz : zs[i]? = some z) (h : (zs.drop i).foldlM f acc = some res) : ∃ acc', f acc z = some acc' ∧ (zs.drop (i + 1)).foldlM f acc' = some res := by
  obtain ⟨hl, hg⟩ := List.getElem?_eq_some_iff.mp hz
  rw [List.drop_eq_getElem_cons hl, hg, List.foldlM_cons] at h
  cases e : f acc z with
  | none => rw [e] at h; cases h
  | some acc' => rw [e] at h; exact ⟨acc', rfl, h⟩
theorem fold_end {α β : Type} {f : α → β → Option α} {zs : List β} {acc res : α} (h : (zs.drop zs.length).foldlM f acc = some res) : acc = res := by
  rw [List.drop_length] at h
  exact Option.some.inj h
section
variable {c : Ct} {P : Program} {w : World} {mg : Str → Option Value} {base : Heap} {f : Addr} {fd : FuncData} {nm : Str} {j k : Nat} {S : Sc}
def sUp : Sc := fun xs R => ∃ P n r, xs = [.hall P] ∧ hallOk P = true ∧ upM P n (found0 P) (layer0 P) = some r ∧ R = fun y => y = .dT (encW r)
abbrev stUp : Stmt := top 33
abbrev nUp : List Str := ["hall", "lamp", "found", "layer", "arrow", "later", "more", "way"]
theorem scUp : FnScope nUp ["hall"] (defScope stUp) := ⟨rfl, rfl, rfl, by decide +kernel, rfl, by decide +kernel, by decide +kernel⟩
theorem unitM_len (n i : Nat) : (unitM n i).length = n := by unfold unitM; rw [List.length_map, List.length_range]
theorem eqv_tups : ∀ a b : List (List Int), PyData.eqv (.list (tups a)) (.list (tups b)) = decide (a = b) := by
  intro a b
  simp only [PyData.eqv]
  induction a generalizing b with
  | nil => cases b <;> simp [tups, PyData.eqvAll]
  | cons x a ih =>
    cases b with
    | nil => simp [tups, PyData.eqvAll]
    | cons y b =>
      show PyData.eqvAll (iT x :: tups a) (iT y :: tups b) = decide (x :: a = y :: b)
      rw [PyData.eqvAll, ih b, eqv_iT]
      by_cases h1 : x = y <;> by_cases h2 : a = b <;> simp [h1, h2]
theorem lk_t {kvs : List (List Int × PyData)} {k : List Int} {d : PyData} (h : lookT kvs k = some d) : Lk (.dT kvs) (.d (iT k)) (some d) := h ▸ .t kvs k
theorem own_up (D : Df c mg "all_up" stUp ["hall"] f fd) (B : Bl mg) (L : Ln c P w mg base 1) (OU : Own c P w mg base "unit_of" 3 sUnit) (OT : Own c P w mg base "turned" 1 sTurned) : Own c P w mg base "all_up" 4 sUp := by
  refine own_mk D scUp (fun xs R h => ?_) (fun cdv A outer s H E hr xs R h => ?_)
  · obtain ⟨P, n, r, rfl, _⟩ := h
    rfl
  · obtain ⟨Pu, n, r, rfl, ok, hu, rfl⟩ := h
    have nd := scUp.nd
    have hl := hallOk_len ok
    have hr1 := hr.mono (show 1 ≤ 3 by omega)
    have hr2 := hr.mono (show 2 ≤ 3 by omega)
    have l0n : ∀ l ∈ (List.range Pu.length).map (unitM Pu.length), l ≠ [] := fun l hl2 z => by
      obtain ⟨i, _, rfl⟩ := List.mem_map.mp hl2
      have := unitM_len Pu.length i
      rw [z] at this
      simp at this
      omega
    refine ss_cons (s1_par (x := .dT []) (y := .d (.list (tups (layer0 Pu)))) 2 3 true false (ex_m em_dnewT) (ex_f (EN.ef (EM.en (EM.is (eg_callB (cg_sortD (bs := (List.range Pu.length).map (unitM Pu.length)) (enc := iT) (alike_tups _) (sortable_tups l0n) (fun b _ => by rw [depth_iT]; omega) (fun b _ => imm_iT b) (hu65 hr |> fun h => by exact Nat.lt_of_succ_lt h)) B.sorted
      (ea_cons (EM.ee (EM.is (em_lc (lc_ok (own := [("lamp", 1)]) (fun _ => true) (fun i : Nat => iT (unitM Pu.length i)) (src_rng1 1 (Pu.length : Nat) B.range (eg_callB (cg_lenH (P := Pu) L hr2 (by omega)) B.len (ea_cons (ee_name 0) ea_nil) back_e) (by omega))
        ?ok (pg1 1 nd) (by decide) (fun z hz s H C cl fp => ets_nil) (fun i hz _ s H C cl fp => ?elt) (by rw [List.length_range]; omega)) nd) ?lc)) ea_nil) back_m) ?l0)))) ?_ nd (by show 2 < 8; decide) (by decide))
    case ok => exact blkOk_by (N := nUp) (sc := defScope stUp) (by decide +kernel)
    case elt => exact en_call (S := sUnit) (k := 3) (xs := [.hall Pu, .d (.int (i : Nat))]) OU hr (ea_cons (ee_name 0) (ea_cons (ee_name 1) ea_nil)) ⟨Pu, i, rfl, ok, rfl⟩
    case lc => rw [filt_true, Int.toNat_natCast, List.map_map]; rfl
    case l0 => rw [msort_eq]; rfl
    refine ss_cons (s1_for (src_list 4 (layer0 Pu) iT (ef_name 3)) (pg_name nd rfl (Or.inl rfl) (Or.inr rfl))
      (fun i env' => ∃ a, env' = [.fr (.hall Pu), .no, .ow (.dT (encW (putsW [] (((layer0 Pu).take i).map fun a => (a, []))))), .fr (.d (.list (tups (layer0 Pu)))), a, .no, .no, .no]) ⟨_, rfl⟩ ?_ ?_)
    · rintro i z env' hz ⟨a, rfl⟩
      have hi : i < (layer0 Pu).length := (List.getElem?_eq_some_iff.mp hz).1
      have l0l : (layer0 Pu).length = Pu.length := by unfold layer0; rw [(sortL_perm _).length_eq, List.length_map, List.length_range]
      refine ss_cons (s1_dput (d := iT []) 2 rfl (.t _ z (iT []) ?sz) (hu1 hr) (EE.en (ee_tup (ds := []) ea_nil) rfl) (ee_name 4) (ss_nil ⟨.fr (.d (iT z)), ?nx⟩))
      case sz =>
        rw [encW_len]
        have h1 := putsT_len (encW (((layer0 Pu).take i).map fun a => (a, []))) (encW [])
        rw [puts_enc, encW_len, encW_len, encW_len, List.length_map, List.length_take] at h1
        rw [show ([] : Wy).length = 0 from rfl] at h1
        omega
      case nx =>
        rw [put_enc]
        have tk : (layer0 Pu).take (i + 1) = (layer0 Pu).take i ++ [z] := by rw [List.take_add_one, hz]; rfl
        have e : putsW [] (((layer0 Pu).take (i + 1)).map fun a => (a, [])) = putW (putsW [] (((layer0 Pu).take i).map fun a => (a, []))) z [] := by
          rw [tk, List.map_append]
          unfold putsW
          rw [List.foldl_append]
          rfl
        rw [e]
        rfl
    rintro env' ⟨a, rfl⟩
    rw [List.take_length]
    refine ss_cons (s1_while (fun m env' => ∃ found layer x1 x4 x5 x6 x7, env' = [.fr (.hall Pu), x1, .ow (.dT (encW found)), .fr (.d (.list (tups layer))), x4, x5, x6, x7] ∧ upM Pu m found layer = some r) n ⟨_, _, _, _, _, _, _, rfl, hu⟩ ?_)
    rintro m env' ⟨found, layer, x1, x4, x5, x6, x7, rfl, hm⟩
    refine ⟨!decide (layer = []), et_cmp (og_ne hr.units (shaped_tups _) (shaped_tups []) (by rw [eqv_tups, Bool.not_not])) (ee_name 3) (EM.ee (em_lst ean_nil)), fun e => ?_, fun e => ?_⟩
    · have ne : ¬ layer = [] := by simpa using e
      cases m with
      | zero => cases hm
      | succ m =>
        unfold upM at hm
        rw [if_neg ne] at hm
        cases hf : layer.foldlM (upArrow Pu found) [] with
        | none => rw [hf] at hm; cases hm
        | some later =>
          rw [hf] at hm
          simp only at hm
          split at hm
          · cases hm
          rename_i hb
          have hb1 : found ≠ [] := fun z => hb (.inl z)
          have hb2 : found.length + later.length ≤ 1000 := Nat.le_of_not_lt fun z => hb (.inr z)
          refine ss_cons (s1_own (x := .dT (encW [])) 5 em_dnewT ?_ nd)
          refine ss_cons (s1_for (src_list 4 layer iT (ef_name 3)) (pg_name nd rfl (Or.inl rfl) (Or.inr rfl))
            (fun i env' => ∃ acc x1 x4 x6 x7, env' = [.fr (.hall Pu), x1, .ow (.dT (encW found)), .fr (.d (.list (tups layer))), x4, .ow (.dT (encW acc)), x6, x7] ∧ (layer.drop i).foldlM (upArrow Pu found) acc = some later) ⟨[], _, _, _, _, rfl, hf⟩ ?_ ?_)
          · rintro i arrow env' hz ⟨acc, x1, x4, x6, x7, rfl, hfo⟩
            obtain ⟨acc', ha, hrest⟩ := fold_step hz hfo
            refine ss_cons (s1_for (src_rng1 1 (Pu.length : Nat) B.range (eg_callB (cg_lenH (P := Pu) L hr2 (by omega)) B.len (ea_cons (ee_name 0) ea_nil) back_e) (by omega)) (pg_name nd rfl (Or.inl rfl) (Or.inr rfl))
              (fun i env' => ∃ acc x1 x6 x7, env' = [.fr (.hall Pu), x1, .ow (.dT (encW found)), .fr (.d (.list (tups layer))), .fr (.d (iT arrow)), .ow (.dT (encW acc)), x6, x7] ∧ ((List.range ((Pu.length : Nat) : Int).toNat).drop i).foldlM (upLamp Pu found arrow) acc = some acc') ⟨acc, _, _, _, rfl, ?i0⟩ ?_ ?_)
            case i0 => rw [Int.toNat_natCast]; exact ha
            · rintro li l env' hzl ⟨acc, x1, x6, x7, rfl, hfo⟩
              obtain ⟨acc2, hl2, hrest2⟩ := fold_step hzl hfo
              have hlt : l < Pu.length := by
                have := List.mem_of_getElem? hzl
                rw [Int.toNat_natCast] at this
                exact List.mem_range.mp this
              unfold upLamp at hl2
              cases hw : lookW found arrow with
              | none => rw [hw] at hl2; cases hl2
              | some wy =>
                rw [hw] at hl2
                simp only at hl2
                split at hl2
                · cases hl2
                rename_i hbad
                have al : arrow.length = Pu.length := Classical.byContradiction fun z => hbad (.inl z)
                have accl : acc.length ≤ 1000 := Nat.le_of_not_lt fun z => hbad (.inr (.inl z))
                have wyl : wy.length ≤ 1000 := Nat.le_of_not_lt fun z => hbad (.inr (.inr z))
                have hl2 := Option.some.inj hl2
                refine ss_cons (s1_asg (x := .d (iT (turnedM Pu arrow l))) 6 (EN.ef (en_call (S := sTurned) (k := 1) (xs := [.hall Pu, .d (iT arrow), .d (.int (l : Nat))]) OT hr1 (ea_cons (ee_name 0) (ea_cons (ee_name 4) (ea_cons (ee_name 1) ea_nil))) ⟨Pu, arrow, l, rfl, ok, hlt, al, rfl⟩)) ?_ nd)
                refine ss_cons (s1_asg (x := .d (iT ((l : Int) :: wy))) 7 (EN.ef (EE.en (ee_tup (ds := .int (l : Nat) :: (wy.map .int ++ [])) (ea_cons (ee_name 1) (ea_star (t := true) (ds := wy.map .int) (fs := []) (ee_dget (d := iT wy) (lk_t (kvs := encW found) (k := arrow) (by rw [look_enc, hw]; rfl)) (hu1 hr) (ee_name 2) (ee_name 4)) ea_nil)) (by simp; omega) |> fun h => EE.is h (by simp [iT])) (imm_iT _))) ?_ nd)
                generalize hold : (lookW acc (turnedM Pu arrow l)).getD ((l : Int) :: wy) = old at hl2
                refine ss_cons (s1_if (ET.is (et_and2 (et_dnin (.t (encW found) (turnedM Pu arrow l)) (hu1 hr) (ee_name 6) (ee_name 2)) fun _ => et_cmp og_gt (eg_callB (cg_sumT (ns := turnedM Pu arrow l)) B.sum (ea_cons (ee_name 6) ea_nil) back_e) (eg_callB (cg_sumT (ns := arrow)) B.sum (ea_cons (ee_name 4) ea_nil) back_e))
                  (show _ = (!(lookW found (turnedM Pu arrow l)).isSome && decide (arrow.sum < (turnedM Pu arrow l).sum)) by rw [look_enc, Option.isSome_map])) (fun e => ?_) fun e => ss_nil (ss_nil ?_))
                · rw [if_pos e] at hl2
                  refine ss_cons (s1_dput (d := iT (if HT.lexLt ((l : Int) :: wy) old = true then (l : Int) :: wy else old)) 5 rfl (.t (encW acc) (turnedM Pu arrow l) _ (by rw [encW_len]; omega)) (hu1 hr)
                    (EE.en (eg_callB (cg_minT (ns := old) (ms := (l : Int) :: wy) (hu1 hr)) B.min (ea_cons (EE.is (ee_dgetD (d0 := iT ((l : Int) :: wy)) (.t (encW acc) (turnedM Pu arrow l)) (hu1 hr) (ee_name 5) (ee_name 6) (ee_name 7) ⟨rfl, rfl, rfl, rfl⟩) ?g) (ea_cons (ee_name 7) ea_nil)) back_e) (imm_iT _)) (ee_name 6) (ss_nil (ss_nil ?nx)))
                  case g =>
                    rw [look_enc, ← hold]
                    cases lookW acc (turnedM Pu arrow l) <;> rfl
                  case nx =>
                    rw [put_enc, hl2]
                    exact ⟨acc2, _, _, _, rfl, hrest2⟩
                · rw [if_neg (by rw [e]; exact Bool.false_ne_true)] at hl2
                  subst hl2
                  exact ⟨acc, _, _, _, rfl, hrest2⟩
            · rintro env' ⟨acc, x1, x6, x7, rfl, hfo⟩
              have e := fold_end hfo
              subst e
              exact ss_nil ⟨acc, _, _, _, _, rfl, hrest⟩
          · rintro env' ⟨acc, x1, x4, x6, x7, rfl, hfo⟩
            have e := fold_end hfo
            subst e
            refine ss_freeze 5 rfl (ss_cons (s1_upd 2 rfl (ef_name 5) ?hne ?hz ?_ (hu2 hr)))
            case hne => intro z; exact hb1 (List.eq_nil_of_length_eq_zero (by rw [← encW_len, z]; rfl))
            case hz => rw [encW_len, encW_len]; omega
            refine ss_cons (s1_asg (x := .d (.list (tups (acc.map (·.1))))) 3 (EN.ef (EM.en (EM.is (eg_callT (cg_listDT) B.list (ea_cons (ee_name 5) ea_nil) back_m) (by rw [keys_enc])))) (ss_nil ?_) nd)
            exact ⟨m, Nat.lt_succ_self m, _, _, _, _, _, _, _, by rw [puts_enc]; rfl, hm⟩
    · have ne : layer = [] := by simpa using e
      have hr2 : r = found := by
        cases m with
        | zero => cases hm
        | succ m =>
          unfold upM at hm
          rw [if_pos ne] at hm
          exact (Option.some.inj hm).symm
      subst hr2
      refine ss_cons (s1_retO 2 rfl rfl ?_)
      intro p hp
      obtain ⟨q, _, rfl⟩ := List.mem_map.mp (show p ∈ (r.map fun p => (p.1, iT p.2)) from hp)
      exact imm_iT _
end
end K33

set_option maxHeartbeats 400000
/-! K33u: tuples stored part by part; need_lot. -/
namespace K33
open PySem PySem.Spec PyProof.Rows L2
section
variable {c : Ct} {X : Cx} {Rt : SV → Prop} {st : Stmt} {rest : List Stmt} {env : Ev'} {N : NE} {e a b d : Expr} {x y z : SV} {pos pos' : Pos} {M B C : Ev' → Prop}
/-- one more part -/
theorem RSF.part {H0 F H : Hp} {σ σ1 : L2.St} {env1 : Ev'} (i : Nat) (o : Bool) (r : RSF c F H σ env) {F1 H1 : Hp} (s1 : Same H H1) (f1 : Same F F1) (r1 : RSF c F1 H1 σ1 env1) (h : EX c X env e o x) {Q : VK}
    (q : ∀ v H2 F2, Same H1 H2 → Same F1 F2 → RSF c F2 H2 (σ1.set i (some v)) (env1.set i (asSl o x)) → Q v H2) : WE X e σ H1 Q := by
  cases o with
  | false =>
    have h : EF c X env e x := h
    exact h σ H1 F1 (r.fz.step s1 f1 r1.sub) _ fun w H2 F2 s2 f2 f3 f4 rv => q w H2 F2 s2 f2 ((r1.step s2 f2 f3 f4).setFr i rv)
  | true =>
    have h : EM c X env e x := h
    refine h σ H1 (r.rd.mono s1) _ fun w H2 s2 rm => ?_
    obtain ⟨F2, f2, r2⟩ := r1.own i s2 rm
    exact q w H2 F2 s2 f2 r2
theorem RSF.refl1 {F H : Hp} {σ : L2.St} (r : RSF c F H σ env) : Same H H ∧ Same F F := ⟨Same.refl H, Same.refl F⟩
theorem s1_tup2 (i j : Nat) (o1 o2 : Bool) {n1 n2 : Str} {px py pt : Pos} {kt k2 : _} {pt2 : Pos} (h1 : EX c X env a o1 x) (h2 : EX c X env b o2 y) (kk : M ((env.set i (asSl o1 x)).set j (asSl o2 y)))
    (hpg : PG X (.Tuple [.Name n1 px, .Name n2 py] kt pt) (g2 X.K i j))
    (ha : starEach [a, b] X.env = (false, eval a X.env) :: starEach [b] X.env := by rfl) (hb : starEach [b] X.env = (false, eval b X.env) :: starEach [] X.env := by rfl)
    (hs : swapsWithSole [.Tuple [.Name n1 px, .Name n2 py] kt pt] (.Tuple [a, b] k2 pt2) pos.line X.env = pure false := by rfl) (hw : swappedStores [.Tuple [.Name n1 px, .Name n2 py] kt pt] (.Tuple [a, b] k2 pt2) X.env = pure none := by rfl)
    (h1' : (assignEach [.Tuple [.Name n1 px, .Name n2 py] kt pt] X.env).map (·.2) = [assign (.Tuple [.Name n1 px, .Name n2 py] kt pt) X.env] := by rfl) :
    S1 c X Rt (.Assign [.Tuple [.Name n1 px, .Name n2 py] kt pt] (.Tuple [a, b] k2 pt2) pos) env ⟨M, B, C⟩ := fun He H0 Q s kq σ H r => by
  obtain ⟨F, f0, r⟩ := r
  refine WS.of (ps_asg (pe_tup (pa_cons pe_w (pa_cons pe_w pa_nil hb) ha)) hpg hs hw h1') ?_
  refine RSF.part (H0 := H0) i o1 r (Same.refl H) (Same.refl F) r h1 fun v H1 F1 s1 f1 r1 => RSF.part (H0 := H0) j o2 r s1 f1 r1 h2 fun w H2 F2 s2 f2 r2 => ?_
  refine ⟨by show 2 ≤ sizeLine; decide, fun p hp => ?_⟩
  have sp : Same H2 (upd H2 p (.tup [v, w])) := same_upd hp
  exact g2_of (SqT.of upd_same) ⟨_, ⟨F2, (f0.trans f1).trans f2, r2.step sp (Same.refl F2) (r2.sub.trans sp) NoOwn.refl⟩, kk⟩
abbrev g3 (K : PySem.W.Frag) (i j l : Nat) : TG := gTup K 3 (gCons (gName i) (gCons (gName j) (gCons (gName l) gNil)))
theorem s1_tup3 (i j l : Nat) (o1 o2 o3 : Bool) {n1 n2 n3 : Str} {px py pz pt : Pos} {kt k2 : _} {pt2 : Pos} (h1 : EX c X env a o1 x) (h2 : EX c X env b o2 y) (h3 : EX c X env d o3 z) (kk : M (((env.set i (asSl o1 x)).set j (asSl o2 y)).set l (asSl o3 z)))
    (hpg : PG X (.Tuple [.Name n1 px, .Name n2 py, .Name n3 pz] kt pt) (g3 X.K i j l))
    (ha : starEach [a, b, d] X.env = (false, eval a X.env) :: starEach [b, d] X.env := by rfl) (hb : starEach [b, d] X.env = (false, eval b X.env) :: starEach [d] X.env := by rfl) (hd : starEach [d] X.env = (false, eval d X.env) :: starEach [] X.env := by rfl)
    (hs : swapsWithSole [.Tuple [.Name n1 px, .Name n2 py, .Name n3 pz] kt pt] (.Tuple [a, b, d] k2 pt2) pos.line X.env = pure false := by rfl) (hw : swappedStores [.Tuple [.Name n1 px, .Name n2 py, .Name n3 pz] kt pt] (.Tuple [a, b, d] k2 pt2) X.env = pure none := by rfl)
    (h1' : (assignEach [.Tuple [.Name n1 px, .Name n2 py, .Name n3 pz] kt pt] X.env).map (·.2) = [assign (.Tuple [.Name n1 px, .Name n2 py, .Name n3 pz] kt pt) X.env] := by rfl) :
    S1 c X Rt (.Assign [.Tuple [.Name n1 px, .Name n2 py, .Name n3 pz] kt pt] (.Tuple [a, b, d] k2 pt2) pos) env ⟨M, B, C⟩ := fun He H0 Q s kq σ H r => by
  obtain ⟨F, f0, r⟩ := r
  refine WS.of (ps_asg (pe_tup (pa_cons pe_w (pa_cons pe_w (pa_cons pe_w pa_nil hd) hb) ha)) hpg hs hw h1') ?_
  refine RSF.part (H0 := H0) i o1 r (Same.refl H) (Same.refl F) r h1 fun v H1 F1 s1 f1 r1 => RSF.part (H0 := H0) j o2 r s1 f1 r1 h2 fun w H2 F2 s2 f2 r2 => RSF.part (H0 := H0) l o3 r (s1.trans s2) (f1.trans f2) r2 h3 fun u H3 F3 s3 f3 r3 => ?_
  refine ⟨by show 3 ≤ sizeLine; decide, fun p hp => ?_⟩
  have sp : Same H3 (upd H3 p (.tup [v, w, u])) := same_upd hp
  exact ⟨p, [v, w, u], rfl, SqT.of upd_same, rfl, v, [w, u], rfl, w, [u], rfl, u, [], rfl, rfl, _, ⟨F3, ((f0.trans f1).trans f2).trans f3, r3.step sp (Same.refl F3) (r3.sub.trans sp) NoOwn.refl⟩, kk⟩
/-- a, b, c = e: a tuple of three plain data -/
theorem s1_unpack3 (i j l : Nat) {n1 n2 n3 : Str} {px py pz pt : Pos} {kt : _} {d1 d2 d3 : PyData} (h : EF c X env e (.d (.tuple [d1, d2, d3]))) (kk : M (((env.set i (.fr (.d d1))).set j (.fr (.d d2))).set l (.fr (.d d3))))
    (hpg : PG X (.Tuple [.Name n1 px, .Name n2 py, .Name n3 pz] kt pt) (g3 X.K i j l)) (hK : X.K = c.K := by rfl)
    (hs : swapsWithSole [.Tuple [.Name n1 px, .Name n2 py, .Name n3 pz] kt pt] e pos.line X.env = pure false := by rfl) (hw : swappedStores [.Tuple [.Name n1 px, .Name n2 py, .Name n3 pz] kt pt] e X.env = pure none := by rfl)
    (h1 : (assignEach [.Tuple [.Name n1 px, .Name n2 py, .Name n3 pz] kt pt] X.env).map (·.2) = [assign (.Tuple [.Name n1 px, .Name n2 py, .Name n3 pz] kt pt) X.env] := by rfl) :
    S1 c X Rt (.Assign [.Tuple [.Name n1 px, .Name n2 py, .Name n3 pz] kt pt] e pos) env ⟨M, B, C⟩ := fun He H0 Q s kq σ H r => by
  obtain ⟨F, f0, r⟩ := r
  refine WS.of (ps_asg pe_w hpg hs hw h1) (h σ H F r.fz _ fun v H1 F1 s1 f1 f3 f4 rv => ?_)
  cases (show Dq c.K F1 v (.tuple [d1, d2, d3]) from rv) with
  | @tup p xs _ ha hd =>
    cases hd with
    | cons q1 t => cases t with
      | cons q2 t => cases t with
        | cons q3 t =>
          cases t
          exact ⟨p, _, rfl, SqT.of (f3 _ _ ha), rfl, _, _, rfl, _, _, rfl, _, [], rfl, rfl, _, ⟨F1, f0.trans f1, (((r.step s1 f1 f3 f4).setFr (x := .d _) i q1).setFr (x := .d _) j q2).setFr (x := .d _) l q3⟩, kk⟩
end

section
variable {c : Ct} {X : Cx} {env : Ev'} {e a b d : Expr} {pos : Pos}
/-- three tests, none holds -/
theorem ET_or3 (h1 : ET c X env a false) (h2 : ET c X env b false) (h3 : ET c X env d false) : EW c X env (.BoolOp .Or [a, b, d] pos) false := ew_or h1 fun _ => ew_or h2 fun _ => ew_or1 h3
end
/-! ### need_lot -/
structure UpOk (P : List (List Int)) (r : Wy) : Prop where
  ok : hallOk P = true
  en : endOk P = true
  up : ∃ n, upM P n (found0 P) (layer0 P) = some r
  len : ∀ p ∈ r, p.1.length = P.length
  nd : (r.map (·.1)).Nodup
  sz : r.length ≤ 1000
def upsM (r : Wy) : List (List Int) := sortL (r.map (·.1))
structure LotOk (r : Wy) (lot : List (List Int)) : Prop where
  mem : ∀ a ∈ lot, a ∈ r.map (·.1)
  nd : lot.Nodup
theorem lookW_cons (p : List Int × List Int) (w : Wy) (k : List Int) : lookW (p :: w) k = if p.1 = k then some p.2 else lookW w k := by
  unfold lookW
  rw [List.find?_cons]
  by_cases h : p.1 = k
  · simp [h]
  · simp [h]
theorem look_mem (w : Wy) (k : List Int) : (lookW w k).isSome = decide (k ∈ w.map (·.1)) := by
  induction w with
  | nil => simp [lookW]
  | cons p w ih =>
    rw [lookW_cons]
    by_cases h : p.1 = k
    · rw [if_pos h]; simp [h]
    · rw [if_neg h, ih]
      have h' : ¬ k = p.1 := fun z => h z.symm
      simp [h']
section
variable {c : Ct} {P : Program} {w : World} {mg : Str → Option Value} {base : Heap} {f : Addr} {fd : FuncData} {nm : Str} {j k : Nat} {S : Sc}
def sNeedLot : Sc := fun xs R => ∃ P r lot, xs = [.hall P, .d (.list (tups lot))] ∧ UpOk P r ∧ LotOk r lot ∧ R = fun y => y = .d (.list (tups (upsM r)))
abbrev stNeedLot : Stmt := top 37
abbrev nNeedLot : List Str := ["hall", "lot", "up", "index", "arrow"]
theorem scNeedLot : FnScope nNeedLot ["hall", "lot"] (defScope stNeedLot) := ⟨rfl, rfl, rfl, by decide +kernel, rfl, by decide +kernel, by decide +kernel⟩
theorem own_needLot (D : Df c mg "need_lot" stNeedLot ["hall", "lot"] f fd) (B : Bl mg) (OE : Own c P w mg base "need_ending" 4 sNeedEnd) (OU : Own c P w mg base "all_up" 4 sUp) (ON : Own c P w mg base "are_numbers" 3 sAreN) : Own c P w mg base "need_lot" 5 sNeedLot := by
  refine own_mk D scNeedLot (fun xs R h => ?_) (fun cdv A outer s H E hr xs R h => ?_)
  · obtain ⟨P, r, lot, rfl, _⟩ := h
    rfl
  · obtain ⟨Pu, r, lot, rfl, U, Lo, rfl⟩ := h
    have nd := scNeedLot.nd
    have hl := hallOk_len U.ok
    obtain ⟨n, hup⟩ := U.up
    have hr3 := hr.mono (show 3 ≤ 4 by omega)
    refine ss_cons (s1_expr (ee_call (S := sNeedEnd) (k := 4) (xs := [.hall Pu]) (x := .d .none) OE hr (ea_cons (ee_name 0) ea_nil) ⟨Pu, rfl, U.ok, U.en, rfl⟩) ?_)
    refine ss_cons (s1_if (k := false) (et_not (k := true) (et_val (eg_callB (cg_isi2 (d := .list (tups lot)) (n := "list") (m := "tuple") (k := true) (l := false) rfl rfl (.inl rfl)) B.isinstance (ea_cons (ee_name 1) (ea_cons (ee_tys2 (ee_ty (n := "list") B.list) (ee_ty (n := "tuple") B.tuple)) ea_nil)) back_e))) (fun e => by cases e) fun _ => ss_nil ?_)
    refine ss_cons (s1_asg (x := .dT (encW r)) 2 (EN.ef (en_call (S := sUp) (k := 4) (xs := [.hall Pu]) OU hr (ea_cons (ee_name 0) ea_nil) ⟨Pu, n, r, rfl, U.ok, hup, rfl⟩)) ?_ nd)
    refine ss_cons (s1_for (src_enum 3 4 false lot iT B.enumerate (ef_name 1)) (pg_tup rfl (pgs_cons (pg_name nd rfl (Or.inl rfl) (Or.inr rfl)) (pgs_cons (pg_name nd rfl (Or.inl rfl) (Or.inr rfl)) pgs_nil)))
      (fun i env' => ∃ a b, env' = [.fr (.hall Pu), .fr (.d (.list (tups lot))), .fr (.dT (encW r)), a, b]) ⟨_, _, rfl⟩ ?_ ?_)
    · rintro i z env' hz ⟨a, b, rfl⟩
      obtain ⟨z1, z2⟩ := zip_get hz
      obtain ⟨e0, _⟩ := range_get z1
      have hm := List.mem_of_getElem? z2
      have hk := Lo.mem _ hm
      obtain ⟨p, hp, hpe⟩ := List.mem_map.mp hk
      have al : z.2.length = Pu.length := by rw [← hpe]; exact U.len p hp
      have dup : z.2 ∉ lot.take z.1 := fun hd => by
        rw [e0] at hd
        obtain ⟨j, hj, hje⟩ := List.getElem_of_mem hd
        rw [List.length_take] at hj
        rw [List.getElem_take] at hje
        have z3 : lot[j]? = some z.2 := List.getElem?_eq_some_iff.mpr ⟨by omega, hje⟩
        have := (List.getElem?_inj (List.getElem?_eq_some_iff.mp z3).1 Lo.nd).mp (z3.trans z2.symm)
        omega
      refine ss_cons (s1_if (k := false) (ew_pt (ET_or3 (et_not (k := true) (et_val (EE.is (ee_call (S := sAreN) (k := 3) (xs := [.hall Pu, .d (iT z.2)]) ON hr3 (ea_cons (ee_name 0) (ea_cons (ee_name 4) ea_nil)) ⟨Pu, z.2, rfl, U.ok, rfl⟩) ?an)))
        (ET.is (et_dnin (.t (encW r) z.2) (hu1 hr) (ee_name 4) (ee_name 2)) ?nin)
        (et_cmp (og_in (k := false) (hu65 hr) (shaped_iT _) (shaped_tups (lot.take z.1)) (by rw [any_tups]; exact decide_eq_false dup)) (ee_name 4) (EE.is (EM.ee (em_slL (ee_name 1) eo_none (eo_some (ee_name 3)) ?imm)) ?sl)))) (fun e => by cases e) fun _ => ss_nil (ss_nil ⟨_, _, rfl⟩))
      case an => rw [decide_eq_true al]
      case nin => rw [look_enc, Option.isSome_map, look_mem, decide_eq_true hk]; rfl
      case imm => rw [cut_take]; exact immAll_take _ (imm_tups lot)
      case sl => rw [cut_take]; unfold tups; rw [List.map_take]
    · rintro env' ⟨a, b, rfl⟩
      refine ss_cons (s1_ret (EM.en (EM.is (eg_callB (cg_sortDT (kvs := encW r) (alike_tups _) (sortable_tups ?ne) (hu65 hr |> fun h => by exact Nat.lt_of_succ_lt h)) B.sorted (ea_cons (ee_name 2) ea_nil) back_m) ?fin)) rfl)
      case fin => rw [msort_eq, keys_enc]; rfl
      case ne =>
        rw [keys_enc]
        intro l hl2 z
        obtain ⟨p, hp, rfl⟩ := List.mem_map.mp hl2
        have := U.len p hp
        rw [z] at this
        simp at this
        omega
end
end K33

set_option maxHeartbeats 400000
/-! K33v: room_of. -/
namespace K33
open PySem PySem.Spec PyProof.Rows L2
def firstLamp (P : List (List Int)) (left : List (List Int)) : List Nat := (List.range P.length).filter fun i => decide (unitM P.length i ∈ left)
def roomM (P : List (List Int)) : Nat → List (List Int) → List Nat → Option (Option (List Int))
  | 0, _, _ => none
  | n + 1, left, word => if left = [] then some (some (word.reverse.foldl (changedM P) (List.replicate P.length 1))) else
    match firstLamp P left with
    | [] => some none
    | i :: _ => roomM P n ((left.filter fun a => !decide (a = unitM P.length i)).map fun a => turnedM P a i) (word ++ [i])
theorem turnedM_len {P : List (List Int)} {a : List Int} {i : Nat} (h : i < a.length) : (turnedM P a i).length = a.length := by
  unfold turnedM
  rw [List.length_append, List.length_append, List.length_take, List.length_drop, List.length_singleton]
  omega
theorem changedM_len {P : List (List Int)} {a : List Int} {i : Nat} (h : (rowAt P i).length = a.length) : (changedM P a i).length = a.length := by
  unfold changedM
  rw [List.length_set, List.length_map, List.length_zip]
  omega
section
variable {c : Ct} {P : Program} {w : World} {mg : Str → Option Value} {base : Heap} {f : Addr} {fd : FuncData} {nm : Str} {j k : Nat} {S : Sc}
def sRoom : Sc := fun xs R => ∃ P r lot n res, xs = [.hall P, .d (.list (tups lot))] ∧ UpOk P r ∧ LotOk r lot ∧ roomM P n lot [] = some res ∧ n ≤ 1000 ∧ R = fun y => y = .d (optT res)
abbrev stRoom : Stmt := top 38
abbrev nRoom : List Str := ["hall", "lot", "left", "word", "now", "lamp", "some", "arrow"]
theorem scRoom : FnScope nRoom ["hall", "lot"] (defScope stRoom) := ⟨rfl, rfl, rfl, by decide +kernel, rfl, by decide +kernel, by decide +kernel⟩
theorem LotOk.le {r : Wy} {lot : List (List Int)} (L : LotOk r lot) : lot.length ≤ r.length := by
  have h := L.nd.length_le_of_subset (l₂ := r.map (·.1)) fun a ha => L.mem a ha
  rw [List.length_map] at h
  exact h
theorem own_room (D : Df c mg "room_of" stRoom ["hall", "lot"] f fd) (B : Bl mg) (L : Ln c P w mg base 1) (OL : Own c P w mg base "need_lot" 5 sNeedLot) (OU : Own c P w mg base "unit_of" 3 sUnit) (OT : Own c P w mg base "turned" 1 sTurned)
    (OF : Own c P w mg base "first_of" 3 sFirst) (OC : Own c P w mg base "changed" 1 sChanged) : Own c P w mg base "room_of" 6 sRoom := by
  refine own_mk D scRoom (fun xs R h => ?_) (fun cdv A outer s H E hr xs R h => ?_)
  · obtain ⟨P, r, lot, n, res, rfl, _⟩ := h
    rfl
  · obtain ⟨Pu, r, lot, n, res, rfl, U, Lo, hro, hn, rfl⟩ := h
    have nd := scRoom.nd
    have hl := hallOk_len U.ok
    have hr1 := hr.mono (show 1 ≤ 5 by omega)
    have hr2 := hr.mono (show 2 ≤ 5 by omega)
    have hr3 := hr.mono (show 3 ≤ 5 by omega)
    have ll : lot.length ≤ 1000 := Nat.le_trans Lo.le U.sz
    have la : ∀ a ∈ lot, a.length = Pu.length := fun a ha => by
      obtain ⟨p, hp, rfl⟩ := List.mem_map.mp (Lo.mem a ha)
      exact U.len p hp
    refine ss_cons (s1_expr (ee_call (S := sNeedLot) (k := 5) (xs := [.hall Pu, .d (.list (tups lot))]) (x := .d (.list (tups (upsM r)))) OL hr (ea_cons (ee_name 0) (ea_cons (ee_name 1) ea_nil)) ⟨Pu, r, lot, rfl, U, Lo, rfl⟩ ) ?_)
    refine ss_cons (s1_tup3 (x := .d (.list (tups lot))) (y := .d (.list (([] : List Nat).map fun i : Nat => .int (i : Int)))) (z := .d (iT (List.replicate Pu.length 1))) 2 3 4 true true false (ex_m (eg_callT (cg_list (t := false) (ds := tups lot) (imm_tups lot)) B.list (ea_cons (ee_name 1) ea_nil) back_m)) (ex_m (em_lst ean_nil))
      (ex_f (EN.ef (en_call (S := sFirst) (k := 3) (xs := [.hall Pu]) OF hr3 (ea_cons (ee_name 0) ea_nil) ⟨Pu, rfl, U.ok, rfl⟩))) ?_ (pg_tup rfl (pgs_cons (pg_name nd rfl (Or.inr rfl)) (pgs_cons (pg_name nd rfl (Or.inl rfl)) (pgs_cons (pg_name nd rfl (Or.inl rfl)) pgs_nil)))))
    refine ss_cons (s1_while (fun m env' => ∃ (left : List (List Int)) (word : List Nat) (x5 x6 x7 : Sl), env' = [.fr (.hall Pu), .fr (.d (.list (tups lot))), .ow (.d (.list (tups left))), .ow (.d (.list (word.map fun i : Nat => .int (i : Int)))), .fr (.d (iT (List.replicate Pu.length 1))), x5, x6, x7] ∧
      roomM Pu m left word = some res ∧ (∀ a ∈ left, a.length = Pu.length) ∧ (∀ i ∈ word, i < Pu.length) ∧ left.length ≤ 1000 ∧ word.length + m ≤ 1000) n ⟨lot, [], _, _, _, rfl, hro, la, fun i hi => (by cases hi), ll, by simpa using hn⟩ ?_)
    rintro m env' ⟨left, word, x5, x6, x7, rfl, hm, hla, hwd, hll, hwl⟩
    refine ⟨!decide (left = []), et_cmp (og_ne hr.units (shaped_tups _) (shaped_tups []) (by rw [eqv_tups, Bool.not_not])) (ee_name 2) (EM.ee (em_lst ean_nil)), fun e => ?_, fun e => ?_⟩
    · have ne : ¬ left = [] := by simpa using e
      cases m with
      | zero => cases hm
      | succ m =>
        unfold roomM at hm
        rw [if_neg ne] at hm
        refine ss_cons (s1_own 6 (em_lc (lc_ok (own := [("lamp", 5)]) (fun i : Nat => decide (unitM Pu.length i ∈ left)) (fun i : Nat => .int (i : Int)) (src_rng1 5 (Pu.length : Nat) B.range (eg_callB (cg_lenH (P := Pu) L hr2 (by omega)) B.len (ea_cons (ee_name 0) ea_nil) back_e) (by omega))
          ?ok (pg1 5 nd) (by decide) (fun i hz s H C cl fp => ets_one ?tst) (fun i hz _ s H C cl fp => EE.en (ee_name 5) rfl) (by rw [List.length_range]; omega)) nd) ?_ nd)
        case ok => exact blkOk_by (N := nRoom) (sc := defScope stRoom) (by decide +kernel)
        case tst =>
          refine et_cmp (og_in (k := decide (unitM Pu.length i ∈ left)) (hu65 hr) (shaped_iT (unitM Pu.length i)) (shaped_tups left) (any_tups _ _)) ?_ (ee_name 2)
          exact ee_call (S := sUnit) (k := 3) (xs := [.hall Pu, .d (.int (i : Nat))]) OU hr3 (ea_cons (ee_name 0) (ea_cons (ee_name 5) ea_nil)) ⟨Pu, i, rfl, U.ok, rfl⟩
        have e1 : (((List.range ((Pu.length : Nat) : Int).toNat).filter fun i : Nat => decide (unitM Pu.length i ∈ left)).map fun i : Nat => PyData.int (i : Int)) = (firstLamp Pu left).map fun i : Nat => PyData.int (i : Int) := by rw [Int.toNat_natCast]; rfl
        rw [e1]
        have fl : ∀ i ∈ firstLamp Pu left, i < Pu.length := fun i hi => List.mem_range.mp (List.mem_filter.mp hi).1
        refine ss_freeze 6 rfl ?_
        have einj : ∀ l : List Nat, (l.map fun i : Nat => PyData.int (i : Int)) = (l.map fun i : Nat => (i : Int)).map .int := fun l => by rw [List.map_map]; rfl
        cases hf : firstLamp Pu left with
        | nil =>
          rw [hf] at hm
          cases hm
          refine ss_cons (s1_if (k := true) (et_cmp (og_eq hr.units (shaped_ints []) (shaped_ints []) (by rw [eqv_ints]; rfl)) (ee_name 6) (EM.ee (em_lst ean_nil))) (fun _ => ?_) fun e => by cases e)
          exact ss_cons (s1_ret (EE.en ee_non rfl) rfl)
        | cons i0 rest =>
          rw [hf] at hm fl
          have hi0 := fl i0 List.mem_cons_self
          have at0 : atI ((i0 :: rest).map fun i : Nat => PyData.int (i : Int)) 0 = some (.int (i0 : Int)) := atI_nat' (by omega) rfl
          refine ss_cons (s1_if (k := false) (et_cmp (og_eq (d := .list ((i0 :: rest).map fun i : Nat => PyData.int (i : Int))) (f := .list (([] : List Int).map .int)) hr.units (by rw [einj]; exact shaped_ints _) (shaped_ints []) (by rw [einj, eqv_ints]; rfl)) (ee_name 6) (EM.ee (em_lst ean_nil))) (fun e => by cases e) fun _ => ss_nil ?_)
          refine ss_cons (s1_own 2 (em_lc (lc_ok (own := [("arrow", 7)]) (fun a : List Int => !decide (a = unitM Pu.length i0)) (fun a : List Int => iT (turnedM Pu a i0)) (src_list 7 left iT (ef_name 2)) ?ok2 (pg1 7 nd) (by decide) (fun a hz s H C cl fp => ets_one ?tst2) (fun a hz _ s H C cl fp => ?elt2) (by omega)) nd) ?_ nd)
          case ok2 => exact blkOk_by (N := nRoom) (sc := defScope stRoom) (by decide +kernel)
          case tst2 =>
            refine et_cmp (og_ne (k := !decide (a = unitM Pu.length i0)) hr.units (shaped_iT _) (shaped_iT (unitM Pu.length i0)) (by rw [eqv_iT, Bool.not_not])) (ee_name 7) ?_
            exact ee_call (S := sUnit) (k := 3) (xs := [.hall Pu, .d (.int (i0 : Nat))]) OU hr3 (ea_cons (ee_name 0) (ea_cons (ee_ixL (ee_name 6) ee_int at0) ea_nil)) ⟨Pu, i0, rfl, U.ok, rfl⟩
          case elt2 =>
            exact en_call (S := sTurned) (k := 1) (xs := [.hall Pu, .d (iT a), .d (.int (i0 : Nat))]) OT hr1 (ea_cons (ee_name 0) (ea_cons (ee_name 7) (ea_cons (ee_ixL (ee_name 6) ee_int at0) ea_nil))) ⟨Pu, a, i0, rfl, U.ok, hi0, hla a hz, rfl⟩
          have e2 : ((left.filter fun a : List Int => !decide (a = unitM Pu.length i0)).map fun a : List Int => iT (turnedM Pu a i0)) = tups ((left.filter fun a => !decide (a = unitM Pu.length i0)).map fun a => turnedM Pu a i0) := by unfold tups; rw [List.map_map]; rfl
          rw [e2]
          refine ss_cons (s1_app (d := .int (i0 : Nat)) 3 rfl (EE.en (ee_ixL (ee_name 6) ee_int at0) rfl) (by rw [List.length_map]; omega) (ss_nil ?_))
          refine ⟨m, Nat.lt_succ_self m, _, word ++ [i0], _, _, _, by rw [List.map_append (l₁ := word) (l₂ := [i0])]; rfl, hm, fun a ha => ?_, fun i hi => ?_, ?_, by rw [List.length_append, List.length_singleton]; omega⟩
          · obtain ⟨b, hb, rfl⟩ := List.mem_map.mp ha
            have hb2 := hla b (List.mem_filter.mp hb).1
            rw [turnedM_len (by omega)]
            exact hb2
          · rcases List.mem_append.mp hi with h | h
            · exact hwd i h
            · rw [List.mem_singleton.mp h]; exact hi0
          · rw [List.length_map]
            exact Nat.le_trans (List.length_filter_le _ _) hll
    · have ne : left = [] := by simpa using e
      have hr2 : res = some (word.reverse.foldl (changedM Pu) (List.replicate Pu.length 1)) := by
        cases m with
        | zero => cases hm
        | succ m =>
          unfold roomM at hm
          rw [if_pos ne] at hm
          exact (Option.some.inj hm).symm
      subst hr2
      refine ss_cons (s1_for (src_list 5 word.reverse (fun i : Nat => .int (i : Int)) (EN.ef (EM.en (EM.is (em_revL (ee_name 3) ?imm) ?rv)))) (pg_name nd rfl (Or.inl rfl) (Or.inr rfl))
        (fun i env' => ∃ x2 x3 x5 x6 x7, env' = [.fr (.hall Pu), .fr (.d (.list (tups lot))), x2, x3, .fr (.d (iT ((word.reverse.take i).foldl (changedM Pu) (List.replicate Pu.length 1)))), x5, x6, x7] ∧ ((word.reverse.take i).foldl (changedM Pu) (List.replicate Pu.length 1)).length = Pu.length) ⟨_, _, _, _, _, rfl, List.length_replicate⟩ ?_ ?_)
      case imm => exact imm_ofM fun _ _ => rfl
      case rv => rw [List.map_reverse]
      · rintro i z env' hz ⟨x2, x3, x5, x6, x7, rfl, hlen⟩
        have hzl : z < Pu.length := hwd z (List.mem_reverse.mp (List.mem_of_getElem? hz))
        have tk : word.reverse.take (i + 1) = word.reverse.take i ++ [z] := by rw [List.take_add_one, hz]; rfl
        refine ss_cons (s1_asg (x := .d (iT (changedM Pu ((word.reverse.take i).foldl (changedM Pu) (List.replicate Pu.length 1)) z))) 4 (EN.ef (en_call (S := sChanged) (k := 1) (xs := [.hall Pu, .d (iT ((word.reverse.take i).foldl (changedM Pu) (List.replicate Pu.length 1))), .d (.int (z : Nat))]) OC hr1 (ea_cons (ee_name 0) (ea_cons (ee_name 4) (ea_cons (ee_name 5) ea_nil)))
          ⟨Pu, _, z, rfl, U.ok, hzl, hlen, rfl⟩)) (ss_nil ?_) nd)
        rw [tk, List.foldl_append]
        exact ⟨_, _, _, _, _, rfl, (changedM_len (by rw [(hallOk_row U.ok hzl).2.1]; exact hlen.symm)).trans hlen⟩
      · rintro env' ⟨x2, x3, x5, x6, x7, rfl, hlen⟩
        rw [List.take_length]
        exact ss_cons (s1_ret (EE.en (ee_name 4) (imm_iT _)) rfl)
end
end K33

set_option maxHeartbeats 400000
/-! K33w: why_not, shows_why. -/
namespace K33
open PySem PySem.Spec PyProof.Rows L2
def hitM (all : List (List Int)) (mem : List Int → Bool) (one other : List Int) : Bool := decide (plusM one other ∈ all) && isReasonM mem one other (plusM one other)
def whyM (all : List (List Int)) (mem : List Int → Bool) : List (List Int) → Option (List Int × List Int)
  | [] => none
  | one :: rest => match rest.find? (hitM all mem one) with
    | some o => some (one, o)
    | none => whyM all mem rest
theorem whyM_cons (all : List (List Int)) (mem : List Int → Bool) (one : List Int) (rest : List (List Int)) : whyM all mem (one :: rest) = match rest.find? (hitM all mem one) with | some o => some (one, o) | none => whyM all mem rest := rfl
theorem not_f {x : Bool} (h : (!x) = true) : x = false := by cases x <;> simp_all
theorem not_t {x : Bool} (h : (!x) = false) : x = true := by cases x <;> simp_all
def tripleD (a b s : List Int) : PyData := .tuple [iT a, iT b, iT s]
def whyD : Option (List Int × List Int) → PyData
  | none => .none
  | some (a, b) => tripleD a b (plusM a b)
def inL (l : List (List Int)) : List Int → Bool := fun k => decide (k ∈ l)
theorem imm_triple (a b s : List Int) : imm (tripleD a b s) = true := by
  unfold tripleD
  rw [imm]
  exact immAll_mem fun x hx => by
    simp only [List.mem_cons, List.not_mem_nil, or_false] at hx
    rcases hx with rfl | rfl | rfl <;> exact imm_iT _
def trueT (l : List (List Int)) : List (List Int × PyData) := putsT [] (l.map fun a => (a, .bool true))
theorem lookT_put (kvs : List (List Int × PyData)) (k x : List Int) (d : PyData) : (lookT (putT kvs k d) x).isSome = ((lookT kvs x).isSome || decide (x = k)) := by
  have hm : ∀ (kvs : List (List Int × PyData)) (x : List Int), (lookT kvs x).isSome = decide (x ∈ keysT kvs) := by
    intro kvs x
    induction kvs with
    | nil => simp [lookT, keysT]
    | cons p w ih =>
      unfold lookT keysT at *
      rw [List.find?_cons]
      by_cases h : p.1 = x
      · simp [h]
      · have h' : ¬ x = p.1 := fun z => h z.symm
        simp only [h, decide_false, List.map_cons, List.mem_cons, h', false_or]
        exact ih
  rw [hm, hm]
  have e : x ∈ keysT (putT kvs k d) ↔ x ∈ keysT kvs ∨ x = k := by
    constructor
    · exact keys_put kvs k d x
    · intro h
      unfold putT keysT
      split
      · rename_i ha
        rw [List.map_map]
        have : ((fun x : List Int × PyData => x.1) ∘ fun p : List Int × PyData => if p.1 = k then (p.1, d) else p) = fun p => p.1 := by
          funext p
          simp only [Function.comp]
          split <;> rfl
        rw [this]
        rcases h with h | rfl
        · exact h
        · obtain ⟨p, hp, hk⟩ := List.any_eq_true.mp ha
          exact List.mem_map.mpr ⟨p, hp, of_decide_eq_true hk⟩
      · rw [List.map_append]
        rcases h with h | rfl
        · exact List.mem_append_left _ h
        · exact List.mem_append_right _ (by simp)
  by_cases h : x ∈ keysT (putT kvs k d)
  · rw [decide_eq_true h]
    rcases e.mp h with h2 | h2
    · simp [h2]
    · simp [h2]
  · rw [decide_eq_false h]
    have h1 : ¬ x ∈ keysT kvs := fun z => h (e.mpr (.inl z))
    have h2 : ¬ x = k := fun z => h (e.mpr (.inr z))
    simp [h1, h2]
theorem look_puts (k : List Int) : ∀ (l : List (List Int)) (kvs : List (List Int × PyData)), (lookT (putsT kvs (l.map fun a => (a, .bool true))) k).isSome = ((lookT kvs k).isSome || inL l k)
  | [], kvs => by simp [putsT, inL]
  | a :: l, kvs => by
    show (lookT (putsT (putT kvs a (.bool true)) (l.map fun a => (a, .bool true))) k).isSome = _
    rw [look_puts k l, lookT_put]
    unfold inL
    by_cases h1 : k = a <;> by_cases h2 : k ∈ l <;> simp [h1, h2]
theorem look_true (l : List (List Int)) (k : List Int) : (lookT (trueT l) k).isSome = inL l k := by
  unfold trueT
  rw [look_puts]
  simp [lookT]
theorem reason_congr {m m' : List Int → Bool} (h : ∀ k, m k = m' k) (a b s : List Int) : isReasonM m a b s = isReasonM m' a b s := by
  unfold isReasonM
  rw [h, h, h]
section
variable {c : Ct} {P : Program} {w : World} {mg : Str → Option Value} {base : Heap} {f : Addr} {fd : FuncData} {nm : Str} {j k : Nat} {S : Sc}
def sWhy : Sc := fun xs R => ∃ P r lot, xs = [.hall P, .d (.list (tups lot))] ∧ UpOk P r ∧ LotOk r lot ∧ R = fun y => y = .d (whyD (whyM (upsM r) (inL lot) (upsM r)))
abbrev stWhy : Stmt := top 41
abbrev nWhy : List Str := ["hall", "lot", "up", "known", "told", "at", "one", "other", "whole", "arrow"]
theorem scWhy : FnScope nWhy ["hall", "lot"] (defScope stWhy) := ⟨rfl, rfl, rfl, by decide +kernel, rfl, by decide +kernel, by decide +kernel⟩
theorem upsM_mem {r : Wy} {a : List Int} : a ∈ upsM r ↔ a ∈ r.map (·.1) := (sortL_perm _).mem_iff
theorem upsM_len {P : List (List Int)} {r : Wy} (U : UpOk P r) {a : List Int} (h : a ∈ upsM r) : a.length = P.length := by
  obtain ⟨p, hp, rfl⟩ := List.mem_map.mp (upsM_mem.mp h)
  exact U.len p hp
theorem upsM_sz {P : List (List Int)} {r : Wy} (U : UpOk P r) : (upsM r).length ≤ 1000 := by
  unfold upsM
  rw [(sortL_perm _).length_eq, List.length_map]
  exact U.sz
theorem own_why (D : Df c mg "why_not" stWhy ["hall", "lot"] f fd) (B : Bl mg) (OL : Own c P w mg base "need_lot" 5 sNeedLot) (OT : Own c P w mg base "together" 1 sTog) (OR : Own c P w mg base "is_reason" 1 sReason) : Own c P w mg base "why_not" 6 sWhy := by
  refine own_mk D scWhy (fun xs R h => ?_) (fun cdv A outer s H E hr xs R h => ?_)
  · obtain ⟨P, r, lot, rfl, _⟩ := h
    rfl
  · obtain ⟨Pu, r, lot, rfl, U, Lo, rfl⟩ := h
    have nd := scWhy.nd
    have hl := hallOk_len U.ok
    have hr1 := hr.mono (show 1 ≤ 5 by omega)
    have ll : lot.length ≤ 1000 := Nat.le_trans Lo.le U.sz
    refine ss_cons (s1_asg (x := .d (.list (tups (upsM r)))) 2 (EN.ef (en_call (S := sNeedLot) (k := 5) (xs := [.hall Pu, .d (.list (tups lot))]) OL hr (ea_cons (ee_name 0) (ea_cons (ee_name 1) ea_nil)) ⟨Pu, r, lot, rfl, U, Lo, rfl⟩)) ?_ nd)
    refine ss_cons (s1_par (x := .dT (trueT (upsM r))) (y := .dT (trueT lot)) 3 4 false false
      (ex_f (EN.ef (EM.en (em_dcT (own := [("arrow", 9)]) (fun a : List Int => a) (fun _ => .bool true) (src_list 9 (upsM r) iT (ef_name 2)) ?ok1 (pg1 9 nd) (by decide) (fun a ha s H C cl fp => ee_name 9) (fun a ha s H C cl fp => EE.en ee_bl rfl) (by have := upsM_sz U; omega) (hu1 hr) nd))))
      (ex_f (EN.ef (EM.en (em_dcT (own := [("arrow", 9)]) (fun a : List Int => a) (fun _ => .bool true) (src_list 9 lot iT (ef_name 1)) ?ok2 (pg1 9 nd) (by decide) (fun a ha s H C cl fp => ee_name 9) (fun a ha s H C cl fp => EE.en ee_bl rfl) (by omega) (hu1 hr) nd)))) ?_ nd (by show 3 < 10; decide) (by decide))
    case ok1 => exact blkOk_by (N := nWhy) (sc := defScope stWhy) (by decide +kernel)
    case ok2 => exact blkOk_by (N := nWhy) (sc := defScope stWhy) (by decide +kernel)
    refine ss_cons (s1_for (src_enum 5 6 false (upsM r) iT B.enumerate (ef_name 2)) (pg_tup rfl (pgs_cons (pg_name nd rfl (Or.inl rfl) (Or.inr rfl)) (pgs_cons (pg_name nd rfl (Or.inl rfl) (Or.inr rfl)) pgs_nil)))
      (fun i env' => ∃ a b d e g, env' = [.fr (.hall Pu), .fr (.d (.list (tups lot))), .fr (.d (.list (tups (upsM r)))), .fr (.dT (trueT (upsM r))), .fr (.dT (trueT lot)), a, b, d, e, g] ∧ whyM (upsM r) (inL lot) ((upsM r).drop i) = whyM (upsM r) (inL lot) (upsM r)) ⟨_, _, _, _, _, rfl, by rw [List.drop_zero]⟩ ?_ ?_)
    · rintro i z env' hz ⟨a, b, d, e, g, rfl, hw⟩
      obtain ⟨z1, z2⟩ := zip_get hz
      obtain ⟨e0, _⟩ := range_get z1
      have hm1 := List.mem_of_getElem? z2
      have dr : (upsM r).drop i = z.2 :: (upsM r).drop (i + 1) := by
        obtain ⟨h1, h2⟩ := List.getElem?_eq_some_iff.mp z2
        rw [List.drop_eq_getElem_cons h1, h2]
      rw [dr] at hw
      rw [whyM_cons] at hw
      have sl : tups ((upsM r).drop (i + 1)) = cutG (tups (upsM r)) (some ((z.1 : Int) + 1)) none := by
        rw [show ((z.1 : Int) + 1) = ((i + 1 : Nat) : Int) by omega, cut_drop]
        unfold tups
        rw [List.map_drop]
      refine ss_cons (s1_for (src_list 7 ((upsM r).drop (i + 1)) iT (EN.ef (EM.en (EM.is (em_slL (ee_name 2) (eo_some (ee_bin og_add (ee_name 5) ee_int)) eo_none ?imm) ?sl)))) (pg_name nd rfl (Or.inl rfl) (Or.inr rfl))
        (fun j env' => ∃ d e, env' = [.fr (.hall Pu), .fr (.d (.list (tups lot))), .fr (.d (.list (tups (upsM r)))), .fr (.dT (trueT (upsM r))), .fr (.dT (trueT lot)), .fr (.d (.int (z.1 : Nat))), .fr (.d (iT z.2)), d, e, g] ∧ (((upsM r).drop (i + 1)).drop j).find? (hitM (upsM r) (inL lot) z.2) = ((upsM r).drop (i + 1)).find? (hitM (upsM r) (inL lot) z.2)) ⟨_, _, rfl, by rw [List.drop_zero]⟩ ?_ ?_)
      case imm => rw [← sl]; exact imm_tups _
      case sl => rw [← sl]; rfl
      · rintro jx y env' hy ⟨d, e, rfl, hf⟩
        have hm2 : y ∈ upsM r := List.mem_of_mem_drop (List.mem_of_getElem? hy)
        have dr2 : ((upsM r).drop (i + 1)).drop jx = y :: ((upsM r).drop (i + 1)).drop (jx + 1) := by
          obtain ⟨h1, h2⟩ := List.getElem?_eq_some_iff.mp hy
          rw [List.drop_eq_getElem_cons h1, h2]
        rw [dr2, List.find?_cons] at hf
        refine ss_cons (s1_asg (x := .d (iT (plusM z.2 y))) 8 (EN.ef (en_call (S := sTog) (k := 1) (xs := [.d (iT z.2), .d (iT y)]) OT hr1 (ea_cons (ee_name 6) (ea_cons (ee_name 7) ea_nil)) ⟨z.2, y, rfl, by have := upsM_len U hm1; omega, rfl⟩)) ?_ nd)
        refine ss_cons (s1_if (k := hitM (upsM r) (inL lot) z.2 y) (ET.is (et_and2 (et_din (.t (trueT (upsM r)) (plusM z.2 y)) (hu1 hr) (ee_name 8) (ee_name 3)) fun _ => et_val (ee_call (S := sReason) (k := 1) (xs := [.dT (trueT lot), .d (iT z.2), .d (iT y), .d (iT (plusM z.2 y))]) OR hr1 (ea_cons (ee_name 4) (ea_cons (ee_name 6) (ea_cons (ee_name 7) (ea_cons (ee_name 8) ea_nil))))
          ⟨_, _, z.2, y, plusM z.2 y, rfl, .t (trueT lot), rfl⟩)) ?hit) (fun e => ?_) fun e => ss_nil (ss_nil ?_))
        case hit =>
          rw [look_true, reason_congr (fun k => look_true lot k)]
          rfl
        · rw [e] at hf
          have hf2 : ((upsM r).drop (i + 1)).find? (hitM (upsM r) (inL lot) z.2) = some y := hf.symm
          rw [hf2] at hw
          refine ss_cons (s1_ret (x := .d (tripleD z.2 y (plusM z.2 y))) (EE.en (ee_tup (ds := [iT z.2, iT y, iT (plusM z.2 y)]) (ea_cons (ee_name 6) (ea_cons (ee_name 7) (ea_cons (ee_name 8) ea_nil))) (by simp)) (imm_triple _ _ _)) ?_)
          rw [← hw]
          rfl
        · rw [e] at hf
          exact ⟨_, _, rfl, hf⟩
      · rintro env' ⟨d, e, rfl, hf⟩
        rw [List.drop_length] at hf
        have hf2 : ((upsM r).drop (i + 1)).find? (hitM (upsM r) (inL lot) z.2) = none := hf.symm
        rw [hf2] at hw
        exact ss_nil ⟨_, _, _, _, _, rfl, hw⟩
    · rintro env' ⟨a, b, d, e, g, rfl, hw⟩
      rw [List.length_zip, List.length_range, Nat.min_self, List.drop_length] at hw
      refine ss_cons (s1_ret (EE.en ee_non rfl) ?_)
      rw [← hw]
      rfl

/-! ### shows_why -/
def showsM (ups : List (List Int)) (mem : List Int → Bool) (a b s : List Int) : Bool := inL ups a && inL ups b && inL ups s && decide (plusM a b = s) && isReasonM mem a b s
def sShows : Sc := fun xs R => ∃ P r lot a b s, xs = [.hall P, .d (.list (tups lot)), .d (tripleD a b s)] ∧ UpOk P r ∧ LotOk r lot ∧ a.length = P.length ∧ b.length = P.length ∧ s.length = P.length ∧ R = fun y => y = .d (.bool (showsM (upsM r) (inL lot) a b s))
abbrev stShows : Stmt := top 42
abbrev nShows : List Str := ["hall", "lot", "value", "up", "arrow"]
theorem scShows : FnScope nShows ["hall", "lot", "value"] (defScope stShows) := ⟨rfl, rfl, rfl, by decide +kernel, rfl, by decide +kernel, by decide +kernel⟩
theorem own_shows (D : Df c mg "shows_why" stShows ["hall", "lot", "value"] f fd) (B : Bl mg) (OL : Own c P w mg base "need_lot" 5 sNeedLot) (ON : Own c P w mg base "are_numbers" 3 sAreN) (OT : Own c P w mg base "together" 1 sTog) (OR : Own c P w mg base "is_reason" 1 sReason) : Own c P w mg base "shows_why" 6 sShows := by
  refine own_mk D scShows (fun xs R h => ?_) (fun cdv A outer s H E hr xs R h => ?_)
  · obtain ⟨P, r, lot, a, b, s, rfl, _⟩ := h
    rfl
  · obtain ⟨Pu, r, lot, a, b, sm, rfl, U, Lo, la, lb, ls, rfl⟩ := h
    have nd := scShows.nd
    have hl := hallOk_len U.ok
    have hr1 := hr.mono (show 1 ≤ 5 by omega)
    have hr3 := hr.mono (show 3 ≤ 5 by omega)
    have i0 : atI [iT a, iT b, iT sm] 0 = some (iT a) := atI_nat' (by omega) rfl
    have i1 : atI [iT a, iT b, iT sm] 1 = some (iT b) := atI_nat' (by omega) rfl
    have i2 : atI [iT a, iT b, iT sm] 2 = some (iT sm) := atI_nat' (by omega) rfl
    refine ss_cons (s1_asg (x := .d (.list (tups (upsM r)))) 3 (EN.ef (en_call (S := sNeedLot) (k := 5) (xs := [.hall Pu, .d (.list (tups lot))]) OL hr (ea_cons (ee_name 0) (ea_cons (ee_name 1) ea_nil)) ⟨Pu, r, lot, rfl, U, Lo, rfl⟩)) ?_ nd)
    refine ss_cons (s1_if (k := false) (et_or2 (et_not (k := true) (et_val (eg_callB (cg_isi (d := tripleD a b sm) (n := "tuple") (k := true) rfl) B.isinstance (ea_cons (ee_name 2) (ea_cons (ee_ty (n := "tuple") B.tuple) ea_nil)) back_e))) fun _ => et_cmp (og_ne (d := .int 3) (f := .int 3) (k := false) hr.units (shaped_int _) (shaped_int _) (by rw [eqv_int]; rfl)) (eg_callB (cg_lenT (ds := [iT a, iT b, iT sm])) B.len (ea_cons (ee_name 2) ea_nil) back_e) ee_int) (fun e => by cases e) fun _ => ss_nil ?_)
    refine ss_cons (s1_if (k := !(inL (upsM r) a && (inL (upsM r) b && inL (upsM r) sm))) (et_not (et_val (EE.is (eg_callB (cg_all (bs := [a, b, sm].map fun x => inL (upsM r) x)) B.all (ea_cons (EE.is (EM.ee (em_lc
      (lc_ok (own := [("arrow", 4)]) (fun _ => true) (fun x : List Int => .bool (inL (upsM r) x)) (src_tup 4 [a, b, sm] iT (ef_name 2)) ?ok (pg1 4 nd) (by decide) (fun z hz s H C cl fp => ets_nil) (fun z hz _ s H C cl fp => EE.en ?elt rfl) (by simp)) nd)) ?lc) ea_nil) back_e) ?tt))) (fun e => ?_) fun e => ss_nil ?_)
    case ok => exact blkOk_by (N := nShows) (sc := defScope stShows) (by decide +kernel)
    case elt =>
      have zl : z.length = Pu.length := by
        simp only [List.mem_cons, List.not_mem_nil, or_false] at hz
        rcases hz with rfl | rfl | rfl <;> assumption
      refine EE.is (ee_and2 (k := true) (l := inL (upsM r) z) ?_ fun _ => ?_) rfl
      · exact EE.is (ee_call (S := sAreN) (k := 3) (xs := [.hall Pu, .d (iT z)]) ON hr3 (ea_cons (ee_name 0) (ea_cons (ee_name 4) ea_nil)) ⟨Pu, z, rfl, U.ok, rfl⟩) (by rw [decide_eq_true zl])
      · exact ee_cmp (og_in (hu65 hr) (shaped_iT z) (shaped_tups (upsM r)) (any_tups _ _)) (ee_name 4) (ee_name 3)
    case lc => rw [filt_true, List.map_map]; rfl
    case tt => simp
    · refine ss_cons (s1_ret (EE.en ee_bl rfl) ?_)
      have e : (inL (upsM r) a && (inL (upsM r) b && inL (upsM r) sm)) = false := not_f e
      unfold showsM
      rw [Bool.and_assoc (inL (upsM r) a), e]
      rfl
    · have e : (inL (upsM r) a && (inL (upsM r) b && inL (upsM r) sm)) = true := not_t e
      refine ss_cons (s1_ret (EE.en (ee_and2 (ee_cmp (og_eq (d := iT (plusM a b)) (f := iT sm) hr.units (shaped_iT _) (shaped_iT _) (eqv_iT _ _)) (ee_call (S := sTog) (k := 1) (xs := [.d (iT a), .d (iT b)]) OT hr1 (ea_cons (ee_ixT (ee_name 2) ee_int i0) (ea_cons (ee_ixT (ee_name 2) ee_int i1) ea_nil)) ⟨a, b, rfl, by omega, rfl⟩) (ee_ixT (ee_name 2) ee_int i2)) fun _ =>
        ee_call (S := sReason) (k := 1) (xs := [.d (.list (tups lot)), .d (iT a), .d (iT b), .d (iT sm)]) OR hr1 (ea_cons (ee_name 1) (ea_cons (ee_ixT (ee_name 2) ee_int i0) (ea_cons (ee_ixT (ee_name 2) ee_int i1) (ea_cons (ee_ixT (ee_name 2) ee_int i2) ea_nil)))) ⟨_, _, a, b, sm, rfl, .l lot, rfl⟩) rfl) ?_)
      unfold showsM
      rw [Bool.and_assoc (inL (upsM r) a), e]
      rfl
end
end K33

set_option maxHeartbeats 400000
/-! K33x: the law's own small defs. -/
namespace K33
open PySem PySem.Spec PyProof.Rows L2

/-! ### a sort as an insertion, for any data -/
section
variable {β : Type}
def insG (lt : β → β → Bool) (a : β) : List β → List β
  | [] => [a]
  | b :: bs => if lt b a = true then b :: insG lt a bs else a :: b :: bs
def sortG (lt : β → β → Bool) : List β → List β
  | [] => []
  | a :: as => insG lt a (sortG lt as)
theorem insG_perm (lt : β → β → Bool) (a : β) : ∀ bs, (insG lt a bs).Perm (a :: bs)
  | [] => List.Perm.refl _
  | b :: bs => by
    unfold insG
    split
    · exact ((insG_perm lt a bs).cons b).trans (List.Perm.swap a b bs)
    · exact List.Perm.refl _
theorem sortG_perm (lt : β → β → Bool) : ∀ as, (sortG lt as).Perm as
  | [] => List.Perm.refl _
  | a :: as => (insG_perm lt a _).trans ((sortG_perm lt as).cons a)
structure Ltg (lt : β → β → Bool) : Prop where
  tr : ∀ a b c, lt b a = false → lt c b = false → lt c a = false
  as : ∀ a b, lt a b = true → lt b a = false
  eq : ∀ a b, lt a b = false → lt b a = false → a = b
theorem insG_sorted {lt : β → β → Bool} (L : Ltg lt) (a : β) : ∀ bs : List β, bs.Pairwise (fun x y => lt y x = false) → (insG lt a bs).Pairwise (fun x y => lt y x = false)
  | [], _ => List.pairwise_singleton _ _
  | b :: bs, h => by
    rw [List.pairwise_cons] at h
    unfold insG
    split
    · rename_i e
      rw [List.pairwise_cons]
      refine ⟨fun c hc => ?_, insG_sorted L a bs h.2⟩
      rcases List.mem_cons.mp ((insG_perm lt a bs).mem_iff.mp hc) with rfl | hc
      · exact L.as _ _ e
      · exact h.1 c hc
    · rename_i e
      have e : lt b a = false := by simpa using e
      rw [List.pairwise_cons, List.pairwise_cons]
      refine ⟨fun c hc => ?_, h.1, h.2⟩
      rcases List.mem_cons.mp hc with rfl | hc
      · exact e
      · exact L.tr _ _ _ e (h.1 c hc)
theorem sortG_sorted {lt : β → β → Bool} (L : Ltg lt) : ∀ as, (sortG lt as).Pairwise (fun x y => lt y x = false)
  | [] => .nil
  | a :: as => insG_sorted L a _ (sortG_sorted L as)
theorem msortG {lt : β → β → Bool} (L : Ltg lt) {enc : β → PyData} (h : ∀ a b, PySem.W.dataLt (enc a) (enc b) = lt a b) (l : List β) : l.mergeSort (PySem.W.dataLe false enc) = sortG lt l := by
  have e : PySem.W.dataLe false enc = fun a b => !lt b a := by
    funext a b
    show (!PySem.W.dataLt (enc b) (enc a)) = _
    rw [h]
  rw [e]
  refine List.Perm.eq_of_pairwise (le := fun a b : β => lt b a = false) (fun a b _ _ h1 h2 => L.eq _ _ h2 h1) ?_ (sortG_sorted L l) ((List.mergeSort_perm _ _).trans (sortG_perm lt l).symm)
  have := List.pairwise_mergeSort (le := fun a b : β => !lt b a) (fun a b c h1 h2 => by
    have h1 : lt b a = false := not_f h1
    have h2 : lt c b = false := not_f h2
    simp [L.tr a b c h1 h2]) (fun a b => by
    cases h1 : lt b a with
    | false => simp
    | true => simp [L.as _ _ h1]) l
  exact this.imp fun h => not_f h
end
theorem ltg_ints : Ltg HT.lexLt where
  tr a b c h1 h2 := by
    rw [lexLt_dec] at *
    have h1 : a ≤ b := List.not_lt.mp (of_decide_eq_false h1)
    have h2 : b ≤ c := List.not_lt.mp (of_decide_eq_false h2)
    exact decide_eq_false (List.not_lt.mpr (List.le_trans h1 h2))
  as a b h := by
    rw [lexLt_dec] at *
    exact decide_eq_false (List.not_lt.mpr (List.le_of_lt (of_decide_eq_true h)))
  eq a b h1 h2 := by
    rw [lexLt_dec] at *
    exact List.le_antisymm (List.not_lt.mp (of_decide_eq_false h2)) (List.not_lt.mp (of_decide_eq_false h1))
/-- the first parts decide, then the second -/
def lexP {α β : Type} [DecidableEq α] (l1 : α → α → Bool) (l2 : β → β → Bool) (p q : α × β) : Bool := if p.1 = q.1 then l2 p.2 q.2 else l1 p.1 q.1
theorem ltg_irr {β : Type} {lt : β → β → Bool} (L : Ltg lt) (a : β) : lt a a = false := by
  cases h : lt a a with
  | false => rfl
  | true => have := L.as _ _ h; rw [h] at this; cases this
theorem Ltg.pair {α β : Type} [DecidableEq α] {l1 : α → α → Bool} {l2 : β → β → Bool} (L1 : Ltg l1) (L2 : Ltg l2) : Ltg (lexP l1 l2) where
  tr p q r h1 h2 := by
    unfold lexP at *
    by_cases e1 : q.1 = p.1
    · rw [if_pos e1] at h1
      by_cases e2 : r.1 = q.1
      · rw [if_pos e2] at h2
        rw [if_pos (e2.trans e1)]
        exact L2.tr _ _ _ h1 h2
      · rw [if_neg e2] at h2
        rw [if_neg (fun z => e2 (z.trans e1.symm)), ← e1]
        exact h2
    · rw [if_neg e1] at h1
      by_cases e2 : r.1 = q.1
      · rw [if_neg (fun z => e1 (e2.symm.trans z)), e2]
        exact h1
      · rw [if_neg e2] at h2
        by_cases e3 : r.1 = p.1
        · rw [e3] at h2
          exact absurd (L1.eq _ _ h1 h2) e1
        · rw [if_neg e3]
          exact L1.tr _ _ _ h1 h2
  as p q h := by
    unfold lexP at *
    by_cases e : p.1 = q.1
    · rw [if_pos e] at h
      rw [if_pos e.symm]
      exact L2.as _ _ h
    · rw [if_neg e] at h
      rw [if_neg fun z => e z.symm]
      exact L1.as _ _ h
  eq p q h1 h2 := by
    unfold lexP at *
    by_cases e : p.1 = q.1
    · rw [if_pos e] at h1
      rw [if_pos e.symm] at h2
      exact Prod.ext e (L2.eq _ _ h1 h2)
    · rw [if_neg e] at h1
      rw [if_neg fun z => e z.symm] at h2
      exact absurd (L1.eq _ _ h1 h2) e
def ltI (a b : Int) : Bool := decide (a < b)
theorem ltg_int : Ltg ltI where
  tr a b c h1 h2 := by unfold ltI at *; have := of_decide_eq_false h1; have := of_decide_eq_false h2; exact decide_eq_false (by omega)
  as a b h := by unfold ltI at *; have := of_decide_eq_true h; exact decide_eq_false (by omega)
  eq a b h1 h2 := by unfold ltI at *; have := of_decide_eq_false h1; have := of_decide_eq_false h2; omega
/-- (height, arrow) -/
def pairD (p : Int × List Int) : PyData := .tuple [.int p.1, iT p.2]
theorem pairD_lt (p q : Int × List Int) : PySem.W.dataLt (pairD p) (pairD q) = lexP ltI HT.lexLt p q := by
  unfold pairD lexP ltI
  rw [PySem.W.dataLt_pair (by rfl) (by unfold iT; rw [PySem.W.alike]; exact alike_ints _ _), PySem.W.dataLt_int, eqv_int, eqv_iT, dataLt_iT, lexLt_dec]
  by_cases h : p.1 = q.1
  · rw [if_pos (decide_eq_true h), if_pos h]
    by_cases h2 : p.2 = q.2
    · rw [if_pos (decide_eq_true h2), h2]; exact (decide_eq_false (List.lt_irrefl _)).symm
    · rw [if_neg (fun z => h2 (of_decide_eq_true z))]
  · rw [if_neg (fun z => h (of_decide_eq_true z)), if_neg h]
/-- (one, other, whole) -/
abbrev Tri := List Int × List Int × List Int
def triD (t : Tri) : PyData := tripleD t.1 t.2.1 t.2.2
theorem alike_iT (a b : List Int) : PySem.W.alike (iT a) (iT b) = true := by unfold iT; rw [PySem.W.alike]; exact alike_ints _ _
theorem triD_lt (p q : Tri) : PySem.W.dataLt (triD p) (triD q) = lexP HT.lexLt (lexP HT.lexLt HT.lexLt) p q := by
  unfold triD tripleD
  rw [PySem.W.dataLt_tuple, PySem.W.dataLt_cons (alike_iT _ _), PySem.W.dataLt_cons (alike_iT _ _), PySem.W.dataLt_cons (alike_iT _ _)]
  have e : PyProof.Rows.lexLt itemOrd (PySem.W.keyToksAll []) (PySem.W.keyToksAll []) = false := PyProof.Rows.lex_irrefl _
  rw [e]
  simp only [eqv_iT, dataLt_iT]
  unfold lexP
  simp only [lexLt_dec]
  by_cases h : p.1 = q.1
  · simp only [h, decide_true, if_true]
    by_cases h2 : p.2.1 = q.2.1
    · simp only [h2, decide_true, if_true]
      by_cases h3 : p.2.2 = q.2.2
      · simp [h3]
      · simp [h3]
    · simp [h2]
  · simp [h]
section
variable {c : Ct} {P : Program} {w : World} {mg : Str → Option Value} {base : Heap} {f : Addr} {fd : FuncData} {nm : Str} {j k : Nat} {S : Sc}

/-! ### _law_plus, _law_by, _law_press -/
def lplusM (a b : List Int) : List Int := (List.range a.length).map fun l => a.getD l 0 + b.getD l 0
def sLPlus : Sc := fun xs R => ∃ a b, xs = [.d (iT a), .d (iT b)] ∧ a.length ≤ 8 ∧ b.length = a.length ∧ R = fun y => y = .d (iT (lplusM a b))
abbrev stLPlus : Stmt := top 56
abbrev nLPlus : List Str := ["_law_one", "_law_other", "_law_lamp"]
theorem scLPlus : FnScope nLPlus ["_law_one", "_law_other"] (defScope stLPlus) := ⟨rfl, rfl, rfl, by decide +kernel, rfl, by decide +kernel, by decide +kernel⟩
theorem own_lplus (D : Df c mg "_law_plus" stLPlus ["_law_one", "_law_other"] f fd) (B : Bl mg) : Own c P w mg base "_law_plus" 1 sLPlus := by
  refine own_mk D scLPlus (fun xs R h => ?_) (fun cdv A outer s H E hr xs R h => ?_)
  · obtain ⟨a, b, rfl, _⟩ := h
    rfl
  · obtain ⟨a, b, rfl, la, lb, rfl⟩ := h
    have nd := scLPlus.nd
    refine ss_cons (s1_ret (EE.en (eg_callT (cg_tuple) B.tuple (ea_cons (EM.ee (em_lc
      (lc_ok (own := [("_law_lamp", 2)]) (fun _ => true) (fun l : Nat => .int (a.getD l 0 + b.getD l 0)) (src_rng1 2 (a.length : Nat) B.range (EE.is (eg_callB (cg_lenT (ds := a.map .int)) B.len (ea_cons (ee_name 0) ea_nil) back_e) (by rw [List.length_map])) (by omega))
        ?ok (pg1 2 nd) (by decide) (fun z hz s H C cl fp => ets_nil) (fun l hz _ s H C cl fp => ?elt) ?len) nd)) ea_nil) back_e) ?im) ?fin)
    case ok => exact blkOk_by (N := nLPlus) (sc := defScope stLPlus) (by decide +kernel)
    case elt =>
      have hz2 : l < a.length := by rw [Int.toNat_natCast] at hz; exact List.mem_range.mp hz
      exact EE.en (ee_bin og_add (ee_ixT (ee_name 0) (ee_name 2) (atI_int hz2)) (ee_ixT (ee_name 1) (ee_name 2) (atI_int (by omega)))) rfl
    case len => rw [List.length_range]; omega
    case im => exact imm_ofM fun _ _ => rfl
    case fin => rw [filt_true, Int.toNat_natCast]; simp [lplusM, iT, List.map_map, Function.comp_def]
def lbyM (a ns : List Int) : Int := ((List.range a.length).map fun l => a.getD l 0 * ns.getD l 0).sum
def smallL (a : List Int) : Bool := a.all fun x => decide (-1000000 < x) && decide (x < 1000000)
theorem small_at {a : List Int} (h : smallL a = true) (l : Nat) : CMul (a.getD l 0) y := by
  unfold smallL at h
  rw [List.all_eq_true] at h
  rw [List.getD_eq_getElem?_getD]
  cases e : a[l]? with
  | none => exact .inl ⟨by simp, by simp⟩
  | some x =>
    have := h x (List.mem_of_getElem? e)
    simp only [Bool.and_eq_true, decide_eq_true_eq] at this
    exact .inl ⟨by simp; omega, by simp; omega⟩
def sLBy : Sc := fun xs R => ∃ a ns, xs = [.d (iT a), .d (iT ns)] ∧ smallL a = true ∧ a.length ≤ 8 ∧ ns.length = a.length ∧ R = fun y => y = .d (.int (lbyM a ns))
abbrev stLBy : Stmt := top 54
abbrev nLBy : List Str := ["_law_arrow", "_law_numbers", "_law_lamp"]
theorem scLBy : FnScope nLBy ["_law_arrow", "_law_numbers"] (defScope stLBy) := ⟨rfl, rfl, rfl, by decide +kernel, rfl, by decide +kernel, by decide +kernel⟩
theorem own_lby (D : Df c mg "_law_by" stLBy ["_law_arrow", "_law_numbers"] f fd) (B : Bl mg) : Own c P w mg base "_law_by" 1 sLBy := by
  refine own_mk D scLBy (fun xs R h => ?_) (fun cdv A outer s H E hr xs R h => ?_)
  · obtain ⟨a, b, rfl, _⟩ := h
    rfl
  · obtain ⟨a, b, rfl, sa, la, lb, rfl⟩ := h
    have nd := scLBy.nd
    refine ss_cons (s1_ret (EE.en (eg_callB (cg_sum (ns := (List.range a.length).map fun l => a.getD l 0 * b.getD l 0)) B.sum (ea_cons (EE.is (EM.ee (em_lc
      (lc_ok (own := [("_law_lamp", 2)]) (fun _ => true) (fun l : Nat => .int (a.getD l 0 * b.getD l 0)) (src_rng1 2 (a.length : Nat) B.range (EE.is (eg_callB (cg_lenT (ds := a.map .int)) B.len (ea_cons (ee_name 0) ea_nil) back_e) (by rw [List.length_map])) (by omega))
        ?ok (pg1 2 nd) (by decide) (fun z hz s H C cl fp => ets_nil) (fun l hz _ s H C cl fp => ?elt) ?len) nd)) ?lc) ea_nil) back_e) rfl) rfl)
    case ok => exact blkOk_by (N := nLBy) (sc := defScope stLBy) (by decide +kernel)
    case elt =>
      have hz2 : l < a.length := by rw [Int.toNat_natCast] at hz; exact List.mem_range.mp hz
      exact EE.en (ee_bin (og_mul (small_at sa l)) (ee_ixT (ee_name 0) (ee_name 2) (atI_int hz2)) (ee_ixT (ee_name 1) (ee_name 2) (atI_int (by omega)))) rfl
    case len => rw [List.length_range]; omega
    case lc => rw [filt_true, Int.toNat_natCast, List.map_map]; rfl
def pressM (P : List (List Int)) (ns : List Int) (i : Nat) : List Int := ((List.range ns.length).map fun a => ns.getD a 0 + (rowAt P i).getD a 0 * ns.getD i 0).set i (0 - ns.getD i 0)
def sPress : Sc := fun xs R => ∃ P ns i, xs = [.d (.tuple (tups P)), .d (iT ns), .d (.int (i : Nat))] ∧ hallOk P = true ∧ i < P.length ∧ ns.length = P.length ∧ R = fun y => y = .d (iT (pressM P ns i))
abbrev stPress : Stmt := top 51
abbrev nPress : List Str := ["_law_pushes", "_law_numbers", "_law_lamp", "_law_found", "_law_at"]
theorem scPress : FnScope nPress ["_law_pushes", "_law_numbers", "_law_lamp"] (defScope stPress) := ⟨rfl, rfl, rfl, by decide +kernel, rfl, by decide +kernel, by decide +kernel⟩
theorem own_press (D : Df c mg "_law_press" stPress ["_law_pushes", "_law_numbers", "_law_lamp"] f fd) (B : Bl mg) : Own c P w mg base "_law_press" 1 sPress := by
  refine own_mk D scPress (fun xs R h => ?_) (fun cdv A outer s H E hr xs R h => ?_)
  · obtain ⟨P, ns, i, rfl, _⟩ := h
    rfl
  · obtain ⟨Pu, ns, i, rfl, ok, hi, hn, rfl⟩ := h
    obtain ⟨r1, r2, r3⟩ := hallOk_row ok hi
    have nd := scPress.nd
    have hl := hallOk_len ok
    refine ss_cons (s1_lc 3 (lc_ok (own := [("_law_at", 4)]) (fun _ => true) (fun a : Nat => .int (ns.getD a 0 + (rowAt Pu i).getD a 0 * ns.getD i 0)) (src_rng1 4 (ns.length : Nat) B.range (EE.is (eg_callB (cg_lenT (ds := ns.map .int)) B.len (ea_cons (ee_name 1) ea_nil) back_e) (by rw [List.length_map])) (by omega))
        ?ok (pg1 4 nd) (by decide) (fun z hz s H C cl fp => ets_nil) (fun a hz _ s H C cl fp => ?elt) ?len) ?_ nd)
    case ok => exact blkOk_by (N := nPress) (sc := defScope stPress) (by decide +kernel)
    case elt =>
      have ha : a < ns.length := by rw [Int.toNat_natCast] at hz; exact List.mem_range.mp hz
      have hm : 0 ≤ (rowAt Pu i).getD a 0 ∧ (rowAt Pu i).getD a 0 ≤ 4 := r3 _ (by rw [List.getD_eq_getElem?_getD, List.getElem?_eq_getElem (by omega)]; exact List.getElem_mem _)
      exact EE.en (ee_bin og_add (ee_ixT (ee_name 1) (ee_name 4) (atI_int ha)) (ee_bin (og_mul (.inl ⟨by omega, by omega⟩)) (ee_ixT (ee_ixT (ee_name 0) (ee_name 2) (atI_row r1)) (ee_name 4) (atI_int (by omega))) (ee_ixT (ee_name 1) (ee_name 2) (atI_int (by omega))))) rfl
    case len => rw [List.length_range]; omega
    rw [filt_true, Int.toNat_natCast]
    refine ss_cons (s1_lput (j := i) 3 rfl (EE.en (ee_bin og_sub ee_int (ee_ixT (ee_name 1) (ee_name 2) (atI_int (by omega)))) rfl) (ee_name 2) rfl (by rw [List.length_map, List.length_range]; omega) ?_)
    refine ss_cons (s1_ret (EE.en (eg_callT (cg_tuple) B.tuple (ea_cons (ee_name 3) ea_nil) back_e) ?im) ?fin)
    case im =>
      rw [imm]
      exact immAll_mem fun x hx => by
        rcases List.mem_or_eq_of_mem_set hx with h | rfl
        · obtain ⟨z, _, rfl⟩ := List.mem_map.mp h
          rfl
        · rfl
    case fin => simp [pressM, iT, map_set, List.map_map, Function.comp_def]
end
end K33

set_option maxHeartbeats 1000000
/-! K33y: {tuple: v}, dict(list of pairs) with tuple keys. -/
namespace K33
open PySem PySem.Spec PyProof.Rows L2
section
variable {X : Cx}
def tDisp1T (tk tv : TE) : TE := fun σ H Q => ∀ p, H p = none → tPairs [(tk, tv)] σ (upd H p (.dT [])) fun ps H2 => ∃ z ks b, ps = [(V.ref b, z)] ∧ H2 b = some (.tup (ks.map kV)) ∧ H2 p = some (.dT []) ∧ Q (.ref p) (upd H2 p (.dT [(ks, z)]))
theorem pe_disp1T {k v : Expr} {pos : Pos} {tk tv : TE} (hu : X.A.units + 1 < cLine) (hk : PE X k tk) (hv : PE X v tv) : PE X (.Dict [some k] [v] pos) (tDisp1T tk tv) := by
  refine ⟨fun pins s σ H Q I q => ?_⟩
  have hn := I.hok.fresh (Nat.le_refl s.heap.objs.size)
  have I1 := I.laid (a := s.heap.objs.size) (o := .dT []) (h' := s.heap.push { cls := .type "dict", data := .dict #[] }) (t' := s.toks) (fun _ _ q => Heap.get?_push_of_some _ q) (Nat.le_refl _) (dt_empty s.heap I.big)
  rw [arm_eval_Dict, zip_pairTrees [some k] [v] X.env pos rfl rfl, dictDisplay_pairs (pairTrees [some k] [v] X.env pos) (by simp [pairTrees]) (by simp [pairTrees])]
  refine wpAny_bind (wpAny_standAt (wpAny_bind (wpAny_subDictH (knd := tupleKind (mixKind X.prog X.w)) (Q := fun d s' => wpAny (model X.prog X.w) X.A (pure (Value.ref d)) (EP X pins σ Q) X.xe s') (by show X.A.units < cLine; omega) (by simp [pairTrees]) ?_)))
  refine thn ((pps_cons hk hv pps_nil).run pins _ σ _ _ I1 (q _ hn)) fun ws s2 ⟨ps, H2, I2, rel, z, ks, b, ep, hb, hp, q2⟩ => ?_
  subst ep
  obtain ⟨u, w, rfl, ru, rw'⟩ : ∃ u w, ws = [(u, w)] ∧ L2.RelV (V.ref b) u ∧ L2.RelV z w := by
    cases rel with
    | cons h t => cases t; exact ⟨_, _, rfl, h.1, h.2⟩
  cases (show u = Value.ref b from ru)
  obtain ⟨z0, hd, xs, r0, dd⟩ := dt_of I2.hok hp
  cases r0
  refine ⟨[(ks, b, w)], ⟨rfl, rfl, key_of I2.hok hb, trivial⟩, dd, fun h' tk' dd' hs => wpAny_pure ?_⟩
  obtain ⟨ob, es, ep, hq, h2, h3, h4, _, h5⟩ := dd'
  refine ⟨.ref s.heap.objs.size, _, d_write (ob := .dT [(ks, z)]) I2 (by rw [hp]; exact True.intro) hs ⟨ob, hq⟩ ⟨by show 1 ≤ sizeLine; decide, hd, [(ks, b, w)], .cons ⟨rfl, ?_, rw'⟩ .nil, ob, es, ep, hq, h2, h3, h4, h5⟩, rfl, q2⟩
  rw [upd_ne (ne_of hb hp (fun z => nomatch z))]
  exact hb

/-- dict(pairs): the pairs' tuples T, their keys' tuples b -/
def rDictPT : List V → Hp → VK → Prop := fun vs H Q => ∃ (a : Addr) (ps : List (Addr × Addr × List L2.Key × V)), vs = [V.ref a] ∧ H a = some (.lst (ps.map fun p => V.ref p.1)) ∧ ps.length ≤ sizeLine ∧
  (∀ p ∈ ps, H p.1 = some (.tup [V.ref p.2.1, p.2.2.2]) ∧ H p.2.1 = some (.tup (p.2.2.1.map kV))) ∧ ∀ p, H p = none → Q (.ref p) (upd H p (.dT (putsK [] (ps.map fun p => (p.2.2.1, p.2.2.2)))))
theorem pair_vals {P : Program} {w : World} {H : Hp} {h : Heap} (ok : HOk P w H h) : ∀ (ps : List (Addr × Addr × List L2.Key × V)), (∀ p ∈ ps, H p.1 = some (.tup [V.ref p.2.1, p.2.2.2]) ∧ H p.2.1 = some (.tup (p.2.2.1.map kV))) →
    ∃ us : List Value, us.length = ps.length ∧ ∀ (j : Nat) p u, ps[j]? = some p → us[j]? = some u → L2.RelV p.2.2.2 u ∧ h.IsTuple p.1 #[Value.ref p.2.1, u]
  | [], _ => ⟨[], rfl, fun j p u e => by simp at e⟩
  | p :: ps, hh => by
    obtain ⟨us, hl, hu⟩ := pair_vals ok ps fun q hq => hh q (List.mem_cons_of_mem _ hq)
    obtain ⟨_, its, r, ht⟩ := (show ObjOk P w H h p.1 (.tup [V.ref p.2.1, p.2.2.2]) from ok _ _ (hh p List.mem_cons_self).1)
    obtain ⟨u, rfl, ru⟩ : ∃ u, its = [Value.ref p.2.1, u] ∧ L2.RelV p.2.2.2 u := by
      cases r with
      | cons q1 t =>
        cases t with
        | cons q2 t => cases t; cases q1; exact ⟨_, rfl, q2⟩
    refine ⟨u :: us, by rw [List.length_cons, List.length_cons, hl], fun j q v e1 e2 => ?_⟩
    cases j with
    | zero => cases (show some p = some q from e1); cases (show some u = some v from e2); exact ⟨ru, ht⟩
    | succ j => exact hu j q v e1 e2
theorem kt_pairs {H : Hp} : ∀ (ps : List (Addr × Addr × List L2.Key × V)) (us : List Value), us.length = ps.length → (∀ (j : Nat) p u, ps[j]? = some p → us[j]? = some u → L2.RelV p.2.2.2 u) → (∀ p ∈ ps, H p.2.1 = some (.tup (p.2.2.1.map kV))) →
    KT H (ps.map fun p => (p.2.2.1, p.2.2.2)) ((ps.zip us).map fun z => (z.1.2.2.1, z.1.2.1, z.2))
  | [], _, _, _, _ => .nil
  | p :: ps, [], h, _, _ => by simp at h
  | p :: ps, u :: us, h, hr, hk => .cons ⟨rfl, hk p List.mem_cons_self, hr 0 p u rfl rfl⟩ (kt_pairs ps us (by simpa using h) (fun j q v e1 e2 => hr (j + 1) q v e1 e2) fun q hq => hk q (List.mem_cons_of_mem _ hq))
theorem call_dictPT (hcalm : X.calm = true) (hu : X.A.units + 4 < cLine) : CallR X (.type "dict") rDictPT := by
  intro pins s σ H xs us Q I r h
  obtain ⟨a, ps, rfl, ha, hz, hp, q⟩ := h
  obtain ⟨u, eu, rx⟩ := vals1 r
  subst eu
  cases rx
  obtain ⟨z, its, n, rv, hl, e⟩ := I.lstM ha
  obtain ⟨vs, vl, hv⟩ := pair_vals I.hok ps hp
  have hil : its.length = ps.length := by rw [← rv.length, List.length_map]
  generalize hxs : ((ps.zip vs).map fun z => (z.1.2.2.1, z.1.2.1, z.2)) = ys
  have kt0 : KT H (ps.map fun p => (p.2.2.1, p.2.2.2)) ys := by
    rw [← hxs]
    exact kt_pairs ps vs vl (fun j p u e1 e2 => (hv j p u e1 e2).1) fun p hp' => (hp p hp').2
  have yl : ys.length = ps.length := by rw [← Paired.length kt0, List.length_map]
  have ok : PlainSeq "list" s.heap a its.toArray ∧ PairItems s.heap its.toArray (fun j => (ps.map (·.1)).getD j 0) ((ps.zip vs).map fun z => (Value.ref z.1.2.1, z.2)) := by
    refine ⟨⟨_, n, e, rfl, rfl, rfl⟩, ?_, fun j k v hj => ?_⟩
    · rw [List.size_toArray, hil, List.length_map, List.length_zip, vl, Nat.min_self]
    · rw [List.getElem?_map] at hj
      cases hz2 : (ps.zip vs)[j]? with
      | none => rw [hz2] at hj; cases hj
      | some zz =>
        rw [hz2] at hj
        cases hj
        obtain ⟨h1, h2⟩ := zip_get hz2
        have e3 : (ps.map (·.1)).getD j 0 = zz.1.1 := by rw [List.getD_eq_getElem?_getD, List.getElem?_map, h1]; rfl
        dsimp only
        rw [e3]
        refine ⟨?_, .inl (hv j _ _ h1 h2).2⟩
        obtain ⟨w0, hw0, rw0⟩ := rv.get (i := j) (x := V.ref zz.1.1) (by rw [List.getElem?_map, h1]; rfl)
        cases rw0
        rw [List.getElem?_toArray]
        exact hw0
  have P := PairArg.list (prog := X.prog) (w := X.w) a its.toArray (fun j => (ps.map (·.1)).getD j 0) ((ps.zip vs).map fun z => (Value.ref z.1.2.1, z.2))
  refine call_dict_pairsH (knd := tupleKind (mixKind X.prog X.w)) (ps := ys) P (I.ok.hd hcalm) (by show X.A.units + 1 + 1 < cLine; omega) ok ⟨?_, fun i key v hrel => ?_⟩ (fun h' hk x hx => ?_) (by rw [List.length_map, List.length_zip, vl, Nat.min_self]; exact hz) fun h' tk hd' hk => ?_
  · rw [yl, List.length_map, List.length_zip, vl, Nat.min_self]
  · have hrel : ((ps.zip vs).map fun z => (Value.ref z.1.2.1, z.2))[i]? = some (key, v) := hrel
    rw [List.getElem?_map] at hrel
    cases hz2 : (ps.zip vs)[i]? with
    | none => rw [hz2] at hrel; cases hrel
    | some zz =>
      rw [hz2] at hrel
      cases hrel
      exact ⟨zz.1.2.2.1, zz.1.2.1, by rw [← hxs, List.getElem?_map, hz2]; rfl, rfl⟩
  · rw [← hxs] at hx
    obtain ⟨zz, hzz, rfl⟩ := List.mem_map.mp hx
    have hm := (List.of_mem_zip hzz).1
    have k0 := key_of I.hok (hp _ hm).2
    obtain ⟨o, it, n0, h1, h2, h3, h4⟩ := k0
    exact ⟨o, it, n0, hk _ _ (Nat.ne_of_lt (Heap.lt_size h1)) (by simp) h1, h2, h3, h4⟩
  · obtain ⟨ob, es, ep, hq, h2, h3, h4, _, h5⟩ := hd'
    have kp : ∀ b o, s.heap.get? b = some o → h'.get? b = some o := fun b o e => hk b o (by simp) e
    have hn := I.hok.fresh (Nat.le_refl s.heap.objs.size)
    have hlen : (putsK [] (ps.map fun p => (p.2.2.1, p.2.2.2))).length ≤ sizeLine := by
      refine Nat.le_trans (putsK_len _ _) ?_
      rw [List.length_map]
      simpa using hz
    refine ⟨.ref s.heap.objs.size, upd H s.heap.objs.size (.dT (putsK [] (ps.map fun p => (p.2.2.1, p.2.2.2)))), I.laid (t' := tk) kp (Nat.le_refl _) ⟨hlen, beq_eq_false_iff_ne.mpr (Nat.ne_of_gt I.big), _, ((KT.puts (us := ps.map fun p => (p.2.2.1, p.2.2.2)) (ws := []) .nil kt0)).keeps fun b xs eb => ?_, ob, es, ep, hq, h2, h3, h4, h5⟩, rfl, q _ hn⟩
    rw [upd_ne (ne_of_none eb hn)]
    exact eb
end
section
variable {c : Ct} {X : Cx} {env : Ev'} {pos : Pos}
theorem em_disp1T {k v : Expr} {ks : List Int} {d : PyData} (hk : EE c X env k (.d (iT ks))) (hv : EE c X env v (.d d)) (hi : imm d = true) (hu : X.A.units + 1 < cLine) : EM c X env (.Dict [some k] [v] pos) (.dT [(ks, d)]) := fun σ H r Q q =>
  WE.of (pe_disp1T hu pe_w pe_w) fun p hp => by
    have s0 : Same H (upd H p (.dT [])) := same_upd hp
    refine hk σ _ (r.mono s0) _ fun y H1 s1 r1 => hv σ H1 (r.mono (s0.trans s1)) _ fun z H2 s2 r2 => ?_
    obtain ⟨b, rfl, hb⟩ := dq_key r1
    have hp2 : H2 p = some (.dT []) := s2 _ _ (s1 _ _ upd_same)
    refine ⟨z, _, b, rfl, s2 _ _ hb, hp2, q _ _ (fun a o e => ?_) ?_⟩
    · rw [upd_ne (ne_of_none e hp)]
      exact s2 _ _ (s1 _ _ (s0 _ _ e))
    · have e : tupsOf H2 p = none := by
        cases e : tupsOf H2 p with
        | none => rfl
        | some o => obtain ⟨e1, e2⟩ := tupsOf_at e; rw [hp2] at e1; cases e1; cases e2
      refine ⟨tupsOf H2, p, ⟨fun a o g => ?_, fun a o g => .inr (tupsOf_at g).2⟩, rfl, hp, e, [(tf ks, z)], upd_same, .cons ⟨rfl, Dq.tups _ _ hi r2⟩ .nil⟩
      rw [upd_ne (ne_of_none g e)]
      exact (tupsOf_at g).1
/-- dict([(k, v), ..]) -/
theorem cg_dictPT {kvs : List (List Int × PyData)} (hi : ∀ p ∈ kvs, imm p.2 = true) (hz : kvs.length ≤ 100000) (hu : X.A.units + 4 < cLine) (hcalm : X.calm = true := by rfl) : CG c X (.type "dict") [.d (.list (kvs.map fun p => .tuple [iT p.1, p.2]))] (RM c (.dT (putsT [] kvs))) :=
  ⟨_, call_dictPT hcalm hu, fun H vs rv Q q => by
    obtain ⟨v, rfl, r⟩ := rvs1 rv
    obtain ⟨a, ws, rfl, h1, h2⟩ := dq_lst r
    have key : ∀ {ws : List V} {kvs : List (List Int × PyData)}, DqAll c.K H ws (kvs.map fun p => .tuple [iT p.1, p.2]) → ∃ ps : List (Addr × Addr × List L2.Key × V), ws = ps.map (fun p => V.ref p.1) ∧ ps.length = kvs.length ∧
        (∀ p ∈ ps, H p.1 = some (.tup [V.ref p.2.1, p.2.2.2]) ∧ H p.2.1 = some (.tup (p.2.2.1.map kV))) ∧ KVt c H (ps.map fun p => (p.2.2.1, p.2.2.2)) kvs := by
      intro ws kvs h
      induction kvs generalizing ws with
      | nil => cases h; exact ⟨[], rfl, rfl, fun p hp => (by cases hp), .nil⟩
      | cons p kvs ih =>
        cases h with
        | cons d1 t =>
          obtain ⟨ps, rfl, hl, hp, kv⟩ := ih t
          cases d1 with
          | tup ht hd =>
            cases hd with
            | cons q1 t1 =>
              cases t1 with
              | cons q2 t2 =>
                cases t2
                obtain ⟨b, rfl, hb⟩ := dq_key (c := c) (show RV c H _ (.d (iT p.1)) from q1)
                refine ⟨(_, b, tf p.1, _) :: ps, rfl, by rw [List.length_cons, List.length_cons, hl], fun x hx => ?_, .cons ⟨rfl, q2⟩ kv⟩
                rcases List.mem_cons.mp hx with rfl | hx
                · exact ⟨ht, hb⟩
                · exact hp x hx
    obtain ⟨ps, rfl, hl, hp, kv⟩ := key h2
    refine ⟨a, ps, rfl, h1, by rw [hl]; exact Nat.le_trans hz (by decide), hp, fun p hpn => q _ _ (same_upd hpn) ?_⟩
    have e : tupsOf H p = none := by
      cases e : tupsOf H p with
      | none => rfl
      | some o => rw [(tupsOf_at e).1] at hpn; cases hpn
    exact ⟨tupsOf H, p, ⟨(tupsOf_sub H).trans (same_upd hpn), fun a o g => .inr (tupsOf_at g).2⟩, rfl, hpn, e, _, upd_same, KVt.puts .nil (KVt.tups hi kv)⟩⟩
end
end K33

set_option maxHeartbeats 400000
/-! K33z: _law_names, _law_reasons, _law_rooms. -/
namespace K33
open PySem PySem.Spec PyProof.Rows L2
section
variable {β : Type} (g : β → PyData)
def encG (w : List (List Int × β)) : List (List Int × PyData) := w.map fun p => (p.1, g p.2)
def lookG (w : List (List Int × β)) (k : List Int) : Option β := (w.find? fun p => decide (p.1 = k)).map (·.2)
def putG (w : List (List Int × β)) (k : List Int) (v : β) : List (List Int × β) := if (w.any fun p => decide (p.1 = k)) = true then w.map (fun p => if p.1 = k then (p.1, v) else p) else w ++ [(k, v)]
def putsG (w u : List (List Int × β)) : List (List Int × β) := u.foldl (fun acc p => putG acc p.1 p.2) w
theorem look_encG (w : List (List Int × β)) (k : List Int) : lookT (encG g w) k = (lookG w k).map g := by
  induction w with
  | nil => rfl
  | cons p w ih =>
    unfold lookT lookG encG at *
    rw [List.map_cons, List.find?_cons, List.find?_cons]
    by_cases h : p.1 = k
    · simp [h]
    · simp only [h, decide_false]
      exact ih
theorem put_encG (w : List (List Int × β)) (k : List Int) (v : β) : putT (encG g w) k (g v) = encG g (putG w k v) := by
  unfold putT putG encG
  rw [List.any_map]
  have e : ((fun p : List Int × PyData => decide (p.1 = k)) ∘ fun p : List Int × β => (p.1, g p.2)) = fun p => decide (p.1 = k) := rfl
  rw [e]
  split
  · rw [List.map_map, List.map_map]
    refine List.map_congr_left fun p _ => ?_
    simp only [Function.comp]
    split <;> rfl
  · rw [List.map_append]; rfl
theorem puts_encG : ∀ (u w : List (List Int × β)), putsT (encG g w) (encG g u) = encG g (putsG w u)
  | [], w => rfl
  | p :: u, w => by
    show putsT (putT (encG g w) p.1 (g p.2)) (encG g u) = encG g (putsG (putG w p.1 p.2) u)
    rw [put_encG, puts_encG u]
theorem keys_encG (w : List (List Int × β)) : keysT (encG g w) = w.map (·.1) := by unfold keysT encG; rw [List.map_map]; rfl
theorem encG_len (w : List (List Int × β)) : (encG g w).length = w.length := by unfold encG; rw [List.length_map]
theorem encG_imm (h : ∀ b, imm (g b) = true) (w : List (List Int × β)) : ∀ p ∈ encG g w, imm p.2 = true := fun p hp => by
  obtain ⟨q, _, rfl⟩ := List.mem_map.mp hp
  exact h _
end
section
variable {c : Ct} {P : Program} {w : World} {mg : Str → Option Value} {base : Heap} {f : Addr} {fd : FuncData} {nm : Str} {j k : Nat} {S : Sc}

/-! ### _law_names -/
def nameD (p : Str × Int) : PyData := .tuple [.str p.1, .int p.2]
abbrev nA (s : Str) (m : Int) : Str × Int := (s, m)
def repM (k : Bool) (p : Str × Int) : List (Str × Int) := if k = true then [p] else []
def nameStep (acc : List (Str × Int)) (m : Int) : List (Str × Int) :=
  ((((((acc ++ [(nA "a" m)]) ++ repM (decide (1 < m)) (nA "b" m)) ++ repM (decide (2 < m)) (nA "c" m)) ++ repM (decide (3 < m)) (nA "d" m)) ++ repM (decide (5 < m)) (nA "e" m)) ++ repM (decide (m = 4)) (nA "f" m)) ++ repM (decide (m = 2)) (nA "g" m)
def namesM (most : Nat) : List (Str × Int) := (List.range most).foldl (fun acc (i : Nat) => nameStep acc (1 + (i : Int))) []
def sNames : Sc := fun xs R => ∃ n : Nat, xs = [.d (.int n)] ∧ n ≤ 3 ∧ R = fun y => y = .d (.list ((namesM n).map nameD))
abbrev stNames : Stmt := top 47
abbrev nNames : List Str := ["_law_most", "_law_found", "_law_many"]
theorem scNames : FnScope nNames ["_law_most"] (defScope stNames) := ⟨rfl, rfl, rfl, by decide +kernel, rfl, by decide +kernel, by decide +kernel⟩
theorem imm_names (l : List (Str × Int)) : immAll (l.map nameD) = true := imm_ofM fun _ _ => rfl
section
variable {X : Cx} {env : Ev'} {a b : Expr} {pos : Pos}
theorem em_catN {l m : List (Str × Int)} (hz : l.length + m.length ≤ 100000) (ha : EE c X env a (.d (.list (l.map nameD)))) (hb : EE c X env b (.d (.list (m.map nameD)))) : EM c X env (.BinOp a .Add b pos) (.d (.list ((l ++ m).map nameD))) :=
  EM.is (em_bin (og_cat (imm_names l) (imm_names m) (by rw [List.length_map, List.length_map]; exact hz)) ha hb) (by rw [List.map_append])
theorem em_repN {k : Bool} {p : Str × Int} (ha : EE c X env a (.d (.list ([p].map nameD)))) (hb : EE c X env b (.d (.int (b2n k)))) : EM c X env (.BinOp a .Mult b pos) (.d (.list ((repM k p).map nameD))) :=
  EM.is (em_bin (og_rep (imm_names [p]) (by cases k <;> decide) (by cases k <;> simp [b2n])) ha hb) (by cases k <;> rfl)
end
theorem repM_len (k : Bool) (p : Str × Int) : (repM k p).length ≤ 1 := by unfold repM; split <;> simp
theorem own_names (D : Df c mg "_law_names" stNames ["_law_most"] f fd) (B : Bl mg) : Own c P w mg base "_law_names" 1 sNames := by
  refine own_mk D scNames (fun xs R h => ?_) (fun cdv A outer s H E hr xs R h => ?_)
  · obtain ⟨n, rfl, _⟩ := h
    rfl
  · obtain ⟨n, rfl, hn, rfl⟩ := h
    have nd := scNames.nd
    refine ss_cons (s1_own (x := .d (.list (([] : List (Str × Int)).map nameD))) 1 (em_lst ean_nil) ?_ nd)
    refine ss_cons (s1_for (src_rng2 2 1 ((n : Nat) + 1 : Int) B.range ee_int (ee_bin og_add (ee_name 0) ee_int) (by omega)) (pg_name nd rfl (Or.inl rfl) (Or.inr rfl))
      (fun i env' => ∃ a l, env' = [.fr (.d (.int (n : Nat))), .ow (.d (.list (l.map nameD))), a] ∧ l = ((List.range n).take i).foldl (fun acc (i : Nat) => nameStep acc (1 + (i : Int))) [] ∧ l.length ≤ 7 * i) ⟨_, [], rfl, rfl, by simp⟩ ?_ ?_)
    · rintro i z env' hz ⟨a, l, rfl, hl, hb⟩
      have en : (((n : Nat) : Int) + 1 - 1).toNat = n := by omega
      rw [en] at hz
      have tk : (List.range n).take (i + 1) = (List.range n).take i ++ [z] := by rw [List.take_add_one, hz]; rfl
      have hi : i < n := by have := (List.getElem?_eq_some_iff.mp hz).1; rw [List.length_range] at this; exact this
      have hm : ∀ {X : Cx} {env : Ev'} {pos : Pos}, True := fun {_ _ _} => trivial
      generalize hmz : (1 : Int) + (z : Int) = m
      have r1 := repM_len (decide (1 < m)) (nA "b" m)
      have r2 := repM_len (decide (2 < m)) (nA "c" m)
      have r3 := repM_len (decide (3 < m)) (nA "d" m)
      have r4 := repM_len (decide (5 < m)) (nA "e" m)
      have r5 := repM_len (decide (m = 4)) (nA "f" m)
      have r6 := repM_len (decide (m = 2)) (nA "g" m)
      generalize h1 : (l ++ [nA "a" m]) ++ repM (decide (1 < m)) (nA "b" m) ++ repM (decide (2 < m)) (nA "c" m) = l1
      generalize h2 : l1 ++ repM (decide (3 < m)) (nA "d" m) ++ repM (decide (5 < m)) (nA "e" m) = l2
      have b1 : l1.length ≤ l.length + 3 := by rw [← h1]; simp only [List.length_append, List.length_singleton]; omega
      have b2 : l2.length ≤ l.length + 5 := by rw [← h2]; simp only [List.length_append]; omega
      refine ss_cons (s1_own (x := .d (.list (l1.map nameD))) 1 ((EM.is (em_catN (l := l ++ [(nA "a" m)] ++ repM (decide (1 < m)) (nA "b" m)) (m := repM (decide (2 < m)) (nA "c" m)) ?z1 (EM.ee (em_catN (l := l ++ [(nA "a" m)]) (m := repM (decide (1 < m)) (nA "b" m)) ?z2 (EM.ee (em_catN (l := l) (m := [(nA "a" m)]) ?z3 (ee_name 1) (EM.ee (em_lst (ds := [nameD (nA "a" m)]) (ean_cons (EE.en (ee_tup (ds := [.str "a", .int m]) (ea_cons ee_str (ea_cons (EE.is (ee_name 2) (by rw [← hmz])) ea_nil)) (by simp)) rfl) ean_nil) (by simp)))))
        (EM.ee (em_repN (EM.ee (em_lst (ds := [nameD (nA "b" m)]) (ean_cons (EE.en (ee_tup (ds := [.str "b", .int m]) (ea_cons ee_str (ea_cons (EE.is (ee_name 2) (by rw [← hmz])) ea_nil)) (by simp)) rfl) ean_nil) (by simp))) (eg_callT (cg_intb (k := decide (1 < m))) B.int (ea_cons (ee_cmp og_gt (EE.is (ee_name 2) (by rw [← hmz])) ee_int) ea_nil) back_e)))))
        (EM.ee (em_repN (EM.ee (em_lst (ds := [nameD (nA "c" m)]) (ean_cons (EE.en (ee_tup (ds := [.str "c", .int m]) (ea_cons ee_str (ea_cons (EE.is (ee_name 2) (by rw [← hmz])) ea_nil)) (by simp)) rfl) ean_nil) (by simp))) (eg_callT (cg_intb (k := decide (2 < m))) B.int (ea_cons (ee_cmp og_gt (EE.is (ee_name 2) (by rw [← hmz])) ee_int) ea_nil) back_e)))) (by rw [h1]))) ?_ nd)
      case z1 => simp only [List.length_append, List.length_singleton]; omega
      case z2 => simp only [List.length_append, List.length_singleton]; omega
      case z3 => simp only [List.length_singleton]; omega
      refine ss_cons (s1_own (x := .d (.list (l2.map nameD))) 1 ((EM.is (em_catN (l := l1 ++ repM (decide (3 < m)) (nA "d" m)) (m := repM (decide (5 < m)) (nA "e" m)) ?z4 (EM.ee (em_catN (l := l1) (m := repM (decide (3 < m)) (nA "d" m)) ?z5 (ee_name 1)
        (EM.ee (em_repN (EM.ee (em_lst (ds := [nameD (nA "d" m)]) (ean_cons (EE.en (ee_tup (ds := [.str "d", .int m]) (ea_cons ee_str (ea_cons (EE.is (ee_name 2) (by rw [← hmz])) ea_nil)) (by simp)) rfl) ean_nil) (by simp))) (eg_callT (cg_intb (k := decide (3 < m))) B.int (ea_cons (ee_cmp og_gt (EE.is (ee_name 2) (by rw [← hmz])) ee_int) ea_nil) back_e)))))
        (EM.ee (em_repN (EM.ee (em_lst (ds := [nameD (nA "e" m)]) (ean_cons (EE.en (ee_tup (ds := [.str "e", .int m]) (ea_cons ee_str (ea_cons (EE.is (ee_name 2) (by rw [← hmz])) ea_nil)) (by simp)) rfl) ean_nil) (by simp))) (eg_callT (cg_intb (k := decide (5 < m))) B.int (ea_cons (ee_cmp og_gt (EE.is (ee_name 2) (by rw [← hmz])) ee_int) ea_nil) back_e)))) (by rw [h2]))) ?_ nd)
      case z4 => simp only [List.length_append]; omega
      case z5 => omega
      refine ss_cons (s1_own (x := .d (.list ((nameStep l m).map nameD))) 1 ((EM.is (em_catN (l := l2 ++ repM (decide (m = 4)) (nA "f" m)) (m := repM (decide (m = 2)) (nA "g" m)) ?z6 (EM.ee (em_catN (l := l2) (m := repM (decide (m = 4)) (nA "f" m)) ?z7 (ee_name 1)
        (EM.ee (em_repN (EM.ee (em_lst (ds := [nameD (nA "f" m)]) (ean_cons (EE.en (ee_tup (ds := [.str "f", .int m]) (ea_cons ee_str (ea_cons (EE.is (ee_name 2) (by rw [← hmz])) ea_nil)) (by simp)) rfl) ean_nil) (by simp))) (eg_callT (cg_intb (k := decide (m = 4))) B.int (ea_cons (ee_cmp (og_eq (d := .int m) (f := .int 4) hr.units (shaped_int _) (shaped_int _) (eqv_int _ _)) (EE.is (ee_name 2) (by rw [← hmz])) ee_int) ea_nil) back_e)))))
        (EM.ee (em_repN (EM.ee (em_lst (ds := [nameD (nA "g" m)]) (ean_cons (EE.en (ee_tup (ds := [.str "g", .int m]) (ea_cons ee_str (ea_cons (EE.is (ee_name 2) (by rw [← hmz])) ea_nil)) (by simp)) rfl) ean_nil) (by simp))) (eg_callT (cg_intb (k := decide (m = 2))) B.int (ea_cons (ee_cmp (og_eq (d := .int m) (f := .int 2) hr.units (shaped_int _) (shaped_int _) (eqv_int _ _)) (EE.is (ee_name 2) (by rw [← hmz])) ee_int) ea_nil) back_e)))) (by rw [← h2, ← h1]; rfl))) (ss_nil ?_) nd)
      case z6 => simp only [List.length_append]; omega
      case z7 => omega
      refine ⟨_, nameStep l m, rfl, ?_, ?_⟩
      · rw [tk, List.foldl_append, ← hl]
        show nameStep l m = nameStep l (1 + (z : Int))
        rw [hmz]
      · unfold nameStep
        simp only [List.length_append, List.length_singleton]
        omega
    · rintro env' ⟨a, l, rfl, hl, hb⟩
      have en : (((n : Nat) : Int) + 1 - 1).toNat = n := by omega
      rw [en, List.length_range, List.take_of_length_le (by rw [List.length_range]; omega)] at hl
      refine ss_cons (s1_retO 1 rfl ?_ (imm_names l))
      rw [hl]; rfl
end
end K33

set_option maxHeartbeats 400000
/-! K33za: _law_reasons, _law_rooms. -/
namespace K33
open PySem PySem.Spec PyProof.Rows L2
theorem hu0 {k : Nat} {A : Around} (r : Room k A) : A.units < cLine := by have := r.un; omega
section
variable {c : Ct} {P : Program} {w : World} {mg : Str → Option Value} {base : Heap} {f : Addr} {fd : FuncData} {nm : Str} {j k : Nat} {S : Sc}

/-! ### _law_reasons -/
def insM (lot : List (List Int)) (a b : List Int) : Int := b2n (inL lot a) + b2n (inL lot b)
def lhitM (ups lot : List (List Int)) (a b : List Int) : Bool := HT.lexLt a b && inL ups (lplusM a b) && ((inL lot (lplusM a b) && decide (insM lot a b = 0)) || (!inL lot (lplusM a b) && decide (insM lot a b = 2)))
def lrowM (ups lot : List (List Int)) (a : List Int) (rest : List (List Int)) : List Tri := (rest.filter (lhitM ups lot a)).map fun b => (a, b, lplusM a b)
def lreasM (ups lot : List (List Int)) : List Tri := sortG (lexP HT.lexLt (lexP HT.lexLt HT.lexLt)) ((ups.map fun a => lrowM ups lot a ups).flatten)
def sLReas : Sc := fun xs R => ∃ n ups lot, xs = [.d (.list (tups ups)), .d (.list (tups lot))] ∧ n ≤ 8 ∧ (∀ a ∈ ups, a.length = n) ∧ ups.length ≤ 100 ∧ R = fun y => y = .d (.list ((lreasM ups lot).map triD))
abbrev stLReas : Stmt := top 57
abbrev nLReas : List Str := ["_law_up_here", "_law_lot", "_law_found", "_law_one", "_law_other", "_law_whole", "_law_inside"]
theorem scLReas : FnScope nLReas ["_law_up_here", "_law_lot"] (defScope stLReas) := ⟨rfl, rfl, rfl, by decide +kernel, rfl, by decide +kernel, by decide +kernel⟩
theorem imm_triD (t : Tri) : imm (triD t) = true := imm_triple _ _ _
theorem ltg_tri : Ltg (lexP HT.lexLt (lexP HT.lexLt HT.lexLt)) := ltg_ints.pair (ltg_ints.pair ltg_ints)
theorem triD_depth (t : Tri) : (triD t).depth ≤ 8 := by
  unfold triD tripleD
  simp only [PyData.depth, PyData.depthAll, depth_iT]
  decide
theorem flat_len {α β : Type} {l : List α} {f : α → List β} {n : Nat} (h : ∀ a ∈ l, (f a).length ≤ n) : (l.map f).flatten.length ≤ l.length * n := by
  induction l with
  | nil => simp
  | cons a l ih =>
    rw [List.map_cons, List.flatten_cons, List.length_append, List.length_cons, Nat.succ_mul]
    have h1 := h a List.mem_cons_self
    have h2 := ih fun b hb => h b (List.mem_cons_of_mem _ hb)
    omega
theorem own_lreas (D : Df c mg "_law_reasons" stLReas ["_law_up_here", "_law_lot"] f fd) (B : Bl mg) (OP : Own c P w mg base "_law_plus" 1 sLPlus) : Own c P w mg base "_law_reasons" 2 sLReas := by
  refine own_mk D scLReas (fun xs R h => ?_) (fun cdv A outer s H E hr xs R h => ?_)
  · obtain ⟨n, ups, lot, rfl, _⟩ := h
    rfl
  · obtain ⟨n, ups, lot, rfl, hn, hu, hul, rfl⟩ := h
    have nd := scLReas.nd
    have rowl : ∀ a (rest : List (List Int)), (lrowM ups lot a rest).length ≤ rest.length := fun a rest => by unfold lrowM; rw [List.length_map]; exact List.length_filter_le _ _
    refine ss_cons (s1_own (x := .d (.list (([] : List Tri).map triD))) 2 (em_lst ean_nil) ?_ nd)
    refine ss_cons (s1_for (src_list 3 ups iT (ef_name 0)) (pg_name nd rfl (Or.inl rfl) (Or.inr rfl))
      (fun i env' => ∃ a b d e, env' = [.fr (.d (.list (tups ups))), .fr (.d (.list (tups lot))), .ow (.d (.list ((((ups.take i).map fun a => lrowM ups lot a ups).flatten).map triD))), a, b, d, e]) ⟨_, _, _, _, rfl⟩ ?_ ?_)
    · rintro i one env' hz ⟨a, b, d, e, rfl⟩
      have m1 := List.mem_of_getElem? hz
      have tk : ups.take (i + 1) = ups.take i ++ [one] := by rw [List.take_add_one, hz]; rfl
      have fl : (((ups.take i).map fun a => lrowM ups lot a ups).flatten).length ≤ 10000 := by
        refine Nat.le_trans (flat_len (n := 100) fun a _ => Nat.le_trans (rowl a ups) hul) ?_
        rw [List.length_take]
        have : min i ups.length ≤ 100 := by omega
        exact Nat.mul_le_mul_right 100 this
      refine ss_cons (s1_for (src_list 4 ups iT (ef_name 0)) (pg_name nd rfl (Or.inl rfl) (Or.inr rfl))
        (fun j env' => ∃ b d e, env' = [.fr (.d (.list (tups ups))), .fr (.d (.list (tups lot))), .ow (.d (.list ((((ups.take i).map fun a => lrowM ups lot a ups).flatten ++ lrowM ups lot one (ups.take j)).map triD))), .fr (.d (iT one)), b, d, e]) ⟨_, _, _, by
          have e0 : lrowM ups lot one (ups.take 0) = [] := rfl
          rw [e0, List.append_nil]
          rfl⟩ ?_ ?_)
      · rintro j other env' hz2 ⟨b, d, e, rfl⟩
        have m2 := List.mem_of_getElem? hz2
        have tk2 : ups.take (j + 1) = ups.take j ++ [other] := by rw [List.take_add_one, hz2]; rfl
        have row1 : lrowM ups lot one (ups.take (j + 1)) = lrowM ups lot one (ups.take j) ++ (if lhitM ups lot one other = true then [(one, other, lplusM one other)] else []) := by
          unfold lrowM
          rw [tk2, List.filter_append, List.map_append, List.filter_cons, List.filter_nil]
          split <;> rfl
        have l1 := hu one m1
        have l2 := hu other m2
        refine ss_cons (s1_asg (x := .d (iT (lplusM one other))) 5 (EN.ef (en_call (S := sLPlus) (k := 1) (xs := [.d (iT one), .d (iT other)]) OP hr (ea_cons (ee_name 3) (ea_cons (ee_name 4) ea_nil)) ⟨one, other, rfl, by omega, by omega, rfl⟩)) ?_ nd)
        refine ss_cons (s1_if (k := HT.lexLt one other && inL ups (lplusM one other)) (et_and2 (et_cmp (og_ltT (hu0 hr)) (ee_name 3) (ee_name 4)) fun _ => et_cmp (og_in (hu65 hr) (shaped_iT (lplusM one other)) (shaped_tups ups) (any_tups _ _)) (ee_name 5) (ee_name 0)) (fun e1 => ?_) fun e1 => ss_nil (ss_nil ?_))
        · refine ss_cons (s1_asg (x := .d (.int (insM lot one other))) 6 (EN.ef (EE.en (ee_bin og_add (eg_callT (cg_intb (k := inL lot one)) B.int (ea_cons (ee_cmp (og_in (hu65 hr) (shaped_iT one) (shaped_tups lot) (any_tups _ _)) (ee_name 3) (ee_name 1)) ea_nil) back_e)
            (eg_callT (cg_intb (k := inL lot other)) B.int (ea_cons (ee_cmp (og_in (hu65 hr) (shaped_iT other) (shaped_tups lot) (any_tups _ _)) (ee_name 4) (ee_name 1)) ea_nil) back_e)) rfl)) ?_ nd)
          refine ss_cons (s1_if (k := (inL lot (lplusM one other) && decide (insM lot one other = 0)) || (!inL lot (lplusM one other) && decide (insM lot one other = 2)))
            (et_or2 (et_and2 (et_cmp (og_in (hu65 hr) (shaped_iT (lplusM one other)) (shaped_tups lot) (any_tups _ _)) (ee_name 5) (ee_name 1)) fun _ => et_cmp (og_eq (d := .int (insM lot one other)) (f := .int 0) hr.units (shaped_int _) (shaped_int _) (eqv_int _ _)) (ee_name 6) ee_int)
              fun _ => et_and2 (et_cmp (og_notIn (k := !inL lot (lplusM one other)) (hu65 hr) (shaped_iT (lplusM one other)) (shaped_tups lot) (by rw [any_tups, Bool.not_not]; rfl)) (ee_name 5) (ee_name 1)) fun _ => et_cmp (og_eq (d := .int (insM lot one other)) (f := .int 2) hr.units (shaped_int _) (shaped_int _) (eqv_int _ _)) (ee_name 6) ee_int) (fun e2 => ?_) fun e2 => ss_nil (ss_nil (ss_nil ?_)))
          · refine ss_cons (s1_app (d := triD (one, other, lplusM one other)) 2 rfl (EE.en (ee_tup (ds := [iT one, iT other, iT (lplusM one other)]) (ea_cons (ee_name 3) (ea_cons (ee_name 4) (ea_cons (ee_name 5) ea_nil))) (by simp)) (imm_triple _ _ _)) ?_ (ss_nil (ss_nil (ss_nil ?_))))
            · rw [List.length_map, List.length_append]
              have := rowl one (ups.take j)
              rw [List.length_take] at this
              omega
            · have hh : lhitM ups lot one other = true := by unfold lhitM; rw [e1, e2]; rfl
              rw [row1, if_pos hh, ← List.append_assoc, List.map_append (l₂ := [(one, other, lplusM one other)])]
              exact ⟨_, _, _, rfl⟩
          · have hh : ¬ lhitM ups lot one other = true := by unfold lhitM; rw [e1, e2]; exact Bool.false_ne_true
            rw [row1, if_neg hh, List.append_nil]
            exact ⟨_, _, _, rfl⟩
        · have hh : ¬ lhitM ups lot one other = true := by unfold lhitM; rw [e1]; exact Bool.false_ne_true
          rw [row1, if_neg hh, List.append_nil]
          exact ⟨_, _, _, rfl⟩
      · rintro env' ⟨b, d, e, rfl⟩
        have eT : ((ups.take (i + 1)).map fun a => lrowM ups lot a ups).flatten = ((ups.take i).map fun a => lrowM ups lot a ups).flatten ++ lrowM ups lot one ups := by
          rw [tk, List.map_append, List.flatten_append, List.map_cons, List.map_nil, List.flatten_cons, List.flatten_nil, List.append_nil]
        rw [List.take_length]
        refine ss_nil ?_
        rw [eT]
        exact ⟨_, _, _, _, rfl⟩
    · rintro env' ⟨a, b, d, e, rfl⟩
      rw [List.take_length]
      refine ss_cons (s1_ret (EM.en (EM.is (eg_callB (cg_sortD (bs := (ups.map fun a => lrowM ups lot a ups).flatten) (enc := triD) ?al (.inl ?so) (fun b _ => triD_depth b) (fun b _ => imm_triD b) (hu65 hr |> fun h => by exact Nat.lt_of_succ_lt h)) B.sorted (ea_cons (ee_name 2) ea_nil) back_m) (by rw [msortG ltg_tri triD_lt]; rfl))) rfl)
      case so =>
        intro d hd
        obtain ⟨t, _, rfl⟩ := List.mem_map.mp hd
        exact ⟨_, _, rfl⟩
      case al =>
        intro d hd d' hd'
        obtain ⟨t, _, rfl⟩ := List.mem_map.mp hd
        obtain ⟨t', _, rfl⟩ := List.mem_map.mp hd'
        unfold triD tripleD
        simp only [PySem.W.alike, PySem.W.alikeAll, alike_iT]
        rfl
end
end K33

set_option maxHeartbeats 400000
/-! K33zb: _law_rooms. -/
namespace K33
open PySem PySem.Spec PyProof.Rows L2
abbrev Fi := List (List Int × Int)
abbrev encI : Fi → List (List Int × PyData) := encG PyData.int
abbrev Rst := Fi × List (List Int)
def roomLamp (P : List (List Int)) (t : Int) (room : List Int) (s : Rst) (i : Nat) : Rst :=
  if (lookG s.1 (pressM P room i)).isSome = true then s else (putG s.1 (pressM P room i) (t + 1), s.2 ++ [pressM P room i])
def roomRoom (P : List (List Int)) (t : Int) (s : Rst) (room : List Int) : Option Rst :=
  if room.length ≠ P.length ∨ s.1.length > 1000 ∨ s.2.length > 1000 then none else some ((List.range P.length).foldl (roomLamp P t room) s)
def roomTurn (P : List (List Int)) (most : Int) (s : Rst) (t : Nat) : Option Rst :=
  match s.2.foldlM (roomRoom P (t : Int)) (s.1, []) with
  | none => none
  | some r => if (r.1.length : Int) > most then none else some r
def roomsM (P : List (List Int)) (most : Int) (deep : Nat) : Option Rst :=
  (List.range deep).foldlM (roomTurn P most) ([(List.replicate P.length 1, 0)], [List.replicate P.length 1])
theorem imm_encI (w : Fi) : immS (.dT (encI w)) := fun p hp => encG_imm (g := PyData.int) (fun _ => rfl) w p hp
theorem putG_len {β : Type} (w : List (List Int × β)) (k : List Int) (v : β) : (putG w k v).length ≤ w.length + 1 := by
  unfold putG
  split
  · rw [List.length_map]; omega
  · rw [List.length_append]; simp
theorem roomLamp_len (P : List (List Int)) (t : Int) (room : List Int) (s : Rst) (i : Nat) : (roomLamp P t room s i).1.length ≤ s.1.length + 1 ∧ (roomLamp P t room s i).2.length ≤ s.2.length + 1 := by
  unfold roomLamp
  split
  · exact ⟨by omega, by omega⟩
  · exact ⟨putG_len _ _ _, by rw [List.length_append]; simp⟩
theorem roomLamps_len (P : List (List Int)) (t : Int) (room : List Int) : ∀ (l : List Nat) (s : Rst), (l.foldl (roomLamp P t room) s).1.length ≤ s.1.length + l.length ∧ (l.foldl (roomLamp P t room) s).2.length ≤ s.2.length + l.length
  | [], s => ⟨Nat.le_refl _, Nat.le_refl _⟩
  | i :: l, s => by
    have h1 := roomLamp_len P t room s i
    have h2 := roomLamps_len P t room l (roomLamp P t room s i)
    rw [List.foldl_cons, List.length_cons]
    omega
section
variable {c : Ct} {P : Program} {w : World} {mg : Str → Option Value} {base : Heap} {f : Addr} {fd : FuncData} {nm : Str} {j k : Nat} {S : Sc}
def sLRooms : Sc := fun xs R => ∃ P most deep r, xs = [.d (.tuple (tups P)), .d (.int most), .d (.int (deep : Nat))] ∧ hallOk P = true ∧ deep ≤ 100 ∧ roomsM P most deep = some r ∧ R = fun y => y = .dT (encI r.1)
abbrev stLRooms : Stmt := top 52
abbrev nLRooms : List Str := ["_law_pushes", "_law_most", "_law_deep", "_law_first", "_law_found", "_law_layer", "_law_turn", "_law_later", "_law_room", "_law_lamp", "_law_there"]
theorem scLRooms : FnScope nLRooms ["_law_pushes", "_law_most", "_law_deep"] (defScope stLRooms) := ⟨rfl, rfl, rfl, by decide +kernel, rfl, by decide +kernel, by decide +kernel⟩
theorem own_lrooms (D : Df c mg "_law_rooms" stLRooms ["_law_pushes", "_law_most", "_law_deep"] f fd) (B : Bl mg) (OP : Own c P w mg base "_law_press" 1 sPress) : Own c P w mg base "_law_rooms" 2 sLRooms := by
  refine own_mk D scLRooms (fun xs R h => ?_) (fun cdv A outer s H E hr xs R h => ?_)
  · obtain ⟨P, most, deep, r, rfl, _⟩ := h
    rfl
  · obtain ⟨Pu, most, deep, r, rfl, ok, hdp, hrm, rfl⟩ := h
    have nd := scLRooms.nd
    have hl := hallOk_len ok
    have tl : (tups Pu).length = Pu.length := by unfold tups; rw [List.length_map]
    refine ss_cons (s1_asg (x := .d (iT (List.replicate Pu.length 1))) 3 (EN.ef (EE.en (ee_bin (og_ones ⟨by omega, by omega⟩) (ee_tup (ds := [.int 1]) (ea_cons ee_int ea_nil) (by simp)) (EE.is (eg_callB (cg_lenT (ds := tups Pu)) B.len (ea_cons (ee_name 0) ea_nil) back_e) (by rw [tl]))) (imm_iT _))) ?_ nd)
    refine ss_cons (s1_par (x := .dT [(List.replicate Pu.length 1, .int 0)]) (y := .d (.list [iT (List.replicate Pu.length 1)])) 4 5 true false (ex_m (em_disp1T (ee_name 3) ee_int rfl (hu1 hr))) (ex_f (EN.ef (EM.en (em_lst (ds := [iT (List.replicate Pu.length 1)]) (ean_cons (EE.en (ee_name 3) (imm_iT _)) ean_nil) (by simp))))) ?_ nd (by show 4 < 11; decide) (by decide))
    refine ss_cons (s1_for (src_rng1 6 (deep : Nat) B.range (ee_name 2) (by omega)) (pg_name nd rfl (Or.inl rfl) (Or.inr rfl))
      (fun i env' => ∃ (g : Fi) (layer : List (List Int)) (x6 x7 x8 x9 x10 : Sl), env' = [.fr (.d (.tuple (tups Pu))), .fr (.d (.int most)), .fr (.d (.int (deep : Nat))), .fr (.d (iT (List.replicate Pu.length 1))), .ow (.dT (encI g)), .fr (.d (.list (tups layer))), x6, x7, x8, x9, x10] ∧ ((List.range ((deep : Nat) : Int).toNat).drop i).foldlM (roomTurn Pu most) (g, layer) = some r)
      ⟨[(List.replicate Pu.length 1, 0)], [List.replicate Pu.length 1], _, _, _, _, _, rfl, by rw [Int.toNat_natCast]; exact hrm⟩ ?_ ?_)
    · rintro i t env' hz ⟨g, layer, x6, x7, x8, x9, x10, rfl, hfo⟩
      obtain ⟨s', ht, hrest⟩ := fold_step hz hfo
      unfold roomTurn at ht
      cases hla : layer.foldlM (roomRoom Pu (t : Int)) (g, []) with
      | none => rw [show (g, layer).2 = layer from rfl, show (g, layer).1 = g from rfl, hla] at ht; cases ht
      | some s2 =>
        rw [show (g, layer).2 = layer from rfl, show (g, layer).1 = g from rfl, hla] at ht
        simp only at ht
        refine ss_cons (s1_own (x := .d (.list (tups []))) 7 (em_lst ean_nil) ?_ nd)
        refine ss_cons (s1_for (src_list 8 layer iT (ef_name 5)) (pg_name nd rfl (Or.inl rfl) (Or.inr rfl))
          (fun j env' => ∃ (s3 : Rst) (x8 x9 x10 : Sl), env' = [.fr (.d (.tuple (tups Pu))), .fr (.d (.int most)), .fr (.d (.int (deep : Nat))), .fr (.d (iT (List.replicate Pu.length 1))), .ow (.dT (encI s3.1)), .fr (.d (.list (tups layer))), .fr (.d (.int (t : Nat))), .ow (.d (.list (tups s3.2))), x8, x9, x10] ∧ (layer.drop j).foldlM (roomRoom Pu (t : Int)) s3 = some s2)
          ⟨(g, []), _, _, _, rfl, hla⟩ ?_ ?_)
        · rintro j room env' hz2 ⟨s3, x8, x9, x10, rfl, hfo2⟩
          obtain ⟨s4, hs4, hrest2⟩ := fold_step hz2 hfo2
          unfold roomRoom at hs4
          split at hs4
          · cases hs4
          rename_i hbad
          have rl : room.length = Pu.length := Classical.byContradiction fun z => hbad (.inl z)
          have l1 : s3.1.length ≤ 1000 := Nat.le_of_not_lt fun z => hbad (.inr (.inl z))
          have l2 : s3.2.length ≤ 1000 := Nat.le_of_not_lt fun z => hbad (.inr (.inr z))
          have hs4 := Option.some.inj hs4
          refine ss_cons (s1_for (src_rng1 9 (Pu.length : Nat) B.range (EE.is (eg_callB (cg_lenT (ds := tups Pu)) B.len (ea_cons (ee_name 0) ea_nil) back_e) (by rw [tl])) (by omega)) (pg_name nd rfl (Or.inl rfl) (Or.inr rfl))
            (fun k env' => ∃ (x9 x10 : Sl), env' = [.fr (.d (.tuple (tups Pu))), .fr (.d (.int most)), .fr (.d (.int (deep : Nat))), .fr (.d (iT (List.replicate Pu.length 1))), .ow (.dT (encI (((List.range Pu.length).take k).foldl (roomLamp Pu (t : Int) room) s3).1)), .fr (.d (.list (tups layer))), .fr (.d (.int (t : Nat))), .ow (.d (.list (tups (((List.range Pu.length).take k).foldl (roomLamp Pu (t : Int) room) s3).2))), .fr (.d (iT room)), x9, x10])
            ⟨_, _, rfl⟩ ?_ ?_)
          · rintro k l env' hz3 ⟨x9, x10, rfl⟩
            rw [Int.toNat_natCast] at hz3
            have hlt : l < Pu.length := List.mem_range.mp (List.mem_of_getElem? hz3)
            have tk : (List.range Pu.length).take (k + 1) = (List.range Pu.length).take k ++ [l] := by rw [List.take_add_one, hz3]; rfl
            have ll := roomLamps_len Pu (t : Int) room ((List.range Pu.length).take k) s3
            have lt : ((List.range Pu.length).take k).length ≤ 8 := by rw [List.length_take, List.length_range]; omega
            rw [tk, List.foldl_append, List.foldl_cons, List.foldl_nil]
            generalize ((List.range Pu.length).take k).foldl (roomLamp Pu (t : Int) room) s3 = s5 at ll
            refine ss_cons (s1_asg (x := .d (iT (pressM Pu room l))) 10 (EN.ef (en_call (S := sPress) (k := 1) (xs := [.d (.tuple (tups Pu)), .d (iT room), .d (.int (l : Nat))]) OP hr (ea_cons (ee_name 0) (ea_cons (ee_name 8) (ea_cons (ee_name 9) ea_nil))) ⟨Pu, room, l, rfl, ok, hlt, rl, rfl⟩)) ?_ nd)
            refine ss_cons (s1_if (ET.is (et_dnin (.t (encI s5.1) (pressM Pu room l)) (hu1 hr) (ee_name 10) (ee_name 4)) (show _ = !(lookG s5.1 (pressM Pu room l)).isSome by rw [look_encG, Option.isSome_map])) (fun e => ?_) fun e => ss_nil (ss_nil ?_))
            · have ne : ¬ (lookG s5.1 (pressM Pu room l)).isSome = true := by rw [not_f e]; exact Bool.false_ne_true
              have es : roomLamp Pu (t : Int) room s5 l = (putG s5.1 (pressM Pu room l) ((t : Int) + 1), s5.2 ++ [pressM Pu room l]) := by unfold roomLamp; rw [if_neg ne]
              refine ss_cons (s1_dput (d := .int ((t : Int) + 1)) 4 rfl (.t (encI s5.1) (pressM Pu room l) _ (by rw [encG_len]; omega)) (hu1 hr) (EE.en (ee_bin og_add (ee_name 6) ee_int) rfl) (ee_name 10) ?_)
              rw [put_encG]
              refine ss_cons (s1_app (d := iT (pressM Pu room l)) 7 rfl (EE.en (ee_name 10) (imm_iT _)) (by unfold tups; rw [List.length_map]; omega) (ss_nil (ss_nil ?_)))
              have et : tups s5.2 ++ [iT (pressM Pu room l)] = tups (s5.2 ++ [pressM Pu room l]) := by unfold tups; rw [List.map_append]; rfl
              rw [et, es]
              exact ⟨_, _, rfl⟩
            · have es : roomLamp Pu (t : Int) room s5 l = s5 := by unfold roomLamp; rw [if_pos (not_t e)]
              rw [es]
              exact ⟨_, _, rfl⟩
          · rintro env' ⟨x9, x10, rfl⟩
            rw [List.take_of_length_le (by rw [List.length_range, List.length_range, Int.toNat_natCast]; omega), hs4]
            exact ss_nil ⟨s4, _, _, _, rfl, hrest2⟩
        · rintro env' ⟨s3, x8, x9, x10, rfl, hfo2⟩
          have e := fold_end hfo2
          subst e
          refine ss_cons (s1_if (k := decide (most < (s3.1.length : Nat))) (et_cmp og_gt (EE.is (eg_callB (cg_lenDT (kvs := encI s3.1)) B.len (ea_cons (ee_name 4) ea_nil) back_e) (by rw [encG_len])) (ee_name 1)) (fun e => ?_) fun e => ss_nil ?_)
          · rw [if_pos (of_decide_eq_true e)] at ht
            cases ht
          · rw [if_neg (of_decide_eq_false e)] at ht
            have ht := Option.some.inj ht
            subst ht
            refine ss_freeze 7 rfl (ss_cons (s1_asg (x := .d (.list (tups s3.2))) 5 (ef_name 7) (ss_nil ?_) nd))
            exact ⟨s3.1, s3.2, _, _, _, _, _, rfl, hrest⟩
    · rintro env' ⟨g, layer, x6, x7, x8, x9, x10, rfl, hfo⟩
      have e := fold_end hfo
      subst e
      exact ss_cons (s1_retO 4 rfl rfl (imm_encI _))
end
end K33

set_option maxHeartbeats 400000
/-! K33zc: _law_arrows, _law_up. -/
namespace K33
open PySem PySem.Spec PyProof.Rows L2
theorem hu4 {k : Nat} {A : Around} (r : Room k A) : A.units + 4 < cLine := by have := r.un; omega
abbrev Fb := List (List Int × Bool)
abbrev encB : Fb → List (List Int × PyData) := encG PyData.bool
def unitsL (n : Nat) : List (List Int) := (List.range n).map fun i : Nat => (List.range n).map fun o : Nat => b2n (decide ((i : Int) = (o : Int)))
def ownA (P : List (List Int)) (a : List Int) (i : Nat) : Int := ((List.range P.length).map fun o : Nat => (rowAt P i).getD o 0 * a.getD o 0).sum - a.getD i 0
def otherA (P : List (List Int)) (a : List Int) (i : Nat) : List Int := (a.take i ++ [ownA P a i]) ++ a.drop (i + 1)
abbrev Ast := Fb × List (List Int)
def arrLamp (P : List (List Int)) (a : List Int) (s : Ast) (i : Nat) : Ast :=
  if (decide (0 ≤ ownA P a i) && !(lookG s.1 (otherA P a i)).isSome) = true then (putG s.1 (otherA P a i) true, s.2 ++ [otherA P a i]) else s
def arrM (P : List (List Int)) (most : Int) : Nat → Fb → List (List Int) → Option Fb
  | 0, _, _ => none
  | n + 1, found, line => match line.reverse with
    | [] => some found
    | a :: l2 => if a.length ≠ P.length ∨ found.length > 1000 ∨ line.length > 1000 then none else
      if ((((List.range P.length).foldl (arrLamp P a) (found, l2.reverse)).1.length : Nat) : Int) > most then none else
        arrM P most n ((List.range P.length).foldl (arrLamp P a) (found, l2.reverse)).1 ((List.range P.length).foldl (arrLamp P a) (found, l2.reverse)).2
def arrows0 (n : Nat) : Fb := putsG [] ((unitsL n).map fun a => (a, true))
theorem arrLamp_len (P : List (List Int)) (a : List Int) (s : Ast) (i : Nat) : (arrLamp P a s i).1.length ≤ s.1.length + 1 ∧ (arrLamp P a s i).2.length ≤ s.2.length + 1 := by
  unfold arrLamp
  split
  · exact ⟨putG_len _ _ _, by rw [List.length_append]; simp⟩
  · exact ⟨by omega, by omega⟩
theorem arrLamps_len (P : List (List Int)) (a : List Int) : ∀ (l : List Nat) (s : Ast), (l.foldl (arrLamp P a) s).1.length ≤ s.1.length + l.length ∧ (l.foldl (arrLamp P a) s).2.length ≤ s.2.length + l.length
  | [], s => ⟨Nat.le_refl _, Nat.le_refl _⟩
  | i :: l, s => by
    have h1 := arrLamp_len P a s i
    have h2 := arrLamps_len P a l (arrLamp P a s i)
    rw [List.foldl_cons, List.length_cons]
    omega
theorem tups_app (l m : List (List Int)) : tups (l ++ m) = tups l ++ tups m := by unfold tups; rw [List.map_append]
theorem tups_len (l : List (List Int)) : (tups l).length = l.length := by unfold tups; rw [List.length_map]
section
variable {c : Ct} {P : Program} {w : World} {mg : Str → Option Value} {base : Heap} {f : Addr} {fd : FuncData} {nm : Str} {j k : Nat} {S : Sc}
def sLArrows : Sc := fun xs R => ∃ P most n r, xs = [.d (.tuple (tups P)), .d (.int most)] ∧ hallOk P = true ∧ arrM P most n (arrows0 P.length) (unitsL P.length) = some r ∧ (∀ p ∈ r, p.1 ≠ []) ∧ R = fun y => y = .d (.list (tups (sortL (r.map (·.1)))))
abbrev stLArrows : Stmt := top 53
abbrev nLArrows : List Str := ["_law_pushes", "_law_most", "_law_many", "_law_one", "_law_other", "_law_units", "_law_arrow", "_law_found", "_law_line", "_law_lamp", "_law_own"]
theorem scLArrows : FnScope nLArrows ["_law_pushes", "_law_most"] (defScope stLArrows) := ⟨rfl, rfl, rfl, by decide +kernel, rfl, by decide +kernel, by decide +kernel⟩
theorem own_larrows (D : Df c mg "_law_arrows" stLArrows ["_law_pushes", "_law_most"] f fd) (B : Bl mg) : Own c P w mg base "_law_arrows" 1 sLArrows := by
  refine own_mk D scLArrows (fun xs R h => ?_) (fun cdv A outer s H E hr xs R h => ?_)
  · obtain ⟨P, most, n, r, rfl, _⟩ := h
    rfl
  · obtain ⟨Pu, most, n, r, rfl, ok, ham, hne, rfl⟩ := h
    have nd := scLArrows.nd
    have hl := hallOk_len ok
    have ul : (unitsL Pu.length).length = Pu.length := by unfold unitsL; rw [List.length_map, List.length_range]
    refine ss_cons (s1_asg (x := .d (.int (Pu.length : Nat))) 2 (EN.ef (EE.en (EE.is (eg_callB (cg_lenT (ds := tups Pu)) B.len (ea_cons (ee_name 0) ea_nil) back_e) (by rw [tups_len])) rfl)) ?_ nd)
    refine ss_cons (s1_lc 5 (lc_ok (own := [("_law_one", 3)]) (fun _ => true) (fun i : Nat => iT ((List.range Pu.length).map fun o : Nat => b2n (decide ((i : Int) = (o : Int))))) (src_rng1 3 (Pu.length : Nat) B.range (ee_name 2) (by omega))
      ?ok1 (pg1 3 nd) (by decide) (fun z hz s H C cl fp => ets_nil) (fun i hz _ s H C cl fp => EE.en (EE.is (eg_callT (cg_tuple) B.tuple (ea_cons (EM.ee (em_lc
        (lc_ok (own := [("_law_other", 4)]) (fun _ => true) (fun o : Nat => .int (b2n (decide ((i : Int) = (o : Int))))) (src_rng1 4 (Pu.length : Nat) B.range (ee_name 2) (by omega))
        ?ok2 (pg1 4 nd) (by decide) (fun z hz s H C cl fp => ets_nil) (fun o hz _ s H C cl fp => EE.en (eg_callT (cg_intb) B.int (ea_cons (ee_cmp (og_eq (d := .int (i : Nat)) (f := .int (o : Nat)) hr.units rfl rfl (eqv_int _ _)) (ee_name 3) (ee_name 4)) ea_nil) back_e) rfl) (by rw [List.length_range]; omega)) nd)) ea_nil) back_e) ?tup) (imm_iT _)) (by rw [List.length_range]; omega)) ?_ nd)
    case ok1 => exact blkOk_by (N := nLArrows) (sc := defScope stLArrows) (by decide +kernel)
    case ok2 => exact blkOk_by (N := nLArrows) (sc := relS _ (defScope stLArrows)) (by decide +kernel)
    case tup => rw [filt_true, Int.toNat_natCast]; simp [iT, List.map_map, Function.comp_def]
    have elc : (((List.range ((Pu.length : Nat) : Int).toNat).filter fun _ => true).map fun i : Nat => iT ((List.range Pu.length).map fun o : Nat => b2n (decide ((i : Int) = (o : Int))))) = tups (unitsL Pu.length) := by rw [filt_true, Int.toNat_natCast]; simp [unitsL, tups, List.map_map, Function.comp_def]
    rw [elc]
    refine ss_freeze 5 rfl ?_
    refine ss_cons (s1_par (x := .dT (encB (arrows0 Pu.length))) (y := .d (.list (tups (unitsL Pu.length)))) 7 8 true true (ex_m (EM.is (eg_callT (cg_dictPT (kvs := encB ((unitsL Pu.length).map fun a => (a, true))) (encG_imm (g := PyData.bool) (fun _ => rfl) _) (by rw [encG_len, List.length_map]; omega) ?hu4) B.dict (ea_cons (EM.ee (EM.is (em_lc
        (lc_ok (own := [("_law_arrow", 6)]) (fun _ => true) (fun a : List Int => .tuple [iT a, .bool true]) (src_list 6 (unitsL Pu.length) iT (ef_name 5)) ?ok3 (pg1 6 nd) (by decide) (fun z hz s H C cl fp => ets_nil)
        (fun a hz _ s H C cl fp => EE.en (ee_tup (ds := [iT a, .bool true]) (ea_cons (ee_name 6) (ea_cons ee_bl ea_nil)) (by simp)) ?im3) (by omega)) nd) ?lc3)) ea_nil) back_m) ?dic)) (ex_m (eg_callT (cg_list (t := false) (imm_tups _)) B.list (ea_cons (ee_name 5) ea_nil) back_m)) ?_ nd (by show 7 < 11; decide) (by decide))
    case hu4 => exact hu4 hr
    case ok3 => exact blkOk_by (N := nLArrows) (sc := defScope stLArrows) (by decide +kernel)
    case im3 => simp [imm, immAll, imm_iT]
    case lc3 => rw [filt_true]; simp [encG, List.map_map, Function.comp_def]
    case dic => rw [show ([] : List (List Int × PyData)) = encB [] from rfl, puts_encG]; rfl
    refine ss_cons (s1_while (fun m env' => ∃ (found : Fb) (line : List (List Int)) (x3 x4 x6 x9 x10 : Sl), env' = [.fr (.d (.tuple (tups Pu))), .fr (.d (.int most)), .fr (.d (.int (Pu.length : Nat))), x3, x4, .fr (.d (.list (tups (unitsL Pu.length)))), x6, .ow (.dT (encB found)), .ow (.d (.list (tups line))), x9, x10] ∧ arrM Pu most m found line = some r) n ⟨arrows0 Pu.length, unitsL Pu.length, _, _, _, _, _, rfl, ham⟩ ?_)
    rintro m env' ⟨found, line, x3, x4, x6, x9, x10, rfl, hm⟩
    refine ⟨!decide (line = []), et_cmp (og_ne hr.units (shaped_tups _) (shaped_tups []) (by rw [eqv_tups, Bool.not_not])) (ee_name 8) (EM.ee (em_lst ean_nil)), fun e => ?_, fun e => ?_⟩
    · have ne : ¬ line = [] := by simpa using e
      cases m with
      | zero => cases hm
      | succ m =>
        unfold arrM at hm
        cases hrv : line.reverse with
        | nil => exact absurd (List.reverse_eq_nil_iff.mp hrv) ne
        | cons a l2 =>
          have hline : line = l2.reverse ++ [a] := List.reverse_eq_cons_iff.mp hrv
          rw [hrv] at hm
          simp only at hm
          split at hm
          · cases hm
          rename_i hbad
          have al : a.length = Pu.length := Classical.byContradiction fun z => hbad (.inl z)
          have l1 : found.length ≤ 1000 := Nat.le_of_not_lt fun z => hbad (.inr (.inl z))
          have l3 : line.length ≤ 1000 := Nat.le_of_not_lt fun z => hbad (.inr (.inr z))
          split at hm
          · cases hm
          rename_i hmost
          subst hline
          have l4 : l2.reverse.length ≤ 1000 := by rw [List.length_append] at l3; omega
          generalize l2.reverse = line2 at hm hmost l4
          rw [tups_app, show tups [a] = [iT a] from rfl]
          refine ss_cons (s1_pop (ds := tups line2) (d := iT a) 6 8 rfl (by decide) ?_ nd)
          refine ss_cons (s1_for (src_rng1 9 (Pu.length : Nat) B.range (ee_name 2) (by omega)) (pg_name nd rfl (by first | exact Or.inl rfl | exact Or.inr rfl) (by first | exact Or.inr rfl | exact Or.inl rfl))
            (fun k env' => ∃ (x3 x4 x9 x10 : Sl), env' = [.fr (.d (.tuple (tups Pu))), .fr (.d (.int most)), .fr (.d (.int (Pu.length : Nat))), x3, x4, .fr (.d (.list (tups (unitsL Pu.length)))), .fr (.d (iT a)), .ow (.dT (encB (((List.range Pu.length).take k).foldl (arrLamp Pu a) (found, line2)).1)), .ow (.d (.list (tups (((List.range Pu.length).take k).foldl (arrLamp Pu a) (found, line2)).2))), x9, x10])
            ⟨_, _, _, _, rfl⟩ ?_ ?_)
          · rintro k l env' hz3 ⟨x3, x4, x9, x10, rfl⟩
            rw [Int.toNat_natCast] at hz3
            have hlt : l < Pu.length := List.mem_range.mp (List.mem_of_getElem? hz3)
            obtain ⟨r1, r2, r3⟩ := hallOk_row ok hlt
            have tk : (List.range Pu.length).take (k + 1) = (List.range Pu.length).take k ++ [l] := by rw [List.take_add_one, hz3]; rfl
            have ll := arrLamps_len Pu a ((List.range Pu.length).take k) (found, line2)
            have lt : ((List.range Pu.length).take k).length ≤ 8 := by rw [List.length_take, List.length_range]; omega
            rw [tk, List.foldl_append, List.foldl_cons, List.foldl_nil]
            generalize ((List.range Pu.length).take k).foldl (arrLamp Pu a) (found, line2) = s5 at ll
            simp only at ll
            refine ss_cons (s1_asg (x := .d (.int (ownA Pu a l))) 10 (EN.ef (EE.en (ee_bin og_sub (eg_callB (cg_sum (ns := (List.range Pu.length).map fun o : Nat => (rowAt Pu l).getD o 0 * a.getD o 0)) B.sum (ea_cons (EM.ee (EM.is (em_lc (lc_ok (own := [("_law_other", 4)]) (fun _ => true) (fun o : Nat => .int ((rowAt Pu l).getD o 0 * a.getD o 0)) (src_rng1 4 (Pu.length : Nat) B.range (ee_name 2) (by omega))
              ?ok4 (pg1 4 nd) (by decide) (fun z hz s H C cl fp => ets_nil) (fun o hz _ s H C cl fp => ?elt4) (by rw [List.length_range]; omega)) nd) ?lc4)) ea_nil) back_e) (ee_ixT (ee_name 6) (ee_name 9) (atI_int (by omega)))) rfl)) ?_ nd)
            case ok4 => exact blkOk_by (N := nLArrows) (sc := defScope stLArrows) (by decide +kernel)
            case elt4 =>
              rw [Int.toNat_natCast] at hz
              have ho : o < Pu.length := List.mem_range.mp hz
              have hm : 0 ≤ (rowAt Pu l).getD o 0 ∧ (rowAt Pu l).getD o 0 ≤ 4 := r3 _ (by rw [List.getD_eq_getElem?_getD, List.getElem?_eq_getElem (by omega)]; exact List.getElem_mem _)
              exact EE.en (ee_bin (og_mul (.inl ⟨by omega, by omega⟩)) (ee_ixT (ee_ixT (ee_name 0) (ee_name 9) (atI_row r1)) (ee_name 4) (atI_int (by omega))) (ee_ixT (ee_name 6) (ee_name 4) (atI_int (by omega)))) rfl
            case lc4 => rw [filt_true, Int.toNat_natCast]; simp [List.map_map, Function.comp_def]
            refine ss_cons (s1_asg (x := .d (iT (otherA Pu a l))) 4 (EN.ef (EE.en (EE.is (ee_bin (og_catT (ds := (a.map PyData.int).take l ++ [.int (ownA Pu a l)]) (fs := (a.map PyData.int).drop (l + 1)) ?z1) (ee_bin (og_catT (ds := (a.map PyData.int).take l) (fs := [.int (ownA Pu a l)]) ?z2)
              (EE.is (ee_slT (ee_name 6) eo_none (eo_some (ee_name 9))) (by rw [cut_take])) (ee_tup (ds := [.int (ownA Pu a l)]) (ea_cons (ee_name 10) ea_nil) (by simp)))
              (EE.is (ee_slT (ee_name 6) (eo_some (i := ((l + 1 : Nat) : Int)) (EE.is (ee_bin og_add (ee_name 9) ee_int) (by simp))) eo_none) (by rw [cut_drop]))) ?cat) (imm_iT _))) ?_ nd)
            case z1 => simp only [List.length_append, List.length_take, List.length_drop, List.length_map, List.length_singleton]; omega
            case z2 => simp only [List.length_take, List.length_map, List.length_singleton]; omega
            case cat => simp [otherA, iT, List.map_append, List.map_take, List.map_drop]
            refine ss_cons (s1_if (ET.is (et_and2 (et_cmp og_ge (ee_name 10) ee_int) fun _ => et_dnin (.t (encB s5.1) (otherA Pu a l)) (hu1 hr) (ee_name 4) (ee_name 7)) (show _ = (decide (0 ≤ ownA Pu a l) && !(lookG s5.1 (otherA Pu a l)).isSome) by rw [look_encG, Option.isSome_map])) (fun e => ?_) fun e => ss_nil (ss_nil ?_))
            · have es : arrLamp Pu a s5 l = (putG s5.1 (otherA Pu a l) true, s5.2 ++ [otherA Pu a l]) := by unfold arrLamp; rw [if_pos e]
              refine ss_cons (s1_dput (d := .bool true) 7 rfl (.t (encB s5.1) (otherA Pu a l) _ (by rw [encG_len]; omega)) (hu1 hr) (EE.en ee_bl rfl) (ee_name 4) ?_)
              rw [put_encG]
              refine ss_cons (s1_app (d := iT (otherA Pu a l)) 8 rfl (EE.en (ee_name 4) (imm_iT _)) (by rw [tups_len]; omega) (ss_nil (ss_nil ?_)))
              have et : tups s5.2 ++ [iT (otherA Pu a l)] = tups (s5.2 ++ [otherA Pu a l]) := by rw [tups_app]; rfl
              rw [et, es]
              exact ⟨_, _, _, _, rfl⟩
            · have es : arrLamp Pu a s5 l = s5 := by unfold arrLamp; rw [if_neg (by rw [e]; exact Bool.false_ne_true)]
              rw [es]
              exact ⟨_, _, _, _, rfl⟩
          · rintro env' ⟨x3, x4, x9, x10, rfl⟩
            rw [List.take_of_length_le (by rw [List.length_range, List.length_range, Int.toNat_natCast]; omega)]
            generalize (List.range Pu.length).foldl (arrLamp Pu a) (found, line2) = s6 at hm hmost
            refine ss_cons (s1_if (k := decide (most < (s6.1.length : Nat))) (et_cmp og_gt (EE.is (eg_callB (cg_lenDT (kvs := encB s6.1)) B.len (ea_cons (ee_name 7) ea_nil) back_e) (by rw [encG_len])) (ee_name 1)) (fun e => ?_) fun e => ss_nil (ss_nil ?_))
            · exact absurd (of_decide_eq_true e) hmost
            · exact ⟨m, Nat.lt_succ_self m, s6.1, s6.2, _, _, _, _, _, rfl, hm⟩
    · have ne : line = [] := by simpa using e
      have hr2 : r = found := by
        subst ne
        cases m with
        | zero => cases hm
        | succ m => exact (Option.some.inj hm).symm
      subst hr2
      refine ss_cons (s1_ret (EM.en (EM.is (eg_callB (cg_sortD (bs := r.map (·.1)) (enc := iT) (alike_tups _) (sortable_tups ?ne) (fun b _ => by rw [depth_iT]; omega) (fun b _ => imm_iT b) (hu65 hr |> fun h => by exact Nat.lt_of_succ_lt h)) B.sorted
        (ea_cons (EM.ee (EM.is (eg_callT (cg_listDT (kvs := encB r)) B.list (ea_cons (ee_name 7) ea_nil) back_m) (by rw [keys_encG]; rfl))) ea_nil) back_m) (by rw [msort_eq]; rfl))) rfl)
      case ne =>
        intro l hl2
        obtain ⟨p, hp, rfl⟩ := List.mem_map.mp hl2
        exact hne p hp

/-! ### _law_up -/
def lupM (r : List (List Int)) : List (List Int) := (sortG (lexP ltI HT.lexLt) (r.map fun a => (a.sum, a))).map (·.2)
def sLUp : Sc := fun xs R => ∃ P n r, xs = [.d (.tuple (tups P))] ∧ hallOk P = true ∧ arrM P 200 n (arrows0 P.length) (unitsL P.length) = some r ∧ (∀ p ∈ r, p.1 ≠ []) ∧ r.length ≤ 1000 ∧ R = fun y => y = .d (.list (tups (lupM (sortL (r.map (·.1))))))
abbrev stLUp : Stmt := top 55
abbrev nLUp : List Str := ["_law_pushes", "_law_height", "_law_arrow"]
theorem scLUp : FnScope nLUp ["_law_pushes"] (defScope stLUp) := ⟨rfl, rfl, rfl, by decide +kernel, rfl, by decide +kernel, by decide +kernel⟩
theorem own_lup (D : Df c mg "_law_up" stLUp ["_law_pushes"] f fd) (B : Bl mg) (OA : Own c P w mg base "_law_arrows" 1 sLArrows) : Own c P w mg base "_law_up" 2 sLUp := by
  refine own_mk D scLUp (fun xs R h => ?_) (fun cdv A outer s H E hr xs R h => ?_)
  · obtain ⟨P, n, r, rfl, _⟩ := h
    rfl
  · obtain ⟨Pu, n, r, rfl, ok, ham, hne, hrl, rfl⟩ := h
    have nd := scLUp.nd
    have sl : (sortL (r.map (·.1))).length ≤ 1000 := by rw [(sortL_perm _).length_eq, List.length_map]; exact hrl
    have hsA : sLArrows [.d (.tuple (tups Pu)), .d (.int 200)] fun y => y = .d (.list (tups (sortL (r.map (·.1))))) := ⟨Pu, 200, n, r, rfl, ok, ham, hne, rfl⟩
    generalize sortL (r.map (·.1)) = As at sl hsA
    refine ss_cons (s1_ret (EM.en (EM.is (em_lc (lc_ok (own := [("_law_height", 1), ("_law_arrow", 2)]) (fun _ => true) (fun p : Int × List Int => iT p.2)
      (src_pairs 1 2 (sortG (lexP ltI HT.lexLt) (As.map fun a => (a.sum, a))) (fun p => .int p.1) (fun p => iT p.2) (EN.ef (EM.en (EM.is (eg_callB (cg_sortD (bs := As.map fun a => (a.sum, a)) (enc := pairD) ?al (.inl ?so) (fun b _ => ?dep) (fun b _ => ?im) (hu65 hr |> fun h => by exact Nat.lt_of_succ_lt h)) B.sorted
        (ea_cons (EM.ee (EM.is (em_lc (lc_ok (own := [("_law_arrow", 2)]) (fun _ => true) (fun a : List Int => pairD (a.sum, a)) (src_list 2 As iT (EN.ef (en_call (S := sLArrows) (k := 1) (xs := [.d (.tuple (tups Pu)), .d (.int 200)]) OA hr (ea_cons (ee_name 0) (ea_cons ee_int ea_nil)) hsA)))
          ?ok2 (pg1 2 nd) (by decide) (fun z hz s H C cl fp => ets_nil) (fun a ha _ s H C cl fp => EE.en (ee_tup (ds := [.int a.sum, iT a]) (ea_cons (eg_callB (cg_sumT (ns := a)) B.sum (ea_cons (ee_name 2) ea_nil) back_e) (ea_cons (ee_name 2) ea_nil)) (by simp)) ?im2) (by omega)) nd) ?lc2)) ea_nil) back_m) ?srt))))
      ?ok1 (pg2 1 2 nd) (by decide) (fun z hz s H C cl fp => ets_nil) (fun p hp _ s H C cl fp => EE.en (ee_name 2) (imm_iT _)) ?len) nd) ?lc1)) rfl)
    case ok1 => exact blkOk_by (N := nLUp) (sc := defScope stLUp) (by decide +kernel)
    case ok2 => exact blkOk_by (N := nLUp) (sc := defScope stLUp) (by decide +kernel)
    case al =>
      intro d hd d' hd'
      obtain ⟨t, _, rfl⟩ := List.mem_map.mp hd
      obtain ⟨t', _, rfl⟩ := List.mem_map.mp hd'
      unfold pairD
      simp only [PySem.W.alike, PySem.W.alikeAll, alike_iT]
      rfl
    case so =>
      intro d hd
      obtain ⟨t, _, rfl⟩ := List.mem_map.mp hd
      exact ⟨_, _, rfl⟩
    case dep =>
      unfold pairD
      simp only [PyData.depth, PyData.depthAll, depth_iT]
      decide
    case im => unfold pairD; simp [imm, immAll, imm_iT]
    case im2 => unfold pairD; simp [imm, immAll, imm_iT]
    case lc2 => rw [filt_true]; simp [List.map_map, Function.comp_def]
    case srt => rw [msortG (Ltg.pair ltg_int ltg_ints) pairD_lt]; rfl
    case lc1 => rw [filt_true]; simp [lupM, tups, List.map_map, Function.comp_def]
    case len => rw [(sortG_perm _ _).length_eq, List.length_map]; omega
end
end K33

set_option maxHeartbeats 400000
/-! K33zd: _law_taken: the row of draws. -/
namespace K33
open PySem PySem.Spec PyProof.Rows L2
/-- the script -/
def scrP (K : PySem.W.Frag) (scr : Addr) (ns : List Int) : MP := ⟨fun H v => v = .ref scr ∧ SqL K H scr (ns.map V.int), fun e ⟨h1, h2⟩ => ⟨h1, same_l e h2⟩⟩
def rowL (scr : Addr) (p q r : Int) : List V := [.ref scr, .int p, .int q, .int r]
/-- the row with its numbers known -/
def rowP (K : PySem.W.Frag) (scr : Addr) (ns : List Int) (a : Addr) (p q r : Int) : MP := ⟨fun H v => v = .ref a ∧ H a = some (.lst (rowL scr p q r)) ∧ SqL K H scr (ns.map V.int), fun e ⟨h1, h0, h2⟩ => ⟨h1, e _ _ h0, same_l e h2⟩⟩
section
variable {c : Ct} {X : Cx} {env : Ev'} {e a b : Expr} {pos : Pos} {ns : List Int} {ad : Addr} {p q r : Int}
/-- a number of the row -/
theorem ee_ixQ {i z : Int} (hz : atI (rowL c.scr p q r) i = some (.int z)) (ha : EE c X env a (.p (rowP c.K c.scr ns ad p q r))) (hb : EE c X env b (.d (.int i))) (hp : PlainIx b := by exact fun _ _ => rfl) : EE c X env (.Subscript a b pos) (.d (.int z)) :=
  eg_two ha hb back_e (fun H v w r1 r2 Q q => by
    obtain ⟨rfl, h1, h2⟩ := r1
    cases (show Dq c.K H w (.int i) from r2)
    exact ⟨ad, _, i, _, rfl, rfl, SqL.of h1, hz, q _ H (Same.refl H) (.int _)⟩) (pe_ix ix_list pe_w pe_w hp)
/-- the row's script -/
theorem ee_ixQ0 (ha : EE c X env a (.p (rowP c.K c.scr ns ad p q r))) (hb : EE c X env b (.d (.int 0))) (hp : PlainIx b := by exact fun _ _ => rfl) : EE c X env (.Subscript a b pos) (.p (scrP c.K c.scr ns)) :=
  eg_two ha hb back_e (fun H v w r1 r2 Q q => by
    obtain ⟨rfl, h1, h2⟩ := r1
    cases (show Dq c.K H w (.int 0) from r2)
    exact ⟨ad, _, 0, _, rfl, rfl, SqL.of h1, rfl, q _ H (Same.refl H) ⟨rfl, h2⟩⟩) (pe_ix ix_list pe_w pe_w hp)
theorem ee_ixR {i z : Int} (hz : atI (ns.map V.int) i = some (.int z)) (ha : EE c X env a (.p (scrP c.K c.scr ns))) (hb : EE c X env b (.d (.int i))) (hK : X.K = c.K := by rfl) (hp : PlainIx b := by exact fun _ _ => rfl) : EE c X env (.Subscript a b pos) (.d (.int z)) :=
  eg_two ha hb back_e (fun H v w r1 r2 Q q => by
    obtain ⟨rfl, h2⟩ := r1
    cases (show Dq c.K H w (.int i) from r2)
    exact ⟨c.scr, _, i, _, rfl, rfl, hK ▸ h2, hz, q _ H (Same.refl H) (.int _)⟩) (pe_ix ix_list pe_w pe_w hp)
theorem cg_lenR (hK : X.K = c.K := by rfl) : CG c X (.builtin "len") [.p (scrP c.K c.scr ns)] (rE c (.d (.int ns.length))) :=
  ⟨_, call_len_seq, fun H vs rv Q q => by
    obtain ⟨v, rfl, r⟩ := rvs1 rv
    obtain ⟨rfl, h2⟩ := r
    refine ⟨c.scr, _, rfl, .inl (hK ▸ h2), q _ H (Same.refl H) ?_⟩
    rw [List.length_map]
    exact .int _⟩
end
theorem atI_V {ns : List Int} {i : Nat} (h : i < ns.length) : atI (ns.map V.int) (i : Int) = some (.int (ns.getD i 0)) := atI_nat (by rw [List.getElem?_map, List.getD_eq_getElem?_getD]; simp [h])

/-! ### statements over the row -/
theorem Rd.re {c : Ct} {H H' : Hp} {σ : L2.St} {env env' : Ev'} (h : Rd c H σ env) (hl : env.length = env'.length)
    (hf : ∀ (i : Nat) s' x', env'[i]? = some s' → s'.get = some x' → ∃ s x, env[i]? = some s ∧ s.get = some x ∧ ∀ v, RV c H v x → RV c H' v x') : Rd c H' σ env' := ⟨h.len.trans hl, fun i s' x' a b => by
  obtain ⟨s, x, h1, h2, h3⟩ := hf i s' x' a b
  obtain ⟨v, h4, h5⟩ := h.at_ i s x h1 h2
  exact ⟨v, h4, h3 v h5⟩⟩
def slI : Option Int → Sl
  | none => .no
  | some i => .fr (.d (.int i))
abbrev envQ (c : Ct) (a : Addr) (m p q r : Int) (s2 s3 : Option Int) : Ev' := [.fr (.p (rowP c.K c.scr c.ns a p q r)), .fr (.d (.int m)), slI s2, slI s3]
structure TJ (c : Ct) (a : Addr) (m : Int) (Hb : Hp) (p q r : Int) (s2 s3 : Option Int) (σ : L2.St) (H : Hp) : Prop where
  rd : Rd c H σ (envQ c a m p q r s2 s3)
  sm : Same (upd Hb a (.lst (rowL c.scr p q r))) H
abbrev TN := Int → Int → Int → Option Int → Option Int → Prop
def upT (c : Ct) (a : Addr) (m : Int) (Hb : Hp) (Q : VK) (N : TN) : Ends := ⟨fun σ H => ∃ p q r s2 s3, TJ c a m Hb p q r s2 s3 σ H ∧ N p q r s2 s3, Q, fun _ _ => False, fun _ _ => False⟩
section
variable {c : Ct} {X : Cx} {a : Addr} {m : Int} {Hb : Hp} {Q : VK} {st : Stmt} {rest : List Stmt} {p q r z : Int} {s2 s3 : Option Int} {N : TN} {e : Expr} {pos pos' : Pos}
def TSS (c : Ct) (X : Cx) (a : Addr) (m : Int) (Hb : Hp) (Q : VK) (sts : List Stmt) (p q r : Int) (s2 s3 : Option Int) (N : TN) : Prop := ∀ σ H, TJ c a m Hb p q r s2 s3 σ H → WSs X sts (upT c a m Hb Q N) σ H
def TS1 (c : Ct) (X : Cx) (a : Addr) (m : Int) (Hb : Hp) (Q : VK) (st : Stmt) (p q r : Int) (s2 s3 : Option Int) (N : TN) : Prop := ∀ σ H, TJ c a m Hb p q r s2 s3 σ H → WS X st (upT c a m Hb Q N) σ H
theorem tss_nil (h : N p q r s2 s3) : TSS c X a m Hb Q [] p q r s2 s3 N := fun σ H j => WSs.of pss_nil ⟨p, q, r, s2, s3, j, h⟩
theorem tss_cons (h : TS1 c X a m Hb Q st p q r s2 s3 fun p q r s2 s3 => TSS c X a m Hb Q rest p q r s2 s3 N) : TSS c X a m Hb Q (st :: rest) p q r s2 s3 N := fun σ H j =>
  WSs.of (pss_cons ps_w pss_w) (fun pins s' I => thn (h σ H j pins s' I) fun f s2 q => by
    refine SP.mono q (fun σ' H' z => ?_) (fun _ _ z => z) (fun _ _ z => z) fun _ _ z => z
    obtain ⟨p, q, r, s2, s3, j', z⟩ := z
    exact z σ' H' j')
theorem TJ.same {σ : L2.St} {H H' : Hp} (j : TJ c a m Hb p q r s2 s3 σ H) (s : Same H H') : TJ c a m Hb p q r s2 s3 σ H' := ⟨j.rd.mono s, j.sm.trans s⟩
theorem t1_if {k : Bool} {bt bf : List Stmt} (h : ET c X (envQ c a m p q r s2 s3) e k) (h1 : k = true → TSS c X a m Hb Q bt p q r s2 s3 N) (h2 : k = false → TSS c X a m Hb Q bf p q r s2 s3 N) : TS1 c X a m Hb Q (.If e bt bf pos) p q r s2 s3 N := fun σ H j => by
  refine WS.of (ps_if pt_w pss_w pss_w) (h σ H j.rd _ fun H' s1 => ?_)
  cases k with
  | true => exact iteT (h1 rfl σ H' (j.same s1))
  | false => exact iteF (h2 rfl σ H' (j.same s1))
theorem t1_ret (h : EE c X (envQ c a m p q r s2 s3) e (.d (.int z))) (hq : ∀ H', Same (upd Hb a (.lst (rowL c.scr p q r))) H' → Q (.int z) H') : TS1 c X a m Hb Q (.Return (some e) pos) p q r s2 s3 N := fun σ H j =>
  WS.of (ps_ret pe_w) (h σ H j.rd _ fun v H' s1 rv => by
    cases (show Dq c.K H' v (.int z) from rv)
    exact hq H' (j.sm.trans s1))
theorem t1_asg2 {nm : Str} {pn : Pos} (h : EE c X (envQ c a m p q r s2 s3) e (.d (.int z))) (k : N p q r (some z) s3) (hN : X.N.Nodup) (hi : X.N[2]? = some nm := by rfl) (hx : Loc X.env.scope nm := by first | exact Or.inl rfl | exact Or.inr rfl)
    (hs : swapsWith e (some (.Name nm pn)) pos.line X.env = pure false := by rfl) (hf : X.fn nm = true ∨ X.env.scope.names.lookup nm = some .local := by first | exact .inl rfl | exact .inr rfl) : TS1 c X a m Hb Q (.Assign [.Name nm pn] e pos) p q r s2 s3 N := fun σ H j =>
  WS.of (ps_set hN hi hx pe_w hs hf) (h σ H j.rd _ fun v H' s1 rv => by
    refine ⟨p, q, r, some z, s3, ⟨?_, j.sm.trans s1⟩, k⟩
    exact (j.rd.mono s1).set (s := .fr (.d (.int z))) 2 rfl rv)
theorem t1_asg3 {nm : Str} {pn : Pos} (h : EE c X (envQ c a m p q r s2 s3) e (.d (.int z))) (k : N p q r s2 (some z)) (hN : X.N.Nodup) (hi : X.N[3]? = some nm := by rfl) (hx : Loc X.env.scope nm := by first | exact Or.inl rfl | exact Or.inr rfl)
    (hs : swapsWith e (some (.Name nm pn)) pos.line X.env = pure false := by rfl) (hf : X.fn nm = true ∨ X.env.scope.names.lookup nm = some .local := by first | exact .inl rfl | exact .inr rfl) : TS1 c X a m Hb Q (.Assign [.Name nm pn] e pos) p q r s2 s3 N := fun σ H j =>
  WS.of (ps_set hN hi hx pe_w hs hf) (h σ H j.rd _ fun v H' s1 rv => by
    refine ⟨p, q, r, s2, some z, ⟨?_, j.sm.trans s1⟩, k⟩
    exact (j.rd.mono s1).set (s := .fr (.d (.int z))) 3 rfl rv)
/-- row[j] = e -/
theorem t1_put (jx : Nat) {p' q' r' : Int} {nm : Str} {pn : Pos} {k : Expr} (h : EE c X (envQ c a m p q r s2 s3) e (.d (.int z))) (hk : EE c X (envQ c a m p q r s2 s3) k (.d (.int (jx : Nat)))) (hj : ixN 4 (jx : Int) = some jx) (hrow : (rowL c.scr p q r).set jx (.int z) = rowL c.scr p' q' r') (kk : N p' q' r' s2 s3) (hsc : c.scr ≠ a)
    (hN : X.N[0]? = some nm := by rfl) (hv : Vis X.env.scope nm := by first | exact Or.inl rfl | exact Or.inr (Or.inl rfl) | exact Or.inr (Or.inr rfl)) (hd : (nm == ("__debug__" : Str)) = false := by decide) (hcd : (nm == ("__classdict__" : Str)) = false := by decide)
    (hs : swapsWithSole [.Subscript (.Name nm pn) k pos'] e pos.line X.env = pure false := by rfl) (hw : swappedStores [.Subscript (.Name nm pn) k pos'] e X.env = pure none := by rfl) (h1 : (assignEach [.Subscript (.Name nm pn) k pos'] X.env).map (·.2) = [assign (.Subscript (.Name nm pn) k pos') X.env] := by rfl)
    (ha : ∀ v, assign (.Subscript (.Name nm pn) k pos') X.env v = (do
      let ov ← holding [v] (eval (.Name nm pn) X.env)
      let iv ← holding [v, ov] (eval k X.env)
      standAt pos'
      holding [v, ov, iv] (setItem ov iv v)
      release [v, ov, iv] []) := by intro _; rfl) : TS1 c X a m Hb Q (.Assign [.Subscript (.Name nm pn) k pos'] e pos) p q r s2 s3 N := fun σ H j => by
  obtain ⟨v0, h1', h2, h3, h4⟩ := j.rd.at_ 0 _ _ rfl rfl
  subst h2
  refine WS.of (ps_asg pe_w (pg_sub (pe_var (i := 0) hN hv hd hcd) pe_w set_list ha) hs hw h1) (h σ H j.rd _ fun v H1 s1 rv => ⟨_, h1', hk σ H1 (j.rd.mono s1) _ fun w H2 s2' r2 => ?_⟩)
  cases (show Dq c.K H1 v (.int z) from rv)
  cases (show Dq c.K H2 w (.int (jx : Nat)) from r2)
  refine ⟨a, rowL c.scr p q r, _, jx, rfl, rfl, s2' _ _ (s1 _ _ h3), hj, p', q', r', s2, s3, ⟨?_, ?_⟩, kk⟩
  · rw [hrow]
    refine Rd.re ((j.rd.mono s1).mono s2') rfl fun i s' x' e1 e2 => ?_
    match i, e1 with
    | 0, e1 =>
      cases e1
      cases e2
      exact ⟨_, _, rfl, rfl, fun v ⟨g1, g2, g3⟩ => ⟨g1, upd_same, sqL_upd hsc g3⟩⟩
    | 1, e1 =>
      cases e1
      cases e2
      exact ⟨_, _, rfl, rfl, fun v g => by cases (show Dq c.K H2 v (.int m) from g); exact Dq.int _⟩
    | 2, e1 =>
      cases e1
      cases s2 with
      | none => cases e2
      | some y =>
        cases e2
        exact ⟨_, _, rfl, rfl, fun v g => by cases (show Dq c.K H2 v (.int y) from g); exact Dq.int _⟩
    | 3, e1 =>
      cases e1
      cases s3 with
      | none => cases e2
      | some y =>
        cases e2
        exact ⟨_, _, rfl, rfl, fun v g => by cases (show Dq c.K H2 v (.int y) from g); exact Dq.int _⟩
    | n + 4, e1 => simp at e1
  · rw [hrow]
    have ss := j.sm.trans (s1.trans s2')
    intro b o hb
    by_cases hba : b = a
    · subst hba
      rw [upd_same] at hb ⊢
      exact hb
    · rw [upd_ne hba] at hb ⊢
      exact ss b o (by rw [upd_ne hba]; exact hb)
end

/-! ### _law_taken -/
theorem mod_nat {z m : Int} (h : 0 < m) : ∃ i : Nat, (i : Int) < m ∧ z % m = (i : Int) := ⟨(z % m).toNat, by have := Int.emod_nonneg z (show m ≠ 0 by omega); have := Int.emod_lt_of_pos z h; omega, by have := Int.emod_nonneg z (show m ≠ 0 by omega); omega⟩
def spTaken (c : Ct) : Sp := fun vs H Q _ => ∃ a m p q r, vs = [.ref a, .int m] ∧ 1 ≤ m ∧ m ≤ 1000 ∧ H a = some (.lst (rowL c.scr p q r)) ∧ SqL c.K H c.scr (c.ns.map V.int) ∧ c.scr ≠ a ∧ 0 ≤ p ∧
  ∀ (i : Nat) p' q' r' H', (i : Int) < m → 0 ≤ p' → Same (upd H a (.lst (rowL c.scr p' q' r'))) H' → Q (.int i) H'
abbrev stTaken : Stmt := top 44
abbrev nTaken : List Str := ["_law_row", "_law_many", "_law_found", "_law_cell"]
theorem scTaken : FnScope nTaken ["_law_row", "_law_many"] (defScope stTaken) := ⟨rfl, rfl, rfl, by decide +kernel, rfl, by decide +kernel, by decide +kernel⟩
section
variable {c : Ct} {P : Program} {w : World} {mg : Str → Option Value} {base : Heap} {f : Addr} {fd : FuncData} {nm : Str} {j k : Nat} {S : Sc}
theorem fn_taken (D : Df c mg "_law_taken" stTaken ["_law_row", "_law_many"] f fd) (B : Bl mg) : FnOk P w c.K mg base CX0 1 f fd ["_law_row", "_law_many"] (spTaken c) := by
  refine Fun.ok D.fn scTaken (fun vs H Q E h => ?_) (fun cdv A outer s H vs Q E hr h => ?_)
  · obtain ⟨a, m, p, q, r, rfl, _⟩ := h
    rfl
  obtain ⟨a, m, p, q, r, rfl, m1, m2, ha, hscr, hne, hp, hq⟩ := h
  have nd := scTaken.nd
  refine ⟨_, pss_w, ?_⟩
  have j0 : TJ c a m H p q r none none (L2.start nTaken [.ref a, .int m]) H := by
    refine ⟨⟨rfl, fun i s x e1 e2 => ?_⟩, fun b o hb => ?_⟩
    · match i, e1 with
      | 0, e1 => cases e1; cases e2; exact ⟨_, rfl, rfl, ha, hscr⟩
      | 1, e1 => cases e1; cases e2; exact ⟨_, rfl, .int m⟩
      | 2, e1 => cases e1; cases e2
      | 3, e1 => cases e1; cases e2
      | n + 4, e1 => simp at e1
    · by_cases hba : b = a
      · subst hba
        rw [upd_same] at hb
        cases hb
        exact ha
      · rw [upd_ne hba] at hb
        exact hb
  have main : TSS c (bx c P w mg base nTaken "_law_taken" stTaken f cdv A outer s H E) a m H Q (defBody stTaken) p q r none none (fun _ _ _ _ _ => False) := by
    refine tss_cons (t1_if (k := decide (0 < r)) (et_cmp og_gt (ee_ixQ (i := 3) rfl (ee_name 0) ee_int) ee_int) (fun hk => ?_) fun hk => tss_nil ?_)
    · obtain ⟨i, hi, ei⟩ := mod_nat (z := r) (show 0 < m by omega)
      refine tss_cons (t1_asg2 (z := r % m) (ee_bin (og_mod (by omega)) (eg_callT cg_int B.int (ea_cons (ee_ixQ (i := 3) rfl (ee_name 0) ee_int) ea_nil) back_e) (ee_name 1)) ?_ nd)
      refine tss_cons (t1_put 3 (z := r / m) (p' := p) (q' := q) (r' := r / m) (ee_bin (og_fdiv ⟨by omega, by omega⟩) (ee_ixQ (i := 3) rfl (ee_name 0) ee_int) (ee_name 1)) ee_int rfl rfl ?_ hne)
      refine tss_cons (t1_ret (ee_name 2) fun H' sm => ?_)
      rw [ei]
      exact hq i p q (r / m) H' hi hp sm
    refine tss_cons (t1_put 1 (z := p + 1) (p' := p + 1) (q' := q) (r' := r) (ee_bin og_add (ee_ixQ (i := 1) rfl (ee_name 0) ee_int) ee_int) ee_int rfl rfl ?_ hne)
    refine tss_cons (t1_if (k := decide ((c.ns.length : Int) < p + 1)) (et_cmp og_gt (ee_ixQ (i := 1) rfl (ee_name 0) ee_int) (eg_callB cg_lenR B.len (ea_cons (ee_ixQ0 (ee_name 0) ee_int) ea_nil) back_e)) (fun hk2 => ?_) fun hk2 => tss_nil ?_)
    · obtain ⟨i, hi, ei⟩ := mod_nat (z := ((q * 48271 + 11) % 2147483647) / 7) (show 0 < m by omega)
      refine tss_cons (t1_put 2 (z := (q * 48271 + 11) % 2147483647) (p' := p + 1) (q' := (q * 48271 + 11) % 2147483647) (r' := r) (ee_bin (og_mod (by omega)) (eg_callT cg_int B.int (ea_cons (ee_bin og_add (ee_bin (og_mul (.inr ⟨by omega, by omega⟩)) (ee_ixQ (i := 2) rfl (ee_name 0) ee_int) ee_int) ee_int) ea_nil) back_e) ee_int) ee_int rfl rfl ?_ hne)
      refine tss_cons (t1_ret (z := ((q * 48271 + 11) % 2147483647) / 7 % m) (ee_bin (og_mod (by omega)) (eg_callT cg_int B.int (ea_cons (ee_bin (og_fdiv ⟨by omega, by omega⟩) (ee_ixQ (i := 2) rfl (ee_name 0) ee_int) ee_int) ea_nil) back_e) (ee_name 1)) fun H' sm => ?_)
      rw [ei]
      exact hq i _ _ _ H' hi (by omega) sm
    have hlt : p.toNat < c.ns.length := by have := of_decide_eq_false hk2; omega
    generalize hcell : c.ns.getD p.toNat 0 = cell
    have hat : atI (c.ns.map V.int) (p + 1 - 1) = some (.int cell) := by
      rw [show p + 1 - 1 = ((p.toNat : Nat) : Int) by omega, ← hcell]
      exact atI_V hlt
    refine tss_cons (t1_asg3 (z := cell) (ee_ixR hat (ee_ixQ0 (ee_name 0) ee_int) (ee_bin og_sub (ee_ixQ (i := 1) rfl (ee_name 0) ee_int) ee_int)) ?_ nd)
    refine tss_cons (t1_put 2 (z := (q * 48271 + cell + 11) % 2147483647) (p' := p + 1) (q' := (q * 48271 + cell + 11) % 2147483647) (r' := r) (ee_bin (og_mod (by omega)) (eg_callT cg_int B.int (ea_cons (ee_bin og_add (ee_bin og_add (ee_bin (og_mul (.inr ⟨by omega, by omega⟩)) (ee_ixQ (i := 2) rfl (ee_name 0) ee_int) ee_int) (ee_name 3)) ee_int) ea_nil) back_e) ee_int) ee_int rfl rfl ?_ hne)
    obtain ⟨i, hi, ei⟩ := mod_nat (z := cell) (show 0 < m by omega)
    have last : ∀ q' r', TSS c (bx c P w mg base nTaken "_law_taken" stTaken f cdv A outer s H E) a m H Q ((defBody stTaken).drop 6) (p + 1) q' r' none (some cell) (fun _ _ _ _ _ => False) := fun q' r' => by
      refine tss_cons (t1_ret (z := cell % m) (ee_bin (og_mod (by omega)) (eg_callT cg_int B.int (ea_cons (ee_name 3) ea_nil) back_e) (ee_name 1)) fun H' sm => ?_)
      rw [ei]
      exact hq i _ _ _ H' hi (by omega) sm
    refine tss_cons (t1_if (k := decide ((10 : Int) ^ (18 : Int).toNat ≤ cell)) (et_cmp og_ge (ee_name 3) (ee_bin (og_pow ⟨by omega, by omega, by decide⟩) ee_int ee_int)) (fun hk3 => ?_) fun hk3 => tss_nil ?_)
    · refine tss_cons (t1_put 3 (z := cell / m) (p' := p + 1) (q' := (q * 48271 + cell + 11) % 2147483647) (r' := cell / m) (ee_bin (og_fdiv ⟨by omega, by omega⟩) (ee_name 3) (ee_name 1)) ee_int rfl rfl (tss_nil (last _ _)) hne)
    · exact last _ _
  refine WSs.mono (main _ _ j0) (fun σ H' z => ?_) (fun _ _ z => z) (fun _ _ z => z.elim) (fun _ _ z => z.elim)
  obtain ⟨_, _, _, _, _, _, z⟩ := z
  exact z.elim

def sTaken : Sc := fun xs R => ∃ m : Int, xs = [.row, .d (.int m)] ∧ 1 ≤ m ∧ m ≤ 1000 ∧ R = fun y => ∃ i : Nat, (i : Int) < m ∧ y = .d (.int i)
theorem own_taken (D : Df c mg "_law_taken" stTaken ["_law_row", "_law_many"] f fd) (B : Bl mg) : Own c P w mg base "_law_taken" 1 sTaken := by
  have F : FnOk P w c.K mg base CX0 1 f fd ["_law_row", "_law_many"] (spTaken c) := fn_taken D B
  refine ⟨f, fd, ["_law_row", "_law_many"], ⟨fun vs H Q E h => ?_, fun A outer s H args us vs Q E hr E0 hb hv h => ?_⟩, D.at_, D.fn.kp, D.bd⟩
  · obtain ⟨xs, R, ⟨m, rfl, _⟩, rv, _⟩ := h
    exact (Paired.length rv).trans rfl
  obtain ⟨xs, R, ⟨m, rfl, m1, m2, rfl⟩, rv, hq⟩ := h
  obtain ⟨v1, v2, rfl, r1, r2⟩ := rvs2 rv
  obtain ⟨a, rfl, ha, hscr⟩ := r1
  cases (show Dq c.K H v2 (.int m) from r2)
  obtain ⟨⟨p, q, r, its, n, hp, hvs, hget⟩, _, hstab⟩ := (show ObjOk P w H s.heap a (.ext (rowF c.scr a)) from E0.hok a _ ha)
  have hne : c.scr ≠ a := fun z => by
    rcases hscr with (h | ⟨o, h⟩) | ⟨o, its, n, h, _⟩
    · rw [z, ha] at h; cases h
    · rw [z, ha] at h; cases h
    · have := (E0.bs _ o (E0.mod.kin _ o h)).2
      rw [z, ha] at this
      cases this
  have mu : Mut (H a) := by rw [ha]; trivial
  have nA : ∀ b, H b = none → b ≠ a := fun b h z => by rw [z, ha] at h; cases h
  have hok1 : HOk P w (upd H a (.lst (rowL c.scr p q r))) s.heap := HOk.write E0.hok mu (.inl rfl) (fun b u _ e => e) ⟨_, hget⟩ ⟨by show 4 ≤ sizeLine; decide, its, n, hvs, hget⟩
  have E1 : Env0 P w c.K mg base A outer s (upd H a (.lst (rowL c.scr p q r))) := ⟨E0.frames, E0.mod, fun b o h => ⟨(E0.bs b o h).1, by rw [upd_ne (nA b (E0.bs b o h).2)]; exact (E0.bs b o h).2⟩, E0.bsz, E0.funs, fun b h => by rw [upd_ne (nA b (E0.frf b h))]; exact E0.frf b h, hok1, E0.bare⟩
  have hscr1 : SqL c.K (upd H a (.lst (rowL c.scr p q r))) c.scr (c.ns.map V.int) := sqL_upd hne hscr
  have run := F.run A outer s (upd H a (.lst (rowL c.scr p q r))) args us [.ref a, .int m] (fun v H' => ∃ (i : Nat) (p' q' r' : Int), (i : Int) < m ∧ 0 ≤ p' ∧ v = .int i ∧ Same (upd (upd H a (.lst (rowL c.scr p q r))) a (.lst (rowL c.scr p' q' r'))) H') E hr E1 hb hv
    ⟨a, m, p, q, r, rfl, m1, m2, upd_same, hscr1, hne, hp, fun i p' q' r' H' hi hp' sm => ⟨i, p', q', r', hi, hp', rfl, sm⟩⟩
  refine codeAny_mono run fun res s' hres => ?_
  cases res with
  | error e => exact hres
  | ok fl =>
    cases fl with
    | next => exact hres
    | brk => exact hres
    | cont => exact hres
    | ret u =>
      obtain ⟨v, H', os, bare, un, hok, rel, i, p', q', r', hi, hp', rfl, sm⟩ := hres
      have ha' : H' a = some (.lst (rowL c.scr p' q' r')) := sm a _ upd_same
      obtain ⟨_, its', n', hvs', hget'⟩ := (show ObjOk P w H' s'.heap a (.lst (rowL c.scr p' q' r')) from hok a _ ha')
      have mu' : Mut (H' a) := by rw [ha']; trivial
      have back : ∀ b o, b ≠ a → H b = some o → upd H' a (.ext (rowF c.scr a)) b = some o := fun b o hba hb => by
        rw [upd_ne hba]
        exact sm b o (by rw [upd_ne hba, upd_ne hba]; exact hb)
      refine ⟨.int i, upd H' a (.ext (rowF c.scr a)), os, bare, ?_, ?_, rel, hq _ _ (.d (.int i)) ⟨i, hi, rfl⟩ (fun b o hb => ?_) (RN.imm rfl (.int _))⟩
      · have un1 : ∀ b, H b = none → (upd H a (.lst (rowL c.scr p q r))) b = none := fun b h => by rw [upd_ne (nA b h)]; exact h
        have un2 : ∀ b o, H b = some o → b ≠ a → (upd H a (.lst (rowL c.scr p q r))) b = some o := fun b o h hba => by rw [upd_ne hba]; exact h
        refine ⟨fun b o e h => un.keep b o e (un1 b h), fun b o e h => un.slot b o e (un1 b h), fun b o e h x => by rw [upd_ne (nA b h)]; exact un.free b o e (un1 b h) x, un.there, fun b xs e => ?_, fun b o u e => ?_, fun b ps e => ?_⟩
        · have hba : b ≠ a := fun z => by rw [z, ha] at e; cases e
          rw [upd_ne hba]
          exact un.tups b xs (un2 b _ e hba)
        · have hba : b ≠ a := fun z => by rw [z, ha] at e; cases e
          rw [upd_ne hba]
          exact un.frzs b o u (un2 b _ e hba)
        · have hba : b ≠ a := fun z => by rw [z, ha] at e; cases e
          rw [upd_ne hba]
          exact un.tbls b ps (un2 b _ e hba)
      · exact HOk.write hok mu' (.inl rfl) (fun b u _ e => e) ⟨_, hget'⟩ ⟨⟨p', q', r', its', n', hp', hvs', hget'⟩, ⟨_, hget'⟩, fun h1 h2 ⟨p1, q1, r1, i1, n1, z0, z1, z2⟩ hk => ⟨p1, q1, r1, i1, n1, z0, z1, hk _ z2⟩⟩
      · by_cases hba : b = a
        · subst hba
          rw [ha] at hb
          cases hb
          exact upd_same
        · exact back b o hba hb
end
end K33

set_option maxHeartbeats 400000
/-! K33ze: expressions that give one of several things; _law_pick. -/
namespace K33
open PySem PySem.Spec PyProof.Rows L2
/-- one of the things of T, in the frozen part -/
def EFS (c : Ct) (X : Cx) (env : Ev') (e : Expr) (T : SV → Prop) : Prop := ∀ σ H F, Fz c F H σ env → ∀ Q : VK, (∀ v H' F' x, T x → Same H H' → Same F F' → Same F' H' → NoOwn F H F' → RV c F' v x → Q v H') → WE X e σ H Q
abbrev rMS (c : Ct) (T : SV → Prop) : Rel := fun H H' v => ∃ x, T x ∧ RM c x H H' v
theorem back_ms {c : Ct} {T : SV → Prop} : Back (rMS c T) := fun _ _ _ _ e ⟨x, p, h⟩ => ⟨x, p, RM.mono e h⟩
/-- a test of which nothing is known -/
def ETN (c : Ct) (X : Cx) (env : Ev') (e : Expr) : Prop := ∀ σ H, Rd c H σ env → ∀ Q : Bool → Hp → Prop, (∀ b H', Same H H' → Q b H') → WT X e σ H Q
def ETsN (c : Ct) (X : Cx) (env : Ev') (ifs : List Expr) : Prop := ∀ σ H, Rd c H σ env → ∀ Q : Bool → Hp → Prop, (∀ b H', Same H H' → Q b H') → WTs X ifs σ H Q
def isI : SV → Prop := fun y => ∃ i : Int, y = .d (.int i)
section
variable {c : Ct} {X : Cx} {env : Ev'} {e a b : Expr} {x y z : SV} {R : Rel} {pos : Pos} {T U : SV → Prop}
theorem EF.s (h : EF c X env e x) : EFS c X env e (fun y => y = x) := fun σ H F fz Q q => h σ H F fz Q fun v H' F' s1 s2 s3 s4 r => q v H' F' x rfl s1 s2 s3 s4 r
theorem es_efs (h : EG c X env e (rS c T)) : EFS c X env e T := fun σ H F fz Q q => h σ H fz.rd Q fun v H' s ⟨x, tx, r⟩ => by
  obtain ⟨G, n, rv⟩ := r
  obtain ⟨F', f1, f2, f3, f4⟩ := union_new fz.sub s n
  exact q v H' F' x tx s f1 f3 f4 (rv.mono f2)
theorem ems_es (h : EG c X env e (rMS c T)) : EG c X env e (rS c T) := h.imp fun _ _ _ ⟨x, t, z⟩ => ⟨x, t, RM.rn z⟩
theorem es_imp (h : EG c X env e (rS c T)) (i : ∀ x, T x → U x) : EG c X env e (rS c U) := h.imp fun _ _ _ ⟨x, t, z⟩ => ⟨x, i x t, z⟩
theorem EN.es (h : EN c X env e x) (t : T x) : EG c X env e (rS c T) := h.imp fun _ _ _ z => ⟨x, t, z⟩
theorem ets_oneN (h : ETN c X env e) : ETsN c X env [e] := fun σ H r Q q pins s I => (pts_one (pt_w (X := X) (e := e))).run pins s σ H Q I (h σ H r Q q)
/-- draw == k -/
theorem etn_eq {k : Int} (ha : EG c X env a (rS c isI)) (hb : EE c X env b (.d (.int k))) (hu : X.A.units + 64 < cLine) (hK : X.K = c.K := by rfl) (hm : behindInMarks .Eq b = false := by first | exact nomark _ | rfl | with_unfolding_all rfl) : ETN c X env (.Compare a [.Eq] [b] pos) := fun σ H rd Q q =>
  WT.of (pt_cmpR (op_eqD hu) pe_w pe_w hm) (ha σ H rd _ fun v H1 s1 ⟨x, ⟨i, hx⟩, rn⟩ => hb σ H1 (rd.mono s1) _ fun w H2 s2 r2 => by
    subst hx
    refine ⟨.int i, .int k, hK ▸ Dq.dp _ v (RN.rv (rn) |>.mono s2), hK ▸ Dq.dp _ w r2, rfl, rfl, ⟨_, rfl, q _ H2 (s1.trans s2)⟩⟩)
/-- xs[draw] -/
theorem eg_ixS {ds : List PyData} (ha : EE c X env a (.d (.list ds))) (hb : EG c X env b (rS c fun y => ∃ i : Nat, i < ds.length ∧ y = .d (.int i))) (hi : ∀ d ∈ ds, imm d = true) (hK : X.K = c.K := by rfl) (hp : PlainIx b := by exact fun _ _ => rfl) : EG c X env (.Subscript a b pos) (rS c fun y => ∃ d ∈ ds, y = .d d) := fun σ H r Q q =>
  WE.of (pe_ix ix_list pe_w pe_w hp) (ha σ H r _ fun v H1 s1 r1 => hb σ H1 (r.mono s1) _ fun w H2 s2 ⟨x, ⟨i, hlt, hx⟩, rn⟩ => by
    subst hx
    obtain ⟨p, vs, rfl, h1, h2⟩ := dq_lst (r1.mono s2)
    cases (show Dq c.K H2 w (.int i) from RN.rv rn)
    have hd : atI ds (i : Int) = some ds[i] := atI_nat (by simp [hlt])
    obtain ⟨u, h3, h4⟩ := atI_dq h2 hd
    exact ⟨p, vs, i, u, rfl, rfl, SqL.of h1, h3, q u H2 (s1.trans s2) ⟨_, ⟨ds[i], List.getElem_mem hlt, rfl⟩, RN.imm (hi _ (List.getElem_mem hlt)) h4⟩⟩)
end
section
variable {c : Ct} {X : Cx} {Rt : SV → Prop} {st : Stmt} {rest : List Stmt} {env : Ev'} {N : NE} {e a b : Expr} {x y : SV} {pos pos' : Pos} {M B C : Ev' → Prop} {T U : SV → Prop}
theorem s1_asgS (i : Nat) {nm : Str} {pn : Pos} (h : EFS c X env e T) (k : ∀ x, T x → M (env.set i (.fr x))) (hN : X.N.Nodup) (hi : X.N[i]? = some nm := by rfl) (hx : Loc X.env.scope nm := by first | exact Or.inl rfl | exact Or.inr rfl)
    (hs : swapsWith e (some (.Name nm pn)) pos.line X.env = pure false := by rfl) (hf : X.fn nm = true ∨ X.env.scope.names.lookup nm = some .local := by first | exact .inl rfl | exact .inr rfl) : S1 c X Rt (.Assign [.Name nm pn] e pos) env ⟨M, B, C⟩ := fun He H0 Q s kq σ H r => by
  obtain ⟨F, f0, r⟩ := r
  exact WS.of (ps_set hN hi hx pe_w hs hf) (h σ H F r.fz _ fun v H' F' x tx s1 s2 s3 s4 rv => ⟨_, ⟨F', f0.trans s2, (r.step s1 s2 s3 s4).setFr i rv⟩, k x tx⟩)
theorem s1_retS (h : EG c X env e (rS c Rt)) : S1 c X Rt (.Return (some e) pos) env N := fun He H0 Q s k σ H r => by
  obtain ⟨F, f0, r⟩ := r
  exact WS.of (ps_ret pe_w) (h σ H r.rd _ fun v H' s1 ⟨x, tx, rn⟩ => k.go (σ := σ) s f0 r.sub s1 tx rn)
theorem s1_ifN {bt bf : List Stmt} (h : ETN c X env e) (h1 : SS c X Rt bt env N) (h2 : SS c X Rt bf env N) : S1 c X Rt (.If e bt bf pos) env N := fun He H0 Q s kq σ H r => by
  obtain ⟨F, f0, r⟩ := r
  refine WS.of (ps_if pt_w pss_w pss_w) (h σ H r.rd _ fun k H' s1 => ?_)
  have f3 : Same F H' := r.sub.trans s1
  have r' : RS c H0 σ H' env := ⟨F, f0, r.step s1 (Same.refl F) f3 NoOwn.refl⟩
  cases k with
  | true => exact iteT (h1 He H0 Q s kq σ H' r')
  | false => exact iteF (h2 He H0 Q s kq σ H' r')
/-- a, b = draw, draw -/
theorem s1_parS (i j : Nat) {n1 n2 : Str} {px py pt : Pos} {kt k2 : _} {pt2 : Pos} (h1 : EFS c X env a T) (h2 : EFS c X env b U) (kk : ∀ x y, T x → U y → M ((env.set i (.fr x)).set j (.fr y))) (hNd : X.N.Nodup) (hi0 : i < env.length) (hij : i ≠ j)
    (hi : X.N[i]? = some n1 := by rfl) (hj : X.N[j]? = some n2 := by rfl) (hx : X.env.scope.names.lookup n1 = some .local := by rfl) (hy : X.env.scope.names.lookup n2 = some .local := by rfl)
    (ha : starEach [a, b] X.env = (false, eval a X.env) :: starEach [b] X.env := by rfl) (hb : starEach [b] X.env = (false, eval b X.env) :: starEach [] X.env := by rfl) (hc : X.calm = true := by rfl)
    (hw : swappedStores [.Tuple [.Name n1 px, .Name n2 py] kt pt] (.Tuple [a, b] k2 pt2) X.env = pure (some [n1, n2]) := by rfl) (hs : swapsWithSole [.Tuple [.Name n1 px, .Name n2 py] kt pt] (.Tuple [a, b] k2 pt2) pos.line X.env = pure false := by rfl) :
    S1 c X Rt (.Assign [.Tuple [.Name n1 px, .Name n2 py] kt pt] (.Tuple [a, b] k2 pt2) pos) env ⟨M, B, C⟩ := fun He H0 Q s kq σ H r => by
  obtain ⟨F, f0, r⟩ := r
  refine WS.of (ps_par hc hNd hi hj hij hx hy (pa_cons pe_w (pa_cons pe_w pa_nil hb) ha) hw hs) ?_
  refine h1 σ H F r.fz _ fun v H1 F1 x1 t1 s1 f1 f3 f4 rv => ?_
  have r1 := (r.step s1 f1 f3 f4).setFr i rv
  refine h2 σ H1 F1 (r.fz.step s1 f1 r1.sub) _ fun w H2 F2 x2 t2 s2 g2 g3 g4 rw => ⟨v, w, rfl, _, ⟨F2, (f0.trans f1).trans g2, (r1.step s2 g2 g3 g4).setFr j rw⟩, kk _ _ t1 t2⟩
/-- a, b = draw: one of several pairs -/
theorem s1_unpackS (i j : Nat) {n1 n2 : Str} {px py pt : Pos} {kt : _} (h : EFS c X env e T) (kk : ∀ y, T y → ∃ d1 d2, y = .d (.tuple [d1, d2]) ∧ M ((env.set i (.fr (.d d1))).set j (.fr (.d d2)))) (hNd : X.N.Nodup)
    (hpg : PG X (.Tuple [.Name n1 px, .Name n2 py] kt pt) (g2 X.K i j)) (hK : X.K = c.K := by rfl)
    (hs : swapsWithSole [.Tuple [.Name n1 px, .Name n2 py] kt pt] e pos.line X.env = pure false := by rfl) (hw : swappedStores [.Tuple [.Name n1 px, .Name n2 py] kt pt] e X.env = pure none := by rfl)
    (h1 : (assignEach [.Tuple [.Name n1 px, .Name n2 py] kt pt] X.env).map (·.2) = [assign (.Tuple [.Name n1 px, .Name n2 py] kt pt) X.env] := by rfl) :
    S1 c X Rt (.Assign [.Tuple [.Name n1 px, .Name n2 py] kt pt] e pos) env ⟨M, B, C⟩ := fun He H0 Q s kq σ H r => by
  obtain ⟨F, f0, r⟩ := r
  refine WS.of (ps_asg pe_w hpg hs hw h1) (h σ H F r.fz _ fun v H1 F1 y ty s1 f1 f3 f4 rv => ?_)
  obtain ⟨d1, d2, rfl, hm⟩ := kk y ty
  cases (show Dq c.K F1 v (.tuple [d1, d2]) from rv) with
  | tup ha hd =>
    cases hd with
    | cons q1 t =>
      cases t with
      | cons q2 t =>
        cases t
        exact g2_of (SqT.of (f3 _ _ ha)) ⟨_, ⟨F1, f0.trans f1, ((r.step s1 f1 f3 f4).setFr (x := .d _) i q1).setFr (x := .d _) j q2⟩, hm⟩

/-! ### for over range(draw) -/
def SrcS {β : Type} (c : Ct) (X : Cx) (env : Ev') (tg iter : Expr) (g : TG) (js : List Nat) (Z : List β → Prop) (enc : β → List PyData) : Prop :=
  ∃ wi : TI, PI X tg iter wi ∧ ∀ σ H F, Fz c F H σ env → ∀ R : It → Hp → Prop, (∀ zs J H1 F1, Z zs → Same H H1 → Same F F1 → Same F1 H1 → NoOwn F H F1 → Feeds c J g js zs enc F1 → R J H1) → wi σ H R
theorem src_rngS {tg : Expr} {p : Pos} (j : Nat) {K : Int → Prop} (hm : X.mg "range" = none) (h : EFS c X env a fun y => ∃ k : Int, K k ∧ y = .d (.int k)) (hb : ∀ k, K k → -(2 ^ 62) ≤ k ∧ k < 2 ^ 62) (hg : Gl X "range" := by rfl)
    (hs : starEach [a] X.env = [(false, eval a X.env)] := by rfl) : SrcS c X env tg (.Call (.Name "range" p) [a] [] pos) (gName j) [j] (fun zs => ∃ k, K k ∧ zs = List.range k.toNat) (fun i : Nat => [.int i]) := by
  refine ⟨_, pi_range1 hg hm (pa_cons pe_w pa_nil hs) hs, fun σ H F fz R kk => h σ H F fz _ fun v H' F' x ⟨k, hk, hx⟩ s1 f1 f3 f4 r => ?_⟩
  subst hx
  cases (show Dq c.K F' v (.int k) from r)
  refine ⟨k, rfl, (hb k hk).1, (hb k hk).2, kk _ _ H' F' ⟨k, hk, rfl⟩ s1 f1 f3 f4 ⟨fun i z H2 hz s => (range_get hz).2, fun H2 s => ?_, fun i z H2 x H3 hz s y σ2 QQ q => ?_, fun i z H2 x H3 hz s y => ?_⟩⟩
  · show k.toNat ≤ (List.range k.toNat).length
    rw [List.length_range]
    exact Nat.le_refl _
  · obtain ⟨e, y⟩ := y
    subst e y
    obtain ⟨rfl, _⟩ := range_get hz
    rw [Int.zero_add]
    exact q [.int _] (.cons (.int _) .nil) rfl
  · obtain ⟨e, y⟩ := y
    subst e
    exact Same.refl _
theorem s1_forS {β : Type} {tg iter : Expr} {body : List Stmt} {g : TG} {js : List Nat} {Z : List β → Prop} {enc : β → List PyData} (S : SrcS c X env tg iter g js Z enc) (hg : PG X tg g) (Pv : Nat → Ev' → Prop) (h0 : Pv 0 env)
    (hs : ∀ zs, Z zs → ∀ i z env', zs[i]? = some z → Pv i env' → SS c X Rt body (setE env' js (enc z)) ⟨Pv (i + 1), M, Pv (i + 1)⟩) (hd : ∀ zs, Z zs → ∀ env', Pv zs.length env' → M env') (hc : X.calm = true := by rfl)
    (hfs : ∀ x, foldedSetIterable iter X.env x = pure x := by intro _; rfl) (hp : PassesOwn (model X.prog X.w) X.A X.env X.xe := by exact PassesOwn.never) : S1 c X Rt (.For tg iter body [] pos) env ⟨M, B, C⟩ := fun He H0 Q s kq σ H r => by
  obtain ⟨F, f0, r⟩ := r
  obtain ⟨wi, hpi, hwi⟩ := S
  refine WS.of (ps_for hp hc hpi hg pss_w hfs) (hwi σ H F r.fz _ fun zs J H1 F1 hzs s1 s2 s3 s4 fe => ?_)
  have w : Walk J zs.length (fun H2 => Same F1 H2) (fun i H2 x H' => J.yld i H2 x H') :=
    ⟨fun i H2 hi s => fe.go i zs[i] H2 (by simp [hi]) s, fun H2 s => fe.stop H2 s, fun _ _ _ _ _ _ y => y⟩
  refine for_it (g := g) (tb := WSs X body) (D := NE.up c H0 Q ⟨M, B, C⟩) (σ := σ) (H := H1) w (fun i σ' H' => ∃ env', RS c F1 σ' H' env' ∧ Pv i env') ⟨env, ⟨F1, Same.refl F1, r.step s1 s2 s3 s4⟩, h0⟩
    (fun i σ' H' _ p => ?_) (fun i x σ' H' H'' hi p y => ?_) (fun σ' H' p => ?_)
  · obtain ⟨env', ⟨F', f1, r'⟩, _⟩ := p
    exact f1.trans r'.sub
  · obtain ⟨env', ⟨F', f1, r'⟩, pv⟩ := p
    have hz : zs[i]? = some zs[i] := by simp [hi]
    have sF : Same F1 H' := f1.trans r'.sub
    have gr := fe.grow i zs[i] H' x H'' hz sF y
    refine fe.yld i zs[i] H' x H'' hz sF y _ _ fun vs dv vl => ?_
    have r1 := r'.step gr (Same.refl F') (r'.sub.trans gr) NoOwn.refl
    have r2 := r1.setItems (js := js) (DqAll.mono f1 _ _ dv)
    have hb := hs zs hzs i zs[i] env' hz pv He F1 Q ((s.trans f0).trans s2) kq _ H'' ⟨F', f1, r2⟩
    refine WSs.mono hb (fun _ _ z => z) (fun _ _ z => z) (fun σ3 H3 z => ?_) fun _ _ z => z
    obtain ⟨env3, r3, z⟩ := z
    exact ⟨env3, r3.weak (f0.trans s2), z⟩
  · obtain ⟨env', r', pv⟩ := p
    exact ⟨env', r'.weak (f0.trans s2), hd zs hzs _ pv⟩
/-- xs.append(ys.pop(draw)) -/
theorem s1_appPop (i j : Nat) {nm nl : Str} {pn pa pc pl qa qc : Pos} {ds es : List PyData} {ie : Expr} (he : env[i]? = some (.ow (.d (.list ds)))) (hje : env[j]? = some (.ow (.d (.list es)))) (hij : i ≠ j)
    (h : EG c X env ie (rS c fun y => ∃ k : Nat, k < es.length ∧ y = .d (.int k))) (hz : ds.length < 100000) (hes : es.length < 100000) (kk : ∀ (k : Nat) (hk : k < es.length), M ((env.set j (.ow (.d (.list (es.eraseIdx k))))).set i (.ow (.d (.list (ds ++ [es[k]]))))))
    (hs : swapsWith (.Call (.Attribute (.Name nm pn) "append" pa) [.Call (.Attribute (.Name nl pl) "pop" qa) [ie] [] qc] [] pc) none pos.line X.env = pure false := by rfl)
    (hpe : ∀ te, PE X ie te → MtM X "list.pop" rPopAt → PE X (.Call (.Attribute (.Name nm pn) "append" pa) [.Call (.Attribute (.Name nl pl) "pop" qa) [ie] [] qc] [] pc) (tBM X.K "list" rAppend (tVar i) (tCons (tBM X.K "list" rPopAt (tVar j) (tCons te tNil)) tNil)) := by
      intro te hte hm; exact pe_bm PySem.F.plainAttrs_list PySem.F.slot_list_append PySem.F.type_list_append mt_append (pv _) (pa_cons (pe_bm PySem.F.plainAttrs_list PySem.F.slot_list_pop PySem.F.type_list_pop hm (pv _) (pa_cons hte pa_nil)) pa_nil)) :
    S1 c X Rt (.Expr (.Call (.Attribute (.Name nm pn) "append" pa) [.Call (.Attribute (.Name nl pl) "pop" qa) [ie] [] qc] [] pc) pos) env ⟨M, B, C⟩ := fun He H0 Q s kq σ H r => by
  obtain ⟨F, f0, r⟩ := r
  obtain ⟨a, h1, h2, xs, h3, h4⟩ := r.ow i _ he
  obtain ⟨b, j1, j2, ys, j3, j4⟩ := r.ow j _ hje
  have hab : a ≠ b := fun q => r.ap i j a _ _ hij he hje h1 (q ▸ j1)
  refine WS.of (ps_expr (hpe _ pe_w mt_popAt) hs) ⟨_, h1, Or.inl ⟨rfl, _, SqL.of h3⟩, ⟨_, j1, Or.inl ⟨rfl, _, SqL.of j3⟩, h σ H r.rd _ fun v H' s1 ⟨x, ⟨k, hk, hx⟩, rn⟩ => ?_⟩⟩
  subst hx
  cases (show Dq c.K H' v (.int k) from RN.rv rn)
  have r1 := r.step s1 (Same.refl F) (r.sub.trans s1) NoOwn.refl
  obtain ⟨d, hd⟩ : ∃ d, es[k]? = some d := ⟨es[k], by simp [hk]⟩
  obtain ⟨y, hy, dy⟩ := DqAll.get j4 hd
  have ex : ∀ {vs : List V} {ds : List PyData} (n : Nat), DqAll c.K F vs ds → DqAll c.K F (vs.eraseIdx n) (ds.eraseIdx n) := by
    intro vs
    induction vs with
    | nil => intro ds n h; cases h; exact .nil
    | cons w ws ih =>
      intro ds n h
      cases h with
      | cons g1 g2 =>
        cases n with
        | zero => exact g2
        | succ n => exact .cons g1 (ih n g2)
  have r2 := r1.write (o := .lst (ys.eraseIdx k)) (y := .d (.list (es.eraseIdx k))) hje j1 ⟨_, upd_same, ex k j4⟩
  refine ⟨b, ys, (k : Int), k, y, rfl, rfl, s1 _ _ j3, by omega, by omega, ?_, hy, ?_⟩
  · unfold seqIndex?
    rw [j4.len]
    simp only [show ¬ ((k : Int) < 0) from by omega, if_false]
    rw [if_pos (by simp; omega)]
    simp
  · have hes2 : es[k] = d := by
      have := List.getElem?_eq_some_iff.mp hd
      obtain ⟨_, e⟩ := this
      exact e
    have g3 : upd H' b (.lst (ys.eraseIdx k)) a = some (.lst xs) := by rw [upd_ne hab]; exact s1 _ _ h3
    have he2 : (env.set j (.ow (.d (.list (es.eraseIdx k)))))[i]? = some (.ow (.d (.list ds))) := by rw [List.getElem?_set_ne (Ne.symm hij)]; exact he
    refine ⟨a, xs, y, rfl, rfl, g3, by rw [h4.len]; exact Nat.lt_of_lt_of_le hz (by decide), _, ⟨F, f0, r2.write (o := .lst (xs ++ [y])) (y := .d (.list (ds ++ [d]))) he2 h1 ⟨_, upd_same, h4.app (.cons dy .nil)⟩⟩, ?_⟩
    have := kk k hk
    rw [hes2] at this
    exact this
end

/-! ### _law_pick -/
section
variable {c : Ct} {P : Program} {w : World} {mg : Str → Option Value} {base : Heap} {f : Addr} {fd : FuncData} {nm : Str} {j k : Nat} {S : Sc}
def sPick : Sc := fun xs R => ∃ ds : List PyData, xs = [.row, .d (.list ds)] ∧ 1 ≤ ds.length ∧ ds.length ≤ 1000 ∧ (∀ d ∈ ds, imm d = true) ∧ R = fun y => ∃ d ∈ ds, y = .d d
abbrev stPick : Stmt := top 45
theorem scPick : FnScope ["_law_row", "_law_some"] ["_law_row", "_law_some"] (defScope stPick) := ⟨rfl, rfl, rfl, by decide +kernel, rfl, by decide +kernel, by decide +kernel⟩
theorem own_pick (D : Df c mg "_law_pick" stPick ["_law_row", "_law_some"] f fd) (B : Bl mg) (OT : Own c P w mg base "_law_taken" 1 sTaken) : Own c P w mg base "_law_pick" 2 sPick := by
  refine own_mk D scPick (fun xs R h => ?_) (fun cdv A outer s H E hr xs R h => ?_)
  · obtain ⟨ds, rfl, _⟩ := h
    rfl
  · obtain ⟨ds, rfl, h1, h2, h3, rfl⟩ := h
    refine ss_cons (s1_retS (eg_ixS (ee_name 1) (es_imp (eg_call (S := sTaken) (k := 1) (xs := [.row, .d (.int (ds.length : Nat))]) OT hr (ea_cons (ee_name 0) (ea_cons (eg_callB cg_lenL B.len (ea_cons (ee_name 1) ea_nil) back_e) ea_nil)) ⟨(ds.length : Nat), rfl, by omega, by omega, rfl⟩) fun y ⟨i, hi, hy⟩ => ⟨i, by omega, hy⟩) h3))
end
end K33

set_option maxHeartbeats 400000
/-! K33zf: _law_mixed, _law_beside. -/
namespace K33
open PySem PySem.Spec PyProof.Rows L2
def iL (ns : List Int) : PyData := .list (ns.map .int)
def lists (ls : List (List Int)) : List PyData := ls.map iL
theorem nats_len (l : List Nat) : (nats l).length = l.length := by unfold nats; rw [List.length_map]
theorem atI_lists {L : List (List Int)} {i : Nat} (h : i < L.length) : atI (lists L) (i : Int) = some (iL (L.getD i [])) := atI_nat (by unfold lists; rw [List.getElem?_map, List.getD_eq_getElem?_getD]; simp [h])
section
variable {c : Ct} {X : Cx} {env : Ev'} {e a b : Expr} {x y z : SV} {pos p p2 pos2 : Pos}
/-- list(range(n)) -/
theorem em_listRg {n : Nat} (h : EE c X env a (.d (.int (n : Nat)))) (hn : n ≤ 1000) (hm1 : X.mg "list" = none) (hm2 : X.mg "range" = none) (hc : X.calm = true := by rfl) (hg1 : Gl X "list" := by rfl) (hg2 : Gl X "range" := by rfl)
    (na : starEach [a] X.env = (false, eval a X.env) :: starEach [] X.env := by rfl) (na2 : starEach [.Call (.Name "range" p2) [a] [] pos2] X.env = (false, eval (.Call (.Name "range" p2) [a] [] pos2) X.env) :: starEach [] X.env := by rfl) :
    EM c X env (.Call (.Name "list" p) [.Call (.Name "range" p2) [a] [] pos2] [] pos) (.d (.list ((nats (List.range n)).map .int))) := fun σ H r Q q =>
  WE.of (pe_listRg hc hg1 hm1 (prg_1 hg2 hm2 pe_w na) na2) (h σ H r _ fun v H1 s1 r1 => by
    cases (show Dq c.K H1 v (.int (n : Nat)) from r1)
    refine ⟨_, rfl, RgOk.of_le (by omega) (by omega) (by omega) (by omega), fun q1 hq => q _ _ (s1.trans (same_upd hq)) ?_⟩
    refine RM.mono s1 (rm_list hq (imm_ints _) ?_)
    have e : rgV 0 (n : Int) = (nats (List.range n)).map V.int := by
      unfold rgV nats
      rw [Int.sub_zero, Int.toNat_natCast, List.map_map]
      refine List.map_congr_left fun i _ => ?_
      simp
    rw [e]
    have all : ∀ l : List Int, DqAll c.K H1 (l.map V.int) (l.map PyData.int) := by
      intro l
      induction l with
      | nil => exact .nil
      | cons z l ih => exact .cons (.int z) ih
    exact all _)
end
theorem erase_ints (l : List Nat) (k : Nat) : ((nats l).map PyData.int).eraseIdx k = (nats (l.eraseIdx k)).map PyData.int := by
  unfold nats
  induction l generalizing k with
  | nil => rfl
  | cons x l ih =>
    cases k with
    | zero => rfl
    | succ k =>
      simp only [List.map_cons, List.eraseIdx_cons_succ]
      rw [ih k]
theorem perm_move (o l : List Nat) (k : Nat) (hk : k < l.length) : ((o ++ [l[k]]) ++ l.eraseIdx k).Perm (o ++ l) := by
  rw [List.append_assoc]
  refine List.Perm.append_left o ?_
  have : ∀ (l : List Nat) (k : Nat) (hk : k < l.length), ([l[k]] ++ l.eraseIdx k).Perm l := by
    intro l
    induction l with
    | nil => intro k hk; cases hk
    | cons x l ih =>
      intro k hk
      cases k with
      | zero => exact List.Perm.refl _
      | succ k =>
        have h := ih k (by simpa using hk)
        have hk' : k < l.length := by simpa using hk
        rw [List.eraseIdx_cons_succ, List.getElem_cons_succ]
        exact (List.Perm.swap x (l[k]'hk') _).trans (List.Perm.cons x h)
  exact this l k hk
def mixM (L : List (List Int)) (o : List Nat) : List (List Int) := o.map fun i => o.map fun j => (L.getD i []).getD j 0
section
variable {c : Ct} {P : Program} {w : World} {mg : Str → Option Value} {base : Heap} {f : Addr} {fd : FuncData} {nm : Str} {j k : Nat} {S : Sc}
def sMixed : Sc := fun xs R => ∃ L, xs = [.row, .d (.list (lists L))] ∧ L.length ≤ 8 ∧ (∀ r ∈ L, r.length = L.length) ∧ R = fun y => ∃ o : List Nat, o.Perm (List.range L.length) ∧ y = .d (.tuple (tups (mixM L o)))
abbrev stMixed : Stmt := top 48
abbrev nMixed : List Str := ["_law_row", "_law_pushes", "_law_left", "_law_order", "_law_one", "_law_other"]
theorem scMixed : FnScope nMixed ["_law_row", "_law_pushes"] (defScope stMixed) := ⟨rfl, rfl, rfl, by decide +kernel, rfl, by decide +kernel, by decide +kernel⟩
theorem own_mixed (D : Df c mg "_law_mixed" stMixed ["_law_row", "_law_pushes"] f fd) (B : Bl mg) (OT : Own c P w mg base "_law_taken" 1 sTaken) : Own c P w mg base "_law_mixed" 2 sMixed := by
  refine own_mk D scMixed (fun xs R h => ?_) (fun cdv A outer s H E hr xs R h => ?_)
  · obtain ⟨L, rfl, _⟩ := h
    rfl
  · obtain ⟨L, rfl, hl, hrow, rfl⟩ := h
    have nd := scMixed.nd
    have ll : (lists L).length = L.length := by unfold lists; rw [List.length_map]
    refine ss_cons (s1_tup2 (x := .d (.list ((nats (List.range L.length)).map .int))) (y := .d (.list ((nats []).map .int))) 2 3 true true (ex_m (em_listRg (EE.is (eg_callB (cg_lenL (ds := lists L)) B.len (ea_cons (ee_name 1) ea_nil) back_e) (by rw [ll])) (by omega) B.list B.range)) (ex_m (em_lst ean_nil)) ?_
      (pg_tup rfl (pgs_cons (pg_name nd rfl (Or.inl rfl) (Or.inr rfl)) (pgs_cons (pg_name nd rfl (Or.inr rfl) (Or.inl rfl)) pgs_nil))))
    refine ss_cons (s1_while (fun m env' => ∃ (order left : List Nat), env' = [.fr .row, .fr (.d (.list (lists L))), .ow (.d (.list ((nats left).map .int))), .ow (.d (.list ((nats order).map .int))), .no, .no] ∧ (order ++ left).Perm (List.range L.length) ∧ left.length = m) L.length ⟨[], List.range L.length, rfl, List.Perm.refl _, List.length_range⟩ ?_)
    rintro m env' ⟨order, left, rfl, hp, hm⟩
    have hlen : order.length + left.length = L.length := by have := hp.length_eq; rw [List.length_append, List.length_range] at this; exact this
    refine ⟨!decide (nats left = []), et_cmp (og_ne hr.units (shaped_ints _) (shaped_ints []) (by rw [eqv_ints, Bool.not_not])) (ee_name 2) (EM.ee (em_lst ean_nil)), fun e => ?_, fun e => ?_⟩
    · have ne : ¬ nats left = [] := by simpa using e
      have hl1 : 1 ≤ left.length := by
        cases left with
        | nil => exact absurd rfl ne
        | cons x l => simp
      have lm : ((nats left).map PyData.int).length = left.length := by rw [List.length_map, nats_len]
      refine ss_cons (s1_appPop 3 2 rfl rfl (by decide) (es_imp (eg_call (S := sTaken) (k := 1) (xs := [.row, .d (.int (left.length : Nat))]) OT hr (ea_cons (ee_name 0) (ea_cons (EE.is (eg_callB (cg_lenL (ds := (nats left).map .int)) B.len (ea_cons (ee_name 2) ea_nil) back_e) (by rw [lm])) ea_nil)) ⟨(left.length : Nat), rfl, by omega, by omega, rfl⟩) fun y ⟨i, hi, hy⟩ => ⟨i, by rw [lm]; omega, hy⟩)
        (by rw [List.length_map, nats_len]; omega) (by rw [lm]; omega) fun k hk => ss_nil ?_)
      have hk' : k < left.length := by rw [lm] at hk; exact hk
      refine ⟨left.length - 1, by omega, order ++ [left[k]], left.eraseIdx k, ?_, (perm_move order left k hk').trans hp, by rw [List.length_eraseIdx_of_lt hk']⟩
      have e1 : ((nats left).map PyData.int)[k] = .int (left[k] : Nat) := by simp [nats]
      rw [erase_ints]
      have e2 : (nats order).map PyData.int ++ [((nats left).map PyData.int)[k]] = (nats (order ++ [left[k]])).map PyData.int := by rw [e1]; simp [nats]
      rw [e2]
      rfl
    · have ne : nats left = [] := by simpa using e
      have hle : left = [] := by
        cases left with
        | nil => rfl
        | cons x l => cases ne
      subst hle
      rw [List.append_nil] at hp
      refine ss_freeze 3 rfl ?_
      have hin : ∀ o ∈ order, o < L.length := fun o ho => List.mem_range.mp (hp.mem_iff.mp ho)
      have hol : order.length ≤ 8 := by simp at hlen; omega
      refine ss_cons (s1_ret (EE.en (EE.is (eg_callT (cg_tuple) B.tuple (ea_cons (EM.ee (em_lc (lc_ok (own := [("_law_one", 4)]) (fun _ => true) (fun i : Nat => iT (order.map fun j => (L.getD i []).getD j 0)) (src_list 4 order (fun o : Nat => .int (o : Int)) (EF.is (ef_name 3) (by simp [nats, Function.comp_def])))
        ?ok1 (pg1 4 nd) (by decide) (fun z hz s H C cl fp => ets_nil) (fun i hi _ s H C cl fp => EE.en (EE.is (eg_callT (cg_tuple) B.tuple (ea_cons (EM.ee (em_lc
          (lc_ok (own := [("_law_other", 5)]) (fun _ => true) (fun o : Nat => .int ((L.getD i []).getD o 0)) (src_list 5 order (fun o : Nat => .int (o : Int)) (EF.is (ef_name 3) (by simp [nats, Function.comp_def])))
            ?ok2 (pg1 5 nd) (by decide) (fun z hz s H C cl fp => ets_nil) (fun o ho _ s H C cl fp => ?elt) (by omega)) nd)) ea_nil) back_e) ?tup) (imm_iT _)) (by omega)) nd)) ea_nil) back_e) ?fin) ?im) ⟨order, hp, rfl⟩)
      case ok1 => exact blkOk_by (N := nMixed) (sc := defScope stMixed) (by decide +kernel)
      case ok2 => exact blkOk_by (N := nMixed) (sc := relS _ (defScope stMixed)) (by decide +kernel)
      case elt =>
        have h1 := hin i hi
        have h2 := hin o ho
        have h3 : (L.getD i []).length = L.length := hrow _ (by rw [List.getD_eq_getElem?_getD, List.getElem?_eq_getElem h1]; exact List.getElem_mem _)
        exact EE.en (ee_ixL (ee_ixL (ee_name 1) (ee_name 4) (atI_lists h1)) (ee_name 5) (atI_int (by rw [h3]; exact h2))) rfl
      case tup => rw [filt_true]; simp [iT, List.map_map, Function.comp_def]
      case fin => rw [filt_true]; simp [mixM, tups, List.map_map, Function.comp_def]
      case im => rw [imm]; exact imm_tups _

/-! ### _law_beside -/
/-- x = [..]; return x + [..] -/
theorem ss_two {X : Cx} {Rt : SV → Prop} {env : Ev'} {N : NE} {pos pos' : Pos} {e2 : Expr} (i : Nat) {nm : Str} {pn cpos pb pr : Pos} {tg iter elt : Expr} {ifs : List Expr} {scope : Scope} {own : List (Str × Nat)} {ds fs : List PyData} (L : LcOk c X env tg iter elt ifs scope own ds)
    (h2 : EM c X (env.set i (.fr (.d (.list ds)))) e2 (.d (.list fs))) (hz : ds.length + fs.length ≤ 100000) (hx : Rt (.d (.list (ds ++ fs)))) (hie : i < env.length) (hN : X.N.Nodup) (hi : X.N[i]? = some nm := by rfl)
    (hv : Vis X.env.scope nm := by first | exact Or.inl rfl | exact Or.inr (Or.inl rfl) | exact Or.inr (Or.inr rfl)) (hd : (nm == ("__debug__" : Str)) = false := by decide) (hcd : (nm == ("__classdict__" : Str)) = false := by decide)
    (hyl : X.env.scope.names.lookup nm = some .local := by rfl) (hsw : swapsWith (.ListComp elt [⟨tg, iter, ifs, 0⟩] scope cpos) (some (.Name nm pn)) pos.line X.env = pure true := by exact sw_true rfl rfl rfl (by decide +kernel)) (hc : X.calm = true := by rfl)
    (hs : ∀ x, foldedSetIterable iter X.env x = pure x := by intro _; rfl) : SS c X Rt [.Assign [.Name nm pn] (.ListComp elt [⟨tg, iter, ifs, 0⟩] scope cpos) pos, .Return (some (.BinOp (.Name nm pb) .Add e2 pr)) pos'] env N := fun He H0 Q s kq σ H r => by
  obtain ⟨F, f0, r⟩ := r
  obtain ⟨ok, g, wi, tt, te, g1, g2, g3, g4, g5⟩ := L
  refine WSs.of (pss_cons (ps_setLc (i := i) hc hN hi hyl hsw g1 ok g2 g3 g4 hs) (pss_cons (ps_ret (pe_op op_cat (pe_var (i := i) hi hv hd hcd) pe_w)) pss_nil)) ?_
  unfold tSeq tAsg
  refine g5 σ H r.rd _ fun v H1 s1 rm => ?_
  obtain ⟨G, p, n, rfl, hp, gp, xs, q1, q2⟩ := rm
  have hσ : (σ.set i (some (V.ref p)))[i]? = some (some (V.ref p)) := List.getElem?_set_self (by rw [r.len]; exact hie)
  refine ⟨_, hσ, ?_⟩
  have rd1 : Rd c H1 (σ.set i (some (V.ref p))) (env.set i (.fr (.d (.list ds)))) := Rd.set (s := .fr (.d (.list ds))) i rfl (r.rd.mono s1) (.lst q1 (DqAll.mono n.sub _ _ q2))
  refine h2 _ H1 rd1 _ fun w H2 s2 rm2 => ?_
  obtain ⟨G2, p2, n2, rfl, hp2, gp2, xs2, q3, q4⟩ := rm2
  refine ⟨p, p2, xs, xs2, rfl, rfl, s2 _ _ q1, q3, by rw [q2.len, q4.len]; exact Nat.le_trans hz (by decide), fun p3 hp3 => ?_⟩
  obtain ⟨U, nu, u1, u2⟩ := NewPart.union (NewPart.mk (H := H) (H' := H2) (G := G) (n.sub.trans s2) n.new) (n2.mono s1)
  have uU : U p3 = none := by
    cases e : U p3 with
    | none => rfl
    | some o => rw [nu.sub _ _ e] at hp3; cases hp3
  have s12 := s1.trans s2
  have rmf : RM c (.d (.list (ds ++ fs))) H (upd H2 p3 (.lst (xs ++ xs2))) (.ref p3) := ⟨U, p3, ⟨nu.sub.trans (same_upd hp3), nu.new⟩, rfl, s12.free hp3, uU, xs ++ xs2, upd_same, (DqAll.mono u1 _ _ q2).app (DqAll.mono u2 _ _ q4)⟩
  exact RetOk.go (σ := σ) kq s f0 r.sub (s12.trans (same_upd hp3)) hx (RM.rn rmf)
def besM (L M : List (List Int)) : List (List Int) := (L.map fun r => r ++ List.replicate M.length 0) ++ M.map fun r => List.replicate L.length 0 ++ r
def sBeside : Sc := fun xs R => ∃ L M, xs = [.d (.list (lists L)), .d (.list (lists M))] ∧ L.length ≤ 8 ∧ M.length ≤ 8 ∧ (∀ r ∈ L, r.length ≤ 8) ∧ (∀ r ∈ M, r.length ≤ 8) ∧ R = fun y => y = .d (.list (lists (besM L M)))
abbrev stBeside : Stmt := top 49
abbrev nBeside : List Str := ["_law_one", "_law_other", "_law_own", "_law_found"]
theorem scBeside : FnScope nBeside ["_law_one", "_law_other"] (defScope stBeside) := ⟨rfl, rfl, rfl, by decide +kernel, rfl, by decide +kernel, by decide +kernel⟩
theorem own_beside (D : Df c mg "_law_beside" stBeside ["_law_one", "_law_other"] f fd) (B : Bl mg) : Own c P w mg base "_law_beside" 1 sBeside := by
  refine own_mk D scBeside (fun xs R h => ?_) (fun cdv A outer s H E hr xs R h => ?_)
  · obtain ⟨L, M, rfl, _⟩ := h
    rfl
  · obtain ⟨L, M, rfl, hl, hm, hrl, hrm, rfl⟩ := h
    have nd := scBeside.nd
    have ll : (lists L).length = L.length := by unfold lists; rw [List.length_map]
    have lm : (lists M).length = M.length := by unfold lists; rw [List.length_map]
    refine ss_two (ds := ((L.filter fun _ => true).map fun r => iL (r ++ List.replicate M.length 0))) (fs := ((M.filter fun _ => true).map fun r => iL (List.replicate L.length 0 ++ r))) 3
      (lc_ok (own := [("_law_own", 2)]) (fun _ => true) (fun r : List Int => iL (r ++ List.replicate M.length 0)) (src_list 2 L iL (ef_name 0)) ?ok1 (pg1 2 nd) (by decide) (fun z hz s H C cl fp => ets_nil)
        (fun r hr2 _ s H C cl fp => EM.en (EM.is (em_bin (og_cat (ds := r.map .int) (fs := (List.replicate M.length 0).map .int) (imm_ints _) (imm_ints _) ?z1) (EM.ee (eg_callT (cg_list (t := false) (imm_ints r)) B.list (ea_cons (ee_name 2) ea_nil) back_m))
          (EM.ee (EM.is (em_bin (og_rep (ds := [.int 0]) (k := (M.length : Nat)) rfl ⟨by omega, by omega⟩ ?z2) (EM.ee (em_lst (ds := [.int 0]) (ean_cons (EE.en ee_int rfl) ean_nil) (by simp))) (EE.is (eg_callB (cg_lenL (ds := lists M)) B.len (ea_cons (ee_name 1) ea_nil) back_e) (by rw [lm]))) (by rw [rep_flat])))) (by unfold iL; rw [List.map_append]))) (by omega))
      (em_lc (lc_ok (own := [("_law_own", 2)]) (fun _ => true) (fun r : List Int => iL (List.replicate L.length 0 ++ r)) (src_list 2 M iL (ef_name 1)) ?ok2 (pg1 2 nd) (by decide) (fun z hz s H C cl fp => ets_nil)
        (fun r hr2 _ s H C cl fp => EM.en (EM.is (em_bin (og_cat (ds := (List.replicate L.length 0).map .int) (fs := r.map .int) (imm_ints _) (imm_ints _) ?z3)
          (EM.ee (EM.is (em_bin (og_rep (ds := [.int 0]) (k := (L.length : Nat)) rfl ⟨by omega, by omega⟩ ?z4) (EM.ee (em_lst (ds := [.int 0]) (ean_cons (EE.en ee_int rfl) ean_nil) (by simp))) (EE.is (eg_callB (cg_lenL (ds := lists L)) B.len (ea_cons (ee_name 0) ea_nil) back_e) (by rw [ll]))) (by rw [rep_flat])))
          (EM.ee (eg_callT (cg_list (t := false) (imm_ints r)) B.list (ea_cons (ee_name 2) ea_nil) back_m))) (by unfold iL; rw [List.map_append]))) (by omega)) nd)
      ?hz ?hx (by show 3 < 4; decide) nd
    case ok1 => exact blkOk_by (N := nBeside) (sc := defScope stBeside) (by decide +kernel)
    case ok2 => exact blkOk_by (N := nBeside) (sc := defScope stBeside) (by decide +kernel)
    case z1 => have := hrl r hr2; simp only [List.length_map, List.length_replicate]; omega
    case z2 => simp; omega
    case z3 => have := hrm r hr2; simp only [List.length_map, List.length_replicate]; omega
    case z4 => simp; omega
    case hz => simp only [List.length_map, filt_true]; omega
    case hx => simp [besM, lists, filt_true, List.map_map, Function.comp_def]
end
end K33

set_option maxHeartbeats 400000
/-! K33zg: a matrix that is changed in place; tables by text. -/
namespace K33
open PySem PySem.Spec PyProof.Rows L2
def atom : PyData → Bool
  | .none => true
  | .bool _ => true
  | .int _ => true
  | .str _ => true
  | _ => false
theorem atom_any {K : PySem.W.Frag} {H H' : Hp} {v : V} {d : PyData} (h : atom d = true) (r : Dq K H v d) : Dq K H' v d := by
  cases r with
  | non => exact .non
  | bl b => exact .bl b
  | int i => exact .int i
  | str x => exact .str x
  | lst _ _ => cases h
  | tup _ _ => cases h
def atomS : Sl → Bool
  | .no => true
  | .fr (.d d) => atom d
  | _ => false
def atomL (env : Ev') : Bool := env.all atomS
theorem atomL_at {env : Ev'} (h : atomL env = true) {i : Nat} {s : Sl} {x : SV} (e : env[i]? = some s) (g : s.get = some x) : s = .fr x ∧ ∃ d, x = .d d ∧ atom d = true := by
  have hs := List.all_eq_true.mp h s (List.mem_of_getElem? e)
  cases s with
  | no => cases g
  | ow y => cases hs
  | fr y =>
    cases g
    refine ⟨rfl, ?_⟩
    cases x with
    | d d => exact ⟨d, rfl, hs⟩
    | p m => cases hs
    | o m => cases hs
    | dT _ => cases hs
    | dK _ => cases hs
    | hall _ => cases hs
    | row => cases hs
    | ty _ => cases hs
    | tys _ => cases hs
    | cls => cases hs
theorem atomL_rd {c : Ct} {H H' : Hp} {σ : L2.St} {env : Ev'} (h : atomL env = true) (r : Rd c H σ env) : Rd c H' σ env := ⟨r.len, fun i s x a b => by
  obtain ⟨v, h1, h2⟩ := r.at_ i s x a b
  obtain ⟨_, d, rfl, hd⟩ := atomL_at h a b
  exact ⟨v, h1, atom_any hd h2⟩⟩
def setM (m : List (List Int)) (i j : Nat) (z : Int) : List (List Int) := m.set i ((m.getD i []).set j z)
abbrev RowsAt (H : Hp) : List Addr → List (List Int) → Prop := Paired fun b row => H b = some (.lst (row.map V.int))
structure MA (c : Ct) (H0 : Hp) (a : Addr) (as : List Addr) (rows : List (List Int)) (σ : L2.St) (H : Hp) (env : Ev') : Prop where
  rd : Rd c H σ env
  sm : Same H0 H
  sl : σ[3]? = some (some (V.ref a))
  at_ : H a = some (.lst (as.map V.ref))
  rw : RowsAt H as rows
structure Fre (H0 : Hp) (a : Addr) (as : List Addr) : Prop where
  fa : H0 a = none
  fs : ∀ b ∈ as, H0 b = none
  nd : (a :: as).Nodup
theorem rows_get {H : Hp} : ∀ {as : List Addr} {rows : List (List Int)} {i : Nat}, RowsAt H as rows → i < rows.length → ∃ b, as[i]? = some b ∧ H b = some (.lst ((rows.getD i []).map V.int))
  | _, _, _, .nil, h => by simp at h
  | _, _, 0, .cons (a := b) h t, _ => ⟨b, rfl, h⟩
  | _, _, i + 1, .cons h t, hl => by
    obtain ⟨b, h1, h2⟩ := rows_get t (by simpa using hl)
    exact ⟨b, by simpa using h1, by simpa using h2⟩
theorem rows_mono {H H' : Hp} {as : List Addr} {rows : List (List Int)} (s : Same H H') (h : RowsAt H as rows) : RowsAt H' as rows := Paired.mapP h fun _ _ z => s _ _ z
theorem rows_skip {H : Hp} {a : Addr} {o : HO} {l : List Addr} {rs : List (List Int)} (hn : a ∉ l) (h : RowsAt H l rs) : RowsAt (upd H a o) l rs := by
  induction h with
  | nil => exact .nil
  | @cons x y xs ys h1 h2 ih =>
    have nx : x ≠ a := fun q => hn (q ▸ List.mem_cons_self)
    exact .cons (by rw [upd_ne nx]; exact h1) (ih fun q => hn (List.mem_cons_of_mem _ q))
theorem rows_put {H : Hp} {b : Addr} {j : Nat} {z : Int} {as : List Addr} {rows : List (List Int)} {i : Nat} (nd : as.Nodup) (h : RowsAt H as rows) (e : as[i]? = some b) : RowsAt (upd H b (.lst (((rows.getD i []).map V.int).set j (.int z)))) as (setM rows i j z) := by
  induction h generalizing i with
  | nil => simp at e
  | @cons a r as rs h t ih =>
    cases i with
    | zero =>
      have e : a = b := by simpa using e
      subst e
      have na : a ∉ as := (List.nodup_cons.mp nd).1
      unfold setM
      simp only [List.set_cons_zero, List.getD_cons_zero]
      exact .cons (by rw [upd_same, map_set]) (rows_skip na t)
    | succ i =>
      have e : as[i]? = some b := by simpa using e
      have na : a ≠ b := fun q => (List.nodup_cons.mp nd).1 (q ▸ List.mem_of_getElem? e)
      have := ih (List.nodup_cons.mp nd).2 e
      unfold setM at this ⊢
      simp only [List.set_cons_succ, List.getD_cons_succ]
      exact .cons (by rw [upd_ne na]; exact h) this
abbrev MN := Ev' → List (List Int) → Prop
def upMat (c : Ct) (H0 : Hp) (a : Addr) (as : List Addr) (Q : VK) (N : MN) : Ends := ⟨fun σ H => ∃ env rows, MA c H0 a as rows σ H env ∧ N env rows, Q, fun _ _ => False, fun _ _ => False⟩
section
variable {c : Ct} {X : Cx} {Rt : SV → Prop} {a : Addr} {as : List Addr} {st : Stmt} {rest : List Stmt} {env : Ev'} {rows : List (List Int)} {N : MN} {e d b : Expr} {x : SV} {pos pos' : Pos}
def NS (c : Ct) (X : Cx) (Rt : SV → Prop) (a : Addr) (as : List Addr) (sts : List Stmt) (env : Ev') (rows : List (List Int)) (N : MN) : Prop := ∀ He H0 Q, Same He H0 → Fre H0 a as → RetOk c Rt He Q → ∀ σ H, MA c H0 a as rows σ H env → WSs X sts (upMat c H0 a as Q N) σ H
def N1 (c : Ct) (X : Cx) (Rt : SV → Prop) (a : Addr) (as : List Addr) (st : Stmt) (env : Ev') (rows : List (List Int)) (N : MN) : Prop := ∀ He H0 Q, Same He H0 → Fre H0 a as → RetOk c Rt He Q → ∀ σ H, MA c H0 a as rows σ H env → WS X st (upMat c H0 a as Q N) σ H
theorem ns_nil (h : N env rows) : NS c X Rt a as [] env rows N := fun _ _ _ _ _ _ σ H m => WSs.of pss_nil ⟨env, rows, m, h⟩
theorem ns_cons (h : N1 c X Rt a as st env rows fun env rows => NS c X Rt a as rest env rows N) : NS c X Rt a as (st :: rest) env rows N := fun He H0 Q s f k σ H m =>
  WSs.of (pss_cons ps_w pss_w) (fun pins s' I => thn (h He H0 Q s f k σ H m pins s' I) fun fl s2 q => by
    refine SP.mono q (fun σ' H' z => ?_) (fun _ _ z => z) (fun _ _ z => z) fun _ _ z => z
    obtain ⟨env, rows, m', z⟩ := z
    exact z He H0 Q s f k σ' H' m')
theorem MA.step {H0 H H' : Hp} {σ : L2.St} (m : MA c H0 a as rows σ H env) (s : Same H H') : MA c H0 a as rows σ H' env := ⟨m.rd.mono s, m.sm.trans s, m.sl, s _ _ m.at_, rows_mono s m.rw⟩
theorem MA.set {H0 H : Hp} {σ : L2.St} {v : V} (m : MA c H0 a as rows σ H env) (i : Nat) (hi : i ≠ 3) (r : RV c H v x) : MA c H0 a as rows (σ.set i (some v)) H (env.set i (.fr x)) := ⟨m.rd.set i rfl r, m.sm, by rw [List.getElem?_set_ne hi]; exact m.sl, m.at_, m.rw⟩
theorem n1_if {k : Bool} {bt bf : List Stmt} (h : ET c X env e k) (h1 : k = true → NS c X Rt a as bt env rows N) (h2 : k = false → NS c X Rt a as bf env rows N) : N1 c X Rt a as (.If e bt bf pos) env rows N := fun He H0 Q s f kq σ H m => by
  refine WS.of (ps_if pt_w pss_w pss_w) (h σ H m.rd _ fun H' s1 => ?_)
  cases k with
  | true => exact iteT (h1 rfl He H0 Q s f kq σ H' (m.step s1))
  | false => exact iteF (h2 rfl He H0 Q s f kq σ H' (m.step s1))
theorem n1_asg (i : Nat) {nm : Str} {pn : Pos} (h : EE c X env e x) (hi3 : i ≠ 3) (k : N (env.set i (.fr x)) rows) (hN : X.N.Nodup) (hi : X.N[i]? = some nm := by rfl) (hx : Loc X.env.scope nm := by first | exact Or.inl rfl | exact Or.inr rfl)
    (hs : swapsWith e (some (.Name nm pn)) pos.line X.env = pure false := by rfl) (hf : X.fn nm = true ∨ X.env.scope.names.lookup nm = some .local := by first | exact .inl rfl | exact .inr rfl) : N1 c X Rt a as (.Assign [.Name nm pn] e pos) env rows N := fun He H0 Q s f kq σ H m =>
  WS.of (ps_set hN hi hx pe_w hs hf) (h σ H m.rd _ fun v H' s1 rv => ⟨_, rows, (m.step s1).set i hi3 rv, k⟩)
/-- found[i][j] = e -/
theorem n1_put (li lj : Nat) {z : Int} {nm : Str} {pn pf : Pos} {ix jx : Expr} (h : EE c X env e (.d (.int z))) (hli : EE c X env ix (.d (.int (li : Nat)))) (hlj : EE c X env jx (.d (.int (lj : Nat)))) (h1 : li < rows.length) (h2 : lj < (rows.getD li []).length) (ha : atomL env = true) (k : N env (setM rows li lj z))
    (hN : X.N[3]? = some nm := by rfl) (hv : Vis X.env.scope nm := by first | exact Or.inl rfl | exact Or.inr (Or.inl rfl) | exact Or.inr (Or.inr rfl)) (hd : (nm == ("__debug__" : Str)) = false := by decide) (hcd : (nm == ("__classdict__" : Str)) = false := by decide) (hp : PlainIx ix := by exact fun _ _ => rfl)
    (hs : swapsWithSole [.Subscript (.Subscript (.Name nm pn) ix pf) jx pos'] e pos.line X.env = pure false := by rfl) (hw : swappedStores [.Subscript (.Subscript (.Name nm pn) ix pf) jx pos'] e X.env = pure none := by rfl) (h1' : (assignEach [.Subscript (.Subscript (.Name nm pn) ix pf) jx pos'] X.env).map (·.2) = [assign (.Subscript (.Subscript (.Name nm pn) ix pf) jx pos') X.env] := by rfl)
    (has : ∀ v, assign (.Subscript (.Subscript (.Name nm pn) ix pf) jx pos') X.env v = (do
      let ov ← holding [v] (eval (.Subscript (.Name nm pn) ix pf) X.env)
      let iv ← holding [v, ov] (eval jx X.env)
      standAt pos'
      holding [v, ov, iv] (setItem ov iv v)
      release [v, ov, iv] []) := by intro _; rfl) : N1 c X Rt a as (.Assign [.Subscript (.Subscript (.Name nm pn) ix pf) jx pos'] e pos) env rows N := fun He H0 Q s f kq σ H m => by
  refine WS.of (ps_asg pe_w (pg_sub (pe_ix ix_list (pe_var (i := 3) hN hv hd hcd) pe_w hp) pe_w set_list has) hs hw h1') (h σ H m.rd _ fun v H1 s1 rv => ?_)
  cases (show Dq c.K H1 v (.int z) from rv)
  have m1 := m.step s1
  refine ⟨_, m1.sl, hli σ H1 m1.rd _ fun w H2 s2 r2 => ?_⟩
  cases (show Dq c.K H2 w (.int (li : Nat)) from r2)
  have m2 := m1.step s2
  obtain ⟨q, g1, g2⟩ := rows_get m2.rw h1
  refine ⟨a, as.map V.ref, _, V.ref q, rfl, rfl, SqL.of m2.at_, atI_nat (by rw [List.getElem?_map, g1]; rfl), hlj σ H2 m2.rd _ fun w H3 s3 r3 => ?_⟩
  cases (show Dq c.K H3 w (.int (lj : Nat)) from r3)
  have m3 := m2.step s3
  have g3 := s3 _ _ g2
  have hx : ixN ((rows.getD li []).map V.int).length (lj : Int) = some lj := by
    rw [List.length_map]
    unfold ixN
    rw [if_pos (by omega), if_pos (by omega)]
    simp
  have qm := List.mem_of_getElem? g1
  have qa : a ≠ q := fun z => (List.nodup_cons.mp f.nd).1 (z ▸ qm)
  refine ⟨q, _, _, lj, rfl, rfl, g3, hx, env, setM rows li lj z, ⟨atomL_rd ha m3.rd, fun b o hb => ?_, m3.sl, by rw [upd_ne qa]; exact m3.at_, rows_put (List.nodup_cons.mp f.nd).2 m3.rw g1⟩, k⟩
  have : b ≠ q := fun z => by rw [z, f.fs q qm] at hb; cases hb
  rw [upd_ne this]
  exact m3.sm b o hb
/-- return found -/
theorem n1_ret {nm : Str} {pn : Pos} (hx : Rt (.d (.list (lists rows)))) (hN : X.N[3]? = some nm := by rfl) (hv : Vis X.env.scope nm := by first | exact Or.inl rfl | exact Or.inr (Or.inl rfl) | exact Or.inr (Or.inr rfl)) (hd : (nm == ("__debug__" : Str)) = false := by decide) (hcd : (nm == ("__classdict__" : Str)) = false := by decide) :
    N1 c X Rt a as (.Return (some (.Name nm pn)) pos) env rows N := fun He H0 Q s f kq σ H m => by
  refine WS.of (ps_ret (pe_var (i := 3) hN hv hd hcd)) ⟨_, m.sl, kq _ H _ hx (s.trans m.sm) ?_⟩
  refine ⟨fun b => if b = a ∨ b ∈ as then H b else none, ⟨fun b o hb => ?_, fun b o hb => .inl ?_⟩, ?_⟩
  · by_cases q : b = a ∨ b ∈ as
    · simpa [q] using hb
    · simp [q] at hb
  · by_cases q : b = a ∨ b ∈ as
    · rcases q with q | q
      · rw [q]; exact s.free f.fa
      · exact s.free (f.fs b q)
    · simp [q] at hb
  · have all : ∀ {l : List Addr} {rs : List (List Int)}, (∀ b ∈ l, b ∈ as) → RowsAt H l rs → DqAll c.K (fun b => if b = a ∨ b ∈ as then H b else none) (l.map V.ref) (lists rs) := by
      intro l rs hl h
      induction h with
      | nil => exact .nil
      | @cons x y xs ys h1 h2 ih =>
        have allI : ∀ l : List Int, DqAll c.K (fun b => if b = a ∨ b ∈ as then H b else none) (l.map V.int) (l.map PyData.int) := by
          intro l
          induction l with
          | nil => exact .nil
          | cons z l ih => exact .cons (.int z) ih
        exact .cons (.lst (by simp only [hl x List.mem_cons_self, or_true, if_true]; exact h1) (allI y)) (ih fun b hb => hl b (List.mem_cons_of_mem _ hb))
    exact .lst (by simp only [true_or, if_true]; exact m.at_) (all (fun _ h => h) m.rw)
/-- for -/
theorem n1_for {β : Type} {tg iter : Expr} {body : List Stmt} {g : TG} {js : List Nat} {zs : List β} {enc : β → List PyData} (S : Src c X env tg iter g js zs enc) (hg : PG X tg g) (hj : 3 ∉ js) (ha : atomL env = true) (Pv : Nat → MN) (h0 : Pv 0 env rows)
    (hs : ∀ i z env' rows', zs[i]? = some z → Pv i env' rows' → NS c X Rt a as body (setE env' js (enc z)) rows' (Pv (i + 1))) (hd : ∀ env' rows', Pv zs.length env' rows' → N env' rows') (hc : X.calm = true := by rfl)
    (hfs : ∀ x, foldedSetIterable iter X.env x = pure x := by intro _; rfl) (hp : PassesOwn (model X.prog X.w) X.A X.env X.xe := by exact PassesOwn.never) : N1 c X Rt a as (.For tg iter body [] pos) env rows N := fun He H0 Q s f kq σ H m => by
  obtain ⟨wi, hpi, hwi⟩ := S
  have fz : Fz c H0 H σ env := ⟨m.sm, m.rd, fun i x e => by
    obtain ⟨v, h1, h2⟩ := m.rd.at_ i _ x e rfl
    obtain ⟨_, d, rfl, hd⟩ := atomL_at ha e rfl
    exact ⟨v, h1, atom_any hd h2⟩⟩
  refine WS.of (ps_for hp hc hpi hg pss_w hfs) (hwi σ H H0 fz _ fun J H1 F1 s1 s2 s3 s4 fe => ?_)
  have f1 : Fre F1 a as := ⟨s4 a _ f.fa m.at_ rfl, fun b hb => by
    obtain ⟨i, hi⟩ := List.mem_iff_getElem?.mp hb
    have : i < rows.length := by
      have h := Paired.length m.rw
      have := (List.getElem?_eq_some_iff.mp hi).1
      omega
    obtain ⟨b', h1, h2⟩ := rows_get m.rw this
    rw [hi] at h1
    cases h1
    exact s4 b _ (f.fs b hb) h2 rfl, f.nd⟩
  have w : Walk J zs.length (fun H2 => Same F1 H2) (fun i H2 x H' => J.yld i H2 x H') :=
    ⟨fun i H2 hi s => fe.go i zs[i] H2 (by simp [hi]) s, fun H2 s => fe.stop H2 s, fun _ _ _ _ _ _ y => y⟩
  have m1 : MA c F1 a as rows σ H1 env := { m.step s1 with sm := s3 }
  refine for_it (g := g) (tb := WSs X body) (D := upMat c H0 a as Q N) (σ := σ) (H := H1) w (fun i σ' H' => ∃ env' rows', MA c F1 a as rows' σ' H' env' ∧ Pv i env' rows') ⟨env, rows, m1, h0⟩
    (fun i σ' H' _ p => ?_) (fun i x σ' H' H'' hi p y => ?_) (fun σ' H' p => ?_)
  · obtain ⟨env', rows', m', _⟩ := p
    exact m'.sm
  · obtain ⟨env', rows', m', pv⟩ := p
    have hz : zs[i]? = some zs[i] := by simp [hi]
    have gr := fe.grow i zs[i] H' x H'' hz m'.sm y
    refine fe.yld i zs[i] H' x H'' hz m'.sm y _ _ fun vs dv vl => ?_
    have m2 := m'.step gr
    have sl : ∀ {js : List Nat} {vs : List V} {σ : L2.St}, 3 ∉ js → σ[3]? = some (some (V.ref a)) → (setV σ js vs)[3]? = some (some (V.ref a)) := by
      intro js
      induction js with
      | nil => intro vs σ _ h; cases vs <;> exact h
      | cons j js ih =>
        intro vs σ hn h
        cases vs with
        | nil => exact h
        | cons v vs => exact ih (fun q => hn (List.mem_cons_of_mem _ q)) (by rw [List.getElem?_set_ne (fun q => hn (by rw [q]; exact List.mem_cons_self))]; exact h)
    have m3 : MA c F1 a as rows' (setV σ' js vs) H'' (setE env' js (enc zs[i])) := ⟨Rd.setV m2.rd (DqAll.mono (m'.sm.trans gr) _ _ dv), m2.sm, sl hj m2.sl, m2.at_, m2.rw⟩
    have hb := hs i zs[i] env' rows' hz pv He F1 Q (s.trans s2) f1 kq _ H'' m3
    exact WSs.mono hb (fun _ _ z => z) (fun _ _ z => z) (fun _ _ z => z.elim) fun _ _ z => z.elim
  · obtain ⟨env', rows', m', pv⟩ := p
    exact ⟨env', rows', { m' with sm := s2.trans m'.sm }, hd _ _ pv⟩
/-- a, b, c = e -/
theorem n1_unpack3 (i j l : Nat) {n1 n2 n3 : Str} {px py pz pt : Pos} {kt : _} {d1 d2 d3 : PyData} (h : EE c X env e (.d (.tuple [d1, d2, d3]))) (hij : i ≠ 3 ∧ j ≠ 3 ∧ l ≠ 3) (kk : N (((env.set i (.fr (.d d1))).set j (.fr (.d d2))).set l (.fr (.d d3))) rows)
    (hpg : PG X (.Tuple [.Name n1 px, .Name n2 py, .Name n3 pz] kt pt) (g3 X.K i j l)) (hK : X.K = c.K := by rfl)
    (hs : swapsWithSole [.Tuple [.Name n1 px, .Name n2 py, .Name n3 pz] kt pt] e pos.line X.env = pure false := by rfl) (hw : swappedStores [.Tuple [.Name n1 px, .Name n2 py, .Name n3 pz] kt pt] e X.env = pure none := by rfl)
    (h1 : (assignEach [.Tuple [.Name n1 px, .Name n2 py, .Name n3 pz] kt pt] X.env).map (·.2) = [assign (.Tuple [.Name n1 px, .Name n2 py, .Name n3 pz] kt pt) X.env] := by rfl) :
    N1 c X Rt a as (.Assign [.Tuple [.Name n1 px, .Name n2 py, .Name n3 pz] kt pt] e pos) env rows N := fun He H0 Q s f kq σ H m => by
  refine WS.of (ps_asg pe_w hpg hs hw h1) (h σ H m.rd _ fun v H1 s1 rv => ?_)
  have m1 := m.step s1
  cases (show Dq c.K H1 v (.tuple [d1, d2, d3]) from rv) with
  | @tup p xs _ ha hd =>
    cases hd with
    | cons q1 t => cases t with
      | cons q2 t => cases t with
        | cons q3 t =>
          cases t
          exact ⟨p, _, rfl, SqT.of ha, rfl, _, _, rfl, _, _, rfl, _, [], rfl, rfl, _, rows, ((m1.set (x := .d _) i hij.1 q1).set (x := .d _) j hij.2.1 q2).set (x := .d _) l hij.2.2 q3, kk⟩
/-- a slot forgotten -/
theorem ns_no (i : Nat) {sts : List Stmt} (h : NS c X Rt a as sts (env.set i .no) rows N) : NS c X Rt a as sts env rows N := fun He H0 Q s f k σ H m => by
  refine h He H0 Q s f k σ H ⟨⟨by rw [List.length_set, m.rd.len], fun j s' x e1 e2 => ?_⟩, m.sm, m.sl, m.at_, m.rw⟩
  rcases set_get e1 with ⟨rfl, q, hl⟩ | ⟨n, q⟩
  · cases q; cases e2
  · exact m.rd.at_ j s' x q e2

/-! ### the matrix is made -/
def RMat (rows : List (List Int)) (H H' : Hp) (v : V) : Prop := ∃ p as, v = .ref p ∧ H p = none ∧ (∀ b ∈ as, H b = none) ∧ (p :: as).Nodup ∧ H' p = some (.lst (as.map V.ref)) ∧ RowsAt H' as rows
structure LcMat (c : Ct) (X : Cx) (env : Ev') (tg iter elt : Expr) (ifs : List Expr) (scope : Scope) (own : List (Str × Nat)) (rows : List (List Int)) : Prop where
  ok : BlkOk X.N X.env.scope scope own
  rd : ∃ (g : TG) (wi : TI) (tt : TT) (te : TE), PI X tg iter wi ∧ InBlk X scope (fun Y => PG Y tg g) ∧ InBlk X scope (fun Y => PTs Y ifs tt) ∧ InBlk X scope (fun Y => PE Y elt te) ∧
    ∀ σ H, Rd c H σ env → ∀ Q : VK, (∀ v H', Same H H' → RMat rows H H' v → Q v H') → tLc wi g tt te (own.map (·.2)) σ H Q
theorem lc_mat {β : Type} {zs : List β} {enc : β → List PyData} {tg iter elt : Expr} {ifs : List Expr} {scope : Scope} {own : List (Str × Nat)} {g : TG} {js : List Nat} (f : β → List Int)
    (S : Src c X (env.map Sl.toFr) tg iter g js zs enc) (ok : BlkOk X.N X.env.scope scope own) (hg : InBlk X scope fun Y => PG Y tg g) (hjs : ∀ j ∈ js, j ∈ own.map (·.2))
    (ht : ∀ z ∈ zs, InBlk X scope fun Y => ETs c Y (setE (wipeE env (own.map (·.2))) js (enc z)) ifs true)
    (he : ∀ z ∈ zs, InBlk X scope fun Y => EM c Y (setE (wipeE env (own.map (·.2))) js (enc z)) elt (.d (iL (f z)))) (hz : zs.length ≤ 100000) :
    LcMat c X env tg iter elt ifs scope own (zs.map f) := by
  obtain ⟨wi, hpi, hwi⟩ := S
  refine ⟨ok, g, wi, fun σ H Q => InBlk X scope fun Y => WTs Y ifs σ H Q, fun σ H Q => InBlk X scope fun Y => WE Y elt σ H Q, hpi, hg, fun s H C cl fp => ⟨fun pins s1 σ H1 Q I h => h s H C cl fp pins s1 I⟩,
    fun s H C cl fp => ⟨fun pins s1 σ H1 Q I h => h s H C cl fp pins s1 I⟩, fun σ H r Q q => hwi σ H H (Fz.all r) _ fun J H1 F1 s1 s2 s3 _ fe => ?_⟩
  intro D hD
  have w : Walk J zs.length (fun H2 => Same F1 H2) (fun i H2 x H' => J.yld i H2 x H') :=
    ⟨fun i H2 hi s => fe.go i zs[i] H2 (by simp [hi]) s, fun H2 s => fe.stop H2 s, fun _ _ _ _ _ _ y => y⟩
  refine lc_it (g := g) (tt := fun σ H Q => InBlk X scope fun Y => WTs Y ifs σ H Q) (te := fun σ H Q => InBlk X scope fun Y => WE Y elt σ H Q) (vs := own.map (·.2)) (σ := σ) (Qd := fun H2 => Q (.ref D) H2) w
    (fun i H2 => ∃ as, Same H1 (fun a => if a = D then none else H2 a) ∧ H2 D = some (.lst (as.map V.ref)) ∧ (D :: as).Nodup ∧ (∀ b ∈ as, H1 b = none) ∧ RowsAt H2 as ((zs.take i).map f))
    ⟨[], fun a o e => ?_, upd_same, by simp, by simp, .nil⟩ (fun i H2 _ p => ?_) (fun i x H2 H3 hi p y => ?_) (fun H2 p => ?_)
  · have ne : a ≠ D := ne_of_none e hD
    show (if a = D then none else upd H1 D (.lst []) a) = some o
    rw [if_neg ne, upd_ne ne]
    exact e
  · obtain ⟨as, p1, _⟩ := p
    intro a o e
    have z := p1 a o (s3 a o e)
    by_cases q : a = D
    · simp [q] at z
    · simpa [q] using z
  · obtain ⟨as, p1, p2, p3, p4, p5⟩ := p
    have hz1 : zs[i]? = some zs[i] := by simp [hi]
    have s12 : Same H1 H2 := fun a o e => by
      have z := p1 a o e
      by_cases q : a = D
      · simp [q] at z
      · simpa [q] using z
    have sF : Same F1 H2 := s3.trans s12
    have gr := fe.grow i zs[i] H2 x H3 hz1 sF y
    have hm : zs[i] ∈ zs := List.getElem_mem hi
    have tk : zs.take (i + 1) = zs.take i ++ [zs[i]] := by rw [List.take_add_one, hz1]; rfl
    have asl : as.length = i := by
      have h := Paired.length p5
      rw [List.length_map, List.length_take] at h
      omega
    refine fe.yld i zs[i] H2 x H3 hz1 sF y _ _ fun vs dv vl => ⟨(setV_wipe hjs).trans (wipe_wipe _ _), ?_⟩
    have rd3 : Rd c H3 (setV (wipe σ (own.map (·.2))) js vs) (setE (wipeE env (own.map (·.2))) js (enc zs[i])) := Rd.setV (((r.mono s1).mono (s12.trans gr)).wipe _) (DqAll.mono (sF.trans gr) _ _ dv)
    intro s0 H0 C0 cl0 fp0
    refine ht _ hm s0 H0 C0 cl0 fp0 _ H3 rd3 _ fun H4 s4 => iteT ?_
    intro s0 H0 C0 cl0 fp0
    refine he _ hm s0 H0 C0 cl0 fp0 _ H4 (rd3.mono s4) _ fun y1 H5 s5 ry => ?_
    have d4 : H4 D = some (.lst (as.map V.ref)) := s4 _ _ (gr _ _ p2)
    have d5 := s5 _ _ d4
    obtain ⟨Gy, pn, ny, rfl, hpn, _, xs, hxs, dxs⟩ := ry
    cases dq_ints dxs
    have s24 : Same H2 H4 := gr.trans s4
    have pD : pn ≠ D := fun z => by rw [z, d4] at hpn; cases hpn
    have inH : ∀ b ∈ as, ∃ o, H2 b = some o := fun b hb => by
      obtain ⟨j, hj⟩ := List.mem_iff_getElem?.mp hb
      have h := Paired.length p5
      obtain ⟨b', h1, h2⟩ := rows_get p5 (show j < ((zs.take i).map f).length by have := (List.getElem?_eq_some_iff.mp hj).1; omega)
      rw [hj] at h1
      cases h1
      exact ⟨_, h2⟩
    have pas : pn ∉ as := fun hb => by
      obtain ⟨o, ho⟩ := inH pn hb
      rw [s24 _ _ ho] at hpn
      cases hpn
    have nd2 := List.nodup_cons.mp p3
    refine ⟨as.map V.ref, d5, by rw [List.length_map, asl]; exact Nat.lt_of_lt_of_le (show i < 100000 by omega) (by decide), as ++ [pn], fun a o e => ?_, by rw [upd_same, List.map_append]; rfl, ?_, fun b hb => ?_, ?_⟩
    · have ne : a ≠ D := ne_of_none e hD
      show (if a = D then none else upd H5 D _ a) = some o
      rw [if_neg ne, upd_ne ne]
      exact s5 _ _ (s24 _ _ (s12 a o e))
    · refine List.nodup_cons.mpr ⟨fun hb => ?_, List.nodup_append.mpr ⟨nd2.2, by simp, ?_⟩⟩
      · rcases List.mem_append.mp hb with hb | hb
        · exact nd2.1 hb
        · exact pD (List.mem_singleton.mp hb).symm
      · intro x hx y hy z
        rw [List.mem_singleton.mp hy] at z
        exact pas (z ▸ hx)
    · rcases List.mem_append.mp hb with hb | hb
      · exact p4 b hb
      · rw [List.mem_singleton.mp hb]
        exact (s12.trans s24).free hpn
    · rw [tk, List.map_append]
      have app : ∀ {l : List Addr} {rs : List (List Int)}, (∀ b ∈ l, b ∈ as) → RowsAt H2 l rs → RowsAt (upd H5 D (.lst (as.map V.ref ++ [V.ref pn]))) (l ++ [pn]) (rs ++ [f zs[i]]) := by
        intro l rs hl h
        induction h with
        | nil => exact .cons (by rw [upd_ne pD]; exact hxs) .nil
        | @cons x y xs ys h1 h2 ih =>
          have hx := hl x List.mem_cons_self
          have nx : x ≠ D := fun z => nd2.1 (z ▸ hx)
          exact .cons (by rw [upd_ne nx]; exact s5 _ _ (s24 _ _ h1)) (ih fun b hb => hl b (List.mem_cons_of_mem _ hb))
      exact app (fun _ h => h) p5
  · obtain ⟨as, p1, p2, p3, p4, p5⟩ := p
    have s12 : Same H1 H2 := fun a o e => by
      have z := p1 a o e
      by_cases q : a = D
      · simp [q] at z
      · simpa [q] using z
    rw [List.take_length] at p5
    exact q _ H2 (s1.trans s12) ⟨D, as, rfl, s1.free hD, fun b hb => s1.free (p4 b hb), p3, p2, p5⟩
/-- found = [[0] * many for ..], then the rest -/
theorem ss_mat {Nn : NE} {nm : Str} {pn cpos : Pos} {tg iter elt : Expr} {ifs : List Expr} {scope : Scope} {own : List (Str × Nat)} (L : LcMat c X env tg iter elt ifs scope own rows) (he : env[3]? = some .no) (h : ∀ a as, NS c X Rt a as rest env rows fun _ _ => False) (hN : X.N.Nodup) (hi : X.N[3]? = some nm := by rfl)
    (hyl : X.env.scope.names.lookup nm = some .local := by rfl) (hsw : swapsWith (.ListComp elt [⟨tg, iter, ifs, 0⟩] scope cpos) (some (.Name nm pn)) pos.line X.env = pure true := by exact sw_true rfl rfl rfl (by decide +kernel)) (hc : X.calm = true := by rfl)
    (hs : ∀ x, foldedSetIterable iter X.env x = pure x := by intro _; rfl) : SS c X Rt (.Assign [.Name nm pn] (.ListComp elt [⟨tg, iter, ifs, 0⟩] scope cpos) pos :: rest) env Nn := fun He H0 Q s kq σ H r => by
  obtain ⟨F, f0, r⟩ := r
  obtain ⟨ok, g, wi, tt, te, g1, g2, g3, g4, g5⟩ := L
  refine WSs.of (pss_cons (ps_setLc (i := 3) hc hN hi hyl hsw g1 ok g2 g3 g4 hs) pss_w) ?_
  unfold tSeq tAsg
  refine g5 σ H r.rd _ fun v H1 s1 rm => ?_
  obtain ⟨p, as, rfl, hp, has, nd, q1, q2⟩ := rm
  have h3 : 3 < σ.length := by rw [r.len]; exact (List.getElem?_eq_some_iff.mp he).1
  have s0 : Same H0 H := f0.trans r.sub
  have m : MA c H0 p as rows (σ.set 3 (some (V.ref p))) H1 env := ⟨⟨by rw [List.length_set, r.len], fun i s' x e1 e2 => by
      by_cases q : 3 = i
      · subst q; rw [he] at e1; cases e1; cases e2
      · rw [List.getElem?_set_ne q]
        exact (r.rd.mono s1).at_ i s' x e1 e2⟩, s0.trans s1, List.getElem?_set_self h3, q1, q2⟩
  refine WSs.mono (h p as He H0 Q s ⟨s0.free hp, fun b hb => s0.free (has b hb), nd⟩ kq _ H1 m) (fun _ _ z => ?_) (fun _ _ z => z) (fun _ _ z => z.elim) fun _ _ z => z.elim
  obtain ⟨_, _, _, z⟩ := z
  exact z.elim
end

/-! ### a table by texts -/
def spotP (c : Ct) (kvs : List (Str × PyData)) : MP := ⟨fun H v => ∃ a ws, v = .ref a ∧ H a = some (.dK ws) ∧ KVg c (Sum.inr : Str → L2.Key) H ws kvs, fun e ⟨a, ws, h1, h2, h3⟩ => ⟨a, ws, h1, e _ _ h2, Paired.mapP h3 fun _ _ z => ⟨z.1, Dq.mono e _ _ z.2⟩⟩⟩
def putsS (kvs us : List (Str × PyData)) : List (Str × PyData) := us.foldl (fun acc p => putT acc p.1 p.2) kvs
def EPs (c : Ct) (X : Cx) (env : Ev') (trs : List (TE × TE)) (kvs : List (Str × PyData)) : Prop := ∀ σ H, Rd c H σ env → ∀ Q : List (V × V) → Hp → Prop, (∀ ps H', Same H H' → Paired (fun (p : V × V) (q : Str × PyData) => p.1 = V.str q.1 ∧ Dq c.K H' p.2 q.2) ps kvs → Q ps H') → tPairs trs σ H Q
section
variable {c : Ct} {X : Cx} {env : Ev'} {e a b k v : Expr} {x : SV} {pos : Pos} {trs : List (TE × TE)} {kvs : List (Str × PyData)} {s : Str} {d : PyData}
theorem eps_nil : EPs c X env [] [] := fun σ H r Q q => q [] H (Same.refl H) .nil
theorem eps_cons (hk : EE c X env k (.d (.str s))) (hv : EE c X env v (.d d)) (t : EPs c X env trs kvs) : EPs c X env ((WE X k, WE X v) :: trs) ((s, d) :: kvs) := fun σ H r Q q =>
  hk σ H r _ fun v1 H1 s1 r1 => hv σ H1 (r.mono s1) _ fun v2 H2 s2 r2 => t σ H2 (r.mono (s1.trans s2)) _ fun ps H3 s3 h => by
    cases (show Dq c.K H1 v1 (.str s) from r1)
    exact q _ H3 ((s1.trans s2).trans s3) (.cons ⟨rfl, Dq.mono s3 _ _ r2⟩ h)
theorem ee_disp {keys : List (Option Expr)} {values : List Expr} (h : EPs c X env trs kvs) (pp : PPs X pos keys values trs) (hlen : kvs.length ≤ 15) (him : ∀ q ∈ kvs, imm q.2 = true) (hall : keys.all (·.isSome) = true := by rfl) (hl : keys.length = values.length := by rfl) (h0 : keys ≠ [] := by exact fun z => nomatch z) (h15 : keys.length ≤ 15 := by decide) :
    EE c X env (.Dict keys values pos) (.p (spotP c (putsS [] kvs))) := fun σ H r Q q => WE.of (pe_disp pp hall hl h0 h15) fun p hp => h σ _ (r.mono (same_upd hp)) _ fun ps H2 s2 hps => by
  have hp2 : H2 p = some (.dK []) := s2 _ _ upd_same
  have sH : ∀ {o : HO}, Same H (upd H2 p o) := fun {o} b u e => by
    have nb : b ≠ p := ne_of_none e hp
    rw [upd_ne nb]
    exact s2 _ _ (same_upd hp b u e)
  have sT : ∀ {o : HO}, Same (tupsOf H2) (upd H2 p o) := fun {o} b u e => by
    have z := tupsOf_at e
    have nb : b ≠ p := fun y => by
      rw [y, hp2] at z
      cases z.1
      cases z.2
    rw [upd_ne nb]
    exact z.1
  have conv : ∀ {ps : List (V × V)} {kvs : List (Str × PyData)}, (∀ q ∈ kvs, imm q.2 = true) → Paired (fun (p : V × V) (q : Str × PyData) => p.1 = V.str q.1 ∧ Dq c.K H2 p.2 q.2) ps kvs → ∃ ks : List (L2.Key × V), ps = ks.map (fun kv => (kV kv.1, kv.2)) ∧ KVg c (Sum.inr : Str → L2.Key) (tupsOf H2) ks kvs := by
    intro ps kvs hi h
    induction h with
    | nil => exact ⟨[], rfl, .nil⟩
    | @cons x y xs ys h1 h2 ih =>
      obtain ⟨ks, e, k⟩ := ih fun q hq => hi q (List.mem_cons_of_mem _ hq)
      refine ⟨(Sum.inr y.1, x.2) :: ks, ?_, .cons ⟨rfl, Dq.tups _ _ (hi y List.mem_cons_self) h1.2⟩ k⟩
      rw [List.map_cons, ← e, show kV (Sum.inr y.1) = x.1 from h1.1.symm]
  obtain ⟨ks, e, hk⟩ := conv him hps
  have merge : ∀ {ks : List (L2.Key × V)} {kvs : List (Str × PyData)}, KVg c (Sum.inr : Str → L2.Key) (tupsOf H2) ks kvs → ∀ {w1 : List (L2.Key × V)} {w2 : List (Str × PyData)}, KVg c (Sum.inr : Str → L2.Key) (tupsOf H2) w1 w2 → KVg c (Sum.inr : Str → L2.Key) (tupsOf H2) (mergeK w1 ks) (putsS w2 kvs) := by
    intro ks kvs h
    unfold KVg at h
    induction h with
    | nil => intro w1 w2 h0; exact h0
    | @cons x y xs ys h1 h2 ih =>
      intro w1 w2 h0
      have e1 : putK w1 x.1 x.2 = putK w1 (Sum.inr y.1) x.2 := by rw [h1.1]
      have := ih (w1 := putK w1 x.1 x.2) (w2 := putT w2 y.1 y.2) (by rw [e1]; exact KVg.put (fun _ _ z => Sum.inr.inj z) y.1 h1.2 h0)
      exact this
  have hm := merge hk (w1 := []) (w2 := []) .nil
  exact ⟨hp2, ks, e, by rw [Paired.length hk]; exact hlen, q _ _ sH ⟨p, _, rfl, upd_same, Paired.mapP hm fun x y z => ⟨z.1, Dq.mono sT _ _ z.2⟩⟩⟩
theorem spot_get {H : Hp} {u w : V} (r1 : RV c H u (.p (spotP c kvs))) (r2 : RV c H w (.d (.str s))) : ∃ a r, u = .ref a ∧ DGet H a w r ∧ IsD H a ∧ ((r = none ∧ lookT kvs s = none) ∨ ∃ y d, r = some y ∧ lookT kvs s = some d ∧ Dq c.K H y d) := by
  obtain ⟨a, ws, rfl, h1, h2⟩ := r1
  cases (show Dq c.K H w (.str s) from r2)
  exact ⟨a, _, rfl, DGet.k (k := Sum.inr s) h1, .inl ⟨_, .inl h1⟩, KVg.val (c := c) (fun _ _ z => Sum.inr.inj z) s h2⟩
theorem et_spot (hu : X.A.units + 1 < cLine) (ha : EE c X env a (.d (.str s))) (hb : EE c X env b (.p (spotP c kvs))) (hm : behindInMarks .In b = false := by rfl) : ET c X env (.Compare a [.In] [b] pos) (lookT kvs s).isSome := fun σ H r Q q =>
  WT.of (pt_cmp (pc_din hu pe_w pe_w) hm) (ha σ H r _ fun v H1 s1 r1 => hb σ H1 (r.mono s1) _ fun w H2 s2 r2 => by
    obtain ⟨p, z, rfl, h1, _, h2⟩ := spot_get r2 (r1.mono s2)
    refine ⟨p, z, rfl, h1, _, rfl, ?_⟩
    rcases h2 with ⟨rfl, e⟩ | ⟨u, d, rfl, e, _⟩ <;> rw [e] at q <;> exact q H2 (s1.trans s2))
theorem ee_spot (hd : lookT kvs s = some d) (hu : X.A.units + 1 < cLine) (ha : EE c X env a (.p (spotP c kvs))) (hb : EE c X env b (.d (.str s))) (hs : NoSl b := by exact fun _ _ => rfl) : EE c X env (.Subscript a b pos) (.d d) := fun σ H r Q q =>
  WE.of (pe_dget hu pe_w pe_w hs) (ha σ H r _ fun v H1 s1 r1 => hb σ H1 (r.mono s1) _ fun w H2 s2 r2 => by
    obtain ⟨p, z, rfl, h1, _, h2⟩ := spot_get (r1.mono s2) r2
    rcases h2 with ⟨rfl, e⟩ | ⟨u, d', rfl, e, hd'⟩
    · rw [hd] at e; cases e
    · rw [hd] at e
      cases e
      exact ⟨p, u, rfl, h1, q u H2 (s1.trans s2) hd'⟩)
end
end K33

set_option maxHeartbeats 4000000
/-! K33zh: _law_named, _law_ending. -/
namespace K33
open PySem PySem.Spec PyProof.Rows L2
def zerosM (n : Nat) : List (List Int) := (List.range n).map fun _ => List.replicate n 0
def chainM (n : Nat) : Nat → List (List Int)
  | 0 => zerosM n
  | k + 1 => setM (setM (chainM n k) (k + 1) k 1) k (k + 1) 1
structure Shape (n : Nat) (m : List (List Int)) : Prop where
  len : m.length = n
  row : ∀ i, i < n → (m.getD i []).length = n
theorem Shape.set {n : Nat} {m : List (List Int)} (h : Shape n m) (i j : Nat) (z : Int) : Shape n (setM m i j z) := by
  refine ⟨by unfold setM; rw [List.length_set]; exact h.len, fun k hk => ?_⟩
  unfold setM
  rw [List.getD_eq_getElem?_getD]
  by_cases q : i = k
  · subst q
    rw [List.getElem?_set_self (by rw [h.len]; exact hk)]
    show ((m.getD i []).set j z).length = n
    rw [List.length_set]
    exact h.row i hk
  · rw [List.getElem?_set_ne q, ← List.getD_eq_getElem?_getD]
    exact h.row k hk
theorem shape_zeros (n : Nat) : Shape n (zerosM n) := ⟨by unfold zerosM; rw [List.length_map, List.length_range], fun i hi => by
  unfold zerosM
  rw [List.getD_eq_getElem?_getD, List.getElem?_map, List.getElem?_range hi]
  simp⟩
theorem shape_chain (n : Nat) : ∀ k, Shape n (chainM n k)
  | 0 => shape_zeros n
  | k + 1 => ((shape_chain n k).set _ _ _).set _ _ _
def spotD (n : Int) : List (Str × PyData) := [("b", .tuple [.int (n - 2), .int (n - 1), .int 2]), ("c", .tuple [.int (n - 1), .int (n - 2), .int 2]), ("f", .tuple [.int 1, .int 2, .int 2]), ("g", .tuple [.int 0, .int 1, .int 3])]
abbrev Spot := Option (Nat × Nat × Int)
def enc3 (t : Nat × Nat × Int) : PyData := .tuple [.int (t.1 : Nat), .int (t.2.1 : Nat), .int t.2.2]
def namedM (n : Nat) : Spot → List (List Int)
  | none => chainM n (n - 1)
  | some t => setM (chainM n (n - 1)) t.1 t.2.1 t.2.2
structure NameOk (s : Str) (n : Nat) (t : Spot) : Prop where
  lo : 1 ≤ n
  hi : n ≤ 3
  sh : SeqAt.shaped (.str s) = true
  de : (([.str "d", .str "e"] : List PyData).any fun z => PyData.eqv z (.str s)) = false
  lk : lookT (putsS [] (spotD n)) s = t.map enc3
  bd : ∀ u, t = some u → u.1 < n ∧ u.2.1 < n
theorem shaped_de : SeqAt.shaped (.list [.str "d", .str "e"]) = true := by decide +kernel
section
variable {c : Ct} {P : Program} {w : World} {mg : Str → Option Value} {base : Heap} {f : Addr} {fd : FuncData} {nm : Str} {j k : Nat} {S : Sc}
def sNamed : Sc := fun xs R => ∃ s n t, xs = [.d (.str s), .d (.int (n : Nat))] ∧ NameOk s n t ∧ R = fun y => y = .d (.list (lists (namedM n t)))
abbrev stNamed : Stmt := top 46
abbrev nNamed : List Str := ["_law_letter", "_law_many", "_law_lamp", "_law_found", "_law_mate", "_law_spot", "_law_one", "_law_other", "_law_more"]
theorem scNamed : FnScope nNamed ["_law_letter", "_law_many"] (defScope stNamed) := ⟨rfl, rfl, rfl, by decide +kernel, rfl, by decide +kernel, by decide +kernel⟩
theorem own_named (D : Df c mg "_law_named" stNamed ["_law_letter", "_law_many"] f fd) (B : Bl mg) : Own c P w mg base "_law_named" 1 sNamed := by
  refine own_mk D scNamed (fun xs R h => ?_) (fun cdv A outer s H E hr xs R h => ?_)
  · obtain ⟨s, n, t, rfl, _⟩ := h
    rfl
  · obtain ⟨ls, n, t, rfl, ok, rfl⟩ := h
    have nd := scNamed.nd
    have n1 := ok.lo
    have n3 := ok.hi
    refine ss_mat (rows := (List.range ((n : Nat) : Int).toNat).map fun _ => List.replicate n 0) (lc_mat (own := [("_law_lamp", 2)]) (fun _ : Nat => List.replicate n 0) (src_rng1 2 (n : Nat) B.range (ee_name 1) (by omega)) ?ok (pg1 2 nd) (by decide) (fun z hz s H C cl fp => ets_nil)
      (fun z hz s H C cl fp => EM.is (em_bin (og_rep (ds := [.int 0]) (k := (n : Nat)) rfl ⟨by omega, by omega⟩ ?z2) (EM.ee (em_lst (ds := [.int 0]) (ean_cons (EE.en ee_int rfl) ean_nil) (by simp))) (ee_name 1)) ?rep) (by rw [List.length_range]; omega)) rfl (fun a as => ?_) nd
    case ok => exact blkOk_by (N := nNamed) (sc := defScope stNamed) (by decide +kernel)
    case z2 => simp; omega
    case rep => rw [rep_flat]; rfl
    have e0 : ((List.range ((n : Nat) : Int).toNat).map fun _ => List.replicate n (0 : Int)) = chainM n 0 := by rw [Int.toNat_natCast]; rfl
    rw [e0]
    have en : (((n : Nat) : Int) - 1).toNat = n - 1 := by omega
    refine ns_cons (n1_for (src_rng2 2 1 (n : Nat) B.range ee_int (ee_name 1) (by omega)) (pg_name nd rfl (by first | exact Or.inl rfl | exact Or.inr rfl) (by first | exact Or.inr rfl | exact Or.inl rfl)) (by decide) rfl
      (fun i env' rows' => ∃ x2 x4, env' = [.fr (.d (.str ls)), .fr (.d (.int (n : Nat))), x2, .no, x4, .no, .no, .no, .no] ∧ rows' = chainM n i) ⟨_, _, rfl, rfl⟩ ?_ ?_)
    · rintro i z env' rows' hz ⟨x2, x4, rfl, rfl⟩
      obtain ⟨rfl, hi⟩ := range_get hz
      rw [en] at hi
      have sh := shape_chain n z
      have sh1 := sh.set (z + 1) z 1
      refine ns_cons (n1_asg (x := .d (.int (z : Nat))) 4 (EE.is (ee_bin og_sub (ee_name 2) ee_int) (by rw [show (1 + (z : Int) - 1) = (z : Int) by omega])) (by decide) ?_ nd)
      refine ns_cons (n1_if (k := false) (ET.is (et_and2 (k := false) (l := true) (et_cmp (og_in (d := .str ls) (ds := [.str "d", .str "e"]) (hu65 hr) ok.sh shaped_de ok.de) (ee_name 0) (EM.ee (em_lst (ds := [.str "d", .str "e"]) (ean_cons (EE.en ee_str rfl) (ean_cons (EE.en ee_str rfl) ean_nil)) (by simp)))) fun e => by cases e) rfl) (fun e => by cases e) fun _ => ns_nil ?_)
      refine ns_cons (n1_put (z + 1) z (z := 1) ee_int (EE.is (ee_name 2) (by rw [show (1 + (z : Int)) = ((z + 1 : Nat) : Int) by omega])) (ee_name 4) (by rw [sh.len]; omega) (by rw [sh.row (z + 1) (by omega)]; omega) rfl ?_)
      refine ns_cons (n1_put z (z + 1) (z := 1) ee_int (ee_name 4) (EE.is (ee_name 2) (by rw [show (1 + (z : Int)) = ((z + 1 : Nat) : Int) by omega])) (by rw [sh1.len]; omega) (by rw [sh1.row z (by omega)]; omega) rfl (ns_nil ⟨_, _, rfl, rfl⟩))
    · rintro env' rows' ⟨x2, x4, rfl, rfl⟩
      rw [List.length_range, en]
      have shc := shape_chain n (n - 1)
      obtain ⟨zz, hzz⟩ : ∃ zz, SV.p (spotP c (putsS [] (spotD n))) = zz := ⟨_, rfl⟩
      refine ns_cons (n1_asg (x := zz) 5 ?dsp (by decide) ?_ nd)
      case dsp =>
        rw [← hzz]
        refine ee_disp (kvs := spotD n) ?eps (pps_cons pe_w pe_w (pps_cons pe_w pe_w (pps_cons pe_w pe_w (pps_cons pe_w pe_w pps_nil)))) (by show 4 ≤ 15; decide) ?im
        case eps =>
          refine eps_cons ee_str (ee_tup (ds := [.int ((n : Nat) - 2 : Int), .int ((n : Nat) - 1 : Int), .int 2]) (ea_cons (ee_bin og_sub (ee_name 1) ee_int) (ea_cons (ee_bin og_sub (ee_name 1) ee_int) (ea_cons ee_int ea_nil))) (by simp)) ?_
          refine eps_cons ee_str (ee_tup (ds := [.int ((n : Nat) - 1 : Int), .int ((n : Nat) - 2 : Int), .int 2]) (ea_cons (ee_bin og_sub (ee_name 1) ee_int) (ea_cons (ee_bin og_sub (ee_name 1) ee_int) (ea_cons ee_int ea_nil))) (by simp)) ?_
          refine eps_cons ee_str (ee_tup (ds := [.int 1, .int 2, .int 2]) (ea_cons ee_int (ea_cons ee_int (ea_cons ee_int ea_nil))) (by simp)) ?_
          exact eps_cons ee_str (ee_tup (ds := [.int 0, .int 1, .int 3]) (ea_cons ee_int (ea_cons ee_int (ea_cons ee_int ea_nil))) (by simp)) eps_nil
        case im =>
          intro q hq
          simp only [spotD, List.mem_cons, List.not_mem_nil, or_false] at hq
          rcases hq with rfl | rfl | rfl | rfl <;> rfl
      refine ns_cons (n1_if (k := t.isSome) (ET.is (et_spot (s := ls) (kvs := putsS [] (spotD n)) (hu1 hr) (ee_name 0) (EE.is (ee_name 5) hzz.symm)) (by rw [ok.lk, Option.isSome_map])) (fun e => ?_) fun e => ns_nil ?_)
      · cases t with
        | none => cases e
        | some u =>
          obtain ⟨b1, b2⟩ := ok.bd u rfl
          refine ns_cons (n1_unpack3 6 7 8 (d1 := .int (u.1 : Nat)) (d2 := .int (u.2.1 : Nat)) (d3 := .int u.2.2) (ee_spot (kvs := putsS [] (spotD n)) (s := ls) (d := .tuple [.int (u.1 : Nat), .int (u.2.1 : Nat), .int u.2.2]) ok.lk (hu1 hr) (EE.is (ee_name 5) hzz.symm) (ee_name 0)) (by decide) ?_ (pg_tup rfl (pgs_cons (pg_name nd rfl (Or.inl rfl) (Or.inr rfl)) (pgs_cons (pg_name nd rfl (Or.inl rfl) (Or.inr rfl)) (pgs_cons (pg_name nd rfl (Or.inl rfl) (Or.inr rfl)) pgs_nil)))))
          refine ns_no 5 (ns_no 2 (ns_no 4 (ns_cons (n1_put u.1 u.2.1 (z := u.2.2) (ee_name 8) (ee_name 6) (ee_name 7) (by rw [shc.len]; exact b1) (by rw [shc.row u.1 b1]; exact b2) rfl (ns_nil ?_)))))
          exact ns_cons (n1_ret rfl)
      · cases t with
        | some u => cases e
        | none => exact ns_cons (n1_ret rfl)
end

/-! ### the endings -/
def spotOf (s : Str) (n : Nat) : Spot := if s = "b" then some (n - 2, n - 1, 2) else if s = "c" then some (n - 1, n - 2, 2) else if s = "f" then some (1, 2, 2) else if s = "g" then some (0, 1, 3) else none
def named3 (p : Str × Int) : List (List Int) := namedM p.2.toNat (spotOf p.1 p.2.toNat)
def a1M : List (List Int) := named3 ("a", 1)
def endL : List (List (List Int)) := (namesM 3).map named3 ++ [besM a1M a1M, besM a1M (named3 ("a", 2)), besM a1M (named3 ("b", 2)), besM a1M (named3 ("g", 2)), besM (named3 ("a", 2)) a1M, besM (named3 ("b", 2)) a1M, besM (named3 ("g", 2)) a1M, besM (besM a1M a1M) a1M]
theorem names3 : namesM 3 = [nA "a" 1, nA "a" 2, nA "b" 2, nA "g" 2, nA "a" 3, nA "b" 3, nA "c" 3] := by decide +kernel
theorem name_ok {p : Str × Int} (h : p ∈ namesM 3) : ∃ n : Nat, p.2 = n ∧ NameOk p.1 n (spotOf p.1 n) ∧ named3 p = namedM n (spotOf p.1 n) := by
  rw [names3] at h
  simp only [List.mem_cons, List.not_mem_nil, or_false] at h
  have go : ∀ (s : Str) (n : Nat), 1 ≤ n → n ≤ 3 → SeqAt.shaped (.str s) = true → (([.str "d", .str "e"] : List PyData).any fun z => PyData.eqv z (.str s)) = false → lookT (putsS [] (spotD n)) s = (spotOf s n).map enc3 → (∀ u, spotOf s n = some u → u.1 < n ∧ u.2.1 < n) → ∃ m : Nat, ((s, (n : Int)) : Str × Int).2 = m ∧ NameOk s m (spotOf s m) ∧ named3 (s, (n : Int)) = namedM m (spotOf s m) :=
    fun s n h1 h2 h3 h4 h5 h6 => ⟨n, rfl, ⟨h1, h2, h3, h4, h5, h6⟩, rfl⟩
  rcases h with rfl | rfl | rfl | rfl | rfl | rfl | rfl
  · exact go "a" 1 (by decide) (by decide) (by decide +kernel) (by decide +kernel) rfl (by decide +kernel)
  · exact go "a" 2 (by decide) (by decide) (by decide +kernel) (by decide +kernel) rfl (by decide +kernel)
  · exact go "b" 2 (by decide) (by decide) (by decide +kernel) (by decide +kernel) rfl (by decide +kernel)
  · exact go "g" 2 (by decide) (by decide) (by decide +kernel) (by decide +kernel) rfl (by decide +kernel)
  · exact go "a" 3 (by decide) (by decide) (by decide +kernel) (by decide +kernel) rfl (by decide +kernel)
  · exact go "b" 3 (by decide) (by decide) (by decide +kernel) (by decide +kernel) rfl (by decide +kernel)
  · exact go "c" 3 (by decide) (by decide) (by decide +kernel) (by decide +kernel) rfl (by decide +kernel)
theorem end_start : ∀ p ∈ namesM 3, named3 p ∈ endL := fun p hp => List.mem_append_left _ (List.mem_map_of_mem hp)
theorem end_more : ∀ X ∈ endL, X.length < 3 → ∀ p ∈ namesM (3 - X.length), besM X (named3 p) ∈ endL := by decide +kernel
theorem end_shape : ∀ X ∈ endL, 1 ≤ X.length ∧ X.length ≤ 3 ∧ ∀ r ∈ X, r.length = X.length := by decide +kernel
theorem names_sub : ∀ n, 1 ≤ n → n ≤ 3 → (∀ p ∈ namesM n, p ∈ namesM 3) ∧ 1 ≤ (namesM n).length ∧ (namesM n).length ≤ 1000 := fun n h1 h2 => by
  have : n = 1 ∨ n = 2 ∨ n = 3 := by omega
  rcases this with rfl | rfl | rfl <;> decide +kernel
theorem named_len : ∀ p ∈ namesM 3, (named3 p).length ≤ 3 ∧ ∀ r ∈ named3 p, r.length ≤ 3 := by decide +kernel
section
variable {c : Ct} {P : Program} {w : World} {mg : Str → Option Value} {base : Heap} {f : Addr} {fd : FuncData} {nm : Str} {j k : Nat} {S : Sc}
def sEnding : Sc := fun xs R => xs = [.row, .d (.int 3)] ∧ R = fun y => ∃ X o, X ∈ endL ∧ o.Perm (List.range X.length) ∧ y = .d (.tuple (tups (mixM X o)))
abbrev stEnding : Stmt := top 50
abbrev nEnding : List Str := ["_law_row", "_law_most", "_law_letter", "_law_many", "_law_found", "_law_turn"]
theorem scEnding : FnScope nEnding ["_law_row", "_law_most"] (defScope stEnding) := ⟨rfl, rfl, rfl, by decide +kernel, rfl, by decide +kernel, by decide +kernel⟩
theorem lists_len (X : List (List Int)) : (lists X).length = X.length := by unfold lists; rw [List.length_map]
theorem own_ending (D : Df c mg "_law_ending" stEnding ["_law_row", "_law_most"] f fd) (B : Bl mg) (OT : Own c P w mg base "_law_taken" 1 sTaken) (OP : Own c P w mg base "_law_pick" 2 sPick) (ON : Own c P w mg base "_law_names" 1 sNames) (OD : Own c P w mg base "_law_named" 1 sNamed)
    (OB : Own c P w mg base "_law_beside" 1 sBeside) (OM : Own c P w mg base "_law_mixed" 2 sMixed) : Own c P w mg base "_law_ending" 3 sEnding := by
  refine own_mk D scEnding (fun xs R h => ?_) (fun cdv A outer s H E hr xs R h => ?_)
  · obtain ⟨rfl, _⟩ := h
    rfl
  · obtain ⟨rfl, rfl⟩ := h
    have nd := scEnding.nd
    have hr1 := hr.mono (show 1 ≤ 2 by omega)
    have ns3 := names_sub 3 (by omega) (by omega)
    refine ss_cons (s1_unpackS 2 3 (es_efs (eg_call (S := sPick) (k := 2) (xs := [.row, .d (.list ((namesM 3).map nameD))]) OP hr (ea_cons (ee_name 0) (ea_cons (ee_call (S := sNames) (k := 1) (xs := [.d (.int (3 : Nat))]) ON hr1 (ea_cons (ee_name 1) ea_nil) ⟨3, rfl, by omega, rfl⟩) ea_nil))
      ⟨(namesM 3).map nameD, rfl, by rw [List.length_map]; exact ns3.2.1, by rw [List.length_map]; exact ns3.2.2, imm_mem (imm_names _), rfl⟩)) (fun y hy => ?_) nd (pg_tup rfl (pgs_cons (pg_name nd rfl (Or.inl rfl) (Or.inr rfl)) (pgs_cons (pg_name nd rfl (Or.inl rfl) (Or.inr rfl)) pgs_nil))))
    obtain ⟨d, hd, rfl⟩ := hy
    obtain ⟨p, hp, rfl⟩ := List.mem_map.mp hd
    obtain ⟨n, hn, nok, hnm⟩ := name_ok hp
    refine ⟨.str p.1, .int p.2, rfl, ?_⟩
    rw [hn]
    refine ss_cons (s1_asg (x := .d (.list (lists (named3 p)))) 4 (EN.ef (en_call (S := sNamed) (k := 1) (xs := [.d (.str p.1), .d (.int (n : Nat))]) OD hr1 (ea_cons (ee_name 2) (ea_cons (ee_name 3) ea_nil)) ⟨p.1, n, _, rfl, nok, by rw [hnm]⟩)) ?_ nd)
    refine ss_cons (s1_forS (src_rngS 5 (K := fun k => 0 ≤ k ∧ k < 3) B.range (es_efs (es_imp (eg_call (S := sTaken) (k := 1) (xs := [.row, .d (.int 3)]) OT hr1 (ea_cons (ee_name 0) (ea_cons ee_int ea_nil)) ⟨3, rfl, by omega, by omega, rfl⟩) fun y ⟨i, hi, hy⟩ => ⟨(i : Int), ⟨by omega, hi⟩, hy⟩)) (fun k hk => by omega)) (pg_name nd rfl (Or.inl rfl) (Or.inr rfl))
      (fun _ env' => ∃ X x2 x3 x5, env' = [.fr .row, .fr (.d (.int 3)), x2, x3, .fr (.d (.list (lists X))), x5] ∧ X ∈ endL) ⟨_, _, _, _, rfl, end_start p hp⟩ ?_ ?_)
    · rintro zs ⟨kk, hkk, rfl⟩ i z env' hz ⟨X, x2, x3, x5, rfl, hX⟩
      obtain ⟨l1, l2, l3⟩ := end_shape X hX
      refine ss_cons (s1_if (k := decide (((X.length : Nat) : Int) < 3)) (et_cmp og_lt (EE.is (eg_callB (cg_lenL (ds := lists X)) B.len (ea_cons (ee_name 4) ea_nil) back_e) (by rw [lists_len])) (ee_name 1)) (fun e => ?_) fun e => ss_nil (ss_nil ⟨_, _, _, _, rfl, hX⟩))
      have hlt : X.length < 3 := by have := of_decide_eq_true e; omega
      have nsn := names_sub (3 - X.length) (by omega) (by omega)
      refine ss_cons (s1_unpackS 2 3 (es_efs (eg_call (S := sPick) (k := 2) (xs := [.row, .d (.list ((namesM (3 - X.length)).map nameD))]) OP hr (ea_cons (ee_name 0) (ea_cons (ee_call (S := sNames) (k := 1) (xs := [.d (.int ((3 - X.length : Nat)))]) ON hr1 (ea_cons (EE.is (ee_bin og_sub (ee_name 1) (EE.is (eg_callB (cg_lenL (ds := lists X)) B.len (ea_cons (ee_name 4) ea_nil) back_e) (by rw [lists_len]))) ?sb) ea_nil) ⟨3 - X.length, rfl, by omega, rfl⟩) ea_nil))
        ⟨(namesM (3 - X.length)).map nameD, rfl, by rw [List.length_map]; exact nsn.2.1, by rw [List.length_map]; exact nsn.2.2, imm_mem (imm_names _), rfl⟩)) (fun y hy => ?_) nd (pg_tup rfl (pgs_cons (pg_name nd rfl (Or.inl rfl) (Or.inr rfl)) (pgs_cons (pg_name nd rfl (Or.inl rfl) (Or.inr rfl)) pgs_nil))))
      case sb => rw [show (3 : Int) - ((X.length : Nat) : Int) = ((3 - X.length : Nat) : Int) by omega]
      obtain ⟨d, hd, rfl⟩ := hy
      obtain ⟨p, hp, rfl⟩ := List.mem_map.mp hd
      have hp3 := nsn.1 p hp
      obtain ⟨n, hn, nok, hnm⟩ := name_ok hp3
      obtain ⟨m1, m2⟩ := named_len p hp3
      refine ⟨.str p.1, .int p.2, rfl, ?_⟩
      rw [hn]
      refine ss_cons (s1_asg (x := .d (.list (lists (besM X (named3 p))))) 4 (EN.ef (en_call (S := sBeside) (k := 1) (xs := [.d (.list (lists X)), .d (.list (lists (named3 p)))]) OB hr1 (ea_cons (ee_name 4) (ea_cons (ee_call (S := sNamed) (k := 1) (xs := [.d (.str p.1), .d (.int (n : Nat))]) OD hr1 (ea_cons (ee_name 2) (ea_cons (ee_name 3) ea_nil)) ⟨p.1, n, _, rfl, nok, by rw [hnm]⟩) ea_nil))
        ⟨X, named3 p, rfl, by omega, by omega, fun r hr => by have := l3 r hr; omega, fun r hr => by have := m2 r hr; omega, rfl⟩)) (ss_nil (ss_nil ⟨_, _, _, _, rfl, end_more X hX hlt p hp⟩)) nd)
    · rintro zs ⟨kk, hkk, rfl⟩ env' ⟨X, x2, x3, x5, rfl, hX⟩
      obtain ⟨l1, l2, l3⟩ := end_shape X hX
      refine ss_cons (s1_retS (es_imp (eg_call (S := sMixed) (k := 2) (xs := [.row, .d (.list (lists X))]) OM hr (ea_cons (ee_name 0) (ea_cons (ee_name 4) ea_nil)) ⟨X, rfl, by omega, l3, rfl⟩) fun y ⟨o, ho, hy⟩ => ⟨X, o, hX, ho, hy⟩))
end
end K33

set_option maxHeartbeats 400000
/-! K33zi: sorted of tuples of which the first is empty. -/
namespace PySem.W
open PySem PySem.Calls PyProof.Rows PySem.SeqAt
section
variable {prog : Program} {w : World} {A : Around} {E : Value → Shared → Prop} {s : Shared}
theorem call_tuple_ltK {Q : Value → Shared → Prop} {l b : Addr} {items items2 : Array Value} {e r : Nat → Bool} (hl : s.heap.IsTuple l items) (hb : s.heap.IsTuple b items2)
    (he : ∀ j (h1 : j < items.size) (h2 : j < items2.size), EqAt A.in1 s items[j] items2[j] (e j)) (hr : ∀ j (h1 : j < items.size) (h2 : j < items2.size), e j = false → RcLt A.in1 s items[j] items2[j] (r j))
    (h : Q (.bool (firstLt e r (decide (items.size < items2.size)) (List.range (min items.size items2.size)))) s) : wpAny (model prog w) A (call (.builtin "tuple.__lt__") [.ref l, .ref b]) Q E s := by
  obtain ⟨⟨cls, dd, data, sl⟩, ho, hc, n, hd⟩ := id hl
  obtain ⟨⟨cls2, dd2, data2, sl2⟩, ho2, hc2, n2, hd2⟩ := id hb
  simp only at hc hd hc2 hd2
  subst hc hd hc2 hd2
  exact call_meets F.slot_tuple_lt ⟨_, ho, rfl⟩ F.entry_tuple_lt (F.args_tuple_lt_2 _ _) (tuple_ltAt l b items items2 n n2 dd dd2 sl sl2 e r) ⟨ho, ho2, he, hr, h⟩
theorem oneLt_tuple {xs ys : List PyData} {a b : Value} {as bs : List Addr} {Q : Bool → Shared → Prop} (ra : Reads s.heap a (.tuple xs) as) (rb : Reads s.heap b (.tuple ys) bs) (h : alike (.tuple xs) (.tuple ys) = true)
    (hu : A.units + min (PyData.tuple xs).depth (PyData.tuple ys).depth < cLine) (hq : Q (dataLt (.tuple xs) (.tuple ys)) s) : wpAny (model prog w) A (oneLt' true a b) Q E s := by
  have hal : alikeAll xs ys = true := by simpa [alike] using h
  cases ra with
  | @tuple l o vs n _ as₁ h1 h2 h3 h4 =>
    cases rb with
    | @tuple l' o' vs' n' _ bs₁ k1 k2 k3 k4 =>
      have n1 : vs.size = xs.length := by simpa using ReadsAll.length _ _ _ h4
      have n2 : vs'.size = ys.length := by simpa using ReadsAll.length _ _ _ k4
      rw [dataLt_tuple, ← firstLt_toks xs ys hal, ← n1, ← n2] at hq
      rw [oneLt'_eq]
      simp only [if_true]
      refine wpAny_bind (wpAny_cRoomFor (room_here hu) ?_)
      refine wpAny_bind (wpAny_callSpecialIfBound?_slot (T := "tuple") ⟨_, h1, h2⟩ F.slot_tuple_lt (call_tuple_ltK (e := pairEq xs ys) (r := fun j => dataLt (xs.getD j .none) (ys.getD j .none)) ⟨_, h1, h2, _, h3⟩ ⟨_, k1, k2, _, k3⟩ (fun j j1 j2 => ?_) (fun j j1 j2 hj => ?_) ?_))
      · have := eqAt_alikeAll xs ys A.in1 s vs.toList vs'.toList _ _ h4 k4 hal (room_in hu) j (by simpa using j1) (by simpa using j2)
        simpa using this
      · have := rcLt_alikeAll xs ys A.in1 s vs.toList vs'.toList _ _ h4 k4 hal (room_in hu) j (by simpa using j1) (by simpa using j2) hj
        simpa using this
      · exact wpAny_truthy_bool hq
theorem firsts_any : ∀ (vs : List Value) (ds : List PyData) {Q : List (Option Value) → Shared → Prop}, EachIs (fun v d => ∃ as, Reads s.heap v d as) vs ds → (∀ d, d ∈ ds → ∃ xs, d = .tuple xs) →
    (∀ bs : List (Option Value), (∀ ds', ds = .tuple [] :: ds' → ∃ bs', bs = none :: bs') → Q bs s) → wpAny (model prog w) A (vs.mapM firstOfTuple') Q E s
  | _, _, _, .nil, _, h => by rw [List.mapM_nil]; exact wpAny_pure (h [] fun _ e => nomatch e)
  | v :: vs, _, Q, .cons (b := d) (bs := ds) ⟨as, r⟩ t, ht, h => by
    obtain ⟨xs, rfl⟩ := ht d (List.mem_cons_self ..)
    cases r with
    | @tuple a o its n _ _ ho hc hd hr =>
      rw [List.mapM_cons]
      refine wpAny_bind ?_
      rw [kas_first_eq]
      refine wpAny_bind (Looks.here (show Looks (model prog w) s.heap (typeOf (.ref a)) o.cls from (Looks.ld ho).andThen .now) ?_)
      rw [hc, if_neg (by first | decide | simp)]
      refine wpAny_bind (listItems_at ho hd (wpAny_pure ?_))
      refine wpAny_bind (firsts_any vs ds t (fun d hd => ht d (List.mem_cons_of_mem _ hd)) fun bs _ => wpAny_pure (h _ fun ds' e => ?_))
      have e1 : xs = [] := by
        have := (List.cons.inj e).1
        injection this
      subst e1
      have hs : its.toList = [] := by
        cases q : its.toList with
        | nil => rfl
        | cons _ _ => rw [q] at hr; cases hr
      refine ⟨bs, ?_⟩
      have : its[0]? = none := by rw [← Array.getElem?_toList, hs]; rfl
      rw [this]
theorem kind_first0 {vs : List Value} {ds : List PyData} {Q : SortKind → Shared → Prop} (e : EachIs (fun v d => ∃ as, Reads s.heap v d as) vs (.tuple [] :: ds)) (ht : ∀ d, d ∈ PyData.tuple [] :: ds → ∃ xs, d = .tuple xs) (h : Q oneType' s) : wpAny (model prog w) A (keyKind' vs.toArray) Q E s := by
  rw [keyKind'_eq, List.mapM_toArray, map_eq_pure_bind]
  refine wpAny_bind (wpAny_bind (firsts_any vs _ e ht fun bs hb => wpAny_pure ?_))
  obtain ⟨bs', rfl⟩ := hb ds rfl
  rw [if_neg (by simp), if_neg (by simp)]
  rw [oneTypeOnly'_eq, List.mapM_toArray, map_eq_pure_bind]
  refine wpAny_bind (wpAny_bind (wpAny_bind (kas_mapM (r := Value.type "tuple") _ (fun v hv Q' hq => ?_) (wpAny_pure ?_))))
  · obtain ⟨d, hd, as, r⟩ := e.left v hv
    obtain ⟨xs, rfl⟩ := ht d hd
    exact (looks_reads r).here hq
  · cases e with
    | cons _ _ =>
      rename_i v vs' _ _
      have hall : ((List.map (fun _ => Value.type "tuple") (v :: vs')).toArray.all fun x => x == Value.type "tuple") = true := by
        simp only [List.all_toArray, List.all_map, List.all_eq_true]
        intro _ _
        rfl
      have h0 : (List.map (fun _ => Value.type "tuple") (v :: vs')).toArray[0]? = some (Value.type "tuple") := by simp
      rw [h0]
      simp only [hall, if_true]
      exact wpAny_pure (wpAny_pure h)
theorem SortsAt.first0 {vs : List Value} {ds : List PyData} (e : EachIs (fun v d => ∃ as, Reads s.heap v d as) vs (.tuple [] :: ds)) (hal : AllAlike (.tuple [] :: ds)) (ht : ∀ d, d ∈ PyData.tuple [] :: ds → ∃ xs, d = .tuple xs) (hu : ∀ d, d ∈ PyData.tuple [] :: ds → A.units + d.depth < cLine) : SortsAt prog w A s (dataKind s.heap (.tuple [] :: ds)) vs := by
  refine ⟨fun v hv => ?_, oneType', ?_, fun h2 E Q hq => kind_first0 e ht hq⟩
  · obtain ⟨d, hd, as, r⟩ := e.left v hv
    exact ⟨_, dataKind_some hal hd r⟩
  · intro E x y a b Q ha hb hq
    obtain ⟨d, as, hd, ra, rfl⟩ := dataKind_inv ha
    obtain ⟨d', as', hd', rb, rfl⟩ := dataKind_inv hb
    have hl := hal d hd d' hd'
    have hz := hu d hd
    rw [keyLt'_oneType]
    obtain ⟨xs, rfl⟩ := ht d hd
    obtain ⟨ys, rfl⟩ := ht d' hd'
    exact oneLt_tuple ra rb hl (Nat.lt_of_le_of_lt (Nat.add_le_add_left (Nat.min_le_left _ _) _) hz) hq
/-- sorted(xs), the first of xs the empty tuple -/
theorem sorted_first0 {β : Type} {vs : List Value} {bs : List β} {enc : β → PyData} {R : Value → β → Prop} {ds : List PyData} {l : Addr} {Q : Value → Shared → Prop} (hl : s.heap.IsList l vs.toArray) (e : EachIs R vs bs) (er : EachIs (fun v b => ∃ as, Reads s.heap v (enc b) as) vs bs) (hal : AllAlike (bs.map enc)) (h0 : bs.map enc = .tuple [] :: ds) (ht : ∀ d, d ∈ bs.map enc → ∃ xs, d = .tuple xs) (hL : bs.length ≤ sizeLine)
    (hu : ∀ b, b ∈ bs → A.units + 2 + (enc b).depth < cLine) (h : ∀ out, out.length = bs.length → EachIs R out (bs.mergeSort (dataLe false enc)) → Q (.ref (s.heap.objs.size + 1)) { s with heap := sortedAll s.heap vs (List.toArray out) }) :
    wpAny (model prog w) A (call (.builtin "sorted") [.ref l]) Q E s := by
  have er' : EachIs (fun v b => ∃ as, Reads (sortingHeap (copyHeap s.heap vs) (s.heap.objs.size + 1) vs) v (enc b) as) vs bs := er.mono fun _ _ ⟨as, r⟩ => ⟨as, PyProof.Rows.Reads.keeps (fun _ _ => sorting_copy_old) r⟩
  have em := each_map (R := fun v d => ∃ as, Reads (sortingHeap (copyHeap s.heap vs) (s.heap.objs.size + 1) vs) v d as) enc er'
  have S : SortsAt prog w A.in1.in1 { s with heap := sortingHeap (copyHeap s.heap vs) (s.heap.objs.size + 1) vs } (dataKind (sortingHeap (copyHeap s.heap vs) (s.heap.objs.size + 1) vs) (bs.map enc)) vs := by
    have hb := bound_map (A := A.in1.in1) hu
    rw [h0] at em hal ht hb ⊢
    exact SortsAt.first0 (s := { s with heap := sortingHeap (copyHeap s.heap vs) (s.heap.objs.size + 1) vs }) em hal ht hb
  exact sorted_vals hl S (by rw [e.length]; exact hL)
    (h _ (by rw [sortVals_length false rfl]; exact e.length) (sortVals_data false e er' hal))
end
end PySem.W
namespace K33
open PySem PySem.Spec PyProof.Rows L2
section
variable {c : Ct} {X : Cx} {env : Ev'} {β : Type}
theorem cr_sort0 {bs : List β} {enc : β → PyData} {ds : List PyData} (hal : PySem.W.AllAlike (bs.map enc)) (h0 : bs.map enc = .tuple [] :: ds) (ht : ∀ d, d ∈ bs.map enc → ∃ xs, d = .tuple xs) (hd : ∀ b ∈ bs, (enc b).depth ≤ 8) (hu : X.A.units + 64 < cLine) (hK : X.K = c.K := by rfl) : CallR X (.builtin "sorted") (rSortD c bs enc) := by
  intro pins s σ H vs us Q I r h
  obtain ⟨a, xs, rfl, ha, hdq, q⟩ := h
  obtain ⟨its, rv, hl, hz⟩ := I.list (SqL.of ha)
  rw [Vals.ref1 r]
  have e1 := eachIs_of rv hdq
  have e2 : PySem.W.EachIs (fun v b => ∃ as, Reads s.heap v (enc b) as) its bs := e1.mono fun v b ⟨x, rx, dx⟩ => Dp.reads I (enc b) x v (hK ▸ Dq.dp _ _ dx) rx
  have hlen : bs.length ≤ sizeLine := by rw [← e1.length, ← rv.length]; exact hz
  refine PySem.W.sorted_first0 hl.isList e1 e2 hal h0 ht hlen (fun b hb => by have := hd b hb; omega) fun out hout eo => ?_
  obtain ⟨ys, h1, h2⟩ := of_eachIs eo
  obtain ⟨ep, he'⟩ := PyProof.Rows.sortedAll_at s.heap its out.toArray
  refine ⟨.ref _, upd H (s.heap.objs.size + 1) (.lst ys), I.laid (t' := s.toks) (fun _ _ => PyProof.Rows.sortedAll_old) (Nat.le_succ _) ⟨by rw [h1.length, hout]; exact hlen, out, ep, h1, he'⟩, rfl, q _ _ (I.hok.fresh (Nat.le_succ _)) h2⟩
theorem cg_sort0 {bs : List β} {enc : β → PyData} {ds : List PyData} (hal : PySem.W.AllAlike (bs.map enc)) (h0 : bs.map enc = .tuple [] :: ds) (ht : ∀ d, d ∈ bs.map enc → ∃ xs, d = .tuple xs) (hd : ∀ b ∈ bs, (enc b).depth ≤ 8) (hi : ∀ b ∈ bs, imm (enc b) = true) (hu : X.A.units + 64 < cLine) (hK : X.K = c.K := by rfl) :
    CG c X (.builtin "sorted") [.d (.list (bs.map enc))] (RM c (.d (.list ((bs.mergeSort (PySem.W.dataLe false enc)).map enc)))) :=
  ⟨_, cr_sort0 (c := c) hal h0 ht hd hu hK, fun H vs rv Q q => by
    obtain ⟨v, rfl, r⟩ := rvs1 rv
    obtain ⟨p1, ws, rfl, a1, d1⟩ := dq_lst r
    refine ⟨p1, ws, rfl, a1, d1, fun p ys hp hy => q _ _ (same_upd hp) (rm_list hp (immAll_mem fun x hx => ?_) hy)⟩
    obtain ⟨b, hb, rfl⟩ := List.mem_map.mp hx
    exact hi b ((List.mergeSort_perm _ _).mem_iff.mp hb)⟩
end
end K33

set_option maxHeartbeats 400000
/-! K33zj: the dict of rooms by lots: keys are tuples of tuples. -/
namespace K33
open PySem PySem.Spec PyProof.Rows L2
def nk1 (a : List Int) : NestedKey := .tup (a.map .num)
def nk (k : List (List Int)) : NestedKey := .tup (k.map nk1)
theorem nk1_inj {a b : List Int} (h : nk1 a = nk1 b) : a = b := by
  unfold nk1 at h
  injection h with h
  induction a generalizing b with
  | nil => cases b with | nil => rfl | cons _ _ => cases h
  | cons x a ih =>
    cases b with
    | nil => cases h
    | cons y b =>
      rw [List.map_cons, List.map_cons] at h
      injection h with h1 h2
      injection h1 with h1
      rw [h1, ih h2]
theorem nk_inj {a b : List (List Int)} (h : nk a = nk b) : a = b := by
  unfold nk at h
  injection h with h
  induction a generalizing b with
  | nil => cases b with | nil => rfl | cons _ _ => cases h
  | cons x a ih =>
    cases b with
    | nil => cases h
    | cons y b =>
      rw [List.map_cons, List.map_cons] at h
      injection h with h1 h2
      rw [nk1_inj h1, ih h2]
theorem nk1_depth (a : List Int) : (nk1 a).depth = 1 := by
  unfold nk1
  rw [NestedKey.depth]
  have : ∀ a : List Int, NestedKey.depthAll (a.map .num) = 0 := by
    intro a
    induction a with
    | nil => simp [NestedKey.depthAll]
    | cons x a ih => rw [List.map_cons, NestedKey.depthAll, ih]; simp [NestedKey.depth]
  rw [this]
theorem nk_depth (k : List (List Int)) : (nk k).depth ≤ 8 := by
  unfold nk
  rw [NestedKey.depth]
  have : ∀ k : List (List Int), NestedKey.depthAll (k.map nk1) ≤ 1 := by
    intro k
    induction k with
    | nil => simp [NestedKey.depthAll]
    | cons x k ih => rw [List.map_cons, NestedKey.depthAll, nk1_depth]; omega
  have := this k
  omega
abbrev Kn := List (List (List Int) × List Int)
abbrev Xs := List (NestedKey × Addr × Value)
def lookN (kn : Kn) (k : List (List Int)) : Option (List Int) := (kn.find? fun p => decide (p.1 = k)).map (·.2)
/-- the object at a: a dict of these entries -/
def rawN (P : Program) (w : World) (a : Addr) (xs : Xs) : Heap → Prop := fun h => ∃ o es ep, h.get? a = some o ∧ o.ExactDict ∧ o.data = .dict es ep ∧ es.toList = xs.map (entryOfKey (nestedKind P w)) ∧ (xs.map (·.1)).Nodup
theorem rawN_stab {P : Program} {w : World} {a : Addr} {xs : Xs} : ∀ h1 h2 : Heap, rawN P w a xs h1 → (∀ o, h1.get? a = some o → h2.get? a = some o) → rawN P w a xs h2 := fun _ _ ⟨o, es, ep, h, r⟩ k => ⟨o, es, ep, k _ h, r⟩
theorem rawN_ok {P : Program} {w : World} {a : Addr} {xs : Xs} {H : Hp} {h : Heap} (r : rawN P w a xs h) : ObjOk P w H h a (.ext (rawN P w a xs)) := ⟨r, let ⟨o, _, _, e, _⟩ := r; ⟨o, e⟩, rawN_stab⟩
section
variable {c : Ct} {P : Program} {w : World} {H : Hp} {h : Heap} {a b : Addr}
def KNs (c : Ct) (H : Hp) : Xs → Kn → Prop := Paired fun x q => x.1 = nk q.1 ∧ Dq c.K H (.ref x.2.1) (.tuple (tups q.1)) ∧ ∃ u, RelV u x.2.2 ∧ Dq c.K H u (iT q.2)
theorem KNs.mono {H H' : Hp} (e : Same H H') {xs kn} (r : KNs c H xs kn) : KNs c H' xs kn := Paired.mapP r fun _ _ ⟨z1, z2, u, z3, z4⟩ => ⟨z1, Dq.mono e _ _ z2, u, z3, Dq.mono e _ _ z4⟩
def knP (c : Ct) (P : Program) (w : World) (kn : Kn) : OP := ⟨fun G a o => ∃ xs, o = .ext (rawN P w a xs) ∧ (a == sysModules) = false ∧ KNs c G xs kn, fun e ⟨xs, h1, h2, h3⟩ => ⟨xs, h1, h2, h3.mono e⟩⟩
/-- the tracked tuples are keys -/
theorem nested_ints {h : Heap} : ∀ {ns : List Int} {vs : List V} {its : List Value}, vs = ns.map V.int → Vals vs its → NestedAll h (ns.map .num) its
  | [], _, _, e, r => by subst e; cases r; exact .nil
  | n :: ns, _, _, e, r => by
    subst e
    cases r with
    | cons r1 r2 =>
      obtain ⟨t, rfl⟩ := r1
      exact .cons (.int n t) (nested_ints rfl r2)
theorem nested1 (ok : HOk P w H h) {ns : List Int} {v : V} {u : Value} (r : RelV v u) (d : Dq c.K H v (iT ns)) : NestedIs h (nk1 ns) u := by
  cases d with
  | @tup p xs _ ha hd =>
    obtain ⟨_, its, rv, o, h1, h2, n, h3⟩ := (show ObjOk P w H h p (.tup xs) from ok p _ ha)
    cases (show u = Value.ref p from r)
    exact .tup h1 h2 h3 (by simpa using nested_ints (dq_ints hd) rv)
theorem nested_all (ok : HOk P w H h) : ∀ {k : List (List Int)} {vs : List V} {its : List Value}, DqAll c.K H vs (tups k) → Vals vs its → NestedAll h (k.map nk1) its
  | [], _, _, d, r => by cases d; cases r; exact .nil
  | a :: k, _, _, d, r => by
    cases d with
    | cons d1 d2 =>
      cases r with
      | cons r1 r2 => exact .cons (nested1 ok r1 d1) (nested_all ok d2 r2)
theorem nested_of (ok : HOk P w H h) {k : List (List Int)} {b : Addr} (d : Dq c.K H (.ref b) (.tuple (tups k))) : (nestedKind P w).is h (nk k) b := by
  cases d with
  | @tup p xs _ ha hd =>
    obtain ⟨_, its, rv, o, h1, h2, n, h3⟩ := (show ObjOk P w H h b (.tup xs) from ok b _ ha)
    exact ⟨.tup h1 h2 h3 (by simpa using nested_all ok hd rv), nk_depth k⟩
theorem kn_of (ok : HOk P w H h) {xs : Xs} {kn : Kn} (e : H a = some (.ext (rawN P w a xs))) (r : KNs c H xs kn) : h.DictOfH (nestedKind P w) a xs := by
  obtain ⟨⟨o, es, ep, h1, h2, h3, h4, h5⟩, _⟩ := (show ObjOk P w H h a (.ext (rawN P w a xs)) from ok a _ e)
  refine ⟨o, es, ep, h1, h2, h3, h4, fun x hx => ?_, h5⟩
  have all : ∀ {xs : Xs} {kn : Kn}, KNs c H xs kn → ∀ x ∈ xs, (nestedKind P w).is h x.1 x.2.1 := by
    intro xs kn q
    unfold KNs at q
    induction q with
    | nil => intro x hx; exact nomatch hx
    | @cons p q ps qs hq t ih =>
      intro x hx
      rcases List.mem_cons.mp hx with e | hx
      · subst e
        rw [hq.1]
        exact nested_of ok hq.2.1
      · exact ih x hx
  exact all r x hx
theorem kn_at {xs : Xs} {kn : Kn} (r : KNs c H xs kn) (k : List (List Int)) : (atKey xs (nk k) = none ∧ lookN kn k = none) ∨ ∃ p u d, atKey xs (nk k) = some p ∧ lookN kn k = some d ∧ RelV u p.2 ∧ Dq c.K H u (iT d) := by
  unfold KNs at r
  induction r with
  | nil => exact .inl ⟨rfl, rfl⟩
  | @cons x q xs kn h1 t ih =>
    by_cases e : q.1 = k
    · obtain ⟨z1, z2, u, z3, z4⟩ := h1
      refine .inr ⟨x.2, u, q.2, ?_, ?_, z3, z4⟩
      · unfold atKey
        rw [List.find?_cons, z1, e]
        simp
      · unfold lookN
        rw [List.find?_cons, e]
        simp
    · have e1 : ¬ x.1 = nk k := fun z => e (nk_inj (h1.1.symm.trans z))
      have a1 : atKey (x :: xs) (nk k) = atKey xs (nk k) := by
        unfold atKey
        rw [List.find?_cons, decide_eq_false e1]
      have a2 : lookN (q :: kn) k = lookN kn k := by
        unfold lookN
        rw [List.find?_cons, decide_eq_false e]
      rw [a1, a2]
      exact ih
theorem KNs.snoc {xs : Xs} {kn : Kn} (r : KNs c H xs kn) {k : List (List Int)} {b : Addr} {v : V} {u : Value} {d : List Int} (hk : Dq c.K H (.ref b) (.tuple (tups k))) (rv : RelV v u) (hv : Dq c.K H v (iT d)) : KNs c H (xs ++ [(nk k, b, u)]) (kn ++ [(k, d)]) := Paired.snoc r ⟨rfl, hk, v, rv, hv⟩
theorem KNs.len {xs : Xs} {kn : Kn} (r : KNs c H xs kn) : xs.length = kn.length := Paired.length r
end

/-! ### the operations -/
section
variable {c : Ct} {X : Cx} {env : Ev'} {e a b : Expr} {pos : Pos} {kn : Kn} {k : List (List Int)}
/-- {} -/
theorem em_dnewN : EM c X env (.Dict [] [] pos) (.o (knP c X.prog X.w [])) := fun σ H r Q q pins s I => by
  have hf : H s.heap.objs.size = none := I.hok.fresh (Nat.le_refl _)
  refine wpAny_Dict_empty ⟨.ref s.heap.objs.size, _, I.laid (a := s.heap.objs.size) (o := .ext (rawN X.prog X.w s.heap.objs.size [])) (t' := s.toks) (fun _ _ q => Heap.get?_push_of_some _ q) (Nat.le_refl _)
    (rawN_ok ⟨_, #[], 0, Heap.get?_push_size _ rfl, ⟨rfl, rfl, rfl⟩, rfl, rfl, List.nodup_nil⟩), rfl, q _ _ (same_upd hf) ?_⟩
  exact ⟨fun _ => none, s.heap.objs.size, ⟨(fun _ _ e => nomatch e), fun _ _ e => nomatch e⟩, rfl, hf, rfl, _, upd_same, rfl, trivial, [], rfl, beq_eq_false_iff_ne.mpr (Ne.symm (Nat.ne_of_lt I.big)), .nil⟩
/-- d[k] = v, k new -/
def rSetN (c : Ct) (P : Program) (w : World) : TSet := fun o i v H Q => ∃ a b xs kn k, o = .ref a ∧ i = .ref b ∧ H a = some (.ext (rawN P w a xs)) ∧ KNs c H xs kn ∧ Dq c.K H (.ref b) (.tuple (tups k)) ∧ lookN kn k = none ∧ kn.length < 100000 ∧ ∀ u, RelV v u → Q (upd H a (.ext (rawN P w a (xs ++ [(nk k, b, u)]))))
theorem set_nest (hu : X.A.units + 65 < cLine) : PSet X (rSetN c X.prog X.w) := by
  intro pins s σ H o i v ov iv u Q I ro ri rv h
  obtain ⟨a, b, xs, kn, k, rfl, rfl, ha, hkn, hb, hn, hz, q⟩ := h
  cases ro
  cases ri
  have hne : atKey xs (nk k) = none := by
    rcases kn_at hkn k with ⟨z, _⟩ | ⟨_, _, _, _, z, _⟩
    · exact z
    · rw [hn] at z; cases z
  refine wpAny_setItem_heap (hsz := by rw [hkn.len]; exact Nat.le_of_lt (Nat.lt_of_lt_of_le hz (by decide))) (by show X.A.units + 1 + 8 < cLine; omega) (nested_of I.hok hb) (kn_of I.hok ha hkn) fun h' dd' hs => ?_
  rw [storedH_new hne] at dd'
  obtain ⟨o, es, ep, h1, h2, h3, h4, _, h5⟩ := dd'
  exact ⟨_, d_write I (by rw [ha]; exact True.intro) hs ⟨o, h1⟩ (rawN_ok ⟨o, es, ep, h1, h2, h3, h4, h5⟩), q u rv⟩
/-- k in d -/
def rInN (c : Ct) (P : Program) (w : World) : R2 := fun x y H Q => ∃ a b xs kn k, x = .ref b ∧ y = .ref a ∧ (a == sysModules) = false ∧ H a = some (.ext (rawN P w a xs)) ∧ KNs c H xs kn ∧ Dq c.K H (.ref b) (.tuple (tups k)) ∧ Q (.bl (lookN kn k).isSome) H
theorem op_inN (hu : X.A.units + 65 < cLine) : OpR X (compareOp .In) (rInN c X.prog X.w) := by
  intro pins s σ H x y u v Q I rx ry h
  obtain ⟨a, b, xs, kn, k, rfl, rfl, hd, ha, hkn, hb, q⟩ := h
  cases rx
  cases ry
  refine wpAny_in_heap (by show X.A.units + 1 + 8 < cLine; omega) (nested_of I.hok hb) hd (kn_of I.hok ha hkn) ⟨.bl (lookN kn k).isSome, H, I.tok _, ?_, q⟩
  rcases kn_at hkn k with ⟨z1, z2⟩ | ⟨p, u, d, z1, z2, _⟩ <;> rw [z1, z2] <;> rfl
theorem og_inN (hu : X.A.units + 65 < cLine) : OG c X (compareOp .In) (.d (.tuple (tups k))) (.o (knP c X.prog X.w kn)) (rE c (.d (.bool (lookN kn k).isSome))) :=
  ⟨_, op_inN (c := c) hu, fun H v w r1 r2 Q q => by
    obtain ⟨a, o, rfl, ha, xs, rfl, hd, hkn⟩ := r2
    obtain ⟨b, vs, rfl, hb, hvs⟩ := dq_tup r1
    exact ⟨a, b, xs, kn, k, rfl, rfl, hd, ha, hkn, .tup hb hvs, q _ H (Same.refl H) (.bl _)⟩⟩
def optD : Option (List Int) → PyData
  | none => .none
  | some x => iT x
/-- d.get(k, None) -/
theorem ee_getN {f : Expr} {pa : Pos} (hu : X.A.units + 65 < cLine) (ha : EE c X env a (.o (knP c X.prog X.w kn))) (hb : EE c X env b (.d (.tuple (tups k)))) (hf : EE c X env f (.d .none)) (m : M2 X a "get" pa b f pos := by exact ⟨rfl, rfl, rfl, rfl⟩) :
    EE c X env (.Call (.Attribute a "get" pa) [b, f] [] pos) (.d (optD (lookN kn k))) := fun σ H r Q q pins s I => by
  refine wpAny_Call_method m.base m.few m.line PySem.F.plainAttrs_dict PySem.F.slot_dict_get PySem.F.type_dict_get (thn (ha σ H r (fun x H1 => RV c H1 x (.o (knP c X.prog X.w kn)) ∧ Same H H1) (fun v H1 s1 r1 => ⟨r1, s1⟩) pins s I) fun u s1 ⟨x, H1, I1, rx, r1, sm1⟩ => ?_)
  obtain ⟨d, o, rfl, hd0, xs, rfl, hd, hkn⟩ := r1
  obtain rfl : u = Value.ref d := rx
  obtain ⟨ob, es, ep, h1, h2, h3⟩ := kn_of I1.hok hd0 hkn
  refine ⟨⟨ob, h1, h2.1⟩, fun b' q' => ?_, ?_⟩
  · cases q'
    exact ⟨ob, h1, h2.2.1⟩
  rw [m.trees]
  refine Calls.callWith_builtin rfl (Calls.evalArgs_plain (Calls.spliced_cons (thn (hb σ H1 (r.mono sm1) (fun x H2 => RV c H2 x (.d (.tuple (tups k))) ∧ Same H1 H2) (fun v H2 s2 r2 => ⟨r2, s2⟩) pins s1 I1) fun iv s2 ⟨y, H2, I2, ry, r2, sm2⟩ =>
    Calls.spliced_cons (thn (hf σ H2 (r.mono (sm1.trans sm2)) (fun x H3 => RV c H3 x (.d .none) ∧ Same H2 H3) (fun v H3 s3 r3 => ⟨r3, s3⟩) pins s2 I2) fun fv s3 ⟨z, H3, I3, rz, r3, sm3⟩ => Calls.spliced_nil ?_))))
  cases (show Dq c.K H3 z .none from r3)
  cases rz
  obtain ⟨b0, vs, rfl, hb0, hvs⟩ := dq_tup (r2.mono sm3)
  cases ry
  have hkn3 := hkn.mono (sm2.trans sm3)
  have hd3 := (sm2.trans sm3) _ _ hd0
  have dd := kn_of I3.hok hd3 hkn3
  refine PySem.call_meetsIn PySem.F.slot_dict_get dd.typeIs PySem.F.entry_dict_get (PySem.F.args_dict_get_3 _ _ _) (meetsH_dict_get_default (nestedKind X.prog X.w) d b0 hd .none) ⟨by show X.A.units + 1 + 8 < cLine; omega, nk k, xs, nested_of I3.hok (.tup hb0 hvs), dd, ?_⟩
  rcases kn_at hkn3 k with ⟨z1, z2⟩ | ⟨p, u, dd', z1, z2, z3, z4⟩
  · rw [z1]
    exact ⟨.non, H3, I3.tok _, rfl, q _ H3 ((sm1.trans sm2).trans sm3) (by rw [z2]; exact .non)⟩
  · rw [z1]
    exact ⟨u, H3, I3.tok _, z3, q _ H3 ((sm1.trans sm2).trans sm3) (by rw [z2]; exact z4)⟩
/-- list(d) -/
def rListN (c : Ct) (P : Program) (w : World) : List V → Hp → VK → Prop := fun vs H Q => ∃ a xs kn, vs = [.ref a] ∧ (a == sysModules) = false ∧ H a = some (.ext (rawN P w a xs)) ∧ KNs c H xs kn ∧ kn.length < 100000 ∧ ∀ p, H p = none → Q (.ref p) (upd H p (.lst (xs.map fun x => V.ref x.2.1)))
theorem call_listN (hcalm : X.calm = true) : CallR X (.type "list") (rListN c X.prog X.w) := by
  intro pins s σ H xs us Q I r q
  obtain ⟨a, xs, kn, rfl, lo, ha, hkn, hz, q⟩ := q
  obtain ⟨u, rfl, rx⟩ := vals1 r
  cases rx
  obtain ⟨⟨o, es, ep, h1, h2, h3, h4, h5⟩, _⟩ := (show ObjOk X.prog X.w H s.heap a (.ext (rawN X.prog X.w a xs)) from I.hok a _ ha)
  have hsz : es.size = xs.length := size_of_entries h4
  have hl := hkn.len
  refine PySem.W.kdl_call (KdlSrc.rawDict (es := es) (ep := ep) lo) (I.ok.hd hcalm) ⟨o, h1, h2, h3⟩ (by rw [hsz, hl]; exact Nat.le_of_lt (Nat.lt_of_lt_of_le hz (by decide))) fun h' tk acc c' hkp hD hacc => ?_
  have hv : Vals ((xs.map (·.2.1)).map V.ref) acc.toList := vals_refs _ _ (by rw [Array.length_toList, hacc.1, hsz, List.length_map]) fun j v e => by
    obtain ⟨hj, ev⟩ := hacc.2 j v (by rw [← Array.getElem?_toList]; exact e)
    have e1 := entry_at h4 j
    have e2 : es[j]? = some es[j] := by simp [hj]
    rw [e2] at e1
    cases q : xs[j]? with
    | none => rw [q] at e1; exact nomatch (show some es[j] = none from e1)
    | some x =>
      rw [q] at e1
      have e3 : es[j] = entryOfKey (nestedKind X.prog X.w) x := Option.some.inj e1
      exact ⟨x.2.1, by rw [List.getElem?_map, q]; rfl, ev.trans (by rw [e3]; rfl)⟩
  have em : (xs.map (·.2.1)).map V.ref = xs.map fun x => V.ref x.2.1 := by rw [List.map_map]; rfl
  rw [em] at hv
  refine ⟨.ref s.heap.objs.size, upd H s.heap.objs.size (.lst (xs.map fun x => V.ref x.2.1)), I.laid (t' := tk) hkp (Nat.le_refl _)
    (show ObjOk X.prog X.w _ _ _ (.lst (xs.map fun x => V.ref x.2.1)) from ⟨by rw [List.length_map, hl]; exact Nat.le_of_lt (Nat.lt_of_lt_of_le hz (by decide)), acc.toList, c', hv, by rw [Array.toArray_toList]; exact hD⟩), rfl, q _ (I.hok.fresh (Nat.le_refl _))⟩
def lotD (q : List (List Int) × List Int) : PyData := .tuple (tups q.1)
theorem imm_lotD (q : List (List Int) × List Int) : imm (lotD q) = true := by unfold lotD; rw [imm]; exact imm_tups _
theorem kn_keys {H : Hp} {xs : Xs} {kn : Kn} (r : KNs c H xs kn) : DqAll c.K H (xs.map fun x => V.ref x.2.1) (kn.map lotD) := by
  unfold KNs at r
  induction r with
  | nil => exact .nil
  | cons h1 t ih => exact .cons h1.2.1 ih
theorem cg_listN (hz : kn.length < 100000) (hcalm : X.calm = true := by rfl) : CG c X (.type "list") [.o (knP c X.prog X.w kn)] (RM c (.d (.list (kn.map lotD)))) :=
  ⟨_, call_listN (c := c) hcalm, fun H vs rv Q q => by
    obtain ⟨v, rfl, r⟩ := rvs1 rv
    obtain ⟨a, o, rfl, ha, xs, rfl, hd, hkn⟩ := r
    refine ⟨a, xs, kn, rfl, hd, ha, hkn, hz, fun p hp => q _ _ (same_upd hp) (rm_list hp (immAll_mem fun x hx => ?_) (kn_keys hkn))⟩
    obtain ⟨p, _, rfl⟩ := List.mem_map.mp hx
    exact imm_lotD p⟩
end
/-! ### d[k] = v -/
section
variable {c : Ct} {X : Cx} {Rt : SV → Prop} {env : Ev'} {e : Expr} {pos pos' : Pos} {M B C : Ev' → Prop} {kn : Kn} {lot : List (List Int)}
theorem s1_nput (i : Nat) {nm : Str} {pn : Pos} {d : List Int} {k : Expr} (he : env[i]? = some (.ow (.o (knP c X.prog X.w kn)))) (hu : X.A.units + 65 < cLine) (h : EN c X env e (.d (iT d))) (hk : EN c X env k (.d (.tuple (tups lot)))) (hn : lookN kn lot = none) (hz : kn.length < 100000) (kk : M (env.set i (.ow (.o (knP c X.prog X.w (kn ++ [(lot, d)]))))))
    (hN : X.N[i]? = some nm := by rfl) (hv : Vis X.env.scope nm := by first | exact Or.inl rfl | exact Or.inr (Or.inl rfl) | exact Or.inr (Or.inr rfl)) (hd : (nm == ("__debug__" : Str)) = false := by decide) (hcd : (nm == ("__classdict__" : Str)) = false := by decide)
    (hs : swapsWithSole [.Subscript (.Name nm pn) k pos'] e pos.line X.env = pure false := by rfl) (hw : swappedStores [.Subscript (.Name nm pn) k pos'] e X.env = pure none := by rfl) (h1 : (assignEach [.Subscript (.Name nm pn) k pos'] X.env).map (·.2) = [assign (.Subscript (.Name nm pn) k pos') X.env] := by rfl)
    (ha : ∀ v, assign (.Subscript (.Name nm pn) k pos') X.env v = (do
      let ov ← holding [v] (eval (.Name nm pn) X.env)
      let iv ← holding [v, ov] (eval k X.env)
      standAt pos'
      holding [v, ov, iv] (setItem ov iv v)
      release [v, ov, iv] []) := by intro _; rfl) : S1 c X Rt (.Assign [.Subscript (.Name nm pn) k pos'] e pos) env ⟨M, B, C⟩ := fun He H0 Q s kq σ H r => by
  obtain ⟨F, f0, r⟩ := r
  obtain ⟨a, h1', h2, o, h3, _, _, xs, rfl, h5, h6⟩ := r.ow i _ he
  refine WS.of (ps_asg pe_w (pg_sub (pe_var (i := i) hN hv hd hcd) pe_w (set_nest (c := c) hu) ha) hs hw h1) (h σ H r.rd _ fun v H1 s1 rn => ⟨_, h1', hk σ H1 (r.rd.mono s1) _ fun w H2 s2 r2 => ?_⟩)
  obtain ⟨G, n, rv⟩ := rn
  obtain ⟨F', f1, f2, f3, f4⟩ := union_new r.sub s1 n
  have r' := r.step s1 f1 f3 f4
  obtain ⟨G2, n2, rk⟩ := r2
  obtain ⟨F2, g1, g2, g3, g4⟩ := union_new r'.sub s2 n2
  have r2' := r'.step s2 g1 g3 g4
  have rv2 : Dq c.K F2 v (iT d) := Dq.mono (f2.trans g1) _ _ rv
  obtain ⟨b, vs, rfl, hb, hvs⟩ := dq_tup (rk.mono g2)
  have hkn2 := h6.mono (f1.trans g1)
  have hbF : Dq c.K F2 (.ref b) (.tuple (tups lot)) := .tup hb hvs
  refine ⟨a, b, xs, kn, lot, rfl, rfl, s2 _ _ (s1 _ _ h3), hkn2.mono g3, Dq.mono g3 _ _ hbF, hn, hz, fun u ru => ?_⟩
  exact ⟨_, ⟨F2, (f0.trans f1).trans g1, r2'.write (y := .o (knP c X.prog X.w (kn ++ [(lot, d)]))) he h1' ⟨_, upd_same, rfl, trivial, _, rfl, h5, hkn2.snoc hbF ru rv2⟩⟩, kk⟩
end
end K33

set_option maxHeartbeats 400000
/-! K33zk: for over a dict; the row of draws is made; a comprehension by draws. -/
namespace K33
open PySem PySem.Spec PyProof.Rows L2

/-! ### what is told of an object is told anew -/
theorem WE.recast {X : Cx} {e : Expr} {σ : L2.St} {H : Hp} {Q : VK} (h : WE X e σ H fun v H1 => ∃ a o o', v = .ref a ∧ H1 a = some o ∧ Mut (some o) ∧ (∀ h, ObjOk X.prog X.w H1 h a o → ObjOk X.prog X.w (upd H1 a o') h a o' ∧ ∃ u, h.get? a = some u) ∧ Q v (upd H1 a o')) : WE X e σ H Q := fun pins s I =>
  thn (h pins s I) fun u s' ⟨v, H1, I1, rv, a, o, o', ev, ha, mu, ok, q⟩ => by
    obtain ⟨n1, n2⟩ := ok _ (I1.hok a o ha)
    exact ⟨v, _, I1.write (x := a) (e := a) (h' := s'.heap) (t' := s'.toks) (by rw [ha]; exact mu) (.inl rfl) (fun _ _ _ e => e) n2 n1, rv, q⟩

/-! ### for k in d, d new: the keys -/
/-- a new dict, locked -/
def iKeysL (te : TE) : TI := fun σ H R => te σ H fun x H1 => ∃ d ws, x = .ref d ∧ H1 d = some (.dT ws) ∧ ∀ od, R (Itkt d od ws) (upd H1 d (.frz od (.dT ws)))
theorem pi_keysL {X : Cx} {tg e : Expr} {te : TE} (he : PE X e te) : PI X tg e (iKeysL te) := by
  refine ⟨fun pins s σ H R I h => ?_⟩
  refine thn (he.run pins s σ H _ I h) fun u s1 ⟨x, H1, I1, rx, d, ws, ex, hd, q⟩ => ?_
  subst ex
  obtain rfl : u = Value.ref d := rx
  obtain ⟨od, I2⟩ := I1.lock hd (u := .dT ws) trivial
  have hd2 : upd H1 d (.frz od (.dT ws)) d = some (.frz od (.dT ws)) := upd_same
  obtain ⟨hs, hgd, hx, es, ep, hdt, hsz, ent⟩ := I2.frzT hd2
  refine iter_keys hs hgd hx hdt (pi_one (tk := s1.toks) I2 _ (turn_keysT _ hdt) ⟨_, Heap.get?_push_size _ rfl, rfl, ?_⟩ (q od))
  rw [hsz] <;> rfl
theorem ints_dq {c : Ct} {H : Hp} : ∀ ns : List Int, DqAll c.K H (ns.map V.int) (ns.map PyData.int)
  | [] => .nil
  | n :: ns => .cons (.int n) (ints_dq ns)
section
variable {c : Ct} {X : Cx} {Rt : SV → Prop} {env : Ev'} {pos : Pos} {M B C : Ev' → Prop}
theorem s1_forK (j : Nat) {tg iter : Expr} {body : List Stmt} {kvs : List (List Int × PyData)} (h : EN c X env iter (.dT kvs)) (hg : PG X tg (gName j)) (Pv : Nat → Ev' → Prop) (h0 : Pv 0 env)
    (hs : ∀ i z env', kvs[i]? = some z → Pv i env' → SS c X Rt body (env'.set j (.fr (.d (iT z.1)))) ⟨Pv (i + 1), M, Pv (i + 1)⟩) (hd : ∀ env', Pv kvs.length env' → M env') (hc : X.calm = true := by rfl)
    (hfs : ∀ x, foldedSetIterable iter X.env x = pure x := by intro _; rfl) (hp : PassesOwn (model X.prog X.w) X.A X.env X.xe := by exact PassesOwn.never) : S1 c X Rt (.For tg iter body [] pos) env ⟨M, B, C⟩ := fun He H0 Q s kq σ H r => by
  obtain ⟨F, f0, r⟩ := r
  refine WS.of (ps_for hp hc (pi_keysL pe_w) hg pss_w hfs) (h σ H r.rd _ fun v H1 s1 rn => ?_)
  obtain ⟨G, n, a, ws, rfl, ga, kv⟩ := rn
  have ha := n.sub a _ ga
  have hn : H a = none := by
    rcases n.new a _ ga with z | z
    · exact z
    · cases z
  refine ⟨a, ws, rfl, ha, fun od => ?_⟩
  have fa : F a = none := by
    cases q : F a with
    | none => rfl
    | some o => rw [r.sub a o q] at hn; cases hn
  have lk : ws.length = kvs.length := Paired.length kv
  -- the frozen part: F and the locked dict
  have gr : Same H (upd H1 a (.frz od (.dT ws))) := fun b o e => by rw [upd_ne (ne_of_none e hn)]; exact s1 b o e
  have fF : Same F (upd F a (.frz od (.dT ws))) := sub_upd fa
  have gF : Same (upd F a (.frz od (.dT ws))) (upd H1 a (.frz od (.dT ws))) := upd_sub (fun b o e => gr b o (r.sub b o e)) upd_same
  have nF : NoOwn F H (upd F a (.frz od (.dT ws))) := fun b o e h1 _ => by
    have nb : b ≠ a := ne_of_none h1 hn
    rw [upd_ne nb]
    exact e
  have w : Walk (Itkt a od ws) ws.length (fun H2 => H2 a = some (.frz od (.dT ws))) (fun i H x H' => H' = H ∧ ∃ (k : List L2.Key) (v : V) (q : Addr), ws[i]? = some (k, v) ∧ x = .ref q ∧ H q = some (.tup (k.map kV))) := walk_keysT
  refine for_it (g := gName j) (tb := WSs X body) (D := NE.up c H0 Q ⟨M, B, C⟩) (σ := σ) (H := upd H1 a (.frz od (.dT ws))) w (fun i σ' H' => ∃ env', RS c (upd F a (.frz od (.dT ws))) σ' H' env' ∧ Pv i env') ⟨env, ⟨_, Same.refl _, r.step gr fF gF nF⟩, h0⟩
    (fun i σ' H' _ p => ?_) (fun i x σ' H' H'' hi p y => ?_) (fun σ' H' p => ?_)
  · obtain ⟨env', ⟨F', f1, r'⟩, _⟩ := p
    exact r'.sub a _ (f1 a _ upd_same)
  · obtain ⟨env', ⟨F', f1, r'⟩, pv⟩ := p
    obtain ⟨rfl, k, v, q, hk, rfl, hq⟩ := y
    have hil : i < kvs.length := by omega
    have hz : kvs[i]? = some kvs[i] := by simp [hil]
    have ek : k = kvs[i].1.map Sum.inl := by
      obtain ⟨p, h1, h2⟩ := paired_get (l₁ := ws) (l₂ := kvs) kv hk
      rw [hz] at h1
      cases h1
      exact h2.1
    have dq : Dq c.K H'' (.ref q) (iT kvs[i].1) := .tup hq (by rw [ek, kVinl]; exact ints_dq _)
    have nt : NewPart H'' H'' (tupsOf H'') := ⟨tupsOf_sub H'', fun a o g => .inr (tupsOf_at g).2⟩
    obtain ⟨F2, g1, g2, g3, g4⟩ := union_new r'.sub (Same.refl H'') nt
    have r2 := (r'.step (Same.refl H'') g1 g3 g4).setFr (x := .d (iT kvs[i].1)) j (Dq.mono g2 _ _ (Dq.tups _ _ (imm_iT _) dq))
    have hb := hs i kvs[i] env' hz pv He (upd F a (.frz od (.dT ws))) Q ((s.trans f0).trans fF) kq _ H'' ⟨F2, f1.trans g1, r2⟩
    refine WSs.mono hb (fun _ _ z => z) (fun _ _ z => z) (fun σ3 H3 z => ?_) fun _ _ z => z
    obtain ⟨env3, r3, z⟩ := z
    exact ⟨env3, r3.weak (f0.trans fF), z⟩
  · obtain ⟨env', r', pv⟩ := p
    exact ⟨env', r'.weak (f0.trans fF), hd _ (by rw [← lk]; exact pv)⟩
end

/-! ### the row of draws: [script, 0, 1733, 0] -/
section
variable {c : Ct} {X : Cx} {env : Ev'} {pos : Pos} {e1 e2 e3 e4 : Expr}
theorem ef_row {p q r : Int} (h0 : env[0]? = some (.fr (.p (scrP c.K c.scr c.ns)))) (hp : 0 ≤ p) (h1 : EF c X env e1 (.p (scrP c.K c.scr c.ns))) (h2 : EE c X env e2 (.d (.int p))) (h3 : EE c X env e3 (.d (.int q))) (h4 : EE c X env e4 (.d (.int r)))
    (s1 : starEach [e1, e2, e3, e4] X.env = (false, eval e1 X.env) :: starEach [e2, e3, e4] X.env := by rfl) (s2 : starEach [e2, e3, e4] X.env = (false, eval e2 X.env) :: starEach [e3, e4] X.env := by rfl)
    (s3 : starEach [e3, e4] X.env = (false, eval e3 X.env) :: starEach [e4] X.env := by rfl) (s4 : starEach [e4] X.env = (false, eval e4 X.env) :: starEach [] X.env := by rfl) : EF c X env (.List [e1, e2, e3, e4] pos) .row := fun σ H F fz Q q0 => by
  obtain ⟨v0, _, rfl, hs0⟩ := fz.fr 0 _ h0
  refine WE.recast (WE.of (pe_lst (pa_cons pe_w (pa_cons pe_w (pa_cons pe_w (pa_cons pe_w pa_nil s4) s3) s2) s1)) ?_)
  refine h1 σ H F fz _ fun v1 H1 F1 a1 f1 g1 n1 r1 => ?_
  obtain ⟨rfl, _⟩ := r1
  refine h2 σ H1 (fz.rd.mono a1) _ fun v2 H2 a2 r2 => ?_
  refine h3 σ H2 (fz.rd.mono (a1.trans a2)) _ fun v3 H3 a3 r3 => ?_
  refine h4 σ H3 (fz.rd.mono ((a1.trans a2).trans a3)) _ fun v4 H4 a4 r4 => ?_
  cases (show Dq c.K H2 v2 (.int p) from r2)
  cases (show Dq c.K H3 v3 (.int q) from r3)
  cases (show Dq c.K H4 v4 (.int r) from r4)
  refine ⟨by show 4 ≤ sizeLine; decide, fun l hl => ?_⟩
  have sa : Same H H4 := ((a1.trans a2).trans a3).trans a4
  have hHl : H l = none := sa.free hl
  have fl : F l = none := by
    cases z : F l with
    | none => rfl
    | some o => rw [fz.sub l o z] at hHl; cases hHl
  refine ⟨l, _, .ext (rowF c.scr l), rfl, upd_same, trivial, fun h ⟨_, its, n, hv, hg⟩ => ⟨⟨⟨p, q, r, its, n, hp, hv, hg⟩, ⟨_, hg⟩, fun h1 h2 ⟨p1, q1, r1, i1, n1, z0, z1, z2⟩ hk => ⟨p1, q1, r1, i1, n1, z0, z1, hk _ z2⟩⟩, ⟨_, hg⟩⟩, ?_⟩
  rw [upd_upd]
  have sl : Same H4 (upd H4 l (.ext (rowF c.scr l))) := same_upd hl
  have gF : Same (upd F l (.ext (rowF c.scr l))) (upd H4 l (.ext (rowF c.scr l))) := upd_sub (fun b o e => sl b o (sa b o (fz.sub b o e))) upd_same
  refine q0 _ _ (upd F l (.ext (rowF c.scr l))) (sa.trans sl) (sub_upd fl) gF (fun b o e hb _ => ?_) ⟨l, rfl, upd_same, same_l (sub_upd fl) hs0⟩
  have nb : b ≠ l := ne_of_none hb hHl
  rw [upd_ne nb]
  exact e
end

/-! ### [f for z in zs if a draw]: some of them -/
section
variable {c : Ct} {X : Cx} {env : Ev'} {β : Type}
structure LcOkS (c : Ct) (X : Cx) (env : Ev') (tg iter elt : Expr) (ifs : List Expr) (scope : Scope) (own : List (Str × Nat)) (T : SV → Prop) : Prop where
  ok : BlkOk X.N X.env.scope scope own
  rd : ∃ (g : TG) (wi : TI) (tt : TT) (te : TE), PI X tg iter wi ∧ InBlk X scope (fun Y => PG Y tg g) ∧ InBlk X scope (fun Y => PTs Y ifs tt) ∧ InBlk X scope (fun Y => PE Y elt te) ∧
    ∀ σ H, Rd c H σ env → ∀ Q : VK, (∀ v H', Same H H' → rMS c T H H' v → Q v H') → tLc wi g tt te (own.map (·.2)) σ H Q
theorem lc_okS {zs : List β} {enc : β → List PyData} {tg iter elt : Expr} {ifs : List Expr} {scope : Scope} {own : List (Str × Nat)} {g : TG} {js : List Nat} (f : β → PyData)
    (S : Src c X (env.map Sl.toFr) tg iter g js zs enc) (ok : BlkOk X.N X.env.scope scope own) (hg : InBlk X scope fun Y => PG Y tg g) (hjs : ∀ j ∈ js, j ∈ own.map (·.2))
    (ht : ∀ z ∈ zs, InBlk X scope fun Y => ETsN c Y (setE (wipeE env (own.map (·.2))) js (enc z)) ifs)
    (he : ∀ z ∈ zs, InBlk X scope fun Y => EN c Y (setE (wipeE env (own.map (·.2))) js (enc z)) elt (.d (f z))) (hz : zs.length ≤ 100000) :
    LcOkS c X env tg iter elt ifs scope own (fun y => ∃ sub, List.Sublist sub zs ∧ y = .d (.list (sub.map f))) := by
  obtain ⟨wi, hpi, hwi⟩ := S
  refine ⟨ok, g, wi, fun σ H Q => InBlk X scope fun Y => WTs Y ifs σ H Q, fun σ H Q => InBlk X scope fun Y => WE Y elt σ H Q, hpi, hg, fun s H C cl fp => ⟨fun pins s1 σ H1 Q I h => h s H C cl fp pins s1 I⟩,
    fun s H C cl fp => ⟨fun pins s1 σ H1 Q I h => h s H C cl fp pins s1 I⟩, fun σ H r Q q => hwi σ H H (Fz.all r) _ fun J H1 F1 s1 s2 s3 _ fe => ?_⟩
  intro D hD
  have w : Walk J zs.length (fun H2 => Same F1 H2) (fun i H2 x H' => J.yld i H2 x H') :=
    ⟨fun i H2 hi s => fe.go i zs[i] H2 (by simp [hi]) s, fun H2 s => fe.stop H2 s, fun _ _ _ _ _ _ y => y⟩
  have sD : Same H1 (upd H1 D (.lst [])) := same_upd hD
  refine lc_it (g := g) (tt := fun σ H Q => InBlk X scope fun Y => WTs Y ifs σ H Q) (te := fun σ H Q => InBlk X scope fun Y => WE Y elt σ H Q) (vs := own.map (·.2)) (σ := σ) (Qd := fun H2 => Q (.ref D) H2) w (fun i H2 => ∃ G acc sub, List.Sublist sub (zs.take i) ∧ Same H1 (fun a => if a = D then none else H2 a) ∧ H2 D = some (.lst acc) ∧ NewPart H1 H2 G ∧ G D = none ∧ DqAll c.K G acc (sub.map f))
    ⟨fun _ => none, [], [], List.Sublist.refl _, fun a o e => ?_, upd_same, ⟨(fun _ _ e => nomatch e), fun _ _ e => nomatch e⟩, rfl, .nil⟩ (fun i H2 _ p => ?_) (fun i x H2 H3 hi p y => ?_) (fun H2 p => ?_)
  · have ne : a ≠ D := ne_of_none e hD
    show (if a = D then none else upd H1 D (.lst []) a) = some o
    rw [if_neg ne, upd_ne ne]
    exact e
  · obtain ⟨G, acc, sub, p0, p1, _⟩ := p
    intro a o e
    have z := p1 a o (s3 a o e)
    by_cases q : a = D
    · simp [q] at z
    · simpa [q] using z
  · obtain ⟨G, acc, sub, p0, p1, p2, p3, p4, p5⟩ := p
    have hz1 : zs[i]? = some zs[i] := by simp [hi]
    have sF : Same F1 H2 := fun a o e => by
      have z := p1 a o (s3 a o e)
      by_cases q : a = D
      · simp [q] at z
      · simpa [q] using z
    have s12 : Same H1 H2 := fun a o e => by
      have z := p1 a o e
      by_cases q : a = D
      · simp [q] at z
      · simpa [q] using z
    have gr := fe.grow i zs[i] H2 x H3 hz1 sF y
    have hm : zs[i] ∈ zs := List.getElem_mem hi
    have tk : zs.take (i + 1) = zs.take i ++ [zs[i]] := by rw [List.take_add_one, hz1]; rfl
    have alen : acc.length < sizeLine := by
      rw [p5.len, List.length_map]
      have a1 := p0.length_le
      have a2 : (zs.take i).length ≤ i := by rw [List.length_take]; omega
      exact Nat.lt_of_lt_of_le (show sub.length < 100000 by omega) (by decide)
    refine fe.yld i zs[i] H2 x H3 hz1 sF y _ _ fun vs dv vl => ⟨(setV_wipe hjs).trans (wipe_wipe _ _), ?_⟩
    have rd3 : Rd c H3 (setV (wipe σ (own.map (·.2))) js vs) (setE (wipeE env (own.map (·.2))) js (enc zs[i])) := Rd.setV (((r.mono s1).mono (s12.trans gr)).wipe _) (DqAll.mono (sF.trans gr) _ _ dv)
    intro s0 H0 C0 cl0 fp0
    refine ht _ hm s0 H0 C0 cl0 fp0 _ H3 rd3 _ fun kb H4 s4 => ?_
    cases kb with
    | false =>
      refine iteF ⟨G, acc, sub, ?_, fun a o e => ?_, s4 _ _ (gr _ _ p2), ⟨p3.sub.trans (gr.trans s4), p3.new⟩, p4, p5⟩
      · rw [tk]
        exact p0.trans (List.sublist_append_left _ _)
      · have ne : a ≠ D := ne_of_none e hD
        show (if a = D then none else H4 a) = some o
        rw [if_neg ne]
        exact s4 _ _ (gr _ _ (s12 a o e))
    | true =>
      refine iteT ?_
      intro s0 H0 C0 cl0 fp0
      refine he _ hm s0 H0 C0 cl0 fp0 _ H4 (rd3.mono s4) _ fun y1 H5 s5 ry => ?_
      have d4 : H4 D = some (.lst acc) := s4 _ _ (gr _ _ p2)
      have d5 : H5 D = some (.lst acc) := s5 _ _ d4
      refine ⟨acc, d5, alen, ?_⟩
      obtain ⟨Gy, ny, ry⟩ := ry
      have gyD : Gy D = none := by
        cases e : Gy D with
        | none => rfl
        | some o =>
          rcases ny.new D o e with z | z
          · rw [d4] at z; cases z
          · have e2 := ny.sub D o e
            rw [d5] at e2
            cases e2
            cases z
      have s14 : Same H1 H4 := (s12.trans gr).trans s4
      obtain ⟨U, nu, u1, u2⟩ := NewPart.union (NewPart.mk (H := H1) (H' := H5) (G := G) (p3.sub.trans ((gr.trans s4).trans s5)) p3.new) (ny.mono s14)
      have nU : ∃ U', NewPart H1 H5 U' ∧ Same G U' ∧ Same Gy U' ∧ U' D = none := by
        refine ⟨fun a => if a = D then none else U a, ⟨fun a o e => ?_, fun a o e => ?_⟩, fun a o e => ?_, fun a o e => ?_, if_pos rfl⟩
        · by_cases q : a = D
          · simp [q] at e
          · simp only [q, if_false] at e; exact nu.sub a o e
        · by_cases q : a = D
          · simp [q] at e
          · simp only [q, if_false] at e; exact nu.new a o e
        · have q : a ≠ D := ne_of_none e p4
          simp only [q, if_false]
          exact u1 a o e
        · have q : a ≠ D := ne_of_none e gyD
          simp only [q, if_false]
          exact u2 a o e
      obtain ⟨U', nu', u1', u2', uD⟩ := nU
      refine ⟨U', acc ++ [y1], sub ++ [zs[i]], ?_, fun a o e => ?_, upd_same, ⟨fun a o e => ?_, nu'.new⟩, uD, ?_⟩
      · rw [tk]
        exact p0.append (List.Sublist.refl _)
      · have ne : a ≠ D := ne_of_none e hD
        show (if a = D then none else upd H5 D _ a) = some o
        rw [if_neg ne, upd_ne ne]
        exact s5 _ _ (s14 a o e)
      · rw [upd_ne (ne_of_none e uD)]
        exact nu'.sub a o e
      · rw [List.map_append]
        exact (DqAll.mono u1' _ _ p5).app (.cons (Dq.mono u2' _ _ ry) .nil)
  · obtain ⟨G, acc, sub, p0, p1, p2, p3, p4, p5⟩ := p
    have s12 : Same H1 H2 := fun a o e => by
      have z := p1 a o e
      by_cases q : a = D
      · simp [q] at z
      · simpa [q] using z
    rw [List.take_length] at p0
    exact q _ H2 (s1.trans s12) ⟨_, ⟨sub, p0, rfl⟩, G, D, p3.mono s1, rfl, s1.free hD, p4, acc, p2, p5⟩
end
section
variable {c : Ct} {X : Cx} {Rt : SV → Prop} {env : Ev'} {pos : Pos} {M B C : Ev' → Prop} {T : SV → Prop}
/-- x = [..], x a local: the comprehension stored within its block -/
theorem s1_lcS (i : Nat) {nm : Str} {pn cpos : Pos} {tg iter elt : Expr} {ifs : List Expr} {scope : Scope} {own : List (Str × Nat)} (L : LcOkS c X env tg iter elt ifs scope own T) (k : ∀ y, T y → M (env.set i (.ow y))) (hN : X.N.Nodup) (hi : X.N[i]? = some nm := by rfl)
    (hyl : X.env.scope.names.lookup nm = some .local := by rfl) (hsw : swapsWith (.ListComp elt [⟨tg, iter, ifs, 0⟩] scope cpos) (some (.Name nm pn)) pos.line X.env = pure true := by exact sw_true rfl rfl rfl (by decide +kernel)) (hc : X.calm = true := by rfl)
    (hs : ∀ x, foldedSetIterable iter X.env x = pure x := by intro _; rfl) : S1 c X Rt (.Assign [.Name nm pn] (.ListComp elt [⟨tg, iter, ifs, 0⟩] scope cpos) pos) env ⟨M, B, C⟩ := fun He H0 Q s kq σ H r => by
  obtain ⟨F, f0, r⟩ := r
  obtain ⟨ok, g, wi, tt, te, h1, h2, h3, h4, h5⟩ := L
  exact WS.of (ps_setLc (i := i) hc hN hi hyl hsw h1 ok h2 h3 h4 hs) (h5 σ H r.rd _ fun v H' s1 ⟨y, ty, rm⟩ => by
    obtain ⟨F', f1, r'⟩ := r.own i s1 rm
    exact ⟨_, ⟨F', f0.trans f1, r'⟩, k y ty⟩)
end
end K33

set_option maxHeartbeats 400000
/-! K33zl: is_from, are_pushes, the class Hall. -/
namespace K33
open PySem PySem.Spec PyProof.Rows L2
section
variable {c : Ct} {P : Program} {w : World} {mg : Str → Option Value} {base : Heap} {f : Addr} {fd : FuncData} {nm : Str} {j k : Nat} {S : Sc}
theorem et_chain {X : Cx} {env : Ev'} {a b d : Expr} {pos : Pos} {i j k : Int} (ha : EE c X env a (.d (.int i))) (hb : EE c X env b (.d (.int j))) (hd : EE c X env d (.d (.int k))) (hm : lastMarks [.LtE, .LtE] [b, d] = false := by with_unfolding_all rfl) :
    ET c X env (.Compare a [.LtE, .LtE] [b, d] pos) (decide (i ≤ j) && decide (j ≤ k)) := fun σ H r Q q =>
  WT.of (pt_chain op_le op_le pe_w pe_w pe_w hm) (ha σ H r _ fun v H1 s1 r1 => hb σ H1 (r.mono s1) _ fun w H2 s2 r2 => by
    cases (show Dq c.K H1 v (.int i) from r1)
    cases (show Dq c.K H2 w (.int j) from r2)
    refine ⟨i, j, rfl, rfl, _, rfl, ?_⟩
    by_cases h : i ≤ j
    · rw [decide_eq_true h] at q ⊢
      refine iteT (hd σ H2 (r.mono (s1.trans s2)) _ fun u H3 s3 r3 => ?_)
      cases (show Dq c.K H3 u (.int k) from r3)
      exact ⟨j, k, rfl, rfl, _, rfl, by rw [Bool.true_and] at q; exact q H3 ((s1.trans s2).trans s3)⟩
    · rw [decide_eq_false h] at q ⊢
      exact iteF ⟨_, rfl, by rw [Bool.false_and] at q; exact q H2 (s1.trans s2)⟩)
def sFrom : Sc := fun xs R => ∃ v lo hi : Int, xs = [.d (.int v), .d (.int lo), .d (.int hi)] ∧ R = fun y => y = .d (.bool (decide (lo ≤ v) && decide (v ≤ hi)))
abbrev stFrom : Stmt := top 10
theorem scFrom : FnScope ["value", "low", "high"] ["value", "low", "high"] (defScope stFrom) := ⟨rfl, rfl, rfl, by decide +kernel, rfl, by decide +kernel, by decide +kernel⟩
theorem own_from (D : Df c mg "is_from" stFrom ["value", "low", "high"] f fd) (B : Bl mg) : Own c P w mg base "is_from" 1 sFrom := by
  refine own_mk D scFrom (fun xs R h => ?_) (fun cdv A outer s H E hr xs R h => ?_)
  · obtain ⟨v, lo, hi, rfl, _⟩ := h
    rfl
  · obtain ⟨v, lo, hi, rfl, rfl⟩ := h
    refine ss_cons (s1_ret (EE.en (EE.is (ee_and (k := true) (l := (true && (decide (lo ≤ v) && decide (v ≤ hi)))) (eg_callB (cg_isi (d := .int v) (n := "int") (k := true) rfl) B.isinstance (ea_cons (ee_name 0) (ea_cons (ee_ty (n := "int") B.int) ea_nil)) back_e) fun _ =>
      ee_and (k := true) (l := (decide (lo ≤ v) && decide (v ≤ hi))) (ee_not (k := false) (eg_callB (cg_isi (d := .int v) (n := "bool") (k := false) rfl) B.isinstance (ea_cons (ee_name 0) (ea_cons (ee_ty (n := "bool") B.bool) ea_nil)) back_e)) fun _ => ee_one (ee_chain (ee_name 1) (ee_name 0) (ee_name 2))) rfl) rfl) rfl)
def sPushes : Sc := fun xs R => ∃ row i n, xs = [.d (iT row), .d (.int (i : Nat)), .d (.int (n : Nat))] ∧ row.length = n ∧ n ≤ 8 ∧ i < n ∧ (∀ x ∈ row, 0 ≤ x ∧ x ≤ 4) ∧ row.getD i 0 = 0 ∧ R = fun y => y = .d (.bool true)
abbrev stPushes : Stmt := top 11
abbrev nPushes : List Str := ["value", "lamp", "many", "one"]
theorem scPushes : FnScope nPushes ["value", "lamp", "many"] (defScope stPushes) := ⟨rfl, rfl, rfl, by decide +kernel, rfl, by decide +kernel, by decide +kernel⟩
theorem own_pushes (D : Df c mg "are_pushes" stPushes ["value", "lamp", "many"] f fd) (B : Bl mg) (G : Gc mg) (OF : Own c P w mg base "is_from" 1 sFrom) : Own c P w mg base "are_pushes" 2 sPushes := by
  refine own_mk D scPushes (fun xs R h => ?_) (fun cdv A outer s H E hr xs R h => ?_)
  · obtain ⟨row, i, n, rfl, _⟩ := h
    rfl
  · obtain ⟨row, i, n, rfl, hl, hn, hi, hx, h0, rfl⟩ := h
    have nd := scPushes.nd
    have al : (([row].map fun _ => true)).all id = true := rfl
    refine ss_cons (s1_if (k := false) (ew_pt (ET_or3 (et_not (k := true) (et_val (eg_callB (cg_isi (d := .tuple (row.map .int)) (n := "tuple") (k := true) rfl) B.isinstance (ea_cons (ee_name 0) (ea_cons (ee_ty (n := "tuple") B.tuple) ea_nil)) back_e)))
      (et_cmp (og_ne (d := .int (n : Nat)) (f := .int (n : Nat)) (k := false) hr.units rfl rfl (by rw [eqv_int]; simp)) (EE.is (eg_callB (cg_lenT (ds := row.map .int)) B.len (ea_cons (ee_name 0) ea_nil) back_e) (by rw [List.length_map, hl])) (ee_name 2))
      (et_not (k := true) (et_val (EE.is (eg_callB (cg_all (bs := row.map fun _ => true)) B.all (ea_cons (EE.is (EM.ee (em_lc
        (lc_ok (own := [("one", 3)]) (fun _ => true) (fun _ : Int => .bool true) (src_tup 3 row .int (ef_name 0)) ?ok (pg1 3 nd) (by decide) (fun z hz s H C cl fp => ets_nil)
          (fun z hz _ s H C cl fp => EE.en (EE.is (ee_call (S := sFrom) (k := 1) (xs := [.d (.int z), .d (.int 0), .d (.int 4)]) OF hr (ea_cons (ee_name 3) (ea_cons ee_int (ea_cons (ee_gint G.push) ea_nil))) ⟨z, 0, 4, rfl, rfl⟩) ?elt) rfl) (by omega)) nd)) ?lc) ea_nil) back_e) ?tt))))) (fun e => by cases e) fun _ => ss_nil ?_)
    case ok => exact blkOk_by (N := nPushes) (sc := defScope stPushes) (by decide +kernel)
    case elt =>
      have := hx z hz
      rw [decide_eq_true this.1, decide_eq_true this.2]; rfl
    case lc => rw [filt_true]; simp [List.map_map, Function.comp_def]
    case tt => simp
    refine ss_cons (s1_ret (EE.en (EE.is (ee_cmp (og_eq (d := .int 0) (f := .int 0) (k := true) hr.units rfl rfl (by rw [eqv_int]; rfl)) (ee_ixT (ee_name 0) (ee_name 1) (by rw [atI_int (by omega), h0])) ee_int) rfl) rfl) rfl)

/-! ### Hall.__init__ -/
/-- an instance without fields -/
def bareP (c : Ct) (a0 : Addr) : OP := ⟨fun _ a o => a = a0 ∧ ∃ dx, o = .ins c.C dx [], fun _ h => h⟩
/-- a hall's instance -/
def toldP (c : Ct) (a0 : Addr) (Pu : List (List Int)) : OP := ⟨fun G a o => a = a0 ∧ ∃ dx t, o = .ins c.C dx [("told", .ref t)] ∧ Dq c.K G (.ref t) (.tuple (tups Pu)), fun e ⟨h0, dx, t, h1, h2⟩ => ⟨h0, dx, t, h1, Dq.mono e _ _ h2⟩⟩
/-- a heap without a place -/
def minus (H : Hp) (a : Addr) : Hp := fun b => if b = a then none else H b
theorem minus_sub (H : Hp) (a : Addr) : Same (minus H a) H := fun b o e => by
  unfold minus at e
  split at e
  · cases e
  · exact e
theorem minus_at (H : Hp) (a : Addr) : minus H a a = none := if_pos rfl
theorem sub_minus {F H : Hp} {a : Addr} (s : Same F H) (h : F a = none) : Same F (minus H a) := fun b o e => by
  unfold minus
  rw [if_neg (ne_of_none e h)]
  exact s b o e
section
variable {X : Cx} {Rt : SV → Prop} {env : Ev'} {e : Expr} {pos : Pos} {M B C : Ev' → Prop} {Pu : List (List Int)} {a0 : Addr}
theorem s1_told (i : Nat) {nm : Str} {pn pa : Pos} (he : env[i]? = some (.ow (.o (bareP c a0)))) (h : EF c X env e (.d (.tuple (tups Pu)))) (hC : Cls X.K c.C) (hA : NoAttr X.K c.C "told") (kk : M (env.set i (.ow (.o (toldP c a0 Pu)))))
    (hN : X.N[i]? = some nm := by rfl) (hv : Vis X.env.scope nm := by first | exact Or.inl rfl | exact Or.inr (Or.inl rfl) | exact Or.inr (Or.inr rfl)) (hd : (nm == ("__debug__" : Str)) = false := by decide) (hcd : (nm == ("__classdict__" : Str)) = false := by decide)
    (hs : swapsWith e (some (.Attribute (.Name nm pn) "told" pa)) pos.line X.env = pure false := by rfl) : S1 c X Rt (.Assign [.Attribute (.Name nm pn) "told" pa] e pos) env ⟨M, B, C⟩ := fun He H0 Q s kq σ H r => by
  obtain ⟨F, f0, r⟩ := r
  obtain ⟨a, h1, h2, o, h3, _, _, ea, dx, rfl⟩ := r.ow i _ he
  refine WS.of (ps_fld (pe_var (i := i) hN hv hd hcd) pe_w hs) (h σ H F r.fz _ fun v H1 F1 s1 f1 g1 n1 rv => ⟨_, h1, a, c.C, dx, [], rfl, s1 _ _ h3, hC, hA, by decide, _, ⟨F1, f0.trans f1, (r.step s1 f1 g1 n1).write (y := .o (toldP c a0 Pu)) he h1 ?_⟩, kk⟩)
  obtain ⟨t, vs, rfl, ht, hvs⟩ := dq_tup rv
  exact ⟨_, upd_same, rfl, trivial, ea, dx, t, rfl, .tup ht hvs⟩
end
def spInit (c : Ct) : Sp := fun vs H Q _ => ∃ a dx v Pu, vs = [.ref a, v] ∧ H a = some (.ins c.C dx []) ∧ Dq c.K (minus H a) v (.tuple (tups Pu)) ∧ hallOk Pu = true ∧
  ∀ H' G dx' t, Same (minus H a) G → Same G H' → G a = none → H' a = some (.ins c.C dx' [("told", .ref t)]) → Dq c.K G (.ref t) (.tuple (tups Pu)) → Q .non H'
abbrev stInit : Stmt := inClass (top 12) 0
abbrev nInit : List Str := ["self", "pushes", "index", "own", "one", "other"]
theorem scInit : FnScope nInit ["self", "pushes"] (defScope stInit) := ⟨rfl, rfl, rfl, by decide +kernel, rfl, by decide +kernel, by decide +kernel⟩
theorem hallOk_sym {P : List (List Int)} (h : hallOk P = true) {i j : Nat} (hi : i < P.length) (hj : j < P.length) : decide ((rowAt P i).getD j 0 = 0) = decide ((rowAt P j).getD i 0 = 0) := by
  unfold hallOk at h
  simp only [Bool.and_eq_true, List.all_eq_true] at h
  have := h.2 i (List.mem_range.mpr hi) j (List.mem_range.mpr hj)
  exact eq_of_beq this
theorem hallOk_diag {P : List (List Int)} (h : hallOk P = true) {i : Nat} (hi : i < P.length) : (rowAt P i).getD i 0 = 0 := by
  unfold hallOk at h
  simp only [Bool.and_eq_true, List.all_eq_true] at h
  exact of_decide_eq_true (h.1.2 i (List.mem_range.mpr hi))
theorem eqv_bool (a b : Bool) : PyData.eqv (.bool a) (.bool b) = (a == b) := by simp only [PyData.eqv]
theorem fn_init (Fn : Fun c.K "__init__" "Hall.__init__" stInit f fd) (B : Bl mg) (G : Gc mg) (T : Hc c.K mg c.C) (OP : Own c P w mg base "are_pushes" 2 sPushes) : FnOk P w c.K mg base CX0 3 f fd ["self", "pushes"] (spInit c) := by
  refine Fn.ok scInit (fun vs H Q E h => ?_) (fun cdv A outer s H vs Q E hr h => ?_)
  · obtain ⟨a, dx, v, Pu, rfl, _⟩ := h
    rfl
  obtain ⟨a, dx, v, Pu, rfl, ha, hv, ok, q⟩ := h
  refine ⟨_, pss_w, ?_⟩
  have nd := scInit.nd
  have hl := hallOk_len ok
  have tl : (tups Pu).length = Pu.length := tups_len Pu
  have main : SS c (bx c P w mg base nInit "Hall.__init__" stInit f cdv A outer s H E) (fun _ => False) (defBody stInit) [.ow (.o (bareP c a)), .fr (.d (.tuple (tups Pu))), .no, .no, .no, .no] ⟨fun env' => env'[0]? = some (.ow (.o (toldP c a Pu))), fun _ => False, fun _ => False⟩ := by
    refine ss_cons (s1_if (k := false) (et_or2 (k := false) (l := false) (et_not (k := true) (et_val (eg_callB (cg_isi (d := .tuple (tups Pu)) (n := "tuple") (k := true) rfl) B.isinstance (ea_cons (ee_name 1) (ea_cons (ee_ty (n := "tuple") B.tuple) ea_nil)) back_e)))
      fun _ => et_not (k := true) (ET.is (et_chain ee_int (EE.is (eg_callB (cg_lenT (ds := tups Pu)) B.len (ea_cons (ee_name 1) ea_nil) back_e) (by rw [tl])) (ee_gint G.lamps)) ?ch)) (fun e => by cases e) fun _ => ss_nil ?_)
    case ch =>
      rw [decide_eq_true (show (1 : Int) ≤ ((Pu.length : Nat) : Int) by omega), decide_eq_true (show ((Pu.length : Nat) : Int) ≤ 8 by omega)]
      rfl
    refine ss_cons (s1_for (src_enum 2 3 true Pu iT B.enumerate (ef_name 1)) (pg_tup rfl (pgs_cons (pg_name nd rfl (Or.inl rfl) (Or.inr rfl)) (pgs_cons (pg_name nd rfl (Or.inl rfl) (Or.inr rfl)) pgs_nil)))
      (fun i env' => ∃ x2 x3, env' = [.ow (.o (bareP c a)), .fr (.d (.tuple (tups Pu))), x2, x3, .no, .no]) ⟨_, _, rfl⟩ ?_ ?_)
    · rintro i z env' hz ⟨x2, x3, rfl⟩
      obtain ⟨z1, z2⟩ := zip_get hz
      obtain ⟨e0, hi⟩ := range_get z1
      have hi : i < Pu.length := hi
      obtain ⟨r1, r2, r3⟩ := hallOk_row ok hi
      rw [z2] at r1
      have er : z.2 = rowAt Pu i := Option.some.inj r1
      rw [e0, er]
      exact ss_cons (s1_if (k := false) (et_not (k := true) (et_val (ee_call (S := sPushes) (k := 2) (xs := [.d (iT (rowAt Pu i)), .d (.int (i : Nat)), .d (.int (Pu.length : Nat))]) OP hr (ea_cons (ee_name 3) (ea_cons (ee_name 2) (ea_cons (EE.is (eg_callB (cg_lenT (ds := tups Pu)) B.len (ea_cons (ee_name 1) ea_nil) back_e) (by rw [tl])) ea_nil)))
        ⟨rowAt Pu i, i, Pu.length, rfl, r2, hl.2, hi, r3, hallOk_diag ok hi, rfl⟩))) (fun e => by cases e) fun _ => ss_nil (ss_nil ⟨_, _, rfl⟩))
    rintro env' ⟨x2, x3, rfl⟩
    refine ss_cons (s1_for (src_enum 4 3 true Pu iT B.enumerate (ef_name 1)) (pg_tup rfl (pgs_cons (pg_name nd rfl (Or.inl rfl) (Or.inr rfl)) (pgs_cons (pg_name nd rfl (Or.inl rfl) (Or.inr rfl)) pgs_nil)))
      (fun i env' => ∃ x2 x3 x4 x5, env' = [.ow (.o (bareP c a)), .fr (.d (.tuple (tups Pu))), x2, x3, x4, x5]) ⟨_, _, _, _, rfl⟩ ?_ ?_)
    · rintro i z env' hz ⟨x2, x3, x4, x5, rfl⟩
      obtain ⟨z1, z2⟩ := zip_get hz
      obtain ⟨e0, hi⟩ := range_get z1
      have hi : i < Pu.length := hi
      obtain ⟨r1, r2, r3⟩ := hallOk_row ok hi
      have ri := r1
      rw [z2] at r1
      have er : z.2 = rowAt Pu i := Option.some.inj r1
      rw [e0, er]
      refine ss_cons (s1_for (src_rng2 5 ((i : Int) + 1) (Pu.length : Nat) B.range (ee_bin og_add (ee_name 4) ee_int) (EE.is (eg_callB (cg_lenT (ds := tups Pu)) B.len (ea_cons (ee_name 1) ea_nil) back_e) (by rw [tl])) (by omega)) (pg_name nd rfl (by first | exact Or.inl rfl | exact Or.inr rfl) (by first | exact Or.inr rfl | exact Or.inl rfl))
        (fun j env' => ∃ x5, env' = [.ow (.o (bareP c a)), .fr (.d (.tuple (tups Pu))), x2, .fr (.d (iT (rowAt Pu i))), .fr (.d (.int (i : Nat))), x5]) ⟨_, rfl⟩ ?_ ?_)
      · rintro j y env' hy ⟨x5, rfl⟩
        obtain ⟨rfl, hj⟩ := range_get hy
        have hj2 : i + 1 + y < Pu.length := by omega
        obtain ⟨q1, q2, q3⟩ := hallOk_row ok hj2
        have eo : ((i : Int) + 1 + ((y : Nat) : Int)) = ((i + 1 + y : Nat) : Int) := by omega
        refine ss_cons (s1_if (k := false) (et_cmp (og_ne (d := .bool (decide ((rowAt Pu i).getD (i + 1 + y) 0 = 0))) (f := .bool (decide ((rowAt Pu (i + 1 + y)).getD i 0 = 0))) (k := false) hr.units rfl rfl ?sy)
          (ee_cmp (og_eq (d := .int ((rowAt Pu i).getD (i + 1 + y) 0)) (f := .int 0) hr.units rfl rfl (eqv_int _ _)) (ee_ixT (ee_name 3) (EE.is (ee_name 5) (by rw [← eo])) (atI_int (by omega))) ee_int)
          (ee_cmp (og_eq (d := .int ((rowAt Pu (i + 1 + y)).getD i 0)) (f := .int 0) hr.units rfl rfl (eqv_int _ _)) (ee_ixT (ee_ixT (ee_name 1) (EE.is (ee_name 5) (by rw [← eo])) (atI_row q1)) (ee_name 4) (atI_int (by omega))) ee_int)) (fun e => by cases e) fun _ => ss_nil (ss_nil ⟨_, rfl⟩))
        case sy => rw [eqv_bool, hallOk_sym ok hi hj2]; simp
      · rintro env' ⟨x5, rfl⟩
        exact ss_nil ⟨_, _, _, _, rfl⟩
    rintro env' ⟨x2, x3, x4, x5, rfl⟩
    exact ss_cons (s1_told 0 rfl (ef_name 1) T.cl T.told (ss_nil rfl))
  have r0 : RS c (minus H a) (L2.start nInit [.ref a, v]) H [.ow (.o (bareP c a)), .fr (.d (.tuple (tups Pu))), .no, .no, .no, .no] := by
    refine ⟨minus H a, Same.refl _, minus_sub H a, rfl, fun i x e => ?_, fun i x e => ?_, fun i j a x y n e1 e2 => ?_⟩
    · match i, e with
      | 0, e => cases e
      | 1, e => cases e; exact ⟨v, rfl, hv⟩
      | 2, e => cases e
      | 3, e => cases e
      | 4, e => cases e
      | 5, e => cases e
      | n + 6, e => simp at e
    · match i, e with
      | 0, e => cases e; exact ⟨a, rfl, minus_at H a, _, ha, rfl, trivial, rfl, dx, rfl⟩
      | 1, e => cases e
      | 2, e => cases e
      | 3, e => cases e
      | 4, e => cases e
      | 5, e => cases e
      | n + 6, e => simp at e
    · match i, j, e1, e2, n with
      | 0, 0, _, _, n => exact absurd rfl n
      | 0, 1, _, e, _ => cases e
      | 0, 2, _, e, _ => cases e
      | 0, 3, _, e, _ => cases e
      | 0, 4, _, e, _ => cases e
      | 0, 5, _, e, _ => cases e
      | 0, n + 6, _, e, _ => simp at e
      | 1, _, e, _, _ => cases e
      | 2, _, e, _, _ => cases e
      | 3, _, e, _, _ => cases e
      | 4, _, e, _, _ => cases e
      | 5, _, e, _, _ => cases e
      | n + 6, _, e, _, _ => simp at e
  refine WSs.mono (main (minus H a) (minus H a) Q (Same.refl _) (fun _ _ _ z => z.elim) _ H r0) (fun σ H' z => ?_) (fun _ _ z => z) (fun _ _ ⟨_, _, z⟩ => z.elim) (fun _ _ ⟨_, _, z⟩ => z.elim)
  obtain ⟨env', ⟨F, f0, r⟩, e0⟩ := z
  obtain ⟨b, h1, h2, o, h3, _, _, rfl, dx', t, rfl, h5⟩ := r.ow 0 _ e0
  exact q H' F dx' t f0 r.sub h2 h3 h5

/-! ### Hall(pushes) -/
/-- the class's own __init__ -/
structure In (c : Ct) (P : Program) (w : World) (mg : Str → Option Value) (base : Heap) : Prop where
  ex : ∃ f fd, FnOk P w c.K mg base CX0 3 f fd ["self", "pushes"] (spInit c) ∧ Mk c.K c.C f ∧ Binds c.K fd ["self", "pushes"] []
theorem en_hall {X : Cx} {env : Ev'} {e : Expr} {pos p : Pos} {Pu : List (List Int)} (I : In c X.prog X.w X.mg X.base) (T : Hc c.K X.mg c.C) (hr : Room 4 X.A) (ha : EE c X env e (.d (.tuple (tups Pu)))) (ok : hallOk Pu = true) (hK : X.K = c.K := by rfl) (hg : Gl X "Hall" := by rfl)
    (he : starEach [e] X.env = (false, eval e X.env) :: starEach [] X.env := by rfl) (hpl : (backTo pos (starEach [] X.env)).any (·.1) = false := by rfl) : EN c X env (.Call (.Name "Hall" p) [e] [] pos) (.hall Pu) := by
  obtain ⟨f, fd, F, M, hb⟩ := I.ex
  rw [← hK] at F M hb
  refine fun σ H r Q q => WE.of (pe_make M F hr hg T.mgC hb .nil pass0 (pa_cons pe_w pa_nil he) (by decide) he hpl) (ha σ H r _ fun v H1 s1 r1 => fun x dx nx ndx nex => ?_)
  have s0 : Same H1 (minus (upd (upd H1 dx (.own x)) x (.ins c.C dx [])) x) := sub_minus (fun b o e => by
    rw [upd_ne (ne_of_none e nx), upd_ne (ne_of_none e ndx)]
    exact e) nx
  refine ⟨x, dx, v, Pu, rfl, upd_same, Dq.mono s0 _ _ r1, ok, fun H' G dx' t g1 g2 g3 h4 h5 => ⟨rfl, q _ H' ((s1.trans s0).trans (g1.trans g2)) ?_⟩⟩
  have d5 : Dq c.K H' (.ref t) (.tuple (tups Pu)) := Dq.mono g2 _ _ h5
  have im : imm (.tuple (tups Pu)) = true := by rw [imm]; exact imm_tups Pu
  have d6 := Dq.tups _ _ im d5
  have tx : tupsOf H' x = none := by
    cases q2 : tupsOf H' x with
    | none => rfl
    | some o =>
      obtain ⟨q3, q4⟩ := tupsOf_at q2
      rw [h4] at q3
      cases q3
      cases q4
  refine ⟨upd (tupsOf H') x (.ins c.C dx' [("told", .ref t)]), ⟨upd_sub (tupsOf_sub H') h4, fun b o e => ?_⟩, ok, x, dx', t, rfl, upd_same, Dq.mono (sub_upd tx) _ _ d6⟩
  by_cases hb' : b = x
  · subst hb'
    exact .inl (s1.free nx)
  · rw [upd_ne hb'] at e
    exact .inr (tupsOf_at e).2
end
end K33

set_option maxHeartbeats 400000
/-! K33zm: the halls of at most three lamps, gone through. -/
namespace K33
open PySem PySem.Spec PyProof.Rows L2
def permsOf : List Nat → List (List Nat)
  | [] => [[]]
  | x :: xs => (permsOf xs).flatMap fun p => (List.range (p.length + 1)).map fun i => p.take i ++ [x] ++ p.drop i
def lotOf (ups : List (List Int)) (room : List Int) : List (List Int) := ups.filter fun a => decide (lbyM a room < 0)
def knOf (ups : List (List Int)) (rooms : List (List Int)) : Kn := rooms.map fun r => (lotOf ups r, r)
def nodupB {α : Type} [DecidableEq α] : List α → Bool
  | [] => true
  | x :: xs => !decide (x ∈ xs) && nodupB xs
/-- what is gone through for a hall: U the arrows, ups in the law's order, Rm the rooms -/
def goodA (P : List (List Int)) (U ups Rm : List (List Int)) : Bool :=
  decide (P.length ≤ 3) && hallOk P && endOk P && nodupB U && U.all (fun a => decide (a.length = P.length)) && decide (U.length ≤ 9) && nodupB ups && ups.all (fun a => decide (a ∈ U)) && U.all (fun a => decide (a ∈ ups)) && decide (ups.length = U.length) && decide (1 ≤ U.length) &&
    U.all (fun a => a.all (fun x => decide (0 ≤ x) && decide (x < 100)) && decide (1 ≤ a.sum)) &&
    U.all (fun a => (List.range P.length).all fun i => decide (a = unitM P.length i) || decide (turnedM P a i ∈ U)) &&
    (List.range P.length).all (fun i => decide (unitM P.length i ∈ U)) &&
    U.all (fun a => (List.range P.length).any (fun i => decide (a = unitM P.length i)) || (List.range P.length).any fun i => U.any fun b => decide (a = plusM (unitM P.length i) b)) &&
    U.all (fun a => !decide (plusM a a ∈ U)) &&
    decide (List.replicate P.length 1 ∈ Rm) && Rm.all (fun r => decide (r.length = P.length) && (List.range P.length).all fun i => decide (changedM P r i ∈ Rm)) &&
    decide (Rm.length ≤ 100) && nodupB (Rm.map (lotOf ups)) && decide (Rm.head? = some (List.replicate P.length 1))
def goodP (P : List (List Int)) : Bool := match upM P 20 (found0 P) (layer0 P) with
  | none => false
  | some r => match arrM P 200 30 (arrows0 P.length) (unitsL P.length) with
    | none => false
    | some ra => match roomsM P 500 10 with
      | none => false
      | some rr => ra.all (fun p => !decide (p.1 = [])) && decide (ra.length ≤ 100) && goodA P (upsM r) (lupM (sortL (ra.map (·.1)))) (rr.1.map (·.1))
theorem good0 : goodP [[0]] = true := by decide +kernel
theorem good1 : goodP [[0, 1], [1, 0]] = true := by decide +kernel
theorem good2 : goodP [[0, 2], [1, 0]] = true := by decide +kernel
theorem good3 : goodP [[0, 1], [2, 0]] = true := by decide +kernel
theorem good4 : goodP [[0, 3], [1, 0]] = true := by decide +kernel
theorem good5 : goodP [[0, 1], [3, 0]] = true := by decide +kernel
theorem good6 : goodP [[0, 1, 0], [1, 0, 1], [0, 1, 0]] = true := by decide +kernel
theorem good7 : goodP [[0, 0, 1], [0, 0, 1], [1, 1, 0]] = true := by decide +kernel
theorem good8 : goodP [[0, 1, 1], [1, 0, 0], [1, 0, 0]] = true := by decide +kernel
theorem good9 : goodP [[0, 1, 0], [1, 0, 2], [0, 1, 0]] = true := by decide +kernel
theorem good10 : goodP [[0, 0, 1], [0, 0, 1], [1, 2, 0]] = true := by decide +kernel
theorem good11 : goodP [[0, 1, 2], [1, 0, 0], [1, 0, 0]] = true := by decide +kernel
theorem good12 : goodP [[0, 2, 1], [1, 0, 0], [1, 0, 0]] = true := by decide +kernel
theorem good13 : goodP [[0, 0, 1], [0, 0, 1], [2, 1, 0]] = true := by decide +kernel
theorem good14 : goodP [[0, 1, 0], [2, 0, 1], [0, 1, 0]] = true := by decide +kernel
theorem good15 : goodP [[0, 1, 0], [1, 0, 1], [0, 2, 0]] = true := by decide +kernel
theorem good16 : goodP [[0, 0, 1], [0, 0, 2], [1, 1, 0]] = true := by decide +kernel
theorem good17 : goodP [[0, 1, 1], [1, 0, 0], [2, 0, 0]] = true := by decide +kernel
theorem good18 : goodP [[0, 1, 1], [2, 0, 0], [1, 0, 0]] = true := by decide +kernel
theorem good19 : goodP [[0, 0, 2], [0, 0, 1], [1, 1, 0]] = true := by decide +kernel
theorem good20 : goodP [[0, 2, 0], [1, 0, 1], [0, 1, 0]] = true := by decide +kernel
theorem good21 : goodP [[0, 0], [0, 0]] = true := by decide +kernel
theorem good22 : goodP [[0, 0, 0], [0, 0, 1], [0, 1, 0]] = true := by decide +kernel
theorem good23 : goodP [[0, 0, 1], [0, 0, 0], [1, 0, 0]] = true := by decide +kernel
theorem good24 : goodP [[0, 1, 0], [1, 0, 0], [0, 0, 0]] = true := by decide +kernel
theorem good25 : goodP [[0, 0, 0], [0, 0, 2], [0, 1, 0]] = true := by decide +kernel
theorem good26 : goodP [[0, 0, 0], [0, 0, 1], [0, 2, 0]] = true := by decide +kernel
theorem good27 : goodP [[0, 0, 2], [0, 0, 0], [1, 0, 0]] = true := by decide +kernel
theorem good28 : goodP [[0, 2, 0], [1, 0, 0], [0, 0, 0]] = true := by decide +kernel
theorem good29 : goodP [[0, 0, 1], [0, 0, 0], [2, 0, 0]] = true := by decide +kernel
theorem good30 : goodP [[0, 1, 0], [2, 0, 0], [0, 0, 0]] = true := by decide +kernel
theorem good31 : goodP [[0, 0, 0], [0, 0, 3], [0, 1, 0]] = true := by decide +kernel
theorem good32 : goodP [[0, 0, 0], [0, 0, 1], [0, 3, 0]] = true := by decide +kernel
theorem good33 : goodP [[0, 0, 3], [0, 0, 0], [1, 0, 0]] = true := by decide +kernel
theorem good34 : goodP [[0, 3, 0], [1, 0, 0], [0, 0, 0]] = true := by decide +kernel
theorem good35 : goodP [[0, 0, 1], [0, 0, 0], [3, 0, 0]] = true := by decide +kernel
theorem good36 : goodP [[0, 1, 0], [3, 0, 0], [0, 0, 0]] = true := by decide +kernel
theorem good37 : goodP [[0, 0, 0], [0, 0, 0], [0, 0, 0]] = true := by decide +kernel
def hallsE : List (List (List Int)) := [[[0]], [[0, 1], [1, 0]], [[0, 2], [1, 0]], [[0, 1], [2, 0]], [[0, 3], [1, 0]], [[0, 1], [3, 0]], [[0, 1, 0], [1, 0, 1], [0, 1, 0]], [[0, 0, 1], [0, 0, 1], [1, 1, 0]], [[0, 1, 1], [1, 0, 0], [1, 0, 0]], [[0, 1, 0], [1, 0, 2], [0, 1, 0]], [[0, 0, 1], [0, 0, 1], [1, 2, 0]], [[0, 1, 2], [1, 0, 0], [1, 0, 0]], [[0, 2, 1], [1, 0, 0], [1, 0, 0]], [[0, 0, 1], [0, 0, 1], [2, 1, 0]], [[0, 1, 0], [2, 0, 1], [0, 1, 0]], [[0, 1, 0], [1, 0, 1], [0, 2, 0]], [[0, 0, 1], [0, 0, 2], [1, 1, 0]], [[0, 1, 1], [1, 0, 0], [2, 0, 0]], [[0, 1, 1], [2, 0, 0], [1, 0, 0]], [[0, 0, 2], [0, 0, 1], [1, 1, 0]], [[0, 2, 0], [1, 0, 1], [0, 1, 0]], [[0, 0], [0, 0]], [[0, 0, 0], [0, 0, 1], [0, 1, 0]], [[0, 0, 1], [0, 0, 0], [1, 0, 0]], [[0, 1, 0], [1, 0, 0], [0, 0, 0]], [[0, 0, 0], [0, 0, 2], [0, 1, 0]], [[0, 0, 0], [0, 0, 1], [0, 2, 0]], [[0, 0, 2], [0, 0, 0], [1, 0, 0]], [[0, 2, 0], [1, 0, 0], [0, 0, 0]], [[0, 0, 1], [0, 0, 0], [2, 0, 0]], [[0, 1, 0], [2, 0, 0], [0, 0, 0]], [[0, 0, 0], [0, 0, 3], [0, 1, 0]], [[0, 0, 0], [0, 0, 1], [0, 3, 0]], [[0, 0, 3], [0, 0, 0], [1, 0, 0]], [[0, 3, 0], [1, 0, 0], [0, 0, 0]], [[0, 0, 1], [0, 0, 0], [3, 0, 0]], [[0, 1, 0], [3, 0, 0], [0, 0, 0]], [[0, 0, 0], [0, 0, 0], [0, 0, 0]]]
theorem all_good : ∀ P ∈ hallsE, goodP P = true := by
  intro P hP
  simp only [hallsE, List.mem_cons, List.not_mem_nil, or_false] at hP
  rcases hP with rfl | rfl | rfl | rfl | rfl | rfl | rfl | rfl | rfl | rfl | rfl | rfl | rfl | rfl | rfl | rfl | rfl | rfl | rfl | rfl | rfl | rfl | rfl | rfl | rfl | rfl | rfl | rfl | rfl | rfl | rfl | rfl | rfl | rfl | rfl | rfl | rfl | rfl
  · exact good0
  · exact good1
  · exact good2
  · exact good3
  · exact good4
  · exact good5
  · exact good6
  · exact good7
  · exact good8
  · exact good9
  · exact good10
  · exact good11
  · exact good12
  · exact good13
  · exact good14
  · exact good15
  · exact good16
  · exact good17
  · exact good18
  · exact good19
  · exact good20
  · exact good21
  · exact good22
  · exact good23
  · exact good24
  · exact good25
  · exact good26
  · exact good27
  · exact good28
  · exact good29
  · exact good30
  · exact good31
  · exact good32
  · exact good33
  · exact good34
  · exact good35
  · exact good36
  · exact good37
theorem halls_in : ∀ X ∈ endL, ∀ o ∈ permsOf (List.range X.length), mixM X o ∈ hallsE := by decide +kernel
end K33

set_option maxHeartbeats 400000
/-! K33zn: the plain law of lots and rooms. -/
namespace K33
open PySem PySem.Spec PyProof.Rows L2
structure GoodH (P : List (List Int)) (U ups Rm : List (List Int)) : Prop where
  m3 : P.length ≤ 3
  ok : hallOk P = true
  en : endOk P = true
  nU : U.Nodup
  lU : ∀ a ∈ U, a.length = P.length
  u9 : U.length ≤ 9
  nu : ups.Nodup
  sub : ∀ a ∈ ups, a ∈ U
  sup : ∀ a ∈ U, a ∈ ups
  ul : ups.length = U.length
  u1 : 1 ≤ U.length
  small : ∀ a ∈ U, (∀ x ∈ a, 0 ≤ x ∧ x < 100) ∧ 1 ≤ a.sum
  trn : ∀ a ∈ U, ∀ i, i < P.length → a = unitM P.length i ∨ turnedM P a i ∈ U
  unt : ∀ i, i < P.length → unitM P.length i ∈ U
  dec : ∀ a ∈ U, (∃ i, i < P.length ∧ a = unitM P.length i) ∨ ∃ i, i < P.length ∧ ∃ b ∈ U, a = plusM (unitM P.length i) b
  dbl : ∀ a ∈ U, plusM a a ∉ U
  fst : List.replicate P.length 1 ∈ Rm
  rl : ∀ r ∈ Rm, r.length = P.length
  rc : ∀ r ∈ Rm, ∀ i, i < P.length → changedM P r i ∈ Rm
  r100 : Rm.length ≤ 100
  rn : (Rm.map (lotOf ups)).Nodup
  rh : Rm.head? = some (List.replicate P.length 1)
theorem nodup_of {α : Type} [DecidableEq α] : ∀ {l : List α}, nodupB l = true → l.Nodup
  | [], _ => List.nodup_nil
  | x :: xs, h => by
    unfold nodupB at h
    rw [Bool.and_eq_true] at h
    exact List.nodup_cons.mpr ⟨by simpa using h.1, nodup_of h.2⟩
theorem good_of {P U ups Rm : List (List Int)} (h : goodA P U ups Rm = true) : GoodH P U ups Rm := by
  unfold goodA at h
  simp only [Bool.and_eq_true, List.all_eq_true, decide_eq_true_eq, List.mem_range, Bool.or_eq_true, List.any_eq_true, Bool.not_eq_true', decide_eq_false_iff_not] at h
  obtain ⟨⟨⟨⟨⟨⟨⟨⟨⟨⟨⟨⟨⟨⟨⟨⟨⟨⟨⟨⟨h1, h2⟩, h3⟩, h4⟩, h5⟩, h6⟩, h7⟩, h8⟩, h9⟩, h10⟩, h11⟩, h12⟩, h13⟩, h14⟩, h15⟩, h16⟩, h17⟩, h18⟩, h19⟩, h20⟩, h21⟩ := h
  exact ⟨h1, h2, h3, nodup_of h4, h5, h6, nodup_of h7, h8, h9, h10, h11, h12, h13, h14, h15, h16, h17, fun r hr => (h18 r hr).1, fun r hr => (h18 r hr).2, h19, nodup_of h20, h21⟩

/-! ### vectors of at most three numbers -/
theorem len1 {l : List Int} (h : l.length = 1) : ∃ x, l = [x] := by
  match l, h with
  | [x], _ => exact ⟨x, rfl⟩
theorem len2 {l : List Int} (h : l.length = 2) : ∃ x y, l = [x, y] := by
  match l, h with
  | [x, y], _ => exact ⟨x, y, rfl⟩
theorem len3 {l : List Int} (h : l.length = 3) : ∃ x y z, l = [x, y, z] := by
  match l, h with
  | [x, y, z], _ => exact ⟨x, y, z, rfl⟩
section
variable {P : List (List Int)} {a b ns : List Int} {i : Nat}
theorem lby1 (x y : Int) : lbyM [x] [y] = x * y := by simp [lbyM, List.range, List.range.loop]
theorem lby2 (x1 x2 y1 y2 : Int) : lbyM [x1, x2] [y1, y2] = x1 * y1 + x2 * y2 := by simp [lbyM, List.range, List.range.loop]
theorem lby3 (x1 x2 x3 y1 y2 y3 : Int) : lbyM [x1, x2, x3] [y1, y2, y3] = x1 * y1 + x2 * y2 + x3 * y3 := by simp [lbyM, List.range, List.range.loop]; omega
/-- the sum by a turned arrow is the sum of the changed numbers -/
theorem by_turned (ok : hallOk P = true) (m3 : P.length ≤ 3) (hi : i < P.length) (ha : a.length = P.length) (hn : ns.length = P.length) : lbyM a (changedM P ns i) = lbyM (turnedM P a i) ns := by
  have h1 := (hallOk_len ok).1
  have hr := (hallOk_row ok hi).2.1
  have hd := hallOk_diag ok hi
  unfold changedM turnedM dot
  generalize rowAt P i = row at hr hd
  generalize P.length = m at *
  have : m = 1 ∨ m = 2 ∨ m = 3 := by omega
  rcases this with rfl | rfl | rfl
  · obtain ⟨x, rfl⟩ := len1 ha
    obtain ⟨y, rfl⟩ := len1 hn
    obtain ⟨p, rfl⟩ := len1 hr
    have : i = 0 := by omega
    subst this
    simp at hd
    subst hd
    simp [lby1]; grind
  · obtain ⟨x1, x2, rfl⟩ := len2 ha
    obtain ⟨y1, y2, rfl⟩ := len2 hn
    obtain ⟨p1, p2, rfl⟩ := len2 hr
    have : i = 0 ∨ i = 1 := by omega
    rcases this with rfl | rfl <;> simp at hd <;> subst hd <;> simp [lby2] <;> grind
  · obtain ⟨x1, x2, x3, rfl⟩ := len3 ha
    obtain ⟨y1, y2, y3, rfl⟩ := len3 hn
    obtain ⟨p1, p2, p3, rfl⟩ := len3 hr
    have : i = 0 ∨ i = 1 ∨ i = 2 := by omega
    rcases this with rfl | rfl | rfl <;> simp at hd <;> subst hd <;> simp [lby3] <;> grind
theorem by_plus (m3 : a.length ≤ 3) (h1 : 1 ≤ a.length) (hb : b.length = a.length) (hn : ns.length = a.length) : lbyM (plusM a b) ns = lbyM a ns + lbyM b ns := by
  unfold plusM
  have : a.length = 1 ∨ a.length = 2 ∨ a.length = 3 := by omega
  rcases this with e | e | e <;> rw [e] at hb hn
  · obtain ⟨x, rfl⟩ := len1 e
    obtain ⟨y, rfl⟩ := len1 hn
    obtain ⟨p, rfl⟩ := len1 hb
    simp [lby1]; grind
  · obtain ⟨x1, x2, rfl⟩ := len2 e
    obtain ⟨y1, y2, rfl⟩ := len2 hn
    obtain ⟨p1, p2, rfl⟩ := len2 hb
    simp [lby2]; grind
  · obtain ⟨x1, x2, x3, rfl⟩ := len3 e
    obtain ⟨y1, y2, y3, rfl⟩ := len3 hn
    obtain ⟨p1, p2, p3, rfl⟩ := len3 hb
    simp [lby3]; grind
theorem turned_plus (ok : hallOk P = true) (m3 : P.length ≤ 3) (hi : i < P.length) (ha : a.length = P.length) (hb : b.length = P.length) : turnedM P (plusM a b) i = plusM (turnedM P a i) (turnedM P b i) := by
  have h1 := (hallOk_len ok).1
  have hr := (hallOk_row ok hi).2.1
  unfold turnedM dot plusM
  generalize rowAt P i = row at hr
  generalize P.length = m at *
  have : m = 1 ∨ m = 2 ∨ m = 3 := by omega
  rcases this with rfl | rfl | rfl
  · obtain ⟨x, rfl⟩ := len1 ha
    obtain ⟨y, rfl⟩ := len1 hb
    obtain ⟨p, rfl⟩ := len1 hr
    have : i = 0 := by omega
    subst this
    simp; grind
  · obtain ⟨x1, x2, rfl⟩ := len2 ha
    obtain ⟨y1, y2, rfl⟩ := len2 hb
    obtain ⟨p1, p2, rfl⟩ := len2 hr
    have : i = 0 ∨ i = 1 := by omega
    rcases this with rfl | rfl <;> simp <;> grind
  · obtain ⟨x1, x2, x3, rfl⟩ := len3 ha
    obtain ⟨y1, y2, y3, rfl⟩ := len3 hb
    obtain ⟨p1, p2, p3, rfl⟩ := len3 hr
    have : i = 0 ∨ i = 1 ∨ i = 2 := by omega
    rcases this with rfl | rfl | rfl <;> simp <;> grind
theorem turned_twice (ok : hallOk P = true) (m3 : P.length ≤ 3) (hi : i < P.length) (ha : a.length = P.length) : turnedM P (turnedM P a i) i = a := by
  have h1 := (hallOk_len ok).1
  have hr := (hallOk_row ok hi).2.1
  have hd := hallOk_diag ok hi
  unfold turnedM dot
  generalize rowAt P i = row at hr hd
  generalize P.length = m at *
  have : m = 1 ∨ m = 2 ∨ m = 3 := by omega
  rcases this with rfl | rfl | rfl
  · obtain ⟨x, rfl⟩ := len1 ha
    obtain ⟨p, rfl⟩ := len1 hr
    have : i = 0 := by omega
    subst this
    simp at hd
    subst hd
    simp
  · obtain ⟨x1, x2, rfl⟩ := len2 ha
    obtain ⟨p1, p2, rfl⟩ := len2 hr
    have : i = 0 ∨ i = 1 := by omega
    rcases this with rfl | rfl <;> simp at hd <;> subst hd <;> simp <;> omega
  · obtain ⟨x1, x2, x3, rfl⟩ := len3 ha
    obtain ⟨p1, p2, p3, rfl⟩ := len3 hr
    have : i = 0 ∨ i = 1 ∨ i = 2 := by omega
    rcases this with rfl | rfl | rfl <;> simp at hd <;> subst hd <;> simp <;> omega
/-- a unit turned by its lamp: the sum turns its sign; it is no arrow that points up -/
theorem turned_unit (ok : hallOk P = true) (m3 : P.length ≤ 3) (hi : i < P.length) (hn : ns.length = P.length) : lbyM (turnedM P (unitM P.length i) i) ns = -lbyM (unitM P.length i) ns ∧ (turnedM P (unitM P.length i) i).sum = -1 := by
  have h1 := (hallOk_len ok).1
  have hr := (hallOk_row ok hi).2.1
  have hd := hallOk_diag ok hi
  unfold turnedM dot
  generalize rowAt P i = row at hr hd
  generalize P.length = m at *
  have : m = 1 ∨ m = 2 ∨ m = 3 := by omega
  rcases this with rfl | rfl | rfl
  · obtain ⟨y, rfl⟩ := len1 hn
    obtain ⟨p, rfl⟩ := len1 hr
    have : i = 0 := by omega
    subst this
    simp at hd
    subst hd
    simp [unitM, List.range, List.range.loop, b2n, lby1]
  · obtain ⟨y1, y2, rfl⟩ := len2 hn
    obtain ⟨p1, p2, rfl⟩ := len2 hr
    have : i = 0 ∨ i = 1 := by omega
    rcases this with rfl | rfl <;> simp at hd <;> subst hd <;> simp [unitM, List.range, List.range.loop, b2n, lby2]
  · obtain ⟨y1, y2, y3, rfl⟩ := len3 hn
    obtain ⟨p1, p2, p3, rfl⟩ := len3 hr
    have : i = 0 ∨ i = 1 ∨ i = 2 := by omega
    rcases this with rfl | rfl | rfl <;> simp at hd <;> subst hd <;> simp [unitM, List.range, List.range.loop, b2n, lby3]
theorem plus_comm : plusM a b = plusM b a := by
  unfold plusM
  induction a generalizing b with
  | nil => cases b <;> rfl
  | cons x a ih =>
    cases b with
    | nil => rfl
    | cons y b =>
      simp only [List.zip_cons_cons, List.map_cons]
      rw [ih, Int.add_comm]
theorem plus_sum : ∀ {a b : List Int}, b.length = a.length → (plusM a b).sum = a.sum + b.sum
  | [], [], _ => rfl
  | x :: a, y :: b, h => by
    have ih := plus_sum (a := a) (b := b) (by simpa using h)
    unfold plusM at *
    simp only [List.zip_cons_cons, List.map_cons, List.sum_cons]
    rw [ih]
    omega
theorem unit_sum (h : i < 3) (n : Nat) (hn : n ≤ 3) (hi : i < n) : (unitM n i).sum = 1 := by
  have : n = 1 ∨ n = 2 ∨ n = 3 := by omega
  rcases this with rfl | rfl | rfl
  · have : i = 0 := by omega
    subst this; rfl
  · have : i = 0 ∨ i = 1 := by omega
    rcases this with rfl | rfl <;> rfl
  · have : i = 0 ∨ i = 1 ∨ i = 2 := by omega
    rcases this with rfl | rfl | rfl <;> rfl
theorem by_first : ∀ (a : List Int), lbyM a (List.replicate a.length 1) = a.sum := by
  intro a
  unfold lbyM
  have e : ((List.range a.length).map fun l => a.getD l 0 * (List.replicate a.length (1 : Int)).getD l 0) = a := by
    refine List.ext_getElem (by simp) fun j h1 h2 => ?_
    simp at h1
    simp [h1]
  rw [e]
theorem plus_len (h : b.length = a.length) : (plusM a b).length = a.length := by unfold plusM; rw [List.length_map, List.length_zip]; omega
end
end K33

set_option maxHeartbeats 400000
/-! K33zo: room_of answers just for lots without reasons. -/
namespace K33
open PySem PySem.Spec PyProof.Rows L2
/-- room_of, without its word -/
def resM (P : List (List Int)) : Nat → List (List Int) → Option (Option (List Int))
  | 0, _ => none
  | n + 1, left => if left = [] then some (some (List.replicate P.length 1)) else
    match firstLamp P left with
    | [] => some none
    | i :: _ => (resM P n ((left.filter fun a => !decide (a = unitM P.length i)).map fun a => turnedM P a i)).map (Option.map fun r => changedM P r i)
theorem room_res (P : List (List Int)) : ∀ n left word, roomM P n left word = (resM P n left).map (Option.map fun r => word.reverse.foldl (changedM P) r)
  | 0, _, _ => rfl
  | n + 1, left, word => by
    unfold roomM resM
    by_cases h : left = []
    · rw [if_pos h, if_pos h]; rfl
    · rw [if_neg h, if_neg h]
      cases hf : firstLamp P left with
      | nil => rfl
      | cons i rest =>
        simp only
        rw [room_res P n]
        cases resM P n ((left.filter fun a => !decide (a = unitM P.length i)).map fun a => turnedM P a i) with
        | none => rfl
        | some o =>
          cases o with
          | none => rfl
          | some r =>
            simp only [Option.map_some, List.reverse_append, List.reverse_cons, List.reverse_nil, List.nil_append, List.cons_append, List.foldl_cons]
/-- no reason is against a lot -/
def NoR (U S : List (List Int)) : Prop := ∀ a ∈ U, ∀ b ∈ U, plusM a b ∈ U → isReasonM (inL S) a b (plusM a b) = false
theorem reason_iff {S : List (List Int)} {a b s : List Int} : isReasonM (inL S) a b s = false ↔ (s ∈ S → a ∈ S ∨ b ∈ S) ∧ (s ∉ S → ¬ (a ∈ S ∧ b ∈ S)) := by
  unfold isReasonM inL
  by_cases hs : s ∈ S <;> by_cases ha : a ∈ S <;> by_cases hb : b ∈ S <;> simp [hs, ha, hb]
section
variable {P U ups Rm S : List (List Int)}
theorem GoodH.m1 (G : GoodH P U ups Rm) : 1 ≤ P.length := (hallOk_len G.ok).1
theorem GoodH.ul' (G : GoodH P U ups Rm) {i : Nat} (hi : i < P.length) : (unitM P.length i).length = P.length := unitM_len _ _
theorem GoodH.neg (G : GoodH P U ups Rm) {i : Nat} (hi : i < P.length) : turnedM P (unitM P.length i) i ∉ U := fun h => by
  have h1 := (G.small _ h).2
  have h2 := (turned_unit G.ok G.m3 hi (ns := unitM P.length i) (unitM_len _ _)).2
  omega
/-- turned, an arrow that is not the unit is one that is not the unit -/
theorem GoodH.turn (G : GoodH P U ups Rm) {i : Nat} (hi : i < P.length) {a : List Int} (ha : a ∈ U) (hu : a ≠ unitM P.length i) : turnedM P a i ∈ U ∧ turnedM P a i ≠ unitM P.length i := by
  refine ⟨(G.trn a ha i hi).resolve_left hu, fun z => ?_⟩
  have h := turned_twice G.ok G.m3 hi (G.lU a ha)
  rw [z] at h
  exact G.neg hi (h ▸ ha)
def stepM (P : List (List Int)) (i : Nat) (S : List (List Int)) : List (List Int) := (S.filter fun a => !decide (a = unitM P.length i)).map fun a => turnedM P a i
theorem GoodH.step_mem (G : GoodH P U ups Rm) {i : Nat} (hi : i < P.length) (hS : ∀ a ∈ S, a ∈ U) {a : List Int} (ha : a ∈ U) : a ∈ stepM P i S ↔ a ≠ unitM P.length i ∧ turnedM P a i ∈ S := by
  unfold stepM
  constructor
  · intro h
    obtain ⟨b, hb, rfl⟩ := List.mem_map.mp h
    obtain ⟨hb1, hb2⟩ := List.mem_filter.mp hb
    have hb2 : b ≠ unitM P.length i := by simpa using hb2
    refine ⟨(G.turn hi (hS b hb1) hb2).2, ?_⟩
    rw [turned_twice G.ok G.m3 hi (G.lU b (hS b hb1))]
    exact hb1
  · rintro ⟨h1, h2⟩
    refine List.mem_map.mpr ⟨turnedM P a i, List.mem_filter.mpr ⟨h2, ?_⟩, turned_twice G.ok G.m3 hi (G.lU a ha)⟩
    have := (G.turn hi ha h1).2
    simp [this]
theorem GoodH.step_sub (G : GoodH P U ups Rm) {i : Nat} (hi : i < P.length) (hS : ∀ a ∈ S, a ∈ U) : ∀ a ∈ stepM P i S, a ∈ U := fun a h => by
  obtain ⟨b, hb, rfl⟩ := List.mem_map.mp h
  obtain ⟨hb1, hb2⟩ := List.mem_filter.mp hb
  exact (G.turn hi (hS b hb1) (by simpa using hb2)).1
theorem step_len {i : Nat} (h : unitM P.length i ∈ S) : (stepM P i S).length < S.length := by
  unfold stepM
  rw [List.length_map]
  exact List.length_filter_lt_length_iff_exists.mpr ⟨_, h, by simp⟩
theorem first_lamp {i : Nat} {rest : List Nat} (h : firstLamp P S = i :: rest) : i < P.length ∧ unitM P.length i ∈ S := by
  have hm : i ∈ firstLamp P S := by rw [h]; exact List.mem_cons_self
  obtain ⟨h1, h2⟩ := List.mem_filter.mp hm
  exact ⟨List.mem_range.mp h1, of_decide_eq_true h2⟩
/-- the answer's lot -/
structure Parts (U Rm S : List (List Int)) (r : List Int) : Prop where
  rm : r ∈ Rm
  iff : ∀ a ∈ U, a ∈ S ↔ lbyM a r < 0
  ne : ∀ a ∈ U, lbyM a r ≠ 0
theorem res_parts (G : GoodH P U ups Rm) : ∀ n S r, (∀ a ∈ S, a ∈ U) → resM P n S = some (some r) → Parts U Rm S r
  | 0, _, _, _, h => by cases h
  | n + 1, S, r, hS, h => by
    unfold resM at h
    by_cases he : S = []
    · rw [if_pos he] at h
      cases h
      subst he
      have hp : ∀ a ∈ U, 1 ≤ lbyM a (List.replicate P.length 1) := fun a ha => by
        have h1 := by_first a
        rw [G.lU a ha] at h1
        rw [h1]
        exact (G.small a ha).2
      exact ⟨G.fst, fun a ha => by have := hp a ha; simp; omega, fun a ha => by have := hp a ha; omega⟩
    · rw [if_neg he] at h
      cases hf : firstLamp P S with
      | nil => rw [hf] at h; cases h
      | cons i rest =>
        rw [hf] at h
        obtain ⟨hi, hu⟩ := first_lamp hf
        have h : (resM P n (stepM P i S)).map (Option.map fun r => changedM P r i) = some (some r) := h
        cases hr : resM P n (stepM P i S) with
        | none => rw [hr] at h; cases h
        | some o =>
          cases o with
          | none => rw [hr] at h; cases h
          | some r' =>
            rw [hr] at h
            cases h
            have ih := res_parts G n (stepM P i S) r' (G.step_sub hi hS) hr
            have rl := G.rl r' ih.rm
            have uU := G.unt i hi
            have key : ∀ a ∈ U, (a ∈ S ↔ lbyM a (changedM P r' i) < 0) ∧ lbyM a (changedM P r' i) ≠ 0 := fun a ha => by
              rw [by_turned G.ok G.m3 hi (G.lU a ha) rl]
              by_cases hau : a = unitM P.length i
              · subst hau
                rw [(turned_unit G.ok G.m3 hi rl).1]
                have n1 := ih.ne _ uU
                have n2 : ¬ lbyM (unitM P.length i) r' < 0 := fun z => ((G.step_mem hi hS uU).mp ((ih.iff _ uU).mpr z)).1 rfl
                exact ⟨⟨fun _ => by omega, fun _ => hu⟩, by omega⟩
              · obtain ⟨t1, t2⟩ := G.turn hi ha hau
                refine ⟨?_, ih.ne _ t1⟩
                rw [← ih.iff _ t1, G.step_mem hi hS t1, turned_twice G.ok G.m3 hi (G.lU a ha)]
                exact ⟨fun z => ⟨t2, z⟩, fun z => z.2⟩
            exact ⟨G.rc r' ih.rm i hi, fun a ha => (key a ha).1, fun a ha => (key a ha).2⟩
/-- a room's lot has no reason against it -/
theorem parts_noR (G : GoodH P U ups Rm) {r : List Int} (hr : r ∈ Rm) (h : ∀ a ∈ U, a ∈ S ↔ lbyM a r < 0) : NoR U S := fun a ha b hb hs => by
  rw [reason_iff, h _ hs, h _ ha, h _ hb]
  have e := by_plus (a := a) (b := b) (ns := r) (by rw [G.lU a ha]; exact G.m3) (by rw [G.lU a ha]; exact G.m1) (by rw [G.lU a ha, G.lU b hb]) (by rw [G.lU a ha, G.rl r hr])
  omega
/-- a lot without reasons holds a unit -/
theorem noR_unit (G : GoodH P U ups Rm) (hN : NoR U S) (hS : ∀ a ∈ S, a ∈ U) : ∀ n (a : List Int), a ∈ S → a.sum.toNat ≤ n → ∃ i, i < P.length ∧ unitM P.length i ∈ S
  | 0, a, ha, hn => by have := (G.small a (hS a ha)).2; omega
  | n + 1, a, ha, hn => by
    rcases G.dec a (hS a ha) with ⟨i, hi, rfl⟩ | ⟨i, hi, b, hb, rfl⟩
    · exact ⟨i, hi, ha⟩
    · have hU := hS _ ha
      have h := hN (unitM P.length i) (G.unt i hi) b hb hU
      rw [reason_iff] at h
      rcases h.1 ha with h1 | h1
      · exact ⟨i, hi, h1⟩
      · have s1 := plus_sum (a := unitM P.length i) (b := b) (by rw [unitM_len, G.lU b hb])
        have s2 := unit_sum (i := i) (by have := G.m3; omega) P.length G.m3 hi
        have s3 := (G.small b hb).2
        exact noR_unit G hN hS n b h1 (by omega)
theorem plus_turn_ne (G : GoodH P U ups Rm) {i : Nat} (hi : i < P.length) {a b : List Int} (ha : a ∈ U) (hb : b ∈ U) : plusM a b ≠ unitM P.length i := fun z => by
  have s1 := plus_sum (a := a) (b := b) (by rw [G.lU a ha, G.lU b hb])
  have s2 := unit_sum (i := i) (by have := G.m3; omega) P.length G.m3 hi
  have := (G.small a ha).2
  have := (G.small b hb).2
  rw [z, s2] at s1
  omega
/-- what is left, turned by its unit, has no reason against it -/
theorem noR_step (G : GoodH P U ups Rm) (hN : NoR U S) (hS : ∀ a ∈ S, a ∈ U) {i : Nat} (hi : i < P.length) (hu : unitM P.length i ∈ S) : NoR U (stepM P i S) := fun a ha b hb hs => by
  rw [reason_iff]
  have uU := G.unt i hi
  have sne : plusM a b ≠ unitM P.length i := plus_turn_ne G hi ha hb
  have tp := turned_plus G.ok G.m3 hi (G.lU a ha) (G.lU b hb)
  obtain ⟨ts1, ts2⟩ := G.turn hi hs sne
  -- the case of one arrow that is the unit
  have one : ∀ x y, x ∈ U → y ∈ U → plusM x y ∈ U → x = unitM P.length i → plusM x y ∈ stepM P i S → y ∈ stepM P i S := fun x y hx hy hxy ex hm => by
    subst ex
    have hm2 := ((G.step_mem hi hS hxy).mp hm).2
    have yne : y ≠ unitM P.length i := fun z => by
      subst z
      exact G.dbl _ hx hxy
    refine (G.step_mem hi hS hy).mpr ⟨yne, ?_⟩
    obtain ⟨t1, t2⟩ := G.turn hi hy yne
    -- turned y = turned (x + y) + unit
    have e : plusM (turnedM P (plusM (unitM P.length i) y) i) (unitM P.length i) = turnedM P y i := by
      have e1 := turned_plus G.ok G.m3 hi (a := turnedM P (plusM (unitM P.length i) y) i) (b := turnedM P (unitM P.length i) i) (by rw [turnedM_len (by rw [G.lU _ hxy]; exact hi)]; exact G.lU _ hxy) (by rw [turnedM_len (by rw [unitM_len]; exact hi)]; exact unitM_len _ _)
      have m3 := G.m3
      have m1 := G.m1
      have hl := G.lU y hy
      have hr := (hallOk_row G.ok hi).2.1
      have hd := hallOk_diag G.ok hi
      unfold turnedM dot plusM
      generalize rowAt P i = row at hr hd
      clear tp ts1 ts2 e1 hm hm2 hxy hx t1 t2 yne hu uU sne hs ha hb hN hS G
      generalize P.length = m at *
      have : m = 1 ∨ m = 2 ∨ m = 3 := by omega
      rcases this with rfl | rfl | rfl
      · obtain ⟨x, rfl⟩ := len1 hl
        obtain ⟨p, rfl⟩ := len1 hr
        have : i = 0 := by omega
        subst this
        simp at hd
        subst hd
        simp [unitM, List.range, List.range.loop, b2n]
        omega
      · obtain ⟨x1, x2, rfl⟩ := len2 hl
        obtain ⟨p1, p2, rfl⟩ := len2 hr
        have : i = 0 ∨ i = 1 := by omega
        rcases this with rfl | rfl <;> simp at hd <;> subst hd <;> simp [unitM, List.range, List.range.loop, b2n] <;> grind
      · obtain ⟨x1, x2, x3, rfl⟩ := len3 hl
        obtain ⟨p1, p2, p3, rfl⟩ := len3 hr
        have : i = 0 ∨ i = 1 ∨ i = 2 := by omega
        rcases this with rfl | rfl | rfl <;> simp at hd <;> subst hd <;> simp [unitM, List.range, List.range.loop, b2n] <;> grind
    have hxt := G.turn hi hxy (plus_turn_ne G hi hx hy)
    have hh := hN _ hxt.1 _ hx (e.symm ▸ t1)
    rw [reason_iff, e] at hh
    exact Classical.byContradiction fun z => hh.2 z ⟨hm2, hu⟩
  constructor
  · intro hm
    by_cases ea : a = unitM P.length i
    · exact .inr (one a b ha hb hs ea hm)
    by_cases eb : b = unitM P.length i
    · exact .inl (one b a hb ha (plus_comm ▸ hs) eb (plus_comm ▸ hm))
    obtain ⟨a1, a2⟩ := G.turn hi ha ea
    obtain ⟨b1, b2⟩ := G.turn hi hb eb
    have hm2 := ((G.step_mem hi hS hs).mp hm).2
    rw [tp] at hm2 ts1
    have hh := hN _ a1 _ b1 ts1
    rw [reason_iff] at hh
    rcases hh.1 hm2 with z | z
    · exact .inl ((G.step_mem hi hS ha).mpr ⟨ea, z⟩)
    · exact .inr ((G.step_mem hi hS hb).mpr ⟨eb, z⟩)
  · rintro hm ⟨za, zb⟩
    obtain ⟨ea, za⟩ := (G.step_mem hi hS ha).mp za
    obtain ⟨eb, zb⟩ := (G.step_mem hi hS hb).mp zb
    obtain ⟨a1, a2⟩ := G.turn hi ha ea
    obtain ⟨b1, b2⟩ := G.turn hi hb eb
    refine hm ((G.step_mem hi hS hs).mpr ⟨sne, ?_⟩)
    rw [tp] at ts1 ⊢
    have hh := hN _ a1 _ b1 ts1
    rw [reason_iff] at hh
    exact Classical.byContradiction fun z => hh.2 z ⟨za, zb⟩
theorem res_some : ∀ n S, S.length < n → ∃ o, resM P n S = some o
  | 0, _, h => by omega
  | n + 1, S, h => by
    unfold resM
    by_cases he : S = []
    · exact ⟨_, if_pos he⟩
    · rw [if_neg he]
      cases hf : firstLamp P S with
      | nil => exact ⟨_, rfl⟩
      | cons i rest =>
        obtain ⟨hi, hu⟩ := first_lamp hf
        obtain ⟨o, ho⟩ := res_some n (stepM P i S) (by have := step_len hu; omega)
        have ho : resM P n ((S.filter fun a => !decide (a = unitM P.length i)).map fun a => turnedM P a i) = some o := ho
        simp only
        rw [ho]
        exact ⟨_, rfl⟩
theorem res_noR (G : GoodH P U ups Rm) : ∀ n S, S.length < n → (∀ a ∈ S, a ∈ U) → NoR U S → ∃ r, resM P n S = some (some r)
  | 0, _, h, _, _ => by omega
  | n + 1, S, h, hS, hN => by
    unfold resM
    by_cases he : S = []
    · exact ⟨_, if_pos he⟩
    · rw [if_neg he]
      obtain ⟨x, hx⟩ := List.exists_mem_of_ne_nil S he
      obtain ⟨i0, hi0, hu0⟩ := noR_unit G hN hS _ x hx (Nat.le_refl _)
      cases hf : firstLamp P S with
      | nil =>
        have : i0 ∈ firstLamp P S := List.mem_filter.mpr ⟨List.mem_range.mpr hi0, decide_eq_true hu0⟩
        rw [hf] at this
        cases this
      | cons i rest =>
        obtain ⟨hi, hu⟩ := first_lamp hf
        obtain ⟨r, hr⟩ := res_noR G n (stepM P i S) (by have := step_len hu; omega) (G.step_sub hi hS) (noR_step G hN hS hi hu)
        have hr : resM P n ((S.filter fun a => !decide (a = unitM P.length i)).map fun a => turnedM P a i) = some (some r) := hr
        simp only
        rw [hr]
        exact ⟨_, rfl⟩
end
end K33

set_option maxHeartbeats 400000
/-! K33zp: what the law asks of a lot. -/
namespace K33
open PySem PySem.Spec PyProof.Rows L2
def someOf (ups S : List (List Int)) : List (List Int) := ups.filter fun a => decide (a ∈ S)
theorem lplus_eq : ∀ {a b : List Int}, b.length = a.length → lplusM a b = plusM a b := fun {a b} h => by
  unfold lplusM plusM
  refine List.ext_getElem (by simp [h]) fun j h1 h2 => ?_
  simp at h1
  simp [h1, h]
theorem lookN_none {kn : Kn} {k : List (List Int)} (h : k ∉ kn.map (·.1)) : lookN kn k = none := by
  unfold lookN
  rw [List.find?_eq_none.mpr fun p hp => by
    have : p.1 ≠ k := fun z => h (List.mem_map.mpr ⟨p, hp, z⟩)
    simp [this]]
  rfl
theorem lookN_mem : ∀ {kn : Kn} {p : List (List Int) × List Int}, p ∈ kn → (kn.map (·.1)).Nodup → lookN kn p.1 = some p.2
  | q :: kn, p, hp, hn => by
    rw [List.map_cons, List.nodup_cons] at hn
    unfold lookN
    rw [List.find?_cons]
    rcases List.mem_cons.mp hp with rfl | hp
    · simp
    · have : q.1 ≠ p.1 := fun z => hn.1 (z ▸ List.mem_map_of_mem hp)
      simp only [this, decide_false]
      exact lookN_mem hp hn.2
section
variable {P U ups Rm S : List (List Int)}
theorem kn_keys_eq : (knOf ups Rm).map (·.1) = Rm.map (lotOf ups) := by unfold knOf; rw [List.map_map]; rfl
theorem lot_look (G : GoodH P U ups Rm) {r : List Int} (hr : r ∈ Rm) : lookN (knOf ups Rm) (lotOf ups r) = some r :=
  lookN_mem (p := (lotOf ups r, r)) (List.mem_map.mpr ⟨r, hr, rfl⟩) (by rw [kn_keys_eq]; exact G.rn)
theorem some_lot (G : GoodH P U ups Rm) {r : List Int} (h : ∀ a ∈ U, a ∈ S ↔ lbyM a r < 0) : someOf ups S = lotOf ups r := by
  unfold someOf lotOf
  refine List.filter_congr fun a ha => ?_
  by_cases z : a ∈ S
  · rw [decide_eq_true z, decide_eq_true ((h a (G.sub a ha)).mp z)]
  · rw [decide_eq_false z, decide_eq_false fun y => z ((h a (G.sub a ha)).mpr y)]
theorem lot_parts (G : GoodH P U ups Rm) {r : List Int} (h : someOf ups S = lotOf ups r) : ∀ a ∈ U, a ∈ S ↔ lbyM a r < 0 := fun a ha => by
  have h1 : a ∈ someOf ups S ↔ a ∈ S := ⟨fun z => of_decide_eq_true (List.mem_filter.mp z).2, fun z => List.mem_filter.mpr ⟨G.sup a ha, decide_eq_true z⟩⟩
  have h2 : a ∈ lotOf ups r ↔ lbyM a r < 0 := ⟨fun z => of_decide_eq_true (List.mem_filter.mp z).2, fun z => List.mem_filter.mpr ⟨G.sup a ha, decide_eq_true z⟩⟩
  rw [← h1, ← h2, h]
/-- A: the room -/
theorem law_room (G : GoodH P U ups Rm) (hS : ∀ a ∈ S, a ∈ U) (hl : S.length < 20) : roomM P 20 S [] = some (lookN (knOf ups Rm) (someOf ups S)) := by
  rw [room_res]
  obtain ⟨o, ho⟩ := res_some (P := P) 20 S hl
  rw [ho]
  cases o with
  | some r =>
    have p := res_parts G 20 S r hS ho
    rw [some_lot G p.iff, lot_look G p.rm]
    rfl
  | none =>
    have : someOf ups S ∉ (knOf ups Rm).map (·.1) := fun z => by
      rw [kn_keys_eq] at z
      obtain ⟨r, hr, e⟩ := List.mem_map.mp z
      have q := lot_parts G e.symm
      obtain ⟨r', hr'⟩ := res_noR G 20 S hl hS (parts_noR G hr q)
      rw [ho] at hr'
      cases hr'
    rw [lookN_none this]
    rfl
theorem look_noR (G : GoodH P U ups Rm) (hS : ∀ a ∈ S, a ∈ U) (hl : S.length < 20) : (lookN (knOf ups Rm) (someOf ups S)).isSome = true ↔ NoR U S := by
  have h := law_room G hS hl
  rw [room_res] at h
  constructor
  · intro z
    cases hk : lookN (knOf ups Rm) (someOf ups S) with
    | none => rw [hk] at z; cases z
    | some r0 =>
      have : someOf ups S ∈ (knOf ups Rm).map (·.1) := Classical.byContradiction fun y => by rw [lookN_none y] at hk; cases hk
      rw [kn_keys_eq] at this
      obtain ⟨r, hr, e⟩ := List.mem_map.mp this
      exact parts_noR G hr (lot_parts G e.symm)
  · intro hN
    obtain ⟨r, hr⟩ := res_noR G 20 S hl hS hN
    rw [hr] at h
    have h := Option.some.inj h
    rw [← h]
    rfl
theorem lhit_iff (G : GoodH P U ups Rm) {a b : List Int} (ha : a ∈ U) (hb : b ∈ U) : lhitM ups S a b = true ↔ HT.lexLt a b = true ∧ plusM a b ∈ U ∧ isReasonM (inL S) a b (plusM a b) = true := by
  unfold lhitM insM
  rw [lplus_eq (by rw [G.lU a ha, G.lU b hb])]
  have hu : inL ups (plusM a b) = decide (plusM a b ∈ U) := by
    unfold inL
    by_cases z : plusM a b ∈ U
    · rw [decide_eq_true z, decide_eq_true (G.sup _ z)]
    · rw [decide_eq_false z, decide_eq_false fun y => z (G.sub _ y)]
  rw [hu]
  unfold isReasonM
  cases h1 : inL S a <;> cases h2 : inL S b <;> cases h3 : inL S (plusM a b) <;> simp [b2n, and_assoc]
theorem mem_reas (G : GoodH P U ups Rm) {a b s : List Int} : (a, b, s) ∈ lreasM ups S ↔ a ∈ U ∧ b ∈ U ∧ HT.lexLt a b = true ∧ plusM a b ∈ U ∧ isReasonM (inL S) a b (plusM a b) = true ∧ s = plusM a b := by
  unfold lreasM
  rw [(sortG_perm _ _).mem_iff, List.mem_flatten]
  constructor
  · rintro ⟨l, hl, hm⟩
    obtain ⟨x, hx, rfl⟩ := List.mem_map.mp hl
    obtain ⟨y, hy, e⟩ := List.mem_map.mp hm
    obtain ⟨y1, y2⟩ := List.mem_filter.mp hy
    injection e with e1 e2
    injection e2 with e2 e3
    subst e1 e2
    have hx := G.sub _ hx
    have hy := G.sub _ y1
    obtain ⟨z1, z2, z3⟩ := (lhit_iff G hx hy).mp y2
    exact ⟨hx, hy, z1, z2, z3, by rw [← e3, lplus_eq (by rw [G.lU _ hx, G.lU _ hy])]⟩
  · rintro ⟨ha, hb, h1, h2, h3, rfl⟩
    refine ⟨_, List.mem_map.mpr ⟨a, G.sup _ ha, rfl⟩, List.mem_map.mpr ⟨b, List.mem_filter.mpr ⟨G.sup _ hb, (lhit_iff G ha hb).mpr ⟨h1, h2, h3⟩⟩, ?_⟩⟩
    rw [lplus_eq (by rw [G.lU _ ha, G.lU _ hb])]
theorem reason_sym {m : List Int → Bool} {a b s : List Int} : isReasonM m a b s = isReasonM m b a s := by
  unfold isReasonM
  cases m a <;> cases m b <;> rfl
theorem lex_cases (a b : List Int) : a = b ∨ HT.lexLt a b = true ∨ HT.lexLt b a = true := by
  cases h1 : HT.lexLt a b with
  | true => exact .inr (.inl rfl)
  | false =>
    cases h2 : HT.lexLt b a with
    | true => exact .inr (.inr rfl)
    | false => exact .inl (ltg_ints.eq a b h1 h2)
theorem reas_nil (G : GoodH P U ups Rm) : lreasM ups S = [] ↔ NoR U S := by
  constructor
  · intro h a ha b hb hs
    cases hr : isReasonM (inL S) a b (plusM a b) with
    | false => rfl
    | true =>
      exfalso
      rcases lex_cases a b with rfl | hl | hl
      · exact G.dbl a ha hs
      · have : (a, b, plusM a b) ∈ lreasM ups S := (mem_reas G).mpr ⟨ha, hb, hl, hs, hr, rfl⟩
        rw [h] at this
        cases this
      · have : (b, a, plusM b a) ∈ lreasM ups S := (mem_reas G).mpr ⟨hb, ha, hl, plus_comm ▸ hs, by rw [plus_comm, reason_sym]; exact hr, rfl⟩
        rw [h] at this
        cases this
  · intro hN
    cases h : lreasM ups S with
    | nil => rfl
    | cons t l =>
      obtain ⟨a, b, s⟩ := t
      have : (a, b, s) ∈ lreasM ups S := by rw [h]; exact List.mem_cons_self
      obtain ⟨ha, hb, _, hs, hr, _⟩ := (mem_reas G).mp this
      rw [hN a ha b hb hs] at hr
      cases hr
/-- B: known just if there is no reason -/
theorem law_known (G : GoodH P U ups Rm) (hS : ∀ a ∈ S, a ∈ U) (hl : S.length < 20) : (lookN (knOf ups Rm) (someOf ups S)).isSome = decide (lreasM ups S = []) := by
  have h := (look_noR G hS hl).trans (reas_nil G).symm
  by_cases z : lreasM ups S = []
  · rw [decide_eq_true z]; exact h.mpr z
  · rw [decide_eq_false z]
    cases q : (lookN (knOf ups Rm) (someOf ups S)).isSome with
    | false => rfl
    | true => exact absurd (h.mp q) z
/-- the first pair that why_not meets is the least -/
theorem why_least {all : List (List Int)} {m : List Int → Bool} : ∀ (l : List (List Int)), l.Pairwise (fun x y => HT.lexLt x y = true) →
    (∀ a b, whyM all m l = some (a, b) → a ∈ l ∧ b ∈ l ∧ HT.lexLt a b = true ∧ hitM all m a b = true ∧ ∀ a' ∈ l, ∀ b' ∈ l, HT.lexLt a' b' = true → hitM all m a' b' = true → (a = a' ∧ (b = b' ∨ HT.lexLt b b' = true)) ∨ HT.lexLt a a' = true) ∧
    (whyM all m l = none → ∀ a' ∈ l, ∀ b' ∈ l, HT.lexLt a' b' = true → hitM all m a' b' = false)
  | [], _ => ⟨fun _ _ h => (by cases h), fun _ _ h => (by cases h)⟩
  | x :: l, hp => by
    rw [List.pairwise_cons] at hp
    obtain ⟨ih1, ih2⟩ := why_least (all := all) (m := m) l hp.2
    have later : ∀ b ∈ x :: l, HT.lexLt x b = true → b ∈ l := fun b hb h => by
      rcases List.mem_cons.mp hb with rfl | hb
      · rw [ltg_irr ltg_ints] at h; cases h
      · exact hb
    have notx : ∀ a ∈ l, ∀ b ∈ x :: l, HT.lexLt a b = true → b ∈ l := fun a ha b hb h => by
      rcases List.mem_cons.mp hb with rfl | hb
      · have := ltg_ints.as _ _ (hp.1 a ha)
        rw [h] at this; cases this
      · exact hb
    rw [whyM_cons]
    cases hf : l.find? (hitM all m x) with
    | some o =>
      refine ⟨fun a b h => ?_, fun h => nomatch h⟩
      cases h
      have ho := List.mem_of_find?_eq_some hf
      refine ⟨List.mem_cons_self, List.mem_cons_of_mem _ ho, hp.1 o ho, List.find?_some hf, fun a' ha' b' hb' hl hh => ?_⟩
      rcases List.mem_cons.mp ha' with rfl | ha'
      · refine .inl ⟨rfl, ?_⟩
        have hb'' := later b' hb' hl
        obtain ⟨h1, as, bs, rfl, h3⟩ := List.find?_eq_some_iff_append.mp hf
        rcases List.mem_append.mp hb'' with z | z
        · have := h3 b' z
          rw [hh] at this; cases this
        · rcases List.mem_cons.mp z with rfl | z
          · exact .inl rfl
          · have := (List.pairwise_append.mp hp.2).2.1
            rw [List.pairwise_cons] at this
            exact .inr (this.1 b' z)
      · exact .inr (hp.1 a' ha')
    | none =>
      have hn : ∀ b ∈ l, hitM all m x b = false := fun b hb => by simpa using List.find?_eq_none.mp hf b hb
      refine ⟨fun a b h => ?_, fun h a' ha' b' hb' hl => ?_⟩
      · obtain ⟨z1, z2, z3, z4, z5⟩ := ih1 a b h
        refine ⟨List.mem_cons_of_mem _ z1, List.mem_cons_of_mem _ z2, z3, z4, fun a' ha' b' hb' hl hh => ?_⟩
        rcases List.mem_cons.mp ha' with rfl | ha'
        · rw [hn b' (later b' hb' hl)] at hh; cases hh
        · exact z5 a' ha' b' (notx a' ha' b' hb' hl) hl hh
      · rcases List.mem_cons.mp ha' with rfl | ha'
        · exact hn b' (later b' hb' hl)
        · exact ih2 h a' ha' b' (notx a' ha' b' hb' hl) hl
theorem hit_iff {a b : List Int} : hitM U (inL S) a b = true ↔ plusM a b ∈ U ∧ isReasonM (inL S) a b (plusM a b) = true := by
  unfold hitM
  rw [Bool.and_eq_true, decide_eq_true_eq]
theorem ups_strict {l : List (List Int)} (hs : l.Pairwise (· ≤ ·)) (hn : l.Nodup) : l.Pairwise fun x y => HT.lexLt x y = true :=
  (hs.and hn).imp fun {a b} ⟨h1, h2⟩ => by
    rw [lexLt_dec]
    exact decide_eq_true (Classical.byContradiction fun z => h2 (List.le_antisymm h1 (List.not_lt.mp z)))
/-- C: the least reason -/
theorem law_why (G : GoodH P U ups Rm) (hs : U.Pairwise (· ≤ ·)) : whyD (whyM U (inL S) U) = ((lreasM ups S).map triD ++ [PyData.none]).headD PyData.none := by
  obtain ⟨w1, w2⟩ := why_least (all := U) (m := inL S) U (ups_strict hs G.nU)
  cases h : lreasM ups S with
  | nil =>
    have hN := (reas_nil G).mp h
    cases hw : whyM U (inL S) U with
    | none => rfl
    | some p =>
      obtain ⟨a, b⟩ := p
      obtain ⟨ha, hb, _, hh, _⟩ := w1 a b hw
      obtain ⟨q1, q2⟩ := hit_iff.mp hh
      rw [hN a ha b hb q1] at q2
      cases q2
  | cons t l =>
    obtain ⟨a0, b0, s0⟩ := t
    have hm : (a0, b0, s0) ∈ lreasM ups S := by rw [h]; exact List.mem_cons_self
    obtain ⟨ha0, hb0, hl0, hs0, hr0, rfl⟩ := (mem_reas G).mp hm
    cases hw : whyM U (inL S) U with
    | none =>
      have := w2 hw a0 ha0 b0 hb0 hl0
      rw [hit_iff.mpr ⟨hs0, hr0⟩] at this
      cases this
    | some p =>
      obtain ⟨a, b⟩ := p
      obtain ⟨ha, hb, hl, hh, hmin⟩ := w1 a b hw
      obtain ⟨q1, q2⟩ := hit_iff.mp hh
      have hm2 : (a, b, plusM a b) ∈ lreasM ups S := (mem_reas G).mpr ⟨ha, hb, hl, q1, q2, rfl⟩
      have hsort : (lreasM ups S).Pairwise (fun x y => lexP HT.lexLt (lexP HT.lexLt HT.lexLt) y x = false) := sortG_sorted ltg_tri _
      rw [h] at hm2 hsort
      rw [List.pairwise_cons] at hsort
      have e : a = a0 ∧ b = b0 := by
        rcases List.mem_cons.mp hm2 with z | z
        · injection z with z1 z2
          injection z2 with z2 _
          exact ⟨z1, z2⟩
        · have hle := hsort.1 _ z
          rcases hmin a0 ha0 b0 hb0 hl0 (hit_iff.mpr ⟨hs0, hr0⟩) with ⟨rfl, rfl | y⟩ | y
          · exact ⟨rfl, rfl⟩
          · have hne : b ≠ b0 := fun q => by subst q; rw [ltg_irr ltg_ints] at y; cases y
            unfold lexP at hle
            simp only [if_true] at hle
            rw [if_neg hne, y] at hle
            cases hle
          · have hne : a ≠ a0 := fun q => by subst q; rw [ltg_irr ltg_ints] at y; cases y
            unfold lexP at hle
            simp only at hle
            rw [if_neg hne, y] at hle
            cases hle
      obtain ⟨rfl, rfl⟩ := e
      rfl
/-- D: shows_why -/
theorem law_shows (G : GoodH P U ups Rm) (a b s : List Int) : showsM U (inL S) a b s = decide ((a, b, s) ∈ lreasM ups S ∨ (b, a, s) ∈ lreasM ups S) := by
  have key : showsM U (inL S) a b s = true ↔ ((a, b, s) ∈ lreasM ups S ∨ (b, a, s) ∈ lreasM ups S) := by
    unfold showsM
    simp only [Bool.and_eq_true, decide_eq_true_eq]
    constructor
    · rintro ⟨⟨⟨⟨ha, hb⟩, hs⟩, rfl⟩, hr⟩
      have ha : a ∈ U := of_decide_eq_true ha
      have hb : b ∈ U := of_decide_eq_true hb
      have hs : plusM a b ∈ U := of_decide_eq_true hs
      rcases lex_cases a b with rfl | hl | hl
      · exact absurd hs (G.dbl a ha)
      · exact .inl ((mem_reas G).mpr ⟨ha, hb, hl, hs, hr, rfl⟩)
      · exact .inr ((mem_reas G).mpr ⟨hb, ha, hl, plus_comm ▸ hs, by rw [plus_comm, reason_sym]; exact hr, plus_comm⟩)
    · rintro (h | h)
      · obtain ⟨ha, hb, _, hs, hr, rfl⟩ := (mem_reas G).mp h
        exact ⟨⟨⟨⟨decide_eq_true ha, decide_eq_true hb⟩, decide_eq_true hs⟩, rfl⟩, hr⟩
      · obtain ⟨hb, ha, _, hs, hr, rfl⟩ := (mem_reas G).mp h
        exact ⟨⟨⟨⟨decide_eq_true ha, decide_eq_true hb⟩, decide_eq_true hs⟩, plus_comm⟩, by rw [reason_sym]; exact hr⟩
  by_cases z : (a, b, s) ∈ lreasM ups S ∨ (b, a, s) ∈ lreasM ups S
  · rw [decide_eq_true z]; exact key.mpr z
  · rw [decide_eq_false z]
    cases q : showsM U (inL S) a b s with
    | false => rfl
    | true => exact absurd (key.mp q) z
end

/-! ### a hall's facts, for the walk -/
structure HallF (P : List (List Int)) (r : Wy) (ups Rm : List (List Int)) : Prop where
  g : GoodH P (upsM r) ups Rm
  up : UpOk P r
  lup : ∃ n ra, arrM P 200 n (arrows0 P.length) (unitsL P.length) = some ra ∧ (∀ p ∈ ra, p.1 ≠ []) ∧ ra.length ≤ 1000 ∧ ups = lupM (sortL (ra.map (·.1)))
  rms : ∃ rr, roomsM P 500 10 = some rr ∧ Rm = rr.1.map (·.1)
theorem perms_mem : ∀ {l o : List Nat}, o.Perm l → o ∈ permsOf l
  | [], o, h => by rw [List.perm_nil.mp h]; exact List.mem_singleton.mpr rfl
  | x :: xs, o, h => by
    have hx : x ∈ o := h.mem_iff.mpr List.mem_cons_self
    obtain ⟨s, t, rfl⟩ := List.append_of_mem hx
    have h2 : (s ++ t).Perm xs := by
      have := (List.perm_middle (a := x) (l₁ := s) (l₂ := t)).symm.trans h
      exact this.cons_inv
    refine List.mem_flatMap.mpr ⟨s ++ t, perms_mem h2, List.mem_map.mpr ⟨s.length, List.mem_range.mpr (by rw [List.length_append]; omega), ?_⟩⟩
    rw [List.take_left, List.drop_left]
    simp
theorem hall_facts {X : List (List Int)} {o : List Nat} (hX : X ∈ endL) (ho : o.Perm (List.range X.length)) : ∃ r ups Rm, HallF (mixM X o) r ups Rm := by
  have hm : mixM X o ∈ hallsE := halls_in X hX o (perms_mem ho)
  have h := all_good _ hm
  generalize mixM X o = P at h
  unfold goodP at h
  cases h1 : upM P 20 (found0 P) (layer0 P) with
  | none => rw [h1] at h; cases h
  | some r =>
    rw [h1] at h
    cases h2 : arrM P 200 30 (arrows0 P.length) (unitsL P.length) with
    | none => rw [h2] at h; cases h
    | some ra =>
      rw [h2] at h
      cases h3 : roomsM P 500 10 with
      | none => rw [h3] at h; cases h
      | some rr =>
        rw [h3] at h
        simp only [Bool.and_eq_true, List.all_eq_true, decide_eq_true_eq, Bool.not_eq_true', decide_eq_false_iff_not] at h
        obtain ⟨⟨q1, q2⟩, q3⟩ := h
        have G := good_of q3
        have pm : (upsM r).Perm (r.map (·.1)) := sortL_perm _
        refine ⟨r, _, _, G, ⟨G.ok, G.en, ⟨20, h1⟩, fun p hp => G.lU _ (pm.mem_iff.mpr (List.mem_map_of_mem hp)), pm.nodup_iff.mp G.nU, ?_⟩, ⟨30, ra, h2, q1, by omega, rfl⟩, ⟨rr, h3, rfl⟩⟩
        have := pm.length_eq
        rw [List.length_map] at this
        have := G.u9
        omega
end K33

set_option maxHeartbeats 400000
/-! K33zq: what the law's body needs yet. -/
namespace K33
open PySem PySem.Spec PyProof.Rows L2
theorem optD_eq (o : Option (List Int)) : optD o = optT o := by cases o <;> rfl
theorem shaped_optT (o : Option (List Int)) : SeqAt.shaped (optT o) = true := by
  cases o with
  | none => rfl
  | some x => exact shaped_iT x
theorem eqv_optT (o : Option (List Int)) : PyData.eqv (optT o) (optT o) = true := by
  cases o with
  | none => rfl
  | some x => rw [show optT (some x) = iT x from rfl, eqv_iT]; simp
theorem eqv_triple (t u : Tri) : PyData.eqv (triD t) (triD u) = decide (t = u) := by
  obtain ⟨a, b, s⟩ := t
  obtain ⟨a', b', s'⟩ := u
  unfold triD tripleD
  simp only [PyData.eqv, PyData.eqvAll, eqv_iT]
  by_cases h1 : a = a' <;> by_cases h2 : b = b' <;> by_cases h3 : s = s' <;> simp [h1, h2, h3]
theorem any_tri (l : List Tri) (t : Tri) : ((l.map triD).any fun z => PyData.eqv z (triD t)) = decide (t ∈ l) := by
  induction l with
  | nil => rfl
  | cons u l ih =>
    rw [List.map_cons, List.any_cons, ih, eqv_triple]
    by_cases h : u = t
    · subst h; simp
    · have h' : ¬ t = u := fun e => h e.symm
      simp [h, h']
theorem canLay_tri (t : Tri) : (triD t).canLay0 = true := by
  unfold triD tripleD
  simp only [PyData.canLay0, PyData.canLayAll0, canLay_iT]
  rfl
theorem depth_tri (t : Tri) : (triD t).depth = 2 := by
  unfold triD tripleD
  simp only [PyData.depth, PyData.depthAll, depth_iT]
  rfl
theorem shaped_tri (t : Tri) : SeqAt.shaped (triD t) = true := by
  unfold SeqAt.shaped
  rw [canLay_tri, depth_tri]
  rfl
theorem canLay_tris : ∀ l : List Tri, PyData.canLayAll0 (l.map triD) = true
  | [] => by simp [PyData.canLayAll0]
  | t :: l => by rw [List.map_cons, PyData.canLayAll0, canLay_tris l, canLay_tri]; rfl
theorem depth_tris : ∀ l : List Tri, PyData.depthAll (l.map triD) ≤ 2
  | [] => by simp [PyData.depthAll]
  | t :: l => by
    rw [List.map_cons, PyData.depthAll, depth_tri]
    have := depth_tris l
    omega
theorem shaped_tris (l : List Tri) : SeqAt.shaped (.list (l.map triD)) = true := by
  unfold SeqAt.shaped
  rw [PyData.canLay0, canLay_tris, PyData.depth, Bool.true_and, decide_eq_true_eq]
  have := depth_tris l
  omega
theorem eqv_nil (l : List Tri) : PyData.eqv (.list (l.map triD)) (.list []) = decide (l = []) := by
  cases l with
  | nil => simp [PyData.eqv, PyData.eqvAll]
  | cons t l => simp [PyData.eqv, PyData.eqvAll]
theorem shaped_whyD (o : Option (List Int × List Int)) : SeqAt.shaped (whyD o) = true := by
  cases o with
  | none => rfl
  | some p => exact shaped_tri (p.1, p.2, plusM p.1 p.2)
theorem eqv_whyD (o : Option (List Int × List Int)) : PyData.eqv (whyD o) (whyD o) = true := by
  cases o with
  | none => rfl
  | some p => exact (eqv_triple (p.1, p.2, plusM p.1 p.2) (p.1, p.2, plusM p.1 p.2)).trans (decide_eq_true rfl)
theorem head_at (l : List Tri) : atI (l.map triD ++ [PyData.none]) 0 = some ((l.map triD ++ [PyData.none]).headD PyData.none) := by
  refine atI_nat' (by omega) ?_
  cases l <;> rfl
theorem alike_tups2 : ∀ a b : List (List Int), PySem.W.alikeAll (tups a) (tups b) = true
  | [], _ => by simp [tups, PySem.W.alikeAll]
  | _ :: _, [] => by simp [tups, PySem.W.alikeAll]
  | x :: a, y :: b => by
    show PySem.W.alikeAll (iT x :: tups a) (iT y :: tups b) = true
    rw [PySem.W.alikeAll, alike_iT, alike_tups2 a b]
    rfl
theorem alike_lots (kn : Kn) : PySem.W.AllAlike (kn.map lotD) := fun d hd e he => by
  obtain ⟨p, _, rfl⟩ := List.mem_map.mp hd
  obtain ⟨q, _, rfl⟩ := List.mem_map.mp he
  unfold lotD
  rw [PySem.W.alike]
  exact alike_tups2 _ _
theorem depth_lotD (p : List (List Int) × List Int) : (lotD p).depth ≤ 8 := by
  unfold lotD
  rw [PyData.depth]
  have := depth_tups p.1
  omega
theorem lot_first {P U ups Rm : List (List Int)} (G : GoodH P U ups Rm) : lotOf ups (List.replicate P.length 1) = [] := by
  unfold lotOf
  refine List.filter_eq_nil_iff.mpr fun a ha => ?_
  have hU := G.sub a ha
  have h1 := by_first a
  rw [G.lU a hU] at h1
  have := (G.small a hU).2
  simp
  omega
theorem kn_first {P U ups Rm : List (List Int)} (G : GoodH P U ups Rm) : ∃ ds, (knOf ups Rm).map lotD = PyData.tuple [] :: ds := by
  cases h : Rm with
  | nil => have := G.rh; rw [h] at this; cases this
  | cons r rest =>
    have h1 := G.rh
    rw [h] at h1
    have : r = List.replicate P.length 1 := Option.some.inj h1
    subst this
    refine ⟨(knOf ups rest).map lotD, ?_⟩
    show lotD (lotOf ups _, _) :: _ = _
    rw [lot_first G]
    rfl
/-- a lot that is drawn -/
structure LotG (U S : List (List Int)) : Prop where
  mem : ∀ a ∈ S, a ∈ U
  nd : S.Nodup
  len : S.length < 20
section
variable {P U ups Rm S : List (List Int)}
theorem lotG_sub (G : GoodH P U ups Rm) (h : List.Sublist S ups) : LotG U S := ⟨fun a ha => G.sub a (h.subset ha), h.nodup G.nu, by have := h.length_le; have := G.ul; have := G.u9; omega⟩
theorem lotG_lot (G : GoodH P U ups Rm) (r : List Int) : LotG U (lotOf ups r) := lotG_sub G List.filter_sublist
theorem lotG_flip (G : GoodH P U ups Rm) (h : List.Sublist S ups) {a : List Int} (ha : a ∈ U) : LotG U ((S.filter fun b => !decide (b = a)) ++ (List.replicate (b2n (!decide (a ∈ S))).toNat [a]).flatten) := by
  have L := lotG_sub G h
  by_cases z : a ∈ S
  · have e : (List.replicate (b2n (!decide (a ∈ S))).toNat [a]).flatten = [] := by simp [z, b2n]
    rw [e, List.append_nil]
    exact lotG_sub G (List.filter_sublist.trans h)
  · have e : (List.replicate (b2n (!decide (a ∈ S))).toNat [a]).flatten = [a] := by simp [z, b2n]
    rw [e]
    refine ⟨fun b hb => ?_, ?_, ?_⟩
    · rcases List.mem_append.mp hb with hb | hb
      · exact L.mem b (List.mem_filter.mp hb).1
      · rw [List.mem_singleton.mp hb]; exact ha
    · refine List.nodup_append.mpr ⟨L.nd.filter _, by simp, fun x hx y hy q => ?_⟩
      rw [List.mem_singleton.mp hy] at q
      have := (List.mem_filter.mp hx).2
      simp [q] at this
    · rw [List.length_append, List.length_singleton]
      have := List.length_filter_le (fun b => !decide (b = a)) S
      have := h.length_le
      have := G.ul
      have := G.u9
      omega
theorem reas_len (G : GoodH P U ups Rm) : (lreasM ups S).length ≤ 81 := by
  unfold lreasM
  rw [(sortG_perm _ _).length_eq]
  have ul : ups.length ≤ 9 := by have := G.ul; have := G.u9; omega
  refine Nat.le_trans (flat_len (n := 9) fun a _ => ?_) (Nat.mul_le_mul_right 9 ul)
  unfold lrowM
  rw [List.length_map]
  exact Nat.le_trans (List.length_filter_le _ _) ul
theorem reas_lens (G : GoodH P U ups Rm) {t : Tri} (h : t ∈ lreasM ups S) : t.1.length = P.length ∧ t.2.1.length = P.length ∧ t.2.2.length = P.length := by
  obtain ⟨a, b, s⟩ := t
  obtain ⟨ha, hb, _, hs, _, rfl⟩ := (mem_reas G).mp h
  exact ⟨G.lU a ha, G.lU b hb, G.lU _ hs⟩
end

/-! ### rules -/
section
variable {c : Ct} {X : Cx} {env : Ev'} {pos p : Pos} {T U : SV → Prop} {e : Expr}
theorem em_lcS {tg iter elt : Expr} {ifs : List Expr} {scope : Scope} {own : List (Str × Nat)} (L : LcOkS c X env tg iter elt ifs scope own T) (hN : X.N.Nodup) (hc : X.calm = true := by rfl)
    (hs : ∀ x, foldedSetIterable iter X.env x = pure x := by intro _; rfl) : EG c X env (.ListComp elt [⟨tg, iter, ifs, 0⟩] scope pos) (rMS c T) := by
  obtain ⟨ok, g, wi, tt, te, h1, h2, h3, h4, h5⟩ := L
  exact fun σ H r Q q => WE.of (pe_lc hc hN h1 ok h2 h3 h4 hs) (h5 σ H r Q q)
/-- list(draw) -/
theorem eg_listS (h : EG c X env e (rS c T)) (hT : ∀ y, T y → ∃ t ds, y = .d (sqD t ds) ∧ immAll ds = true ∧ U (.d (.list ds))) (hm : X.mg "list" = none) (hK : X.K = c.K := by rfl) (hg : Gl X "list" := by rfl) (hv : bootBuiltins "list" = some (.type "list") := by decide +kernel)
    (na : starEach [e] X.env = (false, eval e X.env) :: starEach [] X.env := by rfl) (hpl : (backTo pos (starEach [] X.env)).any (·.1) = false := by rfl) : EG c X env (.Call (.Name "list" p) [e] [] pos) (rMS c U) := fun σ H r Q q =>
  WE.of (pe_callTy call_list_of hg hm hv (pa_cons pe_w pa_nil na) (by decide) (by decide) na hpl) (h σ H r _ fun v H1 s1 ⟨y, ty, rn⟩ => by
    obtain ⟨t, ds, rfl, hi, hu⟩ := hT y ty
    obtain ⟨a, ws, rfl, h1, h2⟩ := sqD_of (RN.rv rn)
    refine ⟨a, ws, rfl, ?_, fun l hl => q _ _ (s1.trans (same_upd hl)) ⟨_, hu, RM.mono s1 (rm_list hl hi h2)⟩⟩
    cases t
    · exact .inl (hK ▸ h1)
    · exact .inr (hK ▸ h1))
end
end K33

set_option maxHeartbeats 1000000
/-! K33zr: the law. -/
namespace K33
open PySem PySem.Spec PyProof.Rows L2
section
variable {c : Ct} {P : Program} {w : World} {mg : Str → Option Value} {base : Heap} {f : Addr} {fd : FuncData}
abbrev stLaw : Stmt := top 58
abbrev nLaw : List Str := ["_law_script", "_law_row", "_law_pushes", "_law_hall", "_law_up_here", "_law_known", "_law_room", "_law_turn", "_law_lot", "_law_arrow", "_law_some", "_law_reasons_here", "_law_one", "_law_other", "_law_triple", "_law_answer", "_law_turned"]
theorem scLaw : FnScope nLaw ["_law_script"] (defScope stLaw) := ⟨rfl, rfl, rfl, by decide +kernel, rfl, by decide +kernel, by decide +kernel⟩
/-- the slots within the law's loop -/
abbrev envL (c : Ct) (P : Program) (w : World) (H : List (List Int)) (ups : List (List Int)) (kn : Kn) (x6 x7 x8 x9 x10 x11 x12 x13 x14 x15 x16 : Sl) : Ev' :=
  [.fr (.p (scrP c.K c.scr c.ns)), .fr .row, .fr (.d (.tuple (tups H))), .fr (.hall H), .fr (.d (.list (tups ups))), .fr (.o (knP c P w kn)), x6, x7, x8, x9, x10, x11, x12, x13, x14, x15, x16]
/-- what the law calls -/
structure Calls33 (c : Ct) (P : Program) (w : World) (mg : Str → Option Value) (base : Heap) : Prop where
  B : Bl mg
  T : Hc c.K mg c.C
  I : In c P w mg base
  ending : Own c P w mg base "_law_ending" 3 sEnding
  up : Own c P w mg base "_law_up" 2 sLUp
  rooms : Own c P w mg base "_law_rooms" 2 sLRooms
  by_ : Own c P w mg base "_law_by" 1 sLBy
  taken : Own c P w mg base "_law_taken" 1 sTaken
  pick : Own c P w mg base "_law_pick" 2 sPick
  reas : Own c P w mg base "_law_reasons" 2 sLReas
  plus : Own c P w mg base "_law_plus" 1 sLPlus
  room : Own c P w mg base "room_of" 6 sRoom
  why : Own c P w mg base "why_not" 6 sWhy
  shows : Own c P w mg base "shows_why" 6 sShows
abbrev Good (xs : SV) : Prop := xs = .d (.bool true)
abbrev lawFor : Stmt := (defBody stLaw).getD 5 (.Pass ⟨0, 0, 0, 0⟩)
abbrev lawBody : List Stmt := match lawFor with
  | .For _ _ b _ _ => b
  | _ => []
/-- behind the drawn lot -/
theorem law_rest (L : Calls33 c P w mg base) {Pu : List (List Int)} {r : Wy} {ups Rm S : List (List Int)} (F : HallF Pu r ups Rm) (LS : LotG (upsM r) S) {cdv : Value} {A : Around} {outer : List Env} {s : Shared} {H : Hp} {E : XK} {x6 x7 x9 x10 x11 x12 x13 x14 x15 x16 : Sl} {N : NE}
    (hr : Room 6 (A.deeper (envOfC "law" (defScope stLaw) s.heap.objs.size f cdv)))
    (hN : ∀ x8 x9 x10 x11 x12 x13 x14 x15 x16, N.nx (envL c P w Pu ups (knOf ups Rm) x6 x7 x8 x9 x10 x11 x12 x13 x14 x15 x16)) :
    SS c (bx c P w mg base nLaw "law" stLaw f cdv A outer s H E) Good (lawBody.drop 2) (envL c P w Pu ups (knOf ups Rm) x6 x7 (.fr (.d (.list (tups S)))) x9 x10 x11 x12 x13 x14 x15 x16) N := by
  have nd := scLaw.nd
  have B := L.B
  have G := F.g
  have hr1 := hr.mono (show 1 ≤ 6 by omega)
  have hr2 := hr.mono (show 2 ≤ 6 by omega)
  have ul : ups.length ≤ 9 := by have := G.ul; have := G.u9; omega
  have lU : ∀ a ∈ ups, a.length = Pu.length := fun a ha => G.lU a (G.sub a ha)
  have hl := hallOk_len G.ok
  have lo : LotOk r S := ⟨fun a ha => upsM_mem.mp (LS.mem a ha), LS.nd⟩
  -- some
  refine ss_cons (s1_asg (x := .d (.tuple (tups (someOf ups S)))) 10 (EN.ef (EE.en (EE.is (eg_callT cg_tuple B.tuple (ea_cons (EM.ee (em_lc (lc_ok (own := [("_law_arrow", 9)]) (fun a : List Int => decide (a ∈ S)) iT (src_list 9 ups iT (ef_name 4)) ?ok1 (pg1 9 nd) (by decide)
    (fun a ha s H C cl fp => ets_one (et_cmp (og_in (k := decide (a ∈ S)) (hu65 hr) (shaped_iT a) (shaped_tups S) (any_tups _ _)) (ee_name 9) (ee_name 8))) (fun a ha _ s H C cl fp => EE.en (ee_name 9) (imm_iT _)) (by omega)) nd)) ea_nil) back_e) rfl) (by rw [imm]; exact imm_tups _))) ?_ nd)
  case ok1 => exact blkOk_by (N := nLaw) (sc := defScope stLaw) (by decide +kernel)
  -- reasons
  refine ss_cons (s1_asg (x := .d (.list ((lreasM ups S).map triD))) 11 (EN.ef (en_call (S := sLReas) (k := 2) (xs := [.d (.list (tups ups)), .d (.list (tups S))]) L.reas hr2 (ea_cons (ee_name 4) (ea_cons (ee_name 8) ea_nil)) ⟨Pu.length, ups, S, rfl, hl.2, lU, by omega, rfl⟩)) ?_ nd)
  have rl := reas_len (S := S) G
  have imR : immAll ((lreasM ups S).map triD) = true := imm_ofM fun t _ => imm_triD t
  -- room_of against known
  refine ss_cons (s1_if (k := false) (et_or2 (k := false) (l := false)
    (et_cmp (og_ne (d := optT (lookN (knOf ups Rm) (someOf ups S))) (f := optT (lookN (knOf ups Rm) (someOf ups S))) (k := false) hr.units (shaped_optT _) (shaped_optT _) (by rw [eqv_optT]; rfl))
      (ee_call (S := sRoom) (k := 6) (xs := [.hall Pu, .d (.list (tups S))]) L.room hr (ea_cons (ee_name 3) (ea_cons (ee_name 8) ea_nil)) ⟨Pu, r, S, 20, _, rfl, F.up, lo, law_room G LS.mem LS.len, by omega, rfl⟩)
      (EE.is (ee_getN (kn := knOf ups Rm) (k := someOf ups S) (hu65 hr) (ee_name 5) (ee_name 10) ee_non) (by rw [optD_eq])))
    fun _ => et_cmp (og_ne (d := .bool (lookN (knOf ups Rm) (someOf ups S)).isSome) (f := .bool (decide (lreasM ups S = []))) (k := false) hr.units rfl rfl (by rw [eqv_bool, law_known G LS.mem LS.len]; simp))
      (ee_cmp (og_inN (kn := knOf ups Rm) (hu65 hr)) (ee_name 10) (ee_name 5))
      (ee_cmp (og_eq (d := .list ((lreasM ups S).map triD)) (f := .list []) hr.units (shaped_tris _) rfl (eqv_nil _)) (ee_name 11) (EM.ee (em_lst ean_nil)))) (fun e => by cases e) fun _ => ss_nil ?_)
  -- why_not
  refine ss_cons (s1_if (k := false) (et_cmp (og_ne (d := whyD (whyM (upsM r) (inL S) (upsM r))) (f := whyD (whyM (upsM r) (inL S) (upsM r))) (k := false) hr.units (shaped_whyD _) (shaped_whyD _) (by rw [eqv_whyD]; rfl))
      (ee_call (S := sWhy) (k := 6) (xs := [.hall Pu, .d (.list (tups S))]) L.why hr (ea_cons (ee_name 3) (ea_cons (ee_name 8) ea_nil)) ⟨Pu, r, S, rfl, F.up, lo, rfl⟩)
      (ee_ixL (EM.ee (em_bin (og_cat (ds := (lreasM ups S).map triD) (fs := [.none]) imR rfl (by rw [List.length_map]; simp; omega)) (ee_name 11) (EM.ee (em_lst (ds := [.none]) (ean_cons (EE.en ee_non rfl) ean_nil) (by simp))))) ee_int (by rw [law_why (S := S) G (sortL_sorted _)]; exact head_at _))) (fun e => by cases e) fun _ => ss_nil ?_)
  -- one, other
  refine ss_cons (s1_parS (T := fun y => ∃ a ∈ ups, y = .d (iT a)) (U := fun y => ∃ a ∈ ups, y = .d (iT a)) 12 13
    (es_efs (es_imp (eg_call (S := sPick) (k := 2) (xs := [.row, .d (.list (tups ups))]) L.pick hr2 (ea_cons (ee_name 1) (ea_cons (ee_name 4) ea_nil)) ⟨tups ups, rfl, by rw [tups_len, G.ul]; exact G.u1, by rw [tups_len]; omega, imm_mem (imm_tups _), rfl⟩) fun y ⟨d, hd, hy⟩ => by obtain ⟨a, ha, rfl⟩ := List.mem_map.mp hd; exact ⟨a, ha, hy⟩))
    (es_efs (es_imp (eg_call (S := sPick) (k := 2) (xs := [.row, .d (.list (tups ups))]) L.pick hr2 (ea_cons (ee_name 1) (ea_cons (ee_name 4) ea_nil)) ⟨tups ups, rfl, by rw [tups_len, G.ul]; exact G.u1, by rw [tups_len]; omega, imm_mem (imm_tups _), rfl⟩) fun y ⟨d, hd, hy⟩ => by obtain ⟨a, ha, rfl⟩ := List.mem_map.mp hd; exact ⟨a, ha, hy⟩))
    ?_ nd (by show 12 < 17; decide) (by decide))
  rintro y1 y2 ⟨one, h1, rfl⟩ ⟨other, h2, rfl⟩
  have l1 := lU one h1
  have l2 := lU other h2
  -- the triple
  have lt : ∀ d ∈ (lreasM ups S).map triD ++ [tripleD one other (lplusM one other)], ∃ t : Tri, d = triD t ∧ t.1.length = Pu.length ∧ t.2.1.length = Pu.length ∧ t.2.2.length = Pu.length := fun d hd => by
    rcases List.mem_append.mp hd with hd | hd
    · obtain ⟨t, ht, rfl⟩ := List.mem_map.mp hd
      exact ⟨t, rfl, reas_lens G ht⟩
    · rw [List.mem_singleton.mp hd]
      exact ⟨(one, other, lplusM one other), rfl, l1, l2, by unfold lplusM; rw [List.length_map, List.length_range]; exact l1⟩
  have imT : immAll ((lreasM ups S).map triD ++ [tripleD one other (lplusM one other)]) = true := immAll_app imR (by rw [immAll, imm_triple]; rfl)
  refine ss_cons (s1_asgS (T := fun y => ∃ t : Tri, y = .d (triD t) ∧ t.1.length = Pu.length ∧ t.2.1.length = Pu.length ∧ t.2.2.length = Pu.length) 14
    (es_efs (es_imp (eg_call (S := sPick) (k := 2) (xs := [.row, .d (.list ((lreasM ups S).map triD ++ [tripleD one other (lplusM one other)]))]) L.pick hr2 (ea_cons (ee_name 1) (ea_cons (EM.ee (em_bin (og_cat (ds := (lreasM ups S).map triD) (fs := [tripleD one other (lplusM one other)]) imR (by rw [immAll, imm_triple]; rfl) (by rw [List.length_map]; simp; omega)) (ee_name 11)
      (EM.ee (em_lst (ds := [tripleD one other (lplusM one other)]) (ean_cons (EE.en (ee_tup (ds := [iT one, iT other, iT (lplusM one other)]) (ea_cons (ee_name 12) (ea_cons (ee_name 13) (ea_cons (ee_call (S := sLPlus) (k := 1) (xs := [.d (iT one), .d (iT other)]) L.plus hr1 (ea_cons (ee_name 12) (ea_cons (ee_name 13) ea_nil)) ⟨one, other, rfl, by omega, by omega, rfl⟩) ea_nil))) (by simp)) (imm_triple _ _ _)) ean_nil) (by simp))))) ea_nil))
      ⟨_, rfl, by simp, by rw [List.length_append, List.length_map]; simp; omega, imm_mem imT, rfl⟩) fun y ⟨d, hd, hy⟩ => by obtain ⟨t, rfl, ht⟩ := lt d hd; exact ⟨t, hy, ht⟩)) ?_ nd)
  rintro y ⟨⟨ta, tb, ts⟩, rfl, ha, hb, hs⟩
  have ha : ta.length = Pu.length := ha
  have hb : tb.length = Pu.length := hb
  have hs : ts.length = Pu.length := hs
  have i0 : atI [iT ta, iT tb, iT ts] 0 = some (iT ta) := atI_nat' (by omega) rfl
  have i1 : atI [iT ta, iT tb, iT ts] 1 = some (iT tb) := atI_nat' (by omega) rfl
  have i2 : atI [iT ta, iT tb, iT ts] 2 = some (iT ts) := atI_nat' (by omega) rfl
  refine ss_cons (s1_asgS (T := fun y => ∃ t : Tri, y = .d (triD t) ∧ t.1.length = Pu.length ∧ t.2.1.length = Pu.length ∧ t.2.2.length = Pu.length) 14
    (es_efs (es_imp (eg_call (S := sPick) (k := 2) (xs := [.row, .d (.list [tripleD ta tb ts, tripleD tb ta ts, tripleD ts tb ta])]) L.pick hr2 (ea_cons (ee_name 1) (ea_cons (EM.ee (em_lst (ds := [tripleD ta tb ts, tripleD tb ta ts, tripleD ts tb ta]) (ean_cons (EE.en (ee_name 14) (imm_triple _ _ _))
      (ean_cons (EE.en (ee_tup (ds := [iT tb, iT ta, iT ts]) (ea_cons (ee_ixT (ee_name 14) ee_int i1) (ea_cons (ee_ixT (ee_name 14) ee_int i0) (ea_cons (ee_ixT (ee_name 14) ee_int i2) ea_nil))) (by simp)) (imm_triple _ _ _))
      (ean_cons (EE.en (ee_rev3 (ee_name 14)) (imm_triple _ _ _)) ean_nil))) (by simp))) ea_nil))
      ⟨_, rfl, by simp, by simp, fun d hd => by
        simp only [List.mem_cons, List.not_mem_nil, or_false] at hd
        rcases hd with rfl | rfl | rfl <;> exact imm_triple _ _ _, rfl⟩) fun y ⟨d, hd, hy⟩ => by
        simp only [List.mem_cons, List.not_mem_nil, or_false] at hd
        rcases hd with rfl | rfl | rfl
        · exact ⟨(ta, tb, ts), hy, ha, hb, hs⟩
        · exact ⟨(tb, ta, ts), hy, hb, ha, hs⟩
        · exact ⟨(ts, tb, ta), hy, hs, hb, ha⟩)) ?_ nd)
  rintro y ⟨⟨a, b, t⟩, rfl, la, lb, lt'⟩
  have la : a.length = Pu.length := la
  have lb : b.length = Pu.length := lb
  have lt' : t.length = Pu.length := lt'
  have j0 : atI [iT a, iT b, iT t] 0 = some (iT a) := atI_nat' (by omega) rfl
  have j1 : atI [iT a, iT b, iT t] 1 = some (iT b) := atI_nat' (by omega) rfl
  have j2 : atI [iT a, iT b, iT t] 2 = some (iT t) := atI_nat' (by omega) rfl
  -- answer, turned
  refine ss_cons (s1_par (x := .d (.bool (showsM (upsM r) (inL S) a b t))) (y := .d (tripleD b a t)) 15 16 false false
    (ex_f (EN.ef (en_call (S := sShows) (k := 6) (xs := [.hall Pu, .d (.list (tups S)), .d (tripleD a b t)]) L.shows hr (ea_cons (ee_name 3) (ea_cons (ee_name 8) (ea_cons (ee_name 14) ea_nil))) ⟨Pu, r, S, a, b, t, rfl, F.up, lo, la, lb, lt', rfl⟩)))
    (ex_f (EN.ef (EE.en (ee_tup (ds := [iT b, iT a, iT t]) (ea_cons (ee_ixT (ee_name 14) ee_int j1) (ea_cons (ee_ixT (ee_name 14) ee_int j0) (ea_cons (ee_ixT (ee_name 14) ee_int j2) ea_nil))) (by simp)) (imm_triple _ _ _)))) ?_ nd (by show 15 < 17; decide) (by decide))
  have eq2 : showsM (upsM r) (inL S) a b t = (decide ((a, b, t) ∈ lreasM ups S) || decide ((b, a, t) ∈ lreasM ups S)) := by rw [law_shows G, Bool.decide_or]
  refine ss_cons (s1_if (k := false) (et_or2 (k := false) (l := false) (et_not (k := true) (et_val (eg_callB (cg_isi (d := .bool (showsM (upsM r) (inL S) a b t)) (n := "bool") (k := true) rfl) B.isinstance (ea_cons (ee_name 15) (ea_cons (ee_ty (n := "bool") B.bool) ea_nil)) back_e)))
    fun _ => et_cmp (og_ne (d := .bool (showsM (upsM r) (inL S) a b t)) (f := .bool (decide ((a, b, t) ∈ lreasM ups S) || decide ((b, a, t) ∈ lreasM ups S))) (k := false) hr.units rfl rfl (by rw [eqv_bool, eq2]; simp)) (ee_name 15)
      (ee_or2 (ee_cmp (og_in (d := tripleD a b t) (ds := (lreasM ups S).map triD) (hu65 hr) (shaped_tri (a, b, t)) (shaped_tris _) (any_tri _ (a, b, t))) (ee_name 14) (ee_name 11))
        fun _ => ee_cmp (og_in (d := tripleD b a t) (ds := (lreasM ups S).map triD) (hu65 hr) (shaped_tri (b, a, t)) (shaped_tris _) (any_tri _ (b, a, t))) (ee_name 16) (ee_name 11))) (fun e => by cases e) fun _ => ss_nil (ss_nil ?_))
  exact hN _ _ _ _ _ _ _ _ _
end
end K33

set_option maxHeartbeats 1000000
/-! K33zs: the law, whole. -/
namespace K33
open PySem PySem.Spec PyProof.Rows L2
section
variable {c : Ct} {P : Program} {w : World} {mg : Str → Option Value} {base : Heap} {f : Addr} {fd : FuncData}
/-- a turn of the law's loop -/
theorem law_turn (L : Calls33 c P w mg base) {Pu : List (List Int)} {r : Wy} {ups Rm : List (List Int)} (F : HallF Pu r ups Rm) {cdv : Value} {A : Around} {outer : List Env} {s : Shared} {H : Hp} {E : XK} {x6 x7 x8 x9 x10 x11 x12 x13 x14 x15 x16 : Sl} {N : NE}
    (hr : Room 6 (A.deeper (envOfC "law" (defScope stLaw) s.heap.objs.size f cdv)))
    (hN : ∀ x8 x9 x10 x11 x12 x13 x14 x15 x16, N.nx (envL c P w Pu ups (knOf ups Rm) x6 x7 x8 x9 x10 x11 x12 x13 x14 x15 x16)) :
    SS c (bx c P w mg base nLaw "law" stLaw f cdv A outer s H E) Good lawBody (envL c P w Pu ups (knOf ups Rm) x6 x7 x8 x9 x10 x11 x12 x13 x14 x15 x16) N := by
  have nd := scLaw.nd
  have B := L.B
  have G := F.g
  have hr1 := hr.mono (show 1 ≤ 6 by omega)
  have hr2 := hr.mono (show 2 ≤ 6 by omega)
  have ul : ups.length ≤ 9 := by have := G.ul; have := G.u9; omega
  -- the drawn lot
  refine ss_cons (s1_asgS (T := fun y => ∃ sub, List.Sublist sub ups ∧ y = .d (.list (sub.map iT))) 8 (es_efs (ems_es (em_lcS (lc_okS (own := [("_law_arrow", 9)]) iT (src_list 9 ups iT (ef_name 4)) ?ok1 (pg1 9 nd) (by decide)
    (fun a ha s H C cl fp => ets_oneN (etn_eq (es_imp (eg_call (S := sTaken) (k := 1) (xs := [.row, .d (.int 2)]) L.taken hr1 (ea_cons (ee_name 1) (ea_cons ee_int ea_nil)) ⟨2, rfl, by omega, by omega, rfl⟩) fun y ⟨i, hi, hy⟩ => ⟨(i : Int), hy⟩) ee_int hr.units))
    (fun a ha s H C cl fp => EE.en (ee_name 9) (imm_iT _)) (by omega)) nd))) ?_ nd)
  case ok1 => exact blkOk_by (N := nLaw) (sc := defScope stLaw) (by decide +kernel)
  rintro y ⟨S0, hS0, rfl⟩
  have LS0 := lotG_sub G hS0
  refine ss_cons (s1_ifN (etn_eq (es_imp (eg_call (S := sTaken) (k := 1) (xs := [.row, .d (.int 3)]) L.taken hr1 (ea_cons (ee_name 1) (ea_cons ee_int ea_nil)) ⟨3, rfl, by omega, by omega, rfl⟩) fun y ⟨i, hi, hy⟩ => ⟨(i : Int), hy⟩) ee_int hr.units) ?_ (ss_nil (law_rest L F LS0 hr hN)))
  have kl : (knOf ups Rm).length ≤ 100 := by unfold knOf; rw [List.length_map]; exact G.r100
  have k1 : 1 ≤ (knOf ups Rm).length := by
    obtain ⟨ds, e⟩ := kn_first G
    have := congrArg List.length e
    rw [List.length_map] at this
    simp at this
    omega
  obtain ⟨ds0, e0⟩ := kn_first G
  -- one of the known lots
  refine ss_cons (s1_asgS (T := fun y => ∃ S, List.Sublist S ups ∧ y = .d (.list (tups S))) 8 (es_efs (ems_es (eg_listS (T := fun y => ∃ d ∈ ((knOf ups Rm).mergeSort (PySem.W.dataLe false lotD)).map lotD, y = .d d)
    (eg_call (S := sPick) (k := 2) (xs := [.row, .d (.list (((knOf ups Rm).mergeSort (PySem.W.dataLe false lotD)).map lotD))]) L.pick hr2 (ea_cons (ee_name 1) (ea_cons (EM.ee (eg_callB (cg_sort0 (bs := knOf ups Rm) (enc := lotD) (alike_lots _) e0 (fun d hd => by obtain ⟨p, _, rfl⟩ := List.mem_map.mp hd; exact ⟨_, rfl⟩) (fun p _ => depth_lotD p) (fun p _ => imm_lotD p) (hu65 hr |> fun h => by exact Nat.lt_of_succ_lt h)) B.sorted
      (ea_cons (EM.ee (eg_callT (cg_listN (kn := knOf ups Rm) (by omega)) B.list (ea_cons (ee_name 5) ea_nil) back_m)) ea_nil) back_m)) ea_nil))
      ⟨_, rfl, by rw [List.length_map, List.length_mergeSort]; exact k1, by rw [List.length_map, List.length_mergeSort]; omega, fun d hd => by obtain ⟨p, _, rfl⟩ := List.mem_map.mp hd; exact imm_lotD p, rfl⟩)
    (fun y ⟨d, hd, hy⟩ => by
      obtain ⟨p, hp, rfl⟩ := List.mem_map.mp hd
      have hp := (List.mergeSort_perm _ _).mem_iff.mp hp
      obtain ⟨rm, _, rfl⟩ := List.mem_map.mp hp
      exact ⟨true, tups (lotOf ups rm), hy, imm_tups _, lotOf ups rm, List.filter_sublist, rfl⟩) B.list))) ?_ nd)
  rintro y ⟨S1, hS1, rfl⟩
  -- an arrow
  refine ss_cons (s1_asgS (T := fun y => ∃ a ∈ ups, y = .d (iT a)) 9 (es_efs (es_imp (eg_call (S := sPick) (k := 2) (xs := [.row, .d (.list (tups ups))]) L.pick hr2 (ea_cons (ee_name 1) (ea_cons (ee_name 4) ea_nil)) ⟨tups ups, rfl, by rw [tups_len, G.ul]; exact G.u1, by rw [tups_len]; omega, imm_mem (imm_tups _), rfl⟩)
    fun y ⟨d, hd, hy⟩ => by obtain ⟨a, ha, rfl⟩ := List.mem_map.mp hd; exact ⟨a, ha, hy⟩)) ?_ nd)
  rintro y ⟨a, ha, rfl⟩
  have LS1 := lotG_sub G hS1
  have s1l := hS1.length_le
  -- the arrow flipped
  refine ss_cons (s1_ifN (etn_eq (es_imp (eg_call (S := sTaken) (k := 1) (xs := [.row, .d (.int 2)]) L.taken hr1 (ea_cons (ee_name 1) (ea_cons ee_int ea_nil)) ⟨2, rfl, by omega, by omega, rfl⟩) fun y ⟨i, hi, hy⟩ => ⟨(i : Int), hy⟩) ee_int hr.units) ?_ (ss_nil (ss_nil (law_rest L F LS1 hr hN))))
  have bk : (b2n (!decide (a ∈ S1))).toNat ≤ 1 := by unfold b2n; split <;> decide
  have eS : ((S1.filter fun b => !decide (b = a)).map iT ++ (List.replicate (b2n (!decide (a ∈ S1))).toNat [iT a]).flatten) = tups ((S1.filter fun b => !decide (b = a)) ++ (List.replicate (b2n (!decide (a ∈ S1))).toNat [a]).flatten) := by
    unfold tups
    rw [List.map_append]
    congr 1
    have : (b2n (!decide (a ∈ S1))).toNat = 0 ∨ (b2n (!decide (a ∈ S1))).toNat = 1 := by omega
    rcases this with e | e <;> rw [e] <;> rfl
  refine ss_cons (s1_asg (x := .d (.list (tups ((S1.filter fun b => !decide (b = a)) ++ (List.replicate (b2n (!decide (a ∈ S1))).toNat [a]).flatten)))) 8 (EN.ef (EM.en (EM.is (em_bin (og_cat (ds := (S1.filter fun b => !decide (b = a)).map iT) (fs := (List.replicate (b2n (!decide (a ∈ S1))).toNat [iT a]).flatten) (imm_tups _) ?im2 ?len2)
    (EM.ee (em_lc (lc_ok (own := [("_law_one", 12)]) (fun b : List Int => !decide (b = a)) iT (src_list 12 S1 iT (ef_name 8)) ?ok2 (pg1 12 nd) (by decide)
      (fun b hb s H C cl fp => ets_one (et_cmp (og_ne (k := !decide (b = a)) hr.units (shaped_iT b) (shaped_iT a) (by rw [eqv_iT, Bool.not_not])) (ee_name 12) (ee_name 9))) (fun b hb _ s H C cl fp => EE.en (ee_name 12) (imm_iT _)) (by omega)) nd))
    (EM.ee (em_bin (og_rep (ds := [iT a]) (k := b2n (!decide (a ∈ S1))) (by rw [immAll, imm_iT]; rfl) ⟨by unfold b2n; split <;> decide, by unfold b2n; split <;> decide⟩ (by simp; omega)) (EM.ee (em_lst (ds := [iT a]) (ean_cons (EE.en (ee_name 9) (imm_iT _)) ean_nil) (by simp)))
      (eg_callT cg_intb B.int (ea_cons (ee_cmp (og_notIn (k := !decide (a ∈ S1)) (hu65 hr) (shaped_iT a) (shaped_tups S1) (by rw [any_tups, Bool.not_not])) (ee_name 9) (ee_name 8)) ea_nil) back_e)))) (by rw [eS])))) ?_ nd)
  case ok2 => exact blkOk_by (N := nLaw) (sc := defScope stLaw) (by decide +kernel)
  case im2 =>
    refine immAll_mem fun x hx => ?_
    obtain ⟨l, hl, hx⟩ := List.mem_flatten.mp hx
    rw [(List.mem_replicate.mp hl).2] at hx
    rw [List.mem_singleton.mp hx]
    exact imm_iT a
  case len2 =>
    have e1 := List.length_filter_le (fun b => !decide (b = a)) S1
    have : (b2n (!decide (a ∈ S1))).toNat = 0 ∨ (b2n (!decide (a ∈ S1))).toNat = 1 := by omega
    rcases this with e | e <;> rw [e, List.length_map] <;> simp <;> omega
  exact ss_nil (ss_nil (law_rest L F (lotG_flip G hS1 (G.sub a ha)) hr hN))
def sLaw : Sc := fun xs R => ∃ K scr ns, xs = [.p (scrP K scr ns)] ∧ R = Good
/-- the law gives True -/
theorem fn_law33 (L : Calls33 c P w mg base) (Fn : Fun c.K "law" "law" stLaw f fd) : FnOk P w c.K mg base CX0 7 f fd ["_law_script"] (spOf c fun xs R => xs = [.p (scrP c.K c.scr c.ns)] ∧ R = Good) := by
  refine fn_mk Fn scLaw (fun xs R h => ?_) (fun cdv A outer s H E hr xs R h => ?_)
  · obtain ⟨rfl, _⟩ := h
    rfl
  obtain ⟨rfl, rfl⟩ := h
  have nd := scLaw.nd
  have B := L.B
  have hr1 := hr.mono (show 1 ≤ 6 by omega)
  have hr2 := hr.mono (show 2 ≤ 6 by omega)
  have hr3 := hr.mono (show 3 ≤ 6 by omega)
  have hr4 := hr.mono (show 4 ≤ 6 by omega)
  refine ss_cons (s1_asg (x := .row) 1 (ef_row rfl (Int.le_refl 0) (ef_name 0) ee_int ee_int ee_int) ?_ nd)
  refine ss_cons (s1_asgS 2 (es_efs (eg_call (S := sEnding) (k := 3) (xs := [.row, .d (.int 3)]) L.ending hr3 (ea_cons (ee_name 1) (ea_cons ee_int ea_nil)) ⟨rfl, rfl⟩)) ?_ nd)
  rintro y ⟨X, o, hX, ho, rfl⟩
  obtain ⟨r, ups, Rm, F⟩ := hall_facts hX ho
  generalize mixM X o = Pu at F
  have G := F.g
  have ul : ups.length ≤ 9 := by have := G.ul; have := G.u9; omega
  obtain ⟨n1, ra, a1, a2, a3, a4⟩ := F.lup
  obtain ⟨rr, b1, b2⟩ := F.rms
  refine ss_cons (s1_par (x := .hall Pu) (y := .d (.list (tups ups))) 3 4 false false (ex_f (EN.ef (en_hall L.I L.T hr4 (ee_name 2) G.ok)))
    (ex_f (EN.ef (en_call (S := sLUp) (k := 2) (xs := [.d (.tuple (tups Pu))]) L.up hr2 (ea_cons (ee_name 2) ea_nil) ⟨Pu, n1, ra, rfl, G.ok, a1, a2, a3, by rw [a4]⟩))) ?_ nd (by show 3 < 17; decide) (by decide))
  refine ss_cons (s1_own 5 em_dnewN ?_ nd)
  refine ss_cons (s1_forK 6 (kvs := encI rr.1) (en_call (S := sLRooms) (k := 2) (xs := [.d (.tuple (tups Pu)), .d (.int 500), .d (.int (10 : Nat))]) L.rooms hr2 (ea_cons (ee_name 2) (ea_cons ee_int (ea_cons ee_int ea_nil))) ⟨Pu, 500, 10, rr, rfl, G.ok, by omega, b1, rfl⟩) (pg_name nd rfl (by first | exact Or.inl rfl | exact Or.inr rfl) (by first | exact Or.inr rfl | exact Or.inl rfl))
    (fun i env' => ∃ x6, env' = [.fr (.p (scrP c.K c.scr c.ns)), .fr .row, .fr (.d (.tuple (tups Pu))), .fr (.hall Pu), .fr (.d (.list (tups ups))), .ow (.o (knP c P w (knOf ups (Rm.take i)))), x6, .no, .no, .no, .no, .no, .no, .no, .no, .no, .no]) ⟨_, rfl⟩ ?_ ?_)
  · rintro i z env' hz ⟨x6, rfl⟩
    have hz2 : Rm[i]? = some z.1 := by
      have e : Rm = (encI rr.1).map (·.1) := by rw [b2]; unfold encI encG; rw [List.map_map]; rfl
      rw [e, List.getElem?_map, hz]
      rfl
    have hm := List.mem_of_getElem? hz2
    have zl := G.rl z.1 hm
    have tk : Rm.take (i + 1) = Rm.take i ++ [z.1] := by rw [List.take_add_one, hz2]; rfl
    have kk : knOf ups (Rm.take (i + 1)) = knOf ups (Rm.take i) ++ [(lotOf ups z.1, z.1)] := by unfold knOf; rw [tk, List.map_append]; rfl
    have hn : lookN (knOf ups (Rm.take i)) (lotOf ups z.1) = none := lookN_none fun hmem => by
      rw [kn_keys_eq] at hmem
      have hn := G.rn
      have e : Rm = Rm.take (i + 1) ++ Rm.drop (i + 1) := (List.take_append_drop _ _).symm
      rw [e, tk, List.map_append, List.map_append] at hn
      exact (List.nodup_append.mp (List.nodup_append.mp hn).1).2.2 (lotOf ups z.1) hmem (lotOf ups z.1) (List.mem_singleton.mpr rfl) rfl
    have kl : (knOf ups (Rm.take i)).length < 100000 := by
      unfold knOf
      rw [List.length_map, List.length_take]
      have := G.r100
      omega
    refine ss_cons (s1_nput (kn := knOf ups (Rm.take i)) (lot := lotOf ups z.1) (d := z.1) 5 rfl (hu65 hr) (EE.en (ee_name 6) (imm_iT _)) (EE.en (EE.is (eg_callT cg_tuple B.tuple (ea_cons (EM.ee (em_lc (lc_ok (own := [("_law_arrow", 9)]) (fun a : List Int => decide (lbyM a z.1 < 0)) iT (src_list 9 ups iT (ef_name 4)) ?ok1 (pg1 9 nd) (by decide)
      (fun a ha s H C cl fp => ets_one (et_cmp og_lt (ee_call (S := sLBy) (k := 1) (xs := [.d (iT a), .d (iT z.1)]) L.by_ hr1 (ea_cons (ee_name 9) (ea_cons (ee_name 6) ea_nil)) ⟨a, z.1, rfl, ?sm, ?le, ?nl, rfl⟩) ee_int)) (fun a ha _ s H C cl fp => EE.en (ee_name 9) (imm_iT _)) (by omega)) nd)) ea_nil) back_e) rfl) (by rw [imm]; exact imm_tups _)) hn kl (ss_nil ?_))
    case ok1 => exact blkOk_by (N := nLaw) (sc := defScope stLaw) (by decide +kernel)
    case sm =>
      refine List.all_eq_true.mpr fun x hx => ?_
      have := (G.small a (G.sub a ha)).1 x hx
      rw [Bool.and_eq_true, decide_eq_true_eq, decide_eq_true_eq]
      omega
    case le => rw [G.lU a (G.sub a ha)]; exact (hallOk_len G.ok).2
    case nl => rw [G.lU a (G.sub a ha)]; exact zl
    rw [kk]
    exact ⟨_, rfl⟩
  rintro env' ⟨x6, rfl⟩
  have et : Rm.take (encI rr.1).length = Rm := by
    refine List.take_of_length_le ?_
    rw [b2]
    unfold encI encG
    rw [List.length_map, List.length_map]
    exact Nat.le_refl _
  rw [et]
  refine ss_freeze 5 rfl ?_
  refine ss_cons (s1_for (src_rng1 7 12 B.range ee_int (by omega)) (pg_name nd rfl (Or.inl rfl) (Or.inr rfl))
    (fun i env' => ∃ x7 x8 x9 x10 x11 x12 x13 x14 x15 x16, env' = envL c P w Pu ups (knOf ups Rm) x6 x7 x8 x9 x10 x11 x12 x13 x14 x15 x16) ⟨_, _, _, _, _, _, _, _, _, _, rfl⟩ ?_ ?_)
  · rintro i z env' hz ⟨x7, x8, x9, x10, x11, x12, x13, x14, x15, x16, rfl⟩
    exact law_turn L F hr fun _ _ _ _ _ _ _ _ _ => ⟨_, _, _, _, _, _, _, _, _, _, rfl⟩
  rintro env' ⟨x7, x8, x9, x10, x11, x12, x13, x14, x15, x16, rfl⟩
  exact ss_cons (s1_ret (EE.en ee_bl rfl) rfl)
end
end K33

set_option maxHeartbeats 0
/-! K33zt: the head: what the top has left. -/
namespace K33
open PySem PySem.Spec PyProof.Rows L2
def fnd (nm : Str) (i : Nat) : He.FnD := ⟨(nm, none), nm, nm, defArgs (top i), defBody (top i), defScope (top i)⟩
def fnm (m q : Str) (i : Nat) : He.FnD := ⟨("Hall", some m), m, q, defArgs (inClass (top 12) i), defBody (inClass (top 12) i), defScope (inClass (top 12) i)⟩
def fn1 : List He.FnD := [fnd "is_from" 10, fnd "are_pushes" 11, fnm "__init__" "Hall.__init__" 0, fnm "__len__" "Hall.__len__" 2, fnd "need_hall" 13, fnd "neighbours_of" 14, fnd "joined_to" 15, fnd "wings_of" 16, fnd "weight" 22, fnd "least_over" 23, fnd "word_of" 24, fnd "kind_of" 25, fnd "are_numbers" 27, fnd "changed" 28,
  fnd "need_ending" 30, fnd "unit_of" 31, fnd "turned" 32, fnd "all_up" 33, fnd "first_of" 35]
def fn2 : List He.FnD := [fnd "need_lot" 37, fnd "room_of" 38, fnd "together" 39, fnd "is_reason" 40, fnd "why_not" 41, fnd "shows_why" 42, fnd "_law_taken" 44, fnd "_law_pick" 45, fnd "_law_named" 46, fnd "_law_names" 47, fnd "_law_mixed" 48, fnd "_law_beside" 49, fnd "_law_ending" 50, fnd "_law_press" 51, fnd "_law_rooms" 52,
  fnd "_law_arrows" 53, fnd "_law_by" 54, fnd "_law_up" 55, fnd "_law_plus" 56, fnd "_law_reasons" 57, fnd "law" 58]
def fns : List He.FnD := fn1 ++ fn2
def fa1 : List He.Fa := [.free "len", .free "isinstance", .free "all", .free "tuple", .free "sorted", .free "range", .free "enumerate", .free "zip", .free "sum", .free "max", .free "min", .free "list", .free "int", .free "dict", .free "bool",
  .int "MOST_LAMPS" 8, .int "MOST_PUSH" 4, .int "MOST_LOAD" 400, .str "ENDING" "ending", .str "FLAT" "flat", .str "WILD" "wild", .glo "Hall", .cls "Hall", .noat "Hall" "told", .meth "Hall" "__len__", .meth "Hall" "__init__", .mkr "Hall"]
/-- a def by its name, that may be called -/
def fa2 : List He.Fa := fns.flatMap fun d => match d.at_.2 with
  | none => [.glo d.name, .keep d.name]
  | some _ => []
def fas : List He.Fa := fa1 ++ fa2
/-- isinstance of the class Hall -/
def insB (K : PySem.W.Frag) : Bool := He.eqO (PySem.W.findIn K (.ref (He.ga K "Hall")) "__class__") (some (some (.builtin "object.__class__"))) && He.eqO (PySem.W.specialIn K (.builtin "object.__class__") "__get__") (some (some (.builtin "getset_descriptor.__get__"))) &&
  decide (PySem.W.takesIn K (.builtin "object.__class__") = some true) && decide (PySem.W.mroIn K (He.ga K "Hall") (.type "object") = some true) && decide (PySem.W.kitOne K (.ref (He.ga K "Hall")) (.ref (He.ga K "Hall")) = some true)
abbrev AlH : Type := Bool × He.Al
def obsH (K : PySem.W.Frag) : AlH := (insB K, He.obsE fas fns K)
def valH : AlH := (true, He.valE fns)
def SaysH (K : PySem.W.Frag) : Prop := obsH K = valH
def obsHG (g : Addr → Option Obj) : AlH := obsH (He.frG g (He.asG g 5))
def hkH : PySem.W.Hook where
  α := AlH
  obs := fun s => obsHG s.heap.get?
  val := fun _ => valH
  says := fun _ h => ∃ K : PySem.W.Frag, K.In h ∧ SaysH K
  of := fun _ _ e => ⟨_, He.frG_in, e⟩
  keeps := fun _ _ _ ⟨K, hK, c⟩ k => ⟨K, PySem.W.Frag.In.keeps hK k, c⟩
def obT (s : PySem.W.SharedT) : AlH := obsHG (HandSHeadRun.getT s)
theorem obT_eq (s : PySem.W.SharedT) : obT s = hkH.obs s.abs := by
  have e : HandSHeadRun.getT s = s.abs.heap.get? := funext (HandSHeadRun.getT_eq s)
  show obsHG (HandSHeadRun.getT s) = obsHG s.abs.heap.get?
  rw [e]
abbrev rwR : PySem.W.OpenRow := PySem.W.OpenLaw.row PySem.Challenge.rw_kaleidorooms_k33_whole_lots_of_rooms
def loose1 : List Str := ["HallError", "BadPushes", "Lopsided", "BadHall", "NotEnding", "BadArrows", "MOST_LAMPS", "MOST_PUSH", "is_from", "are_pushes", "Hall", "need_hall", "neighbours_of", "joined_to", "wings_of", "ENDING", "FLAT", "WILD", "MOST_LOAD", "weight", "least_over", "word_of", "kind_of", "are_numbers", "changed"]
def loose2 : List Str := ["need_ending", "unit_of", "turned", "all_up", "first_of", "need_lot", "room_of", "together", "is_reason", "why_not", "shows_why", "_law_taken", "_law_pick", "_law_named", "_law_names", "_law_mixed", "_law_beside", "_law_ending", "_law_press", "_law_rooms", "_law_arrows", "_law_by", "_law_up", "_law_plus", "_law_reasons"]
def loose33 : List Str := loose1 ++ loose2
theorem run33 (w : World) : HandSHeadRun.RunEq rwR (PySem.W.view rwR.prog [58]) hkH obT 8000 loose33 w := by
  intro os
  kernel_rfl
end K33

set_option maxHeartbeats 0
/-! K33zu: the end. -/
namespace K33
open PySem PySem.Spec PyProof.Rows L2
section
variable {K : PySem.W.Frag} {h : Heap} {mg : Str → Option Value}
theorem SaysH.ins (c : SaysH K) : insB K = true := congrArg (fun z : AlH => z.1) c
theorem SaysH.says (c : SaysH K) : He.SaysE fas fns K := congrArg (fun z : AlH => z.2) c
theorem SaysH.fact (c : SaysH K) {f : He.Fa} (hf : f ∈ fas) : f.ok K = true := by
  obtain ⟨i, hi⟩ := List.mem_iff_getElem?.mp hf
  exact He.SaysE.fact c.says i hi
theorem fa1_mem {f : He.Fa} (i : Nat) (h : fa1[i]? = some f) : f ∈ fas := List.mem_append_left _ (List.mem_of_getElem? h)
theorem glo_mem {nm : Str} {ti : Nat} (hd : fnd nm ti ∈ fns) : He.Fa.glo nm ∈ fas ∧ He.Fa.keep nm ∈ fas :=
  ⟨List.mem_append_right _ (List.mem_flatMap.mpr ⟨_, hd, List.mem_cons_self⟩), List.mem_append_right _ (List.mem_flatMap.mpr ⟨_, hd, List.mem_cons_of_mem _ List.mem_cons_self⟩)⟩
/-- a def of the top -/
theorem df_of {ct : Ct} (eK : ct.K = K) (X : K.In h) (G : h.Ns mainGlobals mg) (c : SaysH K) {nm : Str} {ti : Nat} (i : Nat) (ps : List Str) (hd : fns[i]? = some (fnd nm ti))
    (hb : ∀ (kV doc pm : Value) (an : Option Addr) (cdv ct : Value) (us : List Value), us.length = ps.length → bindArgs (PySem.W.fnOf nm nm (defArgs (top ti)) (defBody (top ti)) (defScope (top ti)) .none kV doc pm an cdv ct) ⟨us, []⟩ = pure (ps.zip us)) :
    ∃ fd, Df ct mg nm (top ti) ps (He.ga K nm) fd := by
  subst eK
  obtain ⟨oc, od, osl, kV, doc, pm, an, cdv, ct', lk, hc⟩ := He.SaysE.def_ c.says i hd
  obtain ⟨m1, m2⟩ := glo_mem (List.mem_of_getElem? hd)
  have F : Fun ct.K nm nm (top ti) (He.ga ct.K nm) _ := fun_mk (st := top ti) lk hc (He.keep_ok (c.fact m2))
  exact ⟨_, F, F.binds hb, He.glo_ok X G (c.fact m1)⟩
/-- a method of the class Hall -/
theorem fm_of (c : SaysH K) {m q : Str} {ti : Nat} (i : Nat) (ps : List Str) (hd : fns[i]? = some (fnm m q ti)) (hm : He.Fa.meth "Hall" m ∈ fas)
    (hb : ∀ (kV doc pm : Value) (an : Option Addr) (cdv ct : Value) (us : List Value), us.length = ps.length → bindArgs (PySem.W.fnOf m q (defArgs (inClass (top 12) ti)) (defBody (inClass (top 12) ti)) (defScope (inClass (top 12) ti)) .none kV doc pm an cdv ct) ⟨us, []⟩ = pure (ps.zip us)) :
    ∃ fd, Fun K m q (inClass (top 12) ti) (He.ma K (He.ga K "Hall") m) fd ∧ Binds K fd ps [] ∧ Meth K (He.ga K "Hall") m (He.ma K (He.ga K "Hall") m) := by
  obtain ⟨oc, od, osl, kV, doc, pm, an, cdv, ct', lk, hc⟩ := He.SaysE.def_ c.says i hd
  have M := He.meth_ok (c.fact hm)
  have F : Fun K m q (inClass (top 12) ti) (He.ma K (He.ga K "Hall") m) _ := fun_mk (st := inClass (top 12) ti) lk hc M.kp
  exact ⟨_, F, F.binds hb, M⟩
theorem bl_of (X : K.In h) (G : h.Ns mainGlobals mg) (c : SaysH K) : Bl mg :=
  ⟨He.free_ok X G (c.fact (fa1_mem 0 rfl)), He.free_ok X G (c.fact (fa1_mem 1 rfl)), He.free_ok X G (c.fact (fa1_mem 2 rfl)), He.free_ok X G (c.fact (fa1_mem 3 rfl)), He.free_ok X G (c.fact (fa1_mem 4 rfl)), He.free_ok X G (c.fact (fa1_mem 5 rfl)), He.free_ok X G (c.fact (fa1_mem 6 rfl)), He.free_ok X G (c.fact (fa1_mem 7 rfl)),
    He.free_ok X G (c.fact (fa1_mem 8 rfl)), He.free_ok X G (c.fact (fa1_mem 9 rfl)), He.free_ok X G (c.fact (fa1_mem 10 rfl)), He.free_ok X G (c.fact (fa1_mem 11 rfl)), He.free_ok X G (c.fact (fa1_mem 12 rfl)), He.free_ok X G (c.fact (fa1_mem 13 rfl)), He.free_ok X G (c.fact (fa1_mem 14 rfl))⟩
theorem gc_of (X : K.In h) (G : h.Ns mainGlobals mg) (c : SaysH K) : Gc mg :=
  ⟨He.int_ok X G (c.fact (fa1_mem 15 rfl)), He.int_ok X G (c.fact (fa1_mem 16 rfl)), He.int_ok X G (c.fact (fa1_mem 17 rfl)), He.str_ok X G (c.fact (fa1_mem 18 rfl)), He.str_ok X G (c.fact (fa1_mem 19 rfl)), He.str_ok X G (c.fact (fa1_mem 20 rfl))⟩
theorem hc_of (X : K.In h) (G : h.Ns mainGlobals mg) (c : SaysH K) : Hc K mg (He.ga K "Hall") := by
  have cl := He.cls_ok (c.fact (fa1_mem 22 rfl))
  have z := c.ins
  unfold insB at z
  simp only [Bool.and_eq_true, decide_eq_true_eq] at z
  obtain ⟨⟨⟨⟨z1, z2⟩, z3⟩, z4⟩, z5⟩ := z
  exact ⟨cl, He.noat_ok (c.fact (fa1_mem 23 rfl)), ⟨cl, He.eqO_ok z1, He.eqO_ok z2, z3, z4, z5⟩, He.glo_ok X G (c.fact (fa1_mem 21 rfl))⟩
end
section
variable {K : PySem.W.Frag} {h : Heap} {mg : Str → Option Value} {P : Program} {w : World} {base : Heap}
/-- all defs that the law reaches -/
theorem calls_of (X : K.In h) (G : h.Ns mainGlobals mg) (c : SaysH K) (scr : Addr) (ns : List Int) : Calls33 ⟨K, He.ga K "Hall", scr, ns⟩ P w mg base := by
  have B := bl_of X G c
  have Gx := gc_of X G c
  have T := hc_of X G c
  obtain ⟨_, D0⟩ := df_of (ct := ⟨K, He.ga K "Hall", scr, ns⟩) rfl X G c (nm := "is_from") (ti := 10) 0 ["value", "low", "high"] rfl fun _ _ _ _ _ _ us hl => match us, hl with | [_, _, _], _ => rfl
  obtain ⟨_, D1⟩ := df_of (ct := ⟨K, He.ga K "Hall", scr, ns⟩) rfl X G c (nm := "are_pushes") (ti := 11) 1 ["value", "lamp", "many"] rfl fun _ _ _ _ _ _ us hl => match us, hl with | [_, _, _], _ => rfl
  obtain ⟨_, F2, b2, M2⟩ := fm_of c (m := "__init__") (q := "Hall.__init__") (ti := 0) 2 ["self", "pushes"] rfl (fa1_mem 25 rfl) fun _ _ _ _ _ _ us hl => match us, hl with | [_, _], _ => rfl
  obtain ⟨_, F3, b3, M3⟩ := fm_of c (m := "__len__") (q := "Hall.__len__") (ti := 2) 3 ["self"] rfl (fa1_mem 24 rfl) fun _ _ _ _ _ _ us hl => match us, hl with | [_], _ => rfl
  obtain ⟨_, D4⟩ := df_of (ct := ⟨K, He.ga K "Hall", scr, ns⟩) rfl X G c (nm := "need_hall") (ti := 13) 4 ["hall"] rfl fun _ _ _ _ _ _ us hl => match us, hl with | [_], _ => rfl
  obtain ⟨_, D5⟩ := df_of (ct := ⟨K, He.ga K "Hall", scr, ns⟩) rfl X G c (nm := "neighbours_of") (ti := 14) 5 ["hall", "lamp"] rfl fun _ _ _ _ _ _ us hl => match us, hl with | [_, _], _ => rfl
  obtain ⟨_, D6⟩ := df_of (ct := ⟨K, He.ga K "Hall", scr, ns⟩) rfl X G c (nm := "joined_to") (ti := 15) 6 ["hall", "lamp"] rfl fun _ _ _ _ _ _ us hl => match us, hl with | [_, _], _ => rfl
  obtain ⟨_, D7⟩ := df_of (ct := ⟨K, He.ga K "Hall", scr, ns⟩) rfl X G c (nm := "wings_of") (ti := 16) 7 ["hall"] rfl fun _ _ _ _ _ _ us hl => match us, hl with | [_], _ => rfl
  obtain ⟨_, D8⟩ := df_of (ct := ⟨K, He.ga K "Hall", scr, ns⟩) rfl X G c (nm := "weight") (ti := 22) 8 ["hall", "wing", "load", "lamp"] rfl fun _ _ _ _ _ _ us hl => match us, hl with | [_, _, _, _], _ => rfl
  obtain ⟨_, D9⟩ := df_of (ct := ⟨K, He.ga K "Hall", scr, ns⟩) rfl X G c (nm := "least_over") (ti := 23) 9 ["hall", "wing", "more"] rfl fun _ _ _ _ _ _ us hl => match us, hl with | [_, _, _], _ => rfl
  obtain ⟨_, D10⟩ := df_of (ct := ⟨K, He.ga K "Hall", scr, ns⟩) rfl X G c (nm := "word_of") (ti := 24) 10 ["hall", "wing", "load"] rfl fun _ _ _ _ _ _ us hl => match us, hl with | [_, _, _], _ => rfl
  obtain ⟨_, D11⟩ := df_of (ct := ⟨K, He.ga K "Hall", scr, ns⟩) rfl X G c (nm := "kind_of") (ti := 25) 11 ["hall", "wing"] rfl fun _ _ _ _ _ _ us hl => match us, hl with | [_, _], _ => rfl
  obtain ⟨_, D12⟩ := df_of (ct := ⟨K, He.ga K "Hall", scr, ns⟩) rfl X G c (nm := "are_numbers") (ti := 27) 12 ["hall", "value"] rfl fun _ _ _ _ _ _ us hl => match us, hl with | [_, _], _ => rfl
  obtain ⟨_, D13⟩ := df_of (ct := ⟨K, He.ga K "Hall", scr, ns⟩) rfl X G c (nm := "changed") (ti := 28) 13 ["hall", "numbers", "lamp"] rfl fun _ _ _ _ _ _ us hl => match us, hl with | [_, _, _], _ => rfl
  obtain ⟨_, D14⟩ := df_of (ct := ⟨K, He.ga K "Hall", scr, ns⟩) rfl X G c (nm := "need_ending") (ti := 30) 14 ["hall"] rfl fun _ _ _ _ _ _ us hl => match us, hl with | [_], _ => rfl
  obtain ⟨_, D15⟩ := df_of (ct := ⟨K, He.ga K "Hall", scr, ns⟩) rfl X G c (nm := "unit_of") (ti := 31) 15 ["hall", "lamp"] rfl fun _ _ _ _ _ _ us hl => match us, hl with | [_, _], _ => rfl
  obtain ⟨_, D16⟩ := df_of (ct := ⟨K, He.ga K "Hall", scr, ns⟩) rfl X G c (nm := "turned") (ti := 32) 16 ["hall", "arrow", "lamp"] rfl fun _ _ _ _ _ _ us hl => match us, hl with | [_, _, _], _ => rfl
  obtain ⟨_, D17⟩ := df_of (ct := ⟨K, He.ga K "Hall", scr, ns⟩) rfl X G c (nm := "all_up") (ti := 33) 17 ["hall"] rfl fun _ _ _ _ _ _ us hl => match us, hl with | [_], _ => rfl
  obtain ⟨_, D18⟩ := df_of (ct := ⟨K, He.ga K "Hall", scr, ns⟩) rfl X G c (nm := "first_of") (ti := 35) 18 ["hall"] rfl fun _ _ _ _ _ _ us hl => match us, hl with | [_], _ => rfl
  obtain ⟨_, D19⟩ := df_of (ct := ⟨K, He.ga K "Hall", scr, ns⟩) rfl X G c (nm := "need_lot") (ti := 37) 19 ["hall", "lot"] rfl fun _ _ _ _ _ _ us hl => match us, hl with | [_, _], _ => rfl
  obtain ⟨_, D20⟩ := df_of (ct := ⟨K, He.ga K "Hall", scr, ns⟩) rfl X G c (nm := "room_of") (ti := 38) 20 ["hall", "lot"] rfl fun _ _ _ _ _ _ us hl => match us, hl with | [_, _], _ => rfl
  obtain ⟨_, D21⟩ := df_of (ct := ⟨K, He.ga K "Hall", scr, ns⟩) rfl X G c (nm := "together") (ti := 39) 21 ["one", "other"] rfl fun _ _ _ _ _ _ us hl => match us, hl with | [_, _], _ => rfl
  obtain ⟨_, D22⟩ := df_of (ct := ⟨K, He.ga K "Hall", scr, ns⟩) rfl X G c (nm := "is_reason") (ti := 40) 22 ["lot", "one", "other", "whole"] rfl fun _ _ _ _ _ _ us hl => match us, hl with | [_, _, _, _], _ => rfl
  obtain ⟨_, D23⟩ := df_of (ct := ⟨K, He.ga K "Hall", scr, ns⟩) rfl X G c (nm := "why_not") (ti := 41) 23 ["hall", "lot"] rfl fun _ _ _ _ _ _ us hl => match us, hl with | [_, _], _ => rfl
  obtain ⟨_, D24⟩ := df_of (ct := ⟨K, He.ga K "Hall", scr, ns⟩) rfl X G c (nm := "shows_why") (ti := 42) 24 ["hall", "lot", "value"] rfl fun _ _ _ _ _ _ us hl => match us, hl with | [_, _, _], _ => rfl
  obtain ⟨_, D25⟩ := df_of (ct := ⟨K, He.ga K "Hall", scr, ns⟩) rfl X G c (nm := "_law_taken") (ti := 44) 25 ["_law_row", "_law_many"] rfl fun _ _ _ _ _ _ us hl => match us, hl with | [_, _], _ => rfl
  obtain ⟨_, D26⟩ := df_of (ct := ⟨K, He.ga K "Hall", scr, ns⟩) rfl X G c (nm := "_law_pick") (ti := 45) 26 ["_law_row", "_law_some"] rfl fun _ _ _ _ _ _ us hl => match us, hl with | [_, _], _ => rfl
  obtain ⟨_, D27⟩ := df_of (ct := ⟨K, He.ga K "Hall", scr, ns⟩) rfl X G c (nm := "_law_named") (ti := 46) 27 ["_law_letter", "_law_many"] rfl fun _ _ _ _ _ _ us hl => match us, hl with | [_, _], _ => rfl
  obtain ⟨_, D28⟩ := df_of (ct := ⟨K, He.ga K "Hall", scr, ns⟩) rfl X G c (nm := "_law_names") (ti := 47) 28 ["_law_most"] rfl fun _ _ _ _ _ _ us hl => match us, hl with | [_], _ => rfl
  obtain ⟨_, D29⟩ := df_of (ct := ⟨K, He.ga K "Hall", scr, ns⟩) rfl X G c (nm := "_law_mixed") (ti := 48) 29 ["_law_row", "_law_pushes"] rfl fun _ _ _ _ _ _ us hl => match us, hl with | [_, _], _ => rfl
  obtain ⟨_, D30⟩ := df_of (ct := ⟨K, He.ga K "Hall", scr, ns⟩) rfl X G c (nm := "_law_beside") (ti := 49) 30 ["_law_one", "_law_other"] rfl fun _ _ _ _ _ _ us hl => match us, hl with | [_, _], _ => rfl
  obtain ⟨_, D31⟩ := df_of (ct := ⟨K, He.ga K "Hall", scr, ns⟩) rfl X G c (nm := "_law_ending") (ti := 50) 31 ["_law_row", "_law_most"] rfl fun _ _ _ _ _ _ us hl => match us, hl with | [_, _], _ => rfl
  obtain ⟨_, D32⟩ := df_of (ct := ⟨K, He.ga K "Hall", scr, ns⟩) rfl X G c (nm := "_law_press") (ti := 51) 32 ["_law_pushes", "_law_numbers", "_law_lamp"] rfl fun _ _ _ _ _ _ us hl => match us, hl with | [_, _, _], _ => rfl
  obtain ⟨_, D33⟩ := df_of (ct := ⟨K, He.ga K "Hall", scr, ns⟩) rfl X G c (nm := "_law_rooms") (ti := 52) 33 ["_law_pushes", "_law_most", "_law_deep"] rfl fun _ _ _ _ _ _ us hl => match us, hl with | [_, _, _], _ => rfl
  obtain ⟨_, D34⟩ := df_of (ct := ⟨K, He.ga K "Hall", scr, ns⟩) rfl X G c (nm := "_law_arrows") (ti := 53) 34 ["_law_pushes", "_law_most"] rfl fun _ _ _ _ _ _ us hl => match us, hl with | [_, _], _ => rfl
  obtain ⟨_, D35⟩ := df_of (ct := ⟨K, He.ga K "Hall", scr, ns⟩) rfl X G c (nm := "_law_by") (ti := 54) 35 ["_law_arrow", "_law_numbers"] rfl fun _ _ _ _ _ _ us hl => match us, hl with | [_, _], _ => rfl
  obtain ⟨_, D36⟩ := df_of (ct := ⟨K, He.ga K "Hall", scr, ns⟩) rfl X G c (nm := "_law_up") (ti := 55) 36 ["_law_pushes"] rfl fun _ _ _ _ _ _ us hl => match us, hl with | [_], _ => rfl
  obtain ⟨_, D37⟩ := df_of (ct := ⟨K, He.ga K "Hall", scr, ns⟩) rfl X G c (nm := "_law_plus") (ti := 56) 37 ["_law_one", "_law_other"] rfl fun _ _ _ _ _ _ us hl => match us, hl with | [_, _], _ => rfl
  obtain ⟨_, D38⟩ := df_of (ct := ⟨K, He.ga K "Hall", scr, ns⟩) rfl X G c (nm := "_law_reasons") (ti := 57) 38 ["_law_up_here", "_law_lot"] rfl fun _ _ _ _ _ _ us hl => match us, hl with | [_, _], _ => rfl
  have Ln1 : Ln ⟨K, He.ga K "Hall", scr, ns⟩ P w mg base 1 := ⟨_, _, _, fn_len F3 B T, M3.at_, M3.fn, b3⟩
  have o0 := own_from (P := P) (w := w) (base := base) D0 B
  have o1 := own_pushes (P := P) (w := w) (base := base) D1 B Gx o0
  have I2 : In ⟨K, He.ga K "Hall", scr, ns⟩ P w mg base := ⟨_, _, fn_init F2 B Gx T o1, He.mkr_ok (c.fact (fa1_mem 26 rfl)), b2⟩
  have o4 := own_needHall (P := P) (w := w) (base := base) D4 B T
  have o5 := own_nb (P := P) (w := w) (base := base) D5 B T
  have o6 := own_join (P := P) (w := w) (base := base) D6 B o5
  have o7 := own_wings (P := P) (w := w) (base := base) D7 B Ln1 o6
  have o8 := own_weight (P := P) (w := w) (base := base) D8 B T
  have o9 := own_least (P := P) (w := w) (base := base) D9 B Gx o8
  have o10 := own_word (P := P) (w := w) (base := base) D10 B Gx o8
  have o11 := own_kind (P := P) (w := w) (base := base) D11 Gx o9 o10
  have o12 := own_areN (P := P) (w := w) (base := base) D12 B T Ln1
  have o13 := own_changed (P := P) (w := w) (base := base) D13 B T
  have o14 := own_needEnd (P := P) (w := w) (base := base) D14 B Gx o4 o7 o11
  have o15 := own_unit (P := P) (w := w) (base := base) D15 B T Ln1
  have o16 := own_turned (P := P) (w := w) (base := base) D16 B T
  have o17 := own_up (P := P) (w := w) (base := base) D17 B Ln1 o15 o16
  have o18 := own_first (P := P) (w := w) (base := base) D18 B Ln1
  have o19 := own_needLot (P := P) (w := w) (base := base) D19 B o14 o17 o12
  have o20 := own_room (P := P) (w := w) (base := base) D20 B Ln1 o19 o15 o16 o18 o13
  have o21 := own_tog (P := P) (w := w) (base := base) D21 B
  have o22 := own_reason (P := P) (w := w) (base := base) D22
  have o23 := own_why (P := P) (w := w) (base := base) D23 B o19 o21 o22
  have o24 := own_shows (P := P) (w := w) (base := base) D24 B o19 o12 o21 o22
  have o25 := own_taken (P := P) (w := w) (base := base) D25 B
  have o26 := own_pick (P := P) (w := w) (base := base) D26 B o25
  have o27 := own_named (P := P) (w := w) (base := base) D27 B
  have o28 := own_names (P := P) (w := w) (base := base) D28 B
  have o29 := own_mixed (P := P) (w := w) (base := base) D29 B o25
  have o30 := own_beside (P := P) (w := w) (base := base) D30 B
  have o31 := own_ending (P := P) (w := w) (base := base) D31 B o25 o26 o28 o27 o30 o29
  have o32 := own_press (P := P) (w := w) (base := base) D32 B
  have o33 := own_lrooms (P := P) (w := w) (base := base) D33 B o32
  have o34 := own_larrows (P := P) (w := w) (base := base) D34 B
  have o35 := own_lby (P := P) (w := w) (base := base) D35 B
  have o36 := own_lup (P := P) (w := w) (base := base) D36 B o34
  have o37 := own_lplus (P := P) (w := w) (base := base) D37 B
  have o38 := own_lreas (P := P) (w := w) (base := base) D38 B o37
  exact ⟨B, T, I2, o31, o36, o33, o35, o25, o26, o38, o37, o20, o23, o24⟩
def spLawF (K : PySem.W.Frag) : Sp := fun vs H Q _ => ∃ (a : Addr) (ns : List Int), vs = [.ref a] ∧ SqL K H a (ns.map V.int) ∧ ∀ H', Q (.bl true) H'
theorem facts33 {f : Addr} (X : K.In h) (G : h.Ns mainGlobals mg) (hfa : mg ("law" : Str) = some (.ref f)) (c : SaysH K) :
    ∃ fd : FuncData, (∀ (s : Shared) (v : Value), BindsTo s fd ⟨[v], []⟩ [("_law_script", v)]) ∧ ∀ base : Heap, K.In base → base.Ns mainGlobals mg → FnOk P w K mg base CX0 7 f fd ["_law_script"] (spLawF K) := by
  obtain ⟨oc, od, osl, kV, doc, pm, an, cdv, ct', lk, hc⟩ := He.SaysE.def_ c.says 39 (d := fnd "law" 58) rfl
  obtain ⟨m1, m2⟩ := glo_mem (nm := "law") (ti := 58) (List.mem_of_getElem? (i := 39) rfl)
  have F : Fun K "law" "law" (top 58) (He.ga K "law") _ := fun_mk (st := top 58) lk hc (He.keep_ok (c.fact m2))
  have e := hfa.symm.trans (He.glo_ok X G (c.fact m1))
  cases e
  refine ⟨PySem.W.fnOf "law" "law" (defArgs (top 58)) (defBody (top 58)) (defScope (top 58)) .none kV doc pm an cdv ct', fun s v => .of_eq rfl, fun base _ _ => ⟨fun vs H Q E q => ?_, fun A outer s H args us vs Q E hr e0 hb hv q => ?_⟩⟩
  · obtain ⟨a, ns, rfl, _⟩ := q
    rfl
  · obtain ⟨a, ns, rfl, hS, hQ⟩ := q
    have L : Calls33 ⟨K, He.ga K "Hall", a, ns⟩ P w mg base := calls_of X G c a ns
    refine (fn_law33 (c := ⟨K, He.ga K "Hall", a, ns⟩) L F).run A outer s H args us [.ref a] Q E hr e0 hb hv ⟨[.p (scrP K a ns)], Good, ⟨rfl, rfl⟩, .cons ⟨rfl, hS⟩ .nil, fun v H' x hx s rn => ?_⟩
    subst hx
    cases (show Dq K H' v (.bool true) from RN.rv (c := ⟨K, He.ga K "Hall", a, ns⟩) rn)
    exact hQ H'
end
end K33
open PySem PySem.W PySem.Calls PyProof.Rows
theorem PySem.Challenge.cw_kaleidorooms_k33_whole_lots_of_rooms_holds : PySem.Challenge.rw_kaleidorooms_k33_whole_lots_of_rooms.Holds := by
  w_on; o_law
  refine HandSHeadRun.head_any (r := OpenLaw.row PySem.Challenge.rw_kaleidorooms_k33_whole_lots_of_rooms) (q := view (OpenLaw.row PySem.Challenge.rw_kaleidorooms_k33_whole_lots_of_rooms).prog [58]) (H := K33.hkH) (ob := K33.obT) (M := 8000) (loose := K33.loose33) (d := HandSHeadRun.topDef (OpenLaw.row PySem.Challenge.rw_kaleidorooms_k33_whole_lots_of_rooms).prog 58) (kwd := []) K33.obT_eq
    (by kernel_rfl) (fun s => by kernel_rfl) K33.run33 (by kernel_rfl) (by kernel_rfl) (by kernel_rfl) (by rfl) (by first | assumption | decide +kernel) (by decide +kernel) ⟨rfl, rfl, rfl, rfl, rfl, by decide +kernel⟩ ?hw ?hc
  case hw => w_witness2
  case hc =>
    refine L2.walk_ofE (l := PySem.Challenge.rw_kaleidorooms_k33_whole_lots_of_rooms) (n := 63) (k := 7) (x := "_law_script") (CX := L2.CX0) rfl (by decide) (by kernel_rfl) ⟨rfl, by decide, by decide⟩ ?F (fun _ _ _ _ z => z)
    intro w mg fa h Y G hmg0
    obtain ⟨K, KX, c⟩ := Y
    have hmg : mg ("law" : PySem.Str) = some (.ref fa) := by
      have e : (HandSHeadRun.topDef (OpenLaw.row PySem.Challenge.rw_kaleidorooms_k33_whole_lots_of_rooms).prog 58).name = ("law" : PySem.Str) := by kernel_rfl
      rw [← e]
      exact hmg0
    obtain ⟨fd, hb, hF⟩ := K33.facts33 (P := (PySem.Challenge.rw_kaleidorooms_k33_whole_lots_of_rooms).prog) (w := w) KX G hmg c
    exact ⟨K, fd, K33.spLawF K, KX, hb, fun H a ns hl _ hS => ⟨a, ns, rfl, hS, fun _ => rfl⟩, hF⟩
