import PyProof.Rows.All
import Wide.All
import OpenK.AllK
import Wide.FinOn
import PyProof.EqAt
import PyProof.EqKinds
import PyProof.TupleCall
import HandS.ForMost
import HandS.Exc
import HandS.TryOnly
import HandS.ExcOwn
import HandS.WordsExc
import HandS.CallSlots
import HandS.TryMany
import HandS.IsInst
import HandS.FStr
import HandS.Walk
import HandS.TupAny
import KE.KEqNest
import KE.KEqDict
import PyProof.NeKinds
import HandS.ExcCtx
import HandS.SuiteRaise
import HandS.RaiseFrom
import KE.KExcSuper
import HandS.ExcField
import HandS.ExcInit
import HandS.Defaults
import HandS.RaiseMore
import KE.KExcIs
import HandS.ExcValue
import HandS.Dict
import HandS.WordsDict
import HandS.Small
import HandS.More
import KE.KStateDown
import HandS.Head0
import HandS.Head1
import HandS.Head2
import HandS.HeadEnd
import HandS.HeadHook1
import HandS.HeadHook2
import HandS.HeadHook3
import HandS.Style
import PySem.Challenge.RW_hungparts_k04_exceptions_and_their_field
set_option Elab.async false
set_option linter.all false
set_option maxRecDepth 100000
set_option maxHeartbeats 4000000
namespace SD
open PySem PySem.Spec PyProof.Rows L2
/-! ### data, cells, results -/
abbrev Cs := List Nat
def mkS (s : Cs) : Str := ⟨s.toArray⟩
inductive D where
  | non | bl (b : Bool) | int (i : Int) | str (x : Cs) | tup (ds : List D) | lst (ds : List D) | dct (kvs : List (Key × D)) | scr (ns : List Int) | obj (c : Str) (fs : List (Str × D)) | exv (c : Str) (fs : List (Str × D))
inductive U where
  | dat (d : D) | cell (k : Nat) | exn (a dd : Addr) (fs : List (Str × D)) | tup (us : List U)
/-- what stands in a cell: a list or a dict of data, an instance, a list of anything, a dict of data that is locked -/
inductive O where
  | lst (ds : List D) | dct (kvs : List (Key × D)) | obj (c : Str) (fs : List (Str × U)) | lsu (us : List U) | dcf (kvs : List (Key × D))
abbrev Mem := List O
abbrev En := List (Option U)
inductive Out (α : Type) where
  | ok (a : α) (m : Mem) | exc (c : Str) (fs : List (Str × D)) (m : Mem) | bad
inductive SOut where
  | nx (ρ : En) (m : Mem) | rt (u : U) (m : Mem) | bk (ρ : En) (m : Mem) | ct (ρ : En) (m : Mem) | exc (c : Str) (fs : List (Str × D)) (ρ : En) (m : Mem) | bad
def Out.bind {α β : Type} (o : Out α) (k : α → Mem → Out β) : Out β := match o with
  | .ok a m => k a m
  | .exc c fs m => .exc c fs m
  | .bad => .bad
abbrev Ev := En → Mem → Out U
abbrev Tv := En → Mem → Out Bool
abbrev Av := En → Mem → Out (List U)
abbrev Lv := En → Mem → Out (List D)
abbrev Sv := En → Mem → SOut
/-! ### how data lie in the heap -/
/-- the class named c stands at C; it is none of the built-in ones -/
structure CInfo (K : PySem.W.Frag) (c : Str) (C : Addr) : Prop where
  ns : PySem.W.nsIn K mainGlobals c = some (some (.ref C))
  cls : Cls K C
  isi : ∀ T ∈ (["int", "bool", "str", "tuple", "list", "dict"] : List String), PySem.W.kitOne K (.ref C) (.type T) = some false
  ca : PySem.W.findIn K (.ref C) "__class__" = some (some (.builtin "object.__class__"))
  cg : PySem.W.specialIn K (.builtin "object.__class__") "__get__" = some (some (.builtin "getset_descriptor.__get__"))
  ct : PySem.W.takesIn K (.builtin "object.__class__") = some true
  cm : PySem.W.mroIn K C (.type "object") = some true
theorem CInfo.inj {K : PySem.W.Frag} {c : Str} {C C' : Addr} (a : CInfo K c C) (b : CInfo K c C') : C = C' := by
  have := a.ns.symm.trans b.ns
  cases this; rfl
/-- an own exception's object at a, its dict at d -/
def ExAt (C a : Addr) (d : Option Addr) (h : Heap) : Prop := ∃ (oe : Obj) (vs : Array Value), h.get? a = some oe ∧ oe.cls = .ref C ∧ oe.dict = d ∧ oe.data = .fields vs
section
variable (K : PySem.W.Frag) (ξ : List Addr)
mutual
inductive Rep (H : Hp) (μ : List Addr) : V → D → Prop
  | non : Rep H μ .non .non
  | bl (b : Bool) : Rep H μ (.bl b) (.bl b)
  | int (i : Int) : Rep H μ (.int i) (.int i)
  | str (x : Cs) : Rep H μ (.str (mkS x)) (.str x)
  | tup {a : Addr} {xs : List V} {ds : List D} : a ∉ ξ ++ μ → Rd H a (.tup xs) → RepL H μ xs ds → Rep H μ (.ref a) (.tup ds)
  | ktup {a : Addr} {xs : List V} {ds : List D} : (∀ G : Hp, SqT K G a xs) → RepL H μ xs ds → Rep H μ (.ref a) (.tup ds)
  | lst {a : Addr} {xs : List V} {ds : List D} : a ∉ ξ ++ μ → H a = some (.lst xs) → RepL H μ xs ds → Rep H μ (.ref a) (.lst ds)
  | dct {a : Addr} {o : Obj} {kvs : List (Key × V)} {ds : List (Key × D)} : a ∉ ξ ++ μ → H a = some (.frz o (.dK kvs)) → RepK H μ kvs ds → Rep H μ (.ref a) (.dct ds)
  | scr {a : Addr} {ns : List Int} : a ∉ ξ ++ μ → Rd H a (.lst (ns.map V.int)) → Rep H μ (.ref a) (.scr ns)
  | kscr {a : Addr} {ns : List Int} : (∀ G : Hp, SqL K G a (ns.map V.int)) → Rep H μ (.ref a) (.scr ns)
  | obj {a C dx : Addr} {c : Str} {vs : List (Str × V)} {fs : List (Str × D)} : a ∉ ξ ++ μ → CInfo K c C → H a = some (.ins C dx vs) → RepF H μ vs fs → Rep H μ (.ref a) (.obj c fs)
  | exv {a C dx : Addr} {c : Str} {vs : List (Str × V)} {fs : List (Str × D)} {φ : Heap → Prop} : a ∉ ξ ++ μ → dx ∉ ξ ++ μ → PySem.W.nsIn K mainGlobals c = some (some (.ref C)) ∧ (∀ h, φ h → ExAt C a (some dx) h) → H a = some (.ext φ) → H dx = some (.xd vs) → RepF H μ vs fs → Rep H μ (.ref a) (.exv c fs)
  | exv0 {a C : Addr} {c : Str} {φ : Heap → Prop} : a ∉ ξ ++ μ → PySem.W.nsIn K mainGlobals c = some (some (.ref C)) ∧ (∀ h, φ h → ExAt C a none h) → H a = some (.ext φ) → Rep H μ (.ref a) (.exv c [])
inductive RepL (H : Hp) (μ : List Addr) : List V → List D → Prop
  | nil : RepL H μ [] []
  | cons {v : V} {d : D} {vs : List V} {ds : List D} : Rep H μ v d → RepL H μ vs ds → RepL H μ (v :: vs) (d :: ds)
inductive RepK (H : Hp) (μ : List Addr) : List (Key × V) → List (Key × D) → Prop
  | nil : RepK H μ [] []
  | cons {k : Key} {v : V} {d : D} {vs : List (Key × V)} {ds : List (Key × D)} : Rep H μ v d → RepK H μ vs ds → RepK H μ ((k, v) :: vs) ((k, d) :: ds)
/-- fields by name -/
inductive RepF (H : Hp) (μ : List Addr) : List (Str × V) → List (Str × D) → Prop
  | nil : RepF H μ [] []
  | cons {f : Str} {v : V} {d : D} {vs : List (Str × V)} {ds : List (Str × D)} : Rep H μ v d → RepF H μ vs ds → RepF H μ ((f, v) :: vs) ((f, d) :: ds)
end
mutual
inductive RepU (H : Hp) (μ : List Addr) : V → U → Prop
  | dat {v : V} {d : D} : Rep K ξ H μ v d → RepU H μ v (.dat d)
  | cell {a : Addr} {k : Nat} : μ[k]? = some a → RepU H μ (.ref a) (.cell k)
  | exn {a dd : Addr} {vs : List (Str × V)} {fs : List (Str × D)} : dd ∉ ξ ++ μ → H dd = some (.xd vs) → RepF K ξ H μ vs fs → RepU H μ (.ref a) (.exn a dd fs)
  | tup {a : Addr} {xs : List V} {us : List U} : a ∉ ξ ++ μ → Rd H a (.tup xs) → RepUs H μ xs us → RepU H μ (.ref a) (.tup us)
inductive RepUs (H : Hp) (μ : List Addr) : List V → List U → Prop
  | nil : RepUs H μ [] []
  | cons {v : V} {u : U} {vs : List V} {us : List U} : RepU H μ v u → RepUs H μ vs us → RepUs H μ (v :: vs) (u :: us)
end
inductive RepFU (H : Hp) (μ : List Addr) : List (Str × V) → List (Str × U) → Prop
  | nil : RepFU H μ [] []
  | cons {f : Str} {v : V} {u : U} {vs : List (Str × V)} {us : List (Str × U)} : RepU K ξ H μ v u → RepFU H μ vs us → RepFU H μ ((f, v) :: vs) ((f, u) :: us)
/-- nothing of the written part is tracked -/
def KH (H : Hp) : Prop := ∀ b o, K.lookup b = some o → H b = none
/-- a step: what was tracked outside the cells stands; new cells are new -/
structure Nxt (H : Hp) (μ : List Addr) (H' : Hp) (μ' : List Addr) : Prop where
  same : ∀ b o, b ∉ μ → H b = some o → H' b = some o
  pre : ∃ ν, μ' = μ ++ ν ∧ ∀ a ∈ ν, a ∉ μ ∧ H a = none ∧ K.lookup a = none
  frz : ∀ b o u, H b = some (.frz o u) → H' b = some (.frz o u)
inductive RepO (H : Hp) (μ : List Addr) : Addr → O → Prop
  | lst {a : Addr} {xs : List V} {ds : List D} : H a = some (.lst xs) → RepL K ξ H μ xs ds → RepO H μ a (.lst ds)
  | dct {a : Addr} {xs : List (Key × V)} {ds : List (Key × D)} : H a = some (.dK xs) → RepK K ξ H μ xs ds → RepO H μ a (.dct ds)
  | obj {a C dx : Addr} {c : Str} {vs : List (Str × V)} {fs : List (Str × U)} : CInfo K c C → H a = some (.ins C dx vs) → RepFU K ξ H μ vs fs → RepO H μ a (.obj c fs)
  | lsu {a : Addr} {xs : List V} {us : List U} : H a = some (.lst xs) → RepUs K ξ H μ xs us → RepO H μ a (.lsu us)
  | dcf {a : Addr} {o : Obj} {xs : List (Key × V)} {ds : List (Key × D)} : H a = some (.frz o (.dK xs)) → RepK K ξ H μ xs ds → RepO H μ a (.dcf ds)
structure RelM (H : Hp) (μ : List Addr) (M : Mem) : Prop where
  len : μ.length = M.length
  nd : μ.Nodup
  xt : ∀ a ∈ ξ, (∃ o, H a = some o) ∧ a ∉ μ
  at_ : ∀ (k : Nat) (a : Addr) (o : O), μ[k]? = some a → M[k]? = some o → RepO K ξ H μ a o
structure RelE (H : Hp) (μ : List Addr) (σ : L2.St) (ρ : En) : Prop where
  len : σ.length = ρ.length
  at_ : ∀ (i : Nat) (u : U), ρ[i]? = some (some u) → ∃ v, σ[i]? = some (some v) ∧ RepU K ξ H μ v u
/-- .. no dict, or one with fields -/
def RepX (H : Hp) (μ : List Addr) (d : Option Addr) (fs : List (Str × D)) : Prop := (d = none ∧ fs = []) ∨ ∃ dd vs, d = some dd ∧ dd ∉ ξ ++ μ ∧ H dd = some (.xd vs) ∧ RepF K ξ H μ vs fs
end
section
variable {K : PySem.W.Frag} {ξ : List Addr} {H H' H1 H2 : Hp} {μ μ' μ1 μ2 : List Addr}
theorem Nxt.refl : Nxt K H μ H μ := ⟨fun _ _ _ e => e, ⟨[], by simp, fun _ h => by simp at h⟩, fun _ _ _ e => e⟩
/-- not locked -/
theorem nz {b : Addr} {w : HO} (e : H b = some w) (h : ∀ o u, w ≠ .frz o u := by intro _ _ z; cases z) : ∀ o u, H b ≠ some (.frz o u) := fun o u z => by rw [e] at z; exact h o u (Option.some.inj z)
theorem nz0 {b : Addr} (e : H b = none) : ∀ o u, H b ≠ some (.frz o u) := fun o u z => by rw [e] at z; cases z
theorem frz_upd {p : Addr} {w : HO} (hz : ∀ o u, H p ≠ some (.frz o u)) : ∀ b o u, H b = some (.frz o u) → upd H p w b = some (.frz o u) := fun b o u e => by
  rw [upd_ne (show b ≠ p from fun z => hz o u (z ▸ e))]; exact e
theorem nm {b : Addr} (h : b ∉ ξ ++ μ) : b ∉ ξ ∧ b ∉ μ := ⟨fun z => h (List.mem_append_left _ z), fun z => h (List.mem_append_right _ z)⟩
theorem nm_of {b : Addr} (h1 : b ∉ ξ) (h2 : b ∉ μ) : b ∉ ξ ++ μ := fun z => (List.mem_append.mp z).elim h1 h2
theorem Nxt.keep0 (n : Nxt K H μ H' μ') {b : Addr} {o : HO} (hb : b ∉ μ) (e : H b = some o) : H' b = some o ∧ b ∉ μ' := by
  refine ⟨n.same b o hb e, fun h => ?_⟩
  obtain ⟨ν, rfl, hν⟩ := n.pre
  rcases List.mem_append.mp h with h | h
  · exact hb h
  · rw [(hν b h).2.1] at e; cases e
/-- the weak step: what is excluded may change, too -/
structure Nw (ξ : List Addr) (H : Hp) (μ : List Addr) (H' : Hp) (μ' : List Addr) : Prop where
  same : ∀ b o, b ∉ ξ ++ μ → H b = some o → H' b = some o
  pre : ∃ ν, μ' = μ ++ ν ∧ ∀ a ∈ ν, a ∉ μ ∧ H a = none
  frz : ∀ b o u, H b = some (.frz o u) → H' b = some (.frz o u)
theorem Nxt.w (n : Nxt K H μ H' μ') : Nw ξ H μ H' μ' := ⟨fun b o h e => n.same b o (nm h).2 e, let ⟨ν, e, h⟩ := n.pre; ⟨ν, e, fun a ha => ⟨(h a ha).1, (h a ha).2.1⟩⟩, n.frz⟩
theorem Nw.keep (n : Nw ξ H μ H' μ') {b : Addr} {o : HO} (hb : b ∉ ξ ++ μ) (e : H b = some o) : H' b = some o ∧ b ∉ ξ ++ μ' := by
  refine ⟨n.same b o hb e, nm_of (nm hb).1 fun h => ?_⟩
  obtain ⟨ν, rfl, hν⟩ := n.pre
  rcases List.mem_append.mp h with h | h
  · exact (nm hb).2 h
  · rw [(hν b h).2] at e; cases e
theorem Nw.cell (n : Nw ξ H μ H' μ') {k : Nat} {a : Addr} (e : μ[k]? = some a) : μ'[k]? = some a := by
  obtain ⟨ν, rfl, _⟩ := n.pre
  rw [List.getElem?_append_left (List.getElem?_eq_some_iff.mp e).1]; exact e
/-- an excluded object is written -/
theorem Nw.own {p : Addr} {o : HO} (h : p ∈ ξ) (hz : ∀ o u, H p ≠ some (.frz o u)) : Nw ξ H μ (upd H p o) μ :=
  ⟨fun b u hb e => by rw [upd_ne (show b ≠ p from fun z => (nm hb).1 (by rw [z]; exact h))]; exact e, ⟨[], by simp, fun _ h => by simp at h⟩, frz_upd hz⟩
theorem Nxt.cell (n : Nxt K H μ H' μ') {k : Nat} {a : Addr} (e : μ[k]? = some a) : μ'[k]? = some a := by
  obtain ⟨ν, rfl, _⟩ := n.pre
  rw [List.getElem?_append_left (List.getElem?_eq_some_iff.mp e).1]; exact e
theorem Nxt.trans (a : Nxt K H μ H1 μ1) (b : Nxt K H1 μ1 H2 μ2) : Nxt K H μ H2 μ2 := by
  refine ⟨fun c o hc e => ?_, ?_, fun c o u e => b.frz c o u (a.frz c o u e)⟩
  · obtain ⟨e1, h1⟩ := a.keep0 hc e
    exact b.same c o h1 e1
  · obtain ⟨ν1, rfl, h1⟩ := a.pre
    obtain ⟨ν2, rfl, h2⟩ := b.pre
    refine ⟨ν1 ++ ν2, by simp, fun c hc => ?_⟩
    rcases List.mem_append.mp hc with hc | hc
    · exact h1 c hc
    · obtain ⟨g1, g2, g3⟩ := h2 c hc
      have hm : c ∉ μ := fun z => g1 (List.mem_append_left _ z)
      refine ⟨hm, ?_, g3⟩
      cases e : H c with
      | none => rfl
      | some o =>
        have := (a.keep0 hm e).1
        rw [g2] at this; cases this
theorem Rd.nextW (n : Nw ξ H μ H' μ') {a : Addr} {u : HO} (ha : a ∉ ξ ++ μ) (r : Rd H a u) : Rd H' a u ∧ a ∉ ξ ++ μ' := by
  rcases r with r | ⟨o, r⟩
  · exact ⟨.inl (n.keep ha r).1, (n.keep ha r).2⟩
  · exact ⟨.inr ⟨o, (n.keep ha r).1⟩, (n.keep ha r).2⟩
mutual
theorem Rep.nextW (n : Nw ξ H μ H' μ') : ∀ {v : V} {d : D}, Rep K ξ H μ v d → Rep K ξ H' μ' v d
  | _, _, .non => .non
  | _, _, .bl b => .bl b
  | _, _, .int b => .int b
  | _, _, .str b => .str b
  | _, _, .tup h e r => .tup (Rd.nextW n h e).2 (Rd.nextW n h e).1 (RepL.nextW n r)
  | _, _, .ktup e r => .ktup e (RepL.nextW n r)
  | _, _, .lst h e r => .lst (n.keep h e).2 (n.keep h e).1 (RepL.nextW n r)
  | _, _, .dct h e r => .dct (n.keep h e).2 (n.keep h e).1 (RepK.nextW n r)
  | _, _, .scr h e => .scr (Rd.nextW n h e).2 (Rd.nextW n h e).1
  | _, _, .kscr e => .kscr e
  | _, _, .obj h e1 e r => .obj (n.keep h e).2 e1 (n.keep h e).1 (RepF.nextW n r)
  | _, _, .exv h h2 e1 e e2 r => .exv (n.keep h e).2 (n.keep h2 e2).2 e1 (n.keep h e).1 (n.keep h2 e2).1 (RepF.nextW n r)
  | _, _, .exv0 h e1 e => .exv0 (n.keep h e).2 e1 (n.keep h e).1
theorem RepL.nextW (n : Nw ξ H μ H' μ') : ∀ {v : List V} {d : List D}, RepL K ξ H μ v d → RepL K ξ H' μ' v d
  | _, _, .nil => .nil
  | _, _, .cons a b => .cons (Rep.nextW n a) (RepL.nextW n b)
theorem RepK.nextW (n : Nw ξ H μ H' μ') : ∀ {v : List (Key × V)} {d : List (Key × D)}, RepK K ξ H μ v d → RepK K ξ H' μ' v d
  | _, _, .nil => .nil
  | _, _, .cons a b => .cons (Rep.nextW n a) (RepK.nextW n b)
theorem RepF.nextW (n : Nw ξ H μ H' μ') : ∀ {v : List (Str × V)} {d : List (Str × D)}, RepF K ξ H μ v d → RepF K ξ H' μ' v d
  | _, _, .nil => .nil
  | _, _, .cons a b => .cons (Rep.nextW n a) (RepF.nextW n b)
end
mutual
theorem RepU.nextW (n : Nw ξ H μ H' μ') : ∀ {v : V} {u : U}, RepU K ξ H μ v u → RepU K ξ H' μ' v u
  | _, _, .dat r => .dat (Rep.nextW n r)
  | _, _, .cell e => .cell (n.cell e)
  | _, _, .exn h e r => .exn (n.keep h e).2 (n.keep h e).1 (RepF.nextW n r)
  | _, _, .tup h e r => .tup (Rd.nextW n h e).2 (Rd.nextW n h e).1 (RepUs.nextW n r)
theorem RepUs.nextW (n : Nw ξ H μ H' μ') : ∀ {v : List V} {u : List U}, RepUs K ξ H μ v u → RepUs K ξ H' μ' v u
  | _, _, .nil => .nil
  | _, _, .cons a b => .cons (RepU.nextW n a) (RepUs.nextW n b)
end
theorem RepFU.nextW (n : Nw ξ H μ H' μ') : ∀ {v : List (Str × V)} {d : List (Str × U)}, RepFU K ξ H μ v d → RepFU K ξ H' μ' v d
  | _, _, .nil => .nil
  | _, _, .cons a b => .cons (RepU.nextW n a) (RepFU.nextW n b)
theorem RelE.nextW (n : Nw ξ H μ H' μ') {σ : L2.St} {ρ : En} (r : RelE K ξ H μ σ ρ) : RelE K ξ H' μ' σ ρ :=
  ⟨r.len, fun i u e => let ⟨v, e1, e2⟩ := r.at_ i u e; ⟨v, e1, RepU.nextW n e2⟩⟩
theorem RepO.next_at {a : Addr} {o : O} (r : RepO K ξ H μ a o) (n : Nw ξ H μ H' μ') (e : H' a = H a) : RepO K ξ H' μ' a o := by
  cases r with
  | lst h r => exact .lst (e.trans h) (RepL.nextW n r)
  | dct h r => exact .dct (e.trans h) (RepK.nextW n r)
  | obj h1 h r => exact .obj h1 (e.trans h) (RepFU.nextW n r)
  | lsu h r => exact .lsu (e.trans h) (RepUs.nextW n r)
  | dcf h r => exact .dcf (e.trans h) (RepK.nextW n r)
theorem Rd.next (n : Nxt K H μ H' μ') {a : Addr} {u : HO} (ha : a ∉ ξ ++ μ) (r : Rd H a u) : Rd H' a u ∧ a ∉ ξ ++ μ' := Rd.nextW n.w ha r
theorem Rep.next (n : Nxt K H μ H' μ') {v : V} {d : D} (r : Rep K ξ H μ v d) : Rep K ξ H' μ' v d := Rep.nextW n.w r
theorem RepL.next (n : Nxt K H μ H' μ') {v : List V} {d : List D} (r : RepL K ξ H μ v d) : RepL K ξ H' μ' v d := RepL.nextW n.w r
theorem RepK.next (n : Nxt K H μ H' μ') {v : List (Key × V)} {d : List (Key × D)} (r : RepK K ξ H μ v d) : RepK K ξ H' μ' v d := RepK.nextW n.w r
theorem RepF.next (n : Nxt K H μ H' μ') {v : List (Str × V)} {d : List (Str × D)} (r : RepF K ξ H μ v d) : RepF K ξ H' μ' v d := RepF.nextW n.w r
theorem RepU.next (n : Nxt K H μ H' μ') {v : V} {u : U} (r : RepU K ξ H μ v u) : RepU K ξ H' μ' v u := RepU.nextW n.w r
theorem RepUs.next (n : Nxt K H μ H' μ') {v : List V} {u : List U} (r : RepUs K ξ H μ v u) : RepUs K ξ H' μ' v u := RepUs.nextW n.w r
theorem RelE.next (n : Nxt K H μ H' μ') {σ : L2.St} {ρ : En} (r : RelE K ξ H μ σ ρ) : RelE K ξ H' μ' σ ρ := RelE.nextW n.w r
/-- the cells after a step that leaves them as they were -/
theorem RelM.next (r : RelM K ξ H μ M) (n : Nxt K H μ H' μ) (e : ∀ a ∈ μ, H' a = H a) : RelM K ξ H' μ M :=
  ⟨r.len, r.nd, fun a ha => ⟨let ⟨o, h⟩ := (r.xt a ha).1; ⟨o, n.same a o (r.xt a ha).2 h⟩, (r.xt a ha).2⟩, fun k a o h1 h2 => (r.at_ k a o h1 h2).next_at n.w (e a (List.mem_of_getElem? h1))⟩
/-- a new object beside -/
theorem Nxt.laid {p : Addr} {o : HO} (hp : H p = none) : Nxt K H μ (upd H p o) μ :=
  ⟨fun b u _ e => by rw [upd_ne (ne_of_none e hp)]; exact e, ⟨[], by simp, fun _ h => by simp at h⟩, frz_upd (nz0 hp)⟩
theorem RelM.tracked (r : RelM K ξ H μ M) {a : Addr} (h : a ∈ μ) : ∃ o, H a = some o := by
  obtain ⟨k, e⟩ := List.mem_iff_getElem?.mp h
  have hk : k < M.length := by rw [← r.len]; exact (List.getElem?_eq_some_iff.mp e).1
  obtain ⟨o, ho⟩ : ∃ o, M[k]? = some o := ⟨_, List.getElem?_eq_getElem hk⟩
  cases r.at_ k a o e ho with
  | lst h _ => exact ⟨_, h⟩
  | dct h _ => exact ⟨_, h⟩
  | obj _ h _ => exact ⟨_, h⟩
  | lsu h _ => exact ⟨_, h⟩
  | dcf h _ => exact ⟨_, h⟩
theorem RelM.new0 (r : RelM K ξ H μ M) {p : Addr} (hp : H p = none) : p ∉ μ := fun h => by
  obtain ⟨o, e⟩ := r.tracked h
  rw [hp] at e; cases e
theorem RelM.new (r : RelM K ξ H μ M) {p : Addr} (hp : H p = none) : p ∉ ξ ++ μ := nm_of (fun h => by
  obtain ⟨⟨o, e⟩, _⟩ := r.xt p h
  rw [hp] at e; cases e) (r.new0 hp)
theorem RelM.laid (r : RelM K ξ H μ M) {p : Addr} {o : HO} (hp : H p = none) : RelM K ξ (upd H p o) μ M :=
  r.next (Nxt.laid hp) fun a ha => upd_ne fun z => r.new0 hp (z ▸ ha)
/-- a new object becomes a cell -/
theorem Nxt.laidC {p : Addr} {o : HO} (r : RelM K ξ H μ M) (hp : H p = none) (hk : K.lookup p = none) : Nxt K H μ (upd H p o) (μ ++ [p]) :=
  ⟨fun b u _ e => by rw [upd_ne (ne_of_none e hp)]; exact e, ⟨[p], rfl, fun a h => by
    have : a = p := by simpa using h
    subst this
    exact ⟨r.new0 hp, hp, hk⟩⟩, frz_upd (nz0 hp)⟩
theorem RelM.laidO (r : RelM K ξ H μ M) {p : Addr} {w : HO} {oo : O} (hp : H p = none) (hk : K.lookup p = none) (hx : RepO K ξ (upd H p w) (μ ++ [p]) p oo) : RelM K ξ (upd H p w) (μ ++ [p]) (M ++ [oo]) := by
  have n : Nxt K H μ (upd H p w) (μ ++ [p]) := Nxt.laidC r hp hk
  refine ⟨by simp [r.len], ?_, fun a ha => ?_, fun k a o h1 h2 => ?_⟩
  · rw [List.nodup_append]
    refine ⟨r.nd, by simp, fun a ha b hb z => ?_⟩
    have : b = p := by simpa using hb
    subst this z
    exact r.new0 hp ha
  · obtain ⟨⟨o, e⟩, hn⟩ := r.xt a ha
    refine ⟨⟨o, n.same a o hn e⟩, fun z => ?_⟩
    rcases List.mem_append.mp z with z | z
    · exact hn z
    · have : a = p := by simpa using z
      subst this
      rw [hp] at e; cases e
  · by_cases hk' : k < μ.length
    · rw [List.getElem?_append_left hk'] at h1
      rw [List.getElem?_append_left (by rw [← r.len]; exact hk')] at h2
      refine (r.at_ k a o h1 h2).next_at n.w (upd_ne fun z => ?_)
      subst z
      exact r.new0 hp (List.mem_of_getElem? h1)
    · have e : k = μ.length := by
        have := (List.getElem?_eq_some_iff.mp h1).1
        simp at this; omega
      subst e
      rw [List.getElem?_append_right (Nat.le_refl _)] at h1
      rw [r.len, List.getElem?_append_right (Nat.le_refl _)] at h2
      simp at h1 h2
      subst h1 h2
      exact hx
theorem RelM.laidC (r : RelM K ξ H μ M) {p : Addr} {xs : List V} {ds : List D} (hp : H p = none) (hk : K.lookup p = none) (hx : RepL K ξ H μ xs ds) : RelM K ξ (upd H p (.lst xs)) (μ ++ [p]) (M ++ [.lst ds]) :=
  r.laidO hp hk (.lst upd_same (RepL.next (Nxt.laidC r hp hk) hx))
theorem ix_inj {α : Type} {l : List α} (nd : l.Nodup) {i j : Nat} {x : α} (a : l[i]? = some x) (b : l[j]? = some x) : i = j := by
  obtain ⟨h1, e1⟩ := List.getElem?_eq_some_iff.mp a
  obtain ⟨h2, e2⟩ := List.getElem?_eq_some_iff.mp b
  exact (List.getElem_inj nd).mp (e1.trans e2.symm)
/-- a cell is written -/
theorem Nxt.wr {p : Addr} {o : HO} (h : p ∈ μ) (hz : ∀ o u, H p ≠ some (.frz o u)) : Nxt K H μ (upd H p o) μ :=
  ⟨fun b u hb e => by rw [upd_ne (show b ≠ p from fun z => hb (by rw [z]; exact h))]; exact e, ⟨[], by simp, fun _ h => by simp at h⟩, frz_upd hz⟩
theorem RelM.wrO (r : RelM K ξ H μ M) {p : Addr} {k : Nat} {w : HO} {oo : O} (e : μ[k]? = some p) (hz : ∀ o u, H p ≠ some (.frz o u)) (hx : RepO K ξ (upd H p w) μ p oo) : RelM K ξ (upd H p w) μ (M.set k oo) := by
  have hp := List.mem_of_getElem? e
  have n : Nxt K H μ (upd H p w) μ := Nxt.wr hp hz
  refine ⟨by simp [r.len], r.nd, fun a ha => ⟨let ⟨o, h⟩ := (r.xt a ha).1; ⟨o, n.same a o (r.xt a ha).2 h⟩, (r.xt a ha).2⟩, fun j a o h1 h2 => ?_⟩
  by_cases hj : j = k
  · subst hj
    rw [e] at h1; cases h1
    rw [List.getElem?_set_self (by rw [← r.len]; exact (List.getElem?_eq_some_iff.mp e).1)] at h2
    cases h2
    exact hx
  · rw [List.getElem?_set_ne (Ne.symm hj)] at h2
    refine (r.at_ j a o h1 h2).next_at n.w (upd_ne fun z => hj ?_)
    subst z
    exact ix_inj r.nd h1 e
theorem RelM.wr (r : RelM K ξ H μ M) {p : Addr} {k : Nat} {xs : List V} {ds : List D} (e : μ[k]? = some p) (hz : ∀ o u, H p ≠ some (.frz o u)) (hx : RepL K ξ H μ xs ds) : RelM K ξ (upd H p (.lst xs)) μ (M.set k (.lst ds)) :=
  r.wrO e hz (.lst upd_same (RepL.next (Nxt.wr (List.mem_of_getElem? e) hz) hx))
theorem RelM.own (r : RelM K ξ H μ M) {p : Addr} {o : HO} (h : p ∈ ξ) (hz : ∀ o u, H p ≠ some (.frz o u)) : RelM K ξ (upd H p o) μ M :=
  ⟨r.len, r.nd, fun a ha => ⟨by
    by_cases hp : a = p
    · subst hp; exact ⟨o, upd_same⟩
    · obtain ⟨u, e⟩ := (r.xt a ha).1
      exact ⟨u, by rw [upd_ne hp]; exact e⟩, (r.xt a ha).2⟩, fun k a o' h1 h2 => (r.at_ k a o' h1 h2).next_at (Nw.own h hz) (upd_ne fun z => (r.xt p h).2 (z ▸ List.mem_of_getElem? h1))⟩
theorem RepL.length : ∀ {vs : List V} {ds : List D}, RepL K ξ H μ vs ds → vs.length = ds.length
  | _, _, .nil => rfl
  | _, _, .cons _ r => by simp [RepL.length r]
theorem RepL.get : ∀ {vs : List V} {ds : List D} {i : Nat} {d : D}, RepL K ξ H μ vs ds → ds[i]? = some d → ∃ v, vs[i]? = some v ∧ Rep K ξ H μ v d
  | _, _, _, _, .nil, e => by simp at e
  | _, _, 0, _, .cons r _, e => by simp at e; subst e; exact ⟨_, rfl, r⟩
  | _, _, i + 1, d, .cons _ t, e => by
    obtain ⟨v, h1, h2⟩ := RepL.get (i := i) (d := d) t (by simpa using e)
    exact ⟨v, by simpa using h1, h2⟩
theorem RepL.append : ∀ {vs vs' : List V} {ds ds' : List D}, RepL K ξ H μ vs ds → RepL K ξ H μ vs' ds' → RepL K ξ H μ (vs ++ vs') (ds ++ ds')
  | _, _, _, _, .nil, s => s
  | _, _, _, _, .cons r t, s => .cons r (RepL.append t s)
theorem RepL.drop : ∀ {vs : List V} {ds : List D} (n : Nat), RepL K ξ H μ vs ds → RepL K ξ H μ (vs.drop n) (ds.drop n)
  | _, _, 0, r => r
  | _, _, _ + 1, .nil => .nil
  | _, _, n + 1, .cons _ t => RepL.drop n t
theorem RepL.take : ∀ {vs : List V} {ds : List D} (n : Nat), RepL K ξ H μ vs ds → RepL K ξ H μ (vs.take n) (ds.take n)
  | _, _, 0, _ => .nil
  | _, _, _ + 1, .nil => .nil
  | _, _, n + 1, .cons r t => .cons r (RepL.take n t)
theorem RepL.set {x : V} {d : D} (r : Rep K ξ H μ x d) : ∀ {vs : List V} {ds : List D} (i : Nat), RepL K ξ H μ vs ds → RepL K ξ H μ (vs.set i x) (ds.set i d)
  | _, _, _, .nil => .nil
  | _, _, 0, .cons _ t => .cons r t
  | _, _, i + 1, .cons q t => .cons q (RepL.set r i t)
/-! other excluded addresses -/
mutual
theorem Rep.sub {ξ' : List Addr} (h : ∀ b, b ∉ ξ ++ μ → b ∉ ξ' ++ μ') : ∀ {v : V} {d : D}, Rep K ξ H μ v d → Rep K ξ' H μ' v d
  | _, _, .non => .non
  | _, _, .bl b => .bl b
  | _, _, .int b => .int b
  | _, _, .str b => .str b
  | _, _, .tup a e r => .tup (h _ a) e (RepL.sub h r)
  | _, _, .ktup e r => .ktup e (RepL.sub h r)
  | _, _, .lst a e r => .lst (h _ a) e (RepL.sub h r)
  | _, _, .dct a e r => .dct (h _ a) e (RepK.sub h r)
  | _, _, .scr a e => .scr (h _ a) e
  | _, _, .kscr e => .kscr e
  | _, _, .obj a e1 e r => .obj (h _ a) e1 e (RepF.sub h r)
  | _, _, .exv a b e1 e e2 r => .exv (h _ a) (h _ b) e1 e e2 (RepF.sub h r)
  | _, _, .exv0 a e1 e => .exv0 (h _ a) e1 e
theorem RepL.sub {ξ' : List Addr} (h : ∀ b, b ∉ ξ ++ μ → b ∉ ξ' ++ μ') : ∀ {v : List V} {d : List D}, RepL K ξ H μ v d → RepL K ξ' H μ' v d
  | _, _, .nil => .nil
  | _, _, .cons a b => .cons (Rep.sub h a) (RepL.sub h b)
theorem RepK.sub {ξ' : List Addr} (h : ∀ b, b ∉ ξ ++ μ → b ∉ ξ' ++ μ') : ∀ {v : List (Key × V)} {d : List (Key × D)}, RepK K ξ H μ v d → RepK K ξ' H μ' v d
  | _, _, .nil => .nil
  | _, _, .cons a b => .cons (Rep.sub h a) (RepK.sub h b)
theorem RepF.sub {ξ' : List Addr} (h : ∀ b, b ∉ ξ ++ μ → b ∉ ξ' ++ μ') : ∀ {v : List (Str × V)} {d : List (Str × D)}, RepF K ξ H μ v d → RepF K ξ' H μ' v d
  | _, _, .nil => .nil
  | _, _, .cons a b => .cons (Rep.sub h a) (RepF.sub h b)
end
/-- one more address is excluded, one where nothing is -/
theorem rd_ne {p a : Addr} {u : HO} (hp : H p = none) (e : Rd H a u) : a ≠ p := by
  rintro rfl
  rcases e with e | ⟨o, e⟩
  · rw [hp] at e; cases e
  · rw [hp] at e; cases e
theorem nm_more {p a : Addr} (h : a ∉ ξ ++ μ) (n : a ≠ p) : a ∉ (p :: ξ) ++ μ := nm_of (fun z => (List.mem_cons.mp z).elim n (nm h).1) (nm h).2
mutual
theorem Rep.more {p : Addr} (hp : H p = none) : ∀ {v : V} {d : D}, Rep K ξ H μ v d → Rep K (p :: ξ) H μ v d
  | _, _, .non => .non
  | _, _, .bl b => .bl b
  | _, _, .int b => .int b
  | _, _, .str b => .str b
  | _, _, .tup a e r => .tup (nm_more a (rd_ne hp e)) e (RepL.more hp r)
  | _, _, .ktup e r => .ktup e (RepL.more hp r)
  | _, _, .lst a e r => .lst (nm_more a (ne_of_none e hp)) e (RepL.more hp r)
  | _, _, .dct a e r => .dct (nm_more a (ne_of_none e hp)) e (RepK.more hp r)
  | _, _, .scr a e => .scr (nm_more a (rd_ne hp e)) e
  | _, _, .kscr e => .kscr e
  | _, _, .obj a e1 e r => .obj (nm_more a (ne_of_none e hp)) e1 e (RepF.more hp r)
  | _, _, .exv a b e1 e e2 r => .exv (nm_more a (ne_of_none e hp)) (nm_more b (ne_of_none e2 hp)) e1 e e2 (RepF.more hp r)
  | _, _, .exv0 a e1 e => .exv0 (nm_more a (ne_of_none e hp)) e1 e
theorem RepL.more {p : Addr} (hp : H p = none) : ∀ {v : List V} {d : List D}, RepL K ξ H μ v d → RepL K (p :: ξ) H μ v d
  | _, _, .nil => .nil
  | _, _, .cons a b => .cons (Rep.more hp a) (RepL.more hp b)
theorem RepK.more {p : Addr} (hp : H p = none) : ∀ {v : List (Key × V)} {d : List (Key × D)}, RepK K ξ H μ v d → RepK K (p :: ξ) H μ v d
  | _, _, .nil => .nil
  | _, _, .cons a b => .cons (Rep.more hp a) (RepK.more hp b)
theorem RepF.more {p : Addr} (hp : H p = none) : ∀ {v : List (Str × V)} {d : List (Str × D)}, RepF K ξ H μ v d → RepF K (p :: ξ) H μ v d
  | _, _, .nil => .nil
  | _, _, .cons a b => .cons (Rep.more hp a) (RepF.more hp b)
end
mutual
theorem RepU.more {p : Addr} (hp : H p = none) : ∀ {v : V} {u : U}, RepU K ξ H μ v u → RepU K (p :: ξ) H μ v u
  | _, _, .dat r => .dat (r.more hp)
  | _, _, .cell e => .cell e
  | _, _, .exn h e r => .exn (nm_more h (ne_of_none e hp)) e (r.more hp)
  | _, _, .tup h e r => .tup (nm_more h (rd_ne hp e)) e (RepUs.more hp r)
theorem RepUs.more {p : Addr} (hp : H p = none) : ∀ {v : List V} {u : List U}, RepUs K ξ H μ v u → RepUs K (p :: ξ) H μ v u
  | _, _, .nil => .nil
  | _, _, .cons a b => .cons (RepU.more hp a) (RepUs.more hp b)
end
theorem RepFU.more {p : Addr} (hp : H p = none) : ∀ {v : List (Str × V)} {u : List (Str × U)}, RepFU K ξ H μ v u → RepFU K (p :: ξ) H μ v u
  | _, _, .nil => .nil
  | _, _, .cons a b => .cons (RepU.more hp a) (RepFU.more hp b)
/-- the cells that a thing tells of -/
def refsU : U → List Nat
  | .cell k => [k]
  | .tup us => refsUs us
  | _ => []
where refsUs : List U → List Nat
  | [] => []
  | u :: us => refsU u ++ refsUs us
def refsF : List (Str × U) → List Nat
  | [] => []
  | p :: fs => refsU p.2 ++ refsF fs
def O.refs : O → List Nat
  | .obj _ fs => refsF fs
  | .lsu us => refsU.refsUs us
  | _ => []
mutual
theorem RepU.subC {ξ' : List Addr} (h : ∀ b, b ∉ ξ ++ μ → b ∉ ξ' ++ μ') : ∀ {v : V} {u : U}, (∀ k ∈ refsU u, ∀ a, μ[k]? = some a → μ'[k]? = some a) → RepU K ξ H μ v u → RepU K ξ' H μ' v u
  | _, _, _, .dat r => .dat (r.sub h)
  | _, _, hc, .cell e => .cell (hc _ (by simp [refsU]) _ e)
  | _, _, _, .exn a e r => .exn (h _ a) e (RepF.sub h r)
  | _, _, hc, .tup a e r => .tup (h _ a) e (RepUs.subC h (fun k hk => hc k (by simpa [refsU] using hk)) r)
theorem RepUs.subC {ξ' : List Addr} (h : ∀ b, b ∉ ξ ++ μ → b ∉ ξ' ++ μ') : ∀ {v : List V} {u : List U}, (∀ k ∈ refsU.refsUs u, ∀ a, μ[k]? = some a → μ'[k]? = some a) → RepUs K ξ H μ v u → RepUs K ξ' H μ' v u
  | _, _, _, .nil => .nil
  | _, _, hc, .cons a b => .cons (RepU.subC h (fun k hk => hc k (by simp [refsU.refsUs, hk])) a) (RepUs.subC h (fun k hk => hc k (by simp [refsU.refsUs, hk])) b)
end
theorem RepFU.subC {ξ' : List Addr} (h : ∀ b, b ∉ ξ ++ μ → b ∉ ξ' ++ μ') : ∀ {v : List (Str × V)} {u : List (Str × U)}, (∀ k ∈ refsF u, ∀ a, μ[k]? = some a → μ'[k]? = some a) → RepFU K ξ H μ v u → RepFU K ξ' H μ' v u
  | _, _, _, .nil => .nil
  | _, _, hc, .cons a b => .cons (RepU.subC h (fun k hk => hc k (by simp [refsF, hk])) a) (RepFU.subC h (fun k hk => hc k (by simp [refsF, hk])) b)
mutual
theorem RepU.refs_lt : ∀ {v : V} {u : U}, RepU K ξ H μ v u → ∀ k ∈ refsU u, k < μ.length
  | _, _, .dat _, k, hk => by simp [refsU] at hk
  | _, _, .cell e, k, hk => by simp [refsU] at hk; subst hk; exact (List.getElem?_eq_some_iff.mp e).1
  | _, _, .exn _ _ _, k, hk => by simp [refsU] at hk
  | _, _, .tup _ _ r, k, hk => RepUs.refs_lt r k (by simpa [refsU] using hk)
theorem RepUs.refs_lt : ∀ {v : List V} {u : List U}, RepUs K ξ H μ v u → ∀ k ∈ refsU.refsUs u, k < μ.length
  | _, _, .nil, k, hk => by simp [refsU.refsUs] at hk
  | _, _, .cons a b, k, hk => by
    simp [refsU.refsUs] at hk
    exact hk.elim (RepU.refs_lt a k) (RepUs.refs_lt b k)
end
theorem RepFU.refs_lt : ∀ {v : List (Str × V)} {u : List (Str × U)}, RepFU K ξ H μ v u → ∀ k ∈ refsF u, k < μ.length
  | _, _, .nil, k, hk => by simp [refsF] at hk
  | _, _, .cons a b, k, hk => by
    simp [refsF] at hk
    exact hk.elim (RepU.refs_lt a k) (RepFU.refs_lt b k)
theorem RepO.refs_lt {a : Addr} {o : O} (r : RepO K ξ H μ a o) : ∀ k ∈ o.refs, k < μ.length := by
  cases r with
  | lst => intro k hk; simp [O.refs] at hk
  | dct => intro k hk; simp [O.refs] at hk
  | dcf => intro k hk; simp [O.refs] at hk
  | obj _ _ r => exact RepFU.refs_lt r
  | lsu _ r => exact RepUs.refs_lt r
theorem RepU.sub {ξ' : List Addr} (h : ∀ b, b ∉ ξ ++ μ → b ∉ ξ' ++ μ) {v : V} {u : U} (r : RepU K ξ H μ v u) : RepU K ξ' H μ v u := r.subC h fun _ _ _ e => e
theorem RepO.subC {ξ' : List Addr} (h : ∀ b, b ∉ ξ ++ μ → b ∉ ξ' ++ μ') {a : Addr} {o : O} (hc : ∀ k ∈ o.refs, ∀ a, μ[k]? = some a → μ'[k]? = some a) (r : RepO K ξ H μ a o) : RepO K ξ' H μ' a o := by
  cases r with
  | lst e r => exact .lst e (r.sub h)
  | dct e r => exact .dct e (r.sub h)
  | obj e1 e r => exact .obj e1 e (RepFU.subC h hc r)
  | lsu e r => exact .lsu e (RepUs.subC h hc r)
  | dcf e r => exact .dcf e (r.sub h)
theorem RelE.more {p : Addr} (hp : H p = none) {σ : L2.St} {ρ : En} (r : RelE K ξ H μ σ ρ) : RelE K (p :: ξ) H μ σ ρ :=
  ⟨r.len, fun i u e => let ⟨v, e1, e2⟩ := r.at_ i u e; ⟨v, e1, e2.more hp⟩⟩
theorem RepO.more {p : Addr} (hp : H p = none) {a : Addr} {o : O} (r : RepO K ξ H μ a o) : RepO K (p :: ξ) H μ a o := by
  cases r with
  | lst e r => exact .lst e (r.more hp)
  | dct e r => exact .dct e (r.more hp)
  | obj e1 e r => exact .obj e1 e (r.more hp)
  | lsu e r => exact .lsu e (r.more hp)
  | dcf e r => exact .dcf e (r.more hp)
theorem RepO.sub {ξ' : List Addr} (h : ∀ b, b ∉ ξ ++ μ → b ∉ ξ' ++ μ) {a : Addr} {o : O} (r : RepO K ξ H μ a o) : RepO K ξ' H μ a o := r.subC h fun _ _ _ e => e
/-! what a step may do to old cells so that new ones can be dropped: no old cell tells of a new one -/
def Fl (M M' : Mem) : Prop := M.length ≤ M'.length ∧ ∀ (k : Nat) (o' : O), k < M.length → M'[k]? = some o' → ∃ o, M[k]? = some o ∧ ∀ j ∈ o'.refs, j ∈ o.refs
theorem Fl.refl {M : Mem} : Fl M M := ⟨Nat.le_refl _, fun k o h e => ⟨o, e, fun _ h => h⟩⟩
theorem Fl.trans {M M1 M2 : Mem} (a : Fl M M1) (b : Fl M1 M2) : Fl M M2 := ⟨Nat.le_trans a.1 b.1, fun k o h e => by
  obtain ⟨o1, e1, h1⟩ := b.2 k o (Nat.lt_of_lt_of_le h a.1) e
  obtain ⟨o2, e2, h2⟩ := a.2 k o1 h e1
  exact ⟨o2, e2, fun j hj => h2 j (h1 j hj)⟩⟩
theorem Fl.app {M L : Mem} : Fl M (M ++ L) := ⟨by simp, fun k o h e => ⟨o, by rwa [List.getElem?_append_left h] at e, fun _ h => h⟩⟩
theorem Fl.set {M : Mem} {k : Nat} {o : O} (h : o.refs = []) : Fl M (M.set k o) := ⟨by simp, fun j o' hj e => by
  by_cases z : k = j
  · subst z
    rw [List.getElem?_set_self hj] at e
    cases e
    exact ⟨M[k], List.getElem?_eq_getElem hj, fun i hi => by rw [h] at hi; cases hi⟩
  · rw [List.getElem?_set_ne z] at e
    exact ⟨o', e, fun _ h => h⟩⟩
theorem Fl.take {M M' : Mem} (h : Fl M M') : Fl M (M'.take M.length) := ⟨by rw [List.length_take]; have := h.1; omega, fun k o hk e => h.2 k o hk (by rwa [List.getElem?_take_of_lt hk] at e)⟩
end
end SD
set_option Elab.async false
set_option linter.all false
set_option maxRecDepth 100000
set_option maxHeartbeats 4000000
namespace SD
open PySem PySem.Spec PyProof.Rows L2
/-! ### what a piece of code is to reach, by its result -/
def Post {α β : Type} (K : PySem.W.Frag) (ξ : List Addr) (mg : Str → Option Value) (W : WX) (R : Hp → List Addr → β → α → Prop) (σ : L2.St) (H : Hp) (μ : List Addr) (o : Out α) (Q : β → Hp → Prop) : Prop := match o with
  | .ok a M => ∀ b H' μ', Nxt K H μ H' μ' → RelM K ξ H' μ' M → KH K H' → R H' μ' b a → Q b H'
  | .exc c fs M => ∀ (C : Addr) (dd : Option Addr) H' μ', Nxt K H μ H' μ' → RelM K ξ H' μ' M → mg c = some (.ref C) → RepX K ξ H' μ' dd fs → W (.ref C) dd σ H'
  | .bad => False
def tg {α β : Type} (K : PySem.W.Frag) (mg : Str → Option Value) (W : WX) (R : List Addr → Hp → List Addr → β → α → Prop) (f : En → Mem → Out α) : L2.St → Hp → (β → Hp → Prop) → Prop :=
  fun σ H Q => ∃ ξ ρ μ M, RelE K ξ H μ σ ρ ∧ RelM K ξ H μ M ∧ Post K ξ mg W (R ξ) σ H μ (f ρ M) Q
abbrev tE (K : PySem.W.Frag) (mg : Str → Option Value) (W : WX) (f : Ev) : TE := tg K mg W (RepU K) f
abbrev tB' (K : PySem.W.Frag) (mg : Str → Option Value) (W : WX) (f : Tv) : TT := tg K mg W (fun _ _ _ (b b' : Bool) => b = b') f
abbrev tA (K : PySem.W.Frag) (mg : Str → Option Value) (W : WX) (f : Av) : TA := tg K mg W (RepUs K) f
/-- the code e reckons f; an exception goes to W -/
abbrev SE (X : Cx) (W : WX) (e : Expr) (f : Ev) : Prop := PE X e (tE X.K X.mg W f)
abbrev ST (X : Cx) (W : WX) (e : Expr) (f : Tv) : Prop := PT X e (tB' X.K X.mg W f)
abbrev SW (X : Cx) (W : WX) (e : Expr) (f : Tv) : Prop := PW X e (tB' X.K X.mg W f)
abbrev SA (X : Cx) (W : WX) (es : List Expr) (f : Av) : Prop := PA X es (tA X.K X.mg W f)
section
variable {α β γ δ : Type} {K : PySem.W.Frag} {ξ : List Addr} {mg : Str → Option Value} {W : WX} {R : Hp → List Addr → β → α → Prop} {R' : Hp → List Addr → δ → γ → Prop} {σ : L2.St} {H H1 : Hp} {μ μ1 : List Addr}
theorem Post.next {o : Out α} {Q : β → Hp → Prop} (h : Post K ξ mg W R σ H μ o Q) (n : Nxt K H μ H1 μ1) : Post K ξ mg W R σ H1 μ1 o Q := by
  cases o with
  | ok a M => exact fun b H' μ' n' => h b H' μ' (n.trans n')
  | exc c fs M => exact fun C dd H' μ' n' => h C dd H' μ' (n.trans n')
  | bad => exact h
theorem Post.mono {o : Out α} {Q Q' : β → Hp → Prop} (h : Post K ξ mg W R σ H μ o Q) (hq : ∀ b H', Q b H' → Q' b H') : Post K ξ mg W R σ H μ o Q' := by
  cases o with
  | ok a M => exact fun b H' μ' n m k r => hq b H' (h b H' μ' n m k r)
  | exc c fs M => exact h
  | bad => exact h
theorem Post.bind {o : Out α} {k : α → Mem → Out γ} {Q : δ → Hp → Prop} (h : Post K ξ mg W R' σ H μ (o.bind k) Q) :
    Post K ξ mg W R σ H μ o (fun b H1 => ∃ a M1 μ1, Nxt K H μ H1 μ1 ∧ RelM K ξ H1 μ1 M1 ∧ KH K H1 ∧ R H1 μ1 b a ∧ Post K ξ mg W R' σ H1 μ1 (k a M1) Q) := by
  cases o with
  | ok a M => exact fun b H1 μ1 n m kh r => ⟨a, M, μ1, n, m, kh, r, Post.next h n⟩
  | exc c fs M => exact h
  | bad => exact h
theorem tg.of {S : List Addr → Hp → List Addr → β → α → Prop} {f : En → Mem → Out α} {ρ : En} {M : Mem} {Q : β → Hp → Prop} (e : RelE K ξ H μ σ ρ) (m : RelM K ξ H μ M) (p : Post K ξ mg W (S ξ) σ H μ (f ρ M) Q) : tg K mg W S f σ H Q := ⟨ξ, ρ, μ, M, e, m, p⟩
theorem Post.here {a : α} {M : Mem} {b : β} {Q : β → Hp → Prop} (h : Post K ξ mg W R σ H μ (.ok a M) Q) (m : RelM K ξ H μ M) (kh : KH K H) (r : R H μ b a) : Q b H := h b H μ .refl m kh r
end
section
variable {X : Cx} {W : WX}
theorem Inv.kh {pins : List (Addr × Obj)} {σ : L2.St} {H : Hp} {s : Shared} (I : Inv X pins σ H s) : KH X.K H := fun b o e => (I.bs b o (I.ok.mod.kin b o e)).2
theorem pe_sd {e : Expr} {t : TE} {f : Ev} (h : PE X e t) (hi : ∀ σ H Q, KH X.K H → tE X.K X.mg W f σ H Q → t σ H (fun v H' => KH X.K H' → Q v H')) : SE X W e f :=
  ⟨fun pins s σ H Q I ht => thn (h.run pins s σ H _ I (hi σ H Q (Inv.kh I) ht)) fun u s1 ⟨v, H', I', r, q⟩ => ⟨v, H', I', r, q (Inv.kh I')⟩⟩
theorem pt_sd {e : Expr} {t : TT} {f : Tv} (h : PT X e t) (hi : ∀ σ H Q, KH X.K H → tB' X.K X.mg W f σ H Q → t σ H (fun v H' => KH X.K H' → Q v H')) : ST X W e f :=
  ⟨fun pins s σ H Q I ht => thn (h.run pins s σ H _ I (hi σ H Q (Inv.kh I) ht)) fun u s1 ⟨H', I', q⟩ => ⟨H', I', q (Inv.kh I')⟩⟩
theorem pw_sd {e : Expr} {t : TT} {f : Tv} (h : PW X e t) (hi : ∀ σ H Q, KH X.K H → tB' X.K X.mg W f σ H Q → t σ H (fun v H' => KH X.K H' → Q v H')) : SW X W e f :=
  ⟨fun wh pins s σ H Q I ht => thn (h.run wh pins s σ H _ I (hi σ H Q (Inv.kh I) ht)) fun u s1 ⟨H', I', q⟩ => ⟨H', I', q (Inv.kh I')⟩⟩
theorem pa_sd {es : List Expr} {t : TA} {f : Av} (h : PA X es t) (hi : ∀ σ H Q, KH X.K H → tA X.K X.mg W f σ H Q → t σ H (fun v H' => KH X.K H' → Q v H')) : SA X W es f :=
  ⟨fun pos pins s σ H Q I ht => thn (h.run pos pins s σ H _ I (hi σ H Q (Inv.kh I) ht)) fun u s1 ⟨v, H', I', r, q⟩ => ⟨v, H', I', r, q (Inv.kh I')⟩⟩
/-- what was made last may be locked for good -/
def orLock (Q : VK) : VK := fun v H => Q v H ∨ ∃ d u, H d = some u ∧ Mut (some u) ∧ ∀ od, Q v (upd H d (.frz od u))
theorem pe_lockEnd {e : Expr} {t : TE} (h : PE X e t) : PE X e (fun σ H Q => t σ H (orLock Q)) :=
  ⟨fun pins s σ H Q I ht => thn (h.run pins s σ H _ I ht) fun u s1 ⟨v, H', I', r, q⟩ => by
    rcases q with q | ⟨d, o, hd, mu, q⟩
    · exact ⟨v, H', I', r, q⟩
    · obtain ⟨od, I2⟩ := I'.lock hd mu
      exact ⟨v, _, I2, r, q od⟩⟩
/-! ### names, constants -/
def eVar (i : Nat) : Ev := fun ρ M => match ρ[i]? with
  | some (some u) => .ok u M
  | _ => .bad
def eC (d : D) : Ev := fun _ M => .ok (.dat d) M
theorem se_v (i : Nat) {x : Str} {pos : Pos} (hN : X.N[i]? = some x := by rfl) (hv : Vis X.env.scope x := by first | exact Or.inl rfl | exact Or.inr (Or.inl rfl) | exact Or.inr (Or.inr rfl)) (hd : (x == ("__debug__" : Str)) = false := by decide)
    (hcd : (x == ("__classdict__" : Str)) = false := by decide) : SE X W (.Name x pos) (eVar i) := by
  refine pe_sd (pe_var hN hv hd hcd) fun σ H Q kh ⟨ξ, ρ, μ, M, e, m, p⟩ => ?_
  unfold eVar at p
  split at p
  · rename_i u hu
    obtain ⟨v, h1, h2⟩ := e.at_ i u hu
    exact ⟨v, h1, fun kh => p.here m kh h2⟩
  · exact p.elim
theorem se_int {i : Int} {j pos} : SE X W (.Constant (.int i) j pos) (eC (.int i)) := pe_sd pe_int fun σ H Q kh ⟨ξ, ρ, μ, M, e, m, p⟩ kh' => p.here m kh' (.dat (.int i))
theorem se_bl {b : Bool} {j pos} : SE X W (.Constant (.bool b) j pos) (eC (.bl b)) := pe_sd pe_bl fun σ H Q kh ⟨ξ, ρ, μ, M, e, m, p⟩ kh' => p.here m kh' (.dat (.bl b))
theorem se_non {j pos} : SE X W (.Constant .none j pos) (eC .non) := pe_sd pe_non fun σ H Q kh ⟨ξ, ρ, μ, M, e, m, p⟩ kh' => p.here m kh' (.dat .non)
theorem se_str (s : Cs) {x : Str} {j pos} (h : x = mkS s := by decide +kernel) : SE X W (.Constant (.str x) j pos) (eC (.str s)) := by
  subst h
  exact pe_sd pe_str fun σ H Q kh ⟨ξ, ρ, μ, M, e, m, p⟩ kh' => p.here m kh' (.dat (.str s))
/-! ### what a value shows, be it data or a cell -/
def view (u : U) (M : Mem) : Option D := match u with
  | .dat d => some d
  | .cell k => match M[k]? with
    | some (.lst ds) => some (.lst ds)
    | some (.dct ds) => some (.dct ds)
    | some (.dcf ds) => some (.dct ds)
    | _ => none
  | _ => none
inductive RepV (K : PySem.W.Frag) (ξ : List Addr) (H : Hp) (μ : List Addr) : V → D → Prop
  | of {v : V} {d : D} : Rep K ξ H μ v d → RepV K ξ H μ v d
  | lst {a : Addr} {xs : List V} {ds : List D} : H a = some (.lst xs) → RepL K ξ H μ xs ds → RepV K ξ H μ (.ref a) (.lst ds)
  | dct {a : Addr} {xs : List (Key × V)} {ds : List (Key × D)} : H a = some (.dK xs) → RepK K ξ H μ xs ds → RepV K ξ H μ (.ref a) (.dct ds)
  | dcf {a : Addr} {o : Obj} {xs : List (Key × V)} {ds : List (Key × D)} : H a = some (.frz o (.dK xs)) → RepK K ξ H μ xs ds → RepV K ξ H μ (.ref a) (.dct ds)
theorem RepU.view {K : PySem.W.Frag} {ξ : List Addr} {H : Hp} {μ : List Addr} {M : Mem} {v : V} {u : U} {d : D} (m : RelM K ξ H μ M) (r : RepU K ξ H μ v u) (h : view u M = some d) : RepV K ξ H μ v d := by
  cases r with
  | exn => cases h
  | tup => cases h
  | dat r => cases h; exact .of r
  | @cell a k e =>
    unfold SD.view at h
    cases q : M[k]? with
    | none => simp [q] at h
    | some o =>
      simp only [q] at h
      cases o with
      | lst ds =>
        cases h
        cases m.at_ k a _ e q with
        | lst h r => exact .lst h r
      | dct ds =>
        cases h
        cases m.at_ k a _ e q with
        | dct h r => exact .dct h r
      | obj => cases h
      | lsu => cases h
      | dcf ds =>
        cases h
        cases m.at_ k a _ e q with
        | dcf h r => exact .dcf h r
section
variable {K : PySem.W.Frag} {ξ : List Addr} {H : Hp} {μ : List Addr} {v : V}
theorem RepV.int {i : Int} (r : RepV K ξ H μ v (.int i)) : v = .int i := by cases r with | of r => cases r; rfl
theorem RepV.bl {i : Bool} (r : RepV K ξ H μ v (.bl i)) : v = .bl i := by cases r with | of r => cases r; rfl
theorem RepV.str {i : Cs} (r : RepV K ξ H μ v (.str i)) : v = .str (mkS i) := by cases r with | of r => cases r; rfl
theorem RepV.non (r : RepV K ξ H μ v .non) : v = .non := by cases r with | of r => cases r; rfl
theorem RepV.lstv {ds : List D} (r : RepV K ξ H μ v (.lst ds)) : ∃ a xs, v = .ref a ∧ H a = some (.lst xs) ∧ RepL K ξ H μ xs ds := by
  cases r with
  | of r => cases r with | lst h e r => exact ⟨_, _, rfl, e, r⟩
  | lst e r => exact ⟨_, _, rfl, e, r⟩
theorem RepV.tup {ds : List D} (r : RepV K ξ H μ v (.tup ds)) : ∃ a xs, v = .ref a ∧ True ∧ SqT K H a xs ∧ RepL K ξ H μ xs ds := by
  cases r with | of r => cases r with
    | tup h e r => exact ⟨_, _, rfl, trivial, .inl e, r⟩
    | ktup e r => exact ⟨_, _, rfl, trivial, e H, r⟩
theorem RepV.dctv {ds : List (Key × D)} (r : RepV K ξ H μ v (.dct ds)) : ∃ a xs, v = .ref a ∧ Rd H a (.dK xs) ∧ RepK K ξ H μ xs ds := by
  cases r with
  | of r => cases r with | dct h e r => exact ⟨_, _, rfl, .inr ⟨_, e⟩, r⟩
  | dct e r => exact ⟨_, _, rfl, .inl e, r⟩
  | dcf e r => exact ⟨_, _, rfl, .inr ⟨_, e⟩, r⟩
theorem rd_dk {a : Addr} {xs ys : List (Key × V)} (h1 : Rd H a (.dK xs)) (h2 : Rd H a (.dK ys)) : xs = ys := by
  rcases h1 with h1 | ⟨o, h1⟩ <;> rcases h2 with h2 | ⟨o', h2⟩ <;> rw [h1] at h2 <;> cases h2 <;> rfl
theorem RepV.objv {c : Str} {fs : List (Str × D)} (r : RepV K ξ H μ v (.obj c fs)) : ∃ a C dx vs, v = .ref a ∧ CInfo K c C ∧ H a = some (.ins C dx vs) ∧ RepF K ξ H μ vs fs := by
  cases r with | of r => cases r with | obj h e1 e r => exact ⟨_, _, _, _, rfl, e1, e, r⟩
theorem RepV.scr {ns : List Int} (r : RepV K ξ H μ v (.scr ns)) : ∃ a, v = .ref a ∧ True ∧ SqL K H a (ns.map V.int) := by
  cases r with | of r => cases r with
    | scr h e => exact ⟨_, rfl, trivial, .inl e⟩
    | kscr e => exact ⟨_, rfl, trivial, e H⟩
end
/-! ### operators by values -/
abbrev P2 := U → U → Mem → Out U
def lift2 (g : D → D → Option D) : P2 := fun u w M => match view u M, view w M with
  | some d, some e => match g d e with
    | some c => .ok (.dat c) M
    | none => .bad
  | _, _ => .bad
def e2 (p : P2) (f g : Ev) : Ev := fun ρ M => (f ρ M).bind fun u M1 => (g ρ M1).bind fun w M2 => p u w M2
/-- the rule r of the operator serves p -/
def Op2 (K : PySem.W.Frag) (p : P2) (r : R2) : Prop := ∀ (ξ : List Addr) (mg : Str → Option Value) (W : WX) (x y : V) (u w : U) (σ : L2.St) (H : Hp) (μ : List Addr) (M : Mem) (Q : VK), RelM K ξ H μ M → KH K H → RepU K ξ H μ x u → RepU K ξ H μ y w →
  Post K ξ mg W (RepU K ξ) σ H μ (p u w M) Q → r x y H (fun v H' => KH K H' → Q v H')
theorem tg.e2 {K : PySem.W.Frag} {mg : Str → Option Value} {p : P2} {r : R2} {f g : Ev} {σ : L2.St} {H : Hp} {Q : VK} (hp : Op2 K p r) (h : tE K mg W (e2 p f g) σ H Q) :
    tOp r (tE K mg W f) (tE K mg W g) σ H (fun v H' => KH K H' → Q v H') := by
  obtain ⟨ξ, ρ, μ, M, e, m, q⟩ := h
  refine tg.of e m ((Post.bind (R := RepU K ξ) q).mono fun x H1 ⟨u, M1, μ1, n1, m1, kh1, r1, q1⟩ => ?_)
  refine tg.of (e.next n1) m1 ((Post.bind (R := RepU K ξ) q1).mono fun y H2 ⟨w, M2, μ2, n2, m2, kh2, r2, q2⟩ => ?_)
  exact hp ξ mg W x y u w σ H2 μ2 M2 Q m2 kh2 (r1.next n2) r2 q2
theorem Op2.or {K : PySem.W.Frag} {p : P2} {r r' : R2} (h : ∀ (ξ : List Addr) (mg : Str → Option Value) (W : WX) (x y : V) (u w : U) (σ : L2.St) (H : Hp) (μ : List Addr) (M : Mem) (Q : VK), RelM K ξ H μ M → KH K H → RepU K ξ H μ x u → RepU K ξ H μ y w →
    Post K ξ mg W (RepU K ξ) σ H μ (p u w M) Q → r x y H (fun v H' => KH K H' → Q v H') ∨ r' x y H (fun v H' => KH K H' → Q v H')) : Op2 K p (fun x y H Q => r x y H Q ∨ r' x y H Q) := h
/-- data rules by cases on the two data -/
theorem Op2.lift {K : PySem.W.Frag} {g : D → D → Option D} {r : R2}
    (h : ∀ (ξ : List Addr) (mg : Str → Option Value) (W : WX) (x y : V) (d e c : D) (σ : L2.St) (H : Hp) (μ : List Addr) (M : Mem) (Q : VK), RelM K ξ H μ M → KH K H → RepV K ξ H μ x d → RepV K ξ H μ y e → g d e = some c →
      Post K ξ mg W (RepU K ξ) σ H μ (.ok (.dat c) M) Q → r x y H (fun v H' => KH K H' → Q v H')) : Op2 K (lift2 g) r := by
  intro ξ mg W x y u w σ H μ M Q m kh ru rw p
  unfold lift2 at p
  split at p
  · rename_i d e hd he
    split at p
    · rename_i c hc
      exact h ξ mg W x y d e c σ H μ M Q m kh (ru.view m hd) (rw.view m he) hc p
    · exact p.elim
  · exact p.elim
theorem se_op {op : Operator} {r : R2} {p : P2} {a b : Expr} {f g : Ev} {pos : Pos} (ho : OpR X (binaryOp op) r) (hp : Op2 X.K p r) (ha : SE X W a f) (hb : SE X W b g) : SE X W (.BinOp a op b pos) (e2 p f g) :=
  pe_sd (pe_op ho ha hb) fun σ H Q kh h => tg.e2 hp h
theorem pc_sd {op : CmpOp} {r : R2} {p : P2} {a b : Expr} {f g : Ev} (ho : OpR X (compareOp op) r) (hp : Op2 X.K p r) (ha : SE X W a f) (hb : SE X W b g) : PC X op a b (tE X.K X.mg W (e2 p f g)) :=
  ⟨fun pins s σ H Q I h => thn (ha.run pins s σ H _ I (tg.e2 hp h)) fun v s1 ⟨x, H1, I1, r1, q1⟩ => thn (hb.run pins s1 σ H1 _ I1 q1) fun u s2 ⟨y, H2, I2, r2, q2⟩ =>
    thn (ho pins s2 σ H2 x y v u _ I2 r1 r2 q2) fun c s3 ⟨z, H3, I3, r3, q3⟩ => ⟨z, H3, I3, r3, q3 (Inv.kh I3)⟩⟩
/-- a value as a test -/
def tOf (f : Ev) : Tv := fun ρ M => (f ρ M).bind fun u M1 => match u with
  | .dat (.bl b) => .ok b M1
  | _ => .bad
theorem tg.tOf {K : PySem.W.Frag} {mg : Str → Option Value} {f : Ev} {σ : L2.St} {H : Hp} {Q : Bool → Hp → Prop} (h : tB' K mg W (tOf f) σ H Q) : tE K mg W f σ H (fun v H' => ∃ k, v = .bl k ∧ Q k H') := by
  obtain ⟨ξ, ρ, μ, M, e, m, q⟩ := h
  refine tg.of e m ((Post.bind (R := RepU K ξ) q).mono fun x H1 ⟨u, M1, μ1, n1, m1, kh1, r1, q1⟩ => ?_)
  split at q1
  · rename_i b
    cases r1 with | dat r1 => cases r1; exact ⟨b, rfl, q1.here m1 kh1 rfl⟩
  · exact q1.elim
theorem st_val {e : Expr} {f : Ev} (h : SE X W e f) (he : ∀ whole, isTrue e X.env whole = (do let v ← whole; standAt e.pos; holding [v] (truthy v)) := by intro _; rfl) : ST X W e (tOf f) :=
  ⟨fun pins s σ H Q I hh => (pt_val h he).run pins s σ H Q I (tg.tOf hh)⟩
/-! ### and, or, not, if .. else -/
def bNot (f : Tv) : Tv := fun ρ M => (f ρ M).bind fun b M1 => .ok (!b) M1
def bAnd (f g : Tv) : Tv := fun ρ M => (f ρ M).bind fun b M1 => if b then g ρ M1 else .ok false M1
def bOr (f g : Tv) : Tv := fun ρ M => (f ρ M).bind fun b M1 => if b then .ok true M1 else g ρ M1
def eIf (c : Tv) (f g : Ev) : Ev := fun ρ M => (c ρ M).bind fun b M1 => if b then f ρ M1 else g ρ M1
def eB (f : Tv) : Ev := fun ρ M => (f ρ M).bind fun b M1 => .ok (.dat (.bl b)) M1
variable {a b c : Expr} {rest : List Expr} {f g : Tv} {pos : Pos}
theorem st_not (ha : ST X W a f) : ST X W (.UnaryOp .Not a pos) (bNot f) :=
  pt_sd (pt_not ha) fun σ H Q kh ⟨ξ, ρ, μ, M, e, m, q⟩ => tg.of e m ((Post.bind (R := fun _ _ (b b' : Bool) => b = b') q).mono fun x H1 ⟨u, M1, μ1, n1, m1, kh1, r1, q1⟩ kh => by
    subst r1
    exact q1.here m1 kh1 rfl)
theorem sw_or1 (ha : ST X W a f) : SW X W (.BoolOp .Or [a] pos) f := pw_or1 ha
theorem sw_or (ha : ST X W a f) (hb : SW X W (.BoolOp .Or (b :: rest) pos) g) : SW X W (.BoolOp .Or (a :: b :: rest) pos) (bOr f g) :=
  pw_sd (pw_or ha hb) fun σ H Q kh ⟨ξ, ρ, μ, M, e, m, q⟩ => tg.of e m ((Post.bind (R := fun _ _ (b b' : Bool) => b = b') q).mono fun x H1 ⟨u, M1, μ1, n1, m1, kh1, r1, q1⟩ => by
    subst r1
    cases x with
    | true => exact iteT fun _ => q1.here m1 kh1 rfl
    | false => exact iteF (tg.of (e.next n1) m1 (Post.mono q1 fun _ _ q _ => q)))
theorem st_w {e : Expr} {f : Tv} (h : SW X W e f) : ST X W e f := h.pt
/-- values: not, and, or of truths -/
theorem se_not {f : Ev} (ha : SE X W a f) : SE X W (.UnaryOp .Not a pos) (eB (bNot (tOf f))) :=
  pe_sd (pe_not ha) fun σ H Q kh ⟨ξ, ρ, μ, M, e, m, q⟩ => by
    have q2 : tB' X.K X.mg W (tOf f) σ H (fun c H' => KH X.K H' → Q (.bl (!c)) H') := tg.of e m (by
      unfold eB bNot at q
      refine Post.mono (Post.bind (R := fun _ _ (b b' : Bool) => b = b') (k := fun b M1 => Out.ok (U.dat (.bl (!b))) M1) (Q := Q) (R' := RepU X.K ξ) ?_) fun x H1 ⟨u, M1, μ1, n1, m1, kh1, r1, q1⟩ _ => ?_
      · revert q
        cases tOf f ρ M <;> exact id
      · subst r1
        exact q1.here m1 kh1 (.dat (.bl _)))
    exact tg.tOf q2
theorem se_one {op} {f : Ev} (ha : SE X W a f) : SE X W (.BoolOp op [a] pos) f := pe_one ha
def vAnd (f g : Ev) : Ev := fun ρ M => (tOf f ρ M).bind fun b M1 => if b then g ρ M1 else .ok (.dat (.bl false)) M1
def vOr (f g : Ev) : Ev := fun ρ M => (tOf f ρ M).bind fun b M1 => if b then .ok (.dat (.bl true)) M1 else g ρ M1
theorem se_and {f g : Ev} (ha : SE X W a f) (hb : SE X W (.BoolOp .And (b :: rest) pos) g) : SE X W (.BoolOp .And (a :: b :: rest) pos) (vAnd f g) :=
  pe_sd (pe_and ha hb) fun σ H Q kh ⟨ξ, ρ, μ, M, e, m, q⟩ => by
    have q2 : tB' X.K X.mg W (tOf f) σ H (fun c H1 => if c = true then tE X.K X.mg W g σ H1 (fun v H' => KH X.K H' → Q v H') else (KH X.K H1 → Q (.bl false) H1)) :=
      tg.of e m ((Post.bind (R := fun _ _ (b b' : Bool) => b = b') q).mono fun x H1 ⟨u, M1, μ1, n1, m1, kh1, r1, q1⟩ => by
        subst r1
        cases x with
        | true => exact iteT (tg.of (e.next n1) m1 (Post.mono q1 fun _ _ q _ => q))
        | false => exact iteF fun _ => q1.here m1 kh1 (.dat (.bl _)))
    exact tg.tOf q2
theorem se_or {f g : Ev} (ha : SE X W a f) (hb : SE X W (.BoolOp .Or (b :: rest) pos) g) : SE X W (.BoolOp .Or (a :: b :: rest) pos) (vOr f g) :=
  pe_sd (pe_or ha hb) fun σ H Q kh ⟨ξ, ρ, μ, M, e, m, q⟩ => by
    have q2 : tB' X.K X.mg W (tOf f) σ H (fun c H1 => if c = true then (KH X.K H1 → Q (.bl true) H1) else tE X.K X.mg W g σ H1 (fun v H' => KH X.K H' → Q v H')) :=
      tg.of e m ((Post.bind (R := fun _ _ (b b' : Bool) => b = b') q).mono fun x H1 ⟨u, M1, μ1, n1, m1, kh1, r1, q1⟩ => by
        subst r1
        cases x with
        | true => exact iteT fun _ => q1.here m1 kh1 (.dat (.bl _))
        | false => exact iteF (tg.of (e.next n1) m1 (Post.mono q1 fun _ _ q _ => q)))
    exact tg.tOf q2
end
end SD
set_option Elab.async false
set_option linter.all false
set_option maxRecDepth 100000
set_option maxHeartbeats 4000000
namespace SD
open PySem PySem.SeqAt
open AutoSeq1 (wpAny_loadPart')
open MeetsSeq MeetsSeq2 MeetsSeq3
/-! ### == and != within one model (a dict of texts is known in its own world alone) -/
def RcIn (P : Program) (w : World) (A : Around) (s : Shared) (y x : Value) (b : Bool) : Prop := ∀ (E Q : Value → Shared → Prop), Q (.bool b) s → wpAny (model P w) A (richCompare .Eq y x) Q E s
def NeIn (P : Program) (w : World) (A : Around) (s : Shared) (y x : Value) (b : Bool) : Prop := ∀ (E Q : Value → Shared → Prop), Q (.bool b) s → wpAny (model P w) A (richCompare .NotEq y x) Q E s
section
variable {P : Program} {w : World}
theorem neL_loop (p q : Addr) (xs ys : Array Value) (c1 c2 : Nat) (e1 e2 : Option Addr) (t1 t2 : Array (Option Value)) (hz : xs.size = ys.size) (f : Nat → Bool) (m : Nat) :
    ∀ i : Nat, xs.size - i = m → MeetsIn P w (Builtin.«list.__eq__.loop» ⟨[.ref p, .ref q, rawInt i, rawInt 3], []⟩)
      (fun A R s => s.heap.get? p = some { cls := .type "list", dict := e1, data := .seq xs c1, slots := t1 } ∧ s.heap.get? q = some { cls := .type "list", dict := e2, data := .seq ys c2, slots := t2 } ∧
        (∀ j (g1 : j < xs.size) (g2 : j < ys.size), EqIn P w A.in1 s xs[j] ys[j] (f j)) ∧ R (.ok (.ret (.bool (!((List.range xs.size).drop i).all f)))) s) := by
  induction m with
  | zero =>
    intro i hm A R s ⟨gp, gq, hf, hr⟩
    obtain ⟨hp, g, d, tk, os⟩ := s
    wp_walk using wpAny_loadPart' gp, wpAny_loadPart' gq
    have n1 : xs[((i : Nat) : Int).toNat]? = none := by simp; omega
    have n2 : ys[((i : Nat) : Int).toNat]? = none := by simp; omega
    have nd : (List.range xs.size).drop i = [] := by simp; omega
    rw [nd] at hr
    rw [n1, n2]
    wp_walk using wpAny_loadPart' gp, wpAny_loadPart' gq
    show R (.ok (.ret (.bool (xs.size != ys.size)))) _
    rw [hz]; simpa using hr
  | succ m ih =>
    intro i hm A R s ⟨gp, gq, hf, hr⟩
    obtain ⟨hp, g, d, tk, os⟩ := s
    wp_walk using wpAny_loadPart' gp, wpAny_loadPart' gq
    have k1 : i < xs.size := by omega
    have k2 : i < ys.size := by omega
    have n1 : xs[((i : Nat) : Int).toNat]? = some xs[i] := by simp [k1]
    have n2 : ys[((i : Nat) : Int).toNat]? = some ys[i] := by simp [k2]
    have nd : (List.range xs.size).drop i = i :: (List.range xs.size).drop (i + 1) := by simp [List.drop_eq_getElem_cons, k1]
    have nc : ((i : Int) + 1) = ((i + 1 : Nat) : Int) := by push_cast; rfl
    rw [nd, List.all_cons] at hr
    rw [n1, n2]
    refine wpAny_bind (hf i k1 k2 _ _ ?_)
    cases hfi : f i with
    | true =>
      rw [hfi] at hr
      wp_walk
      rw [nc]
      exact ⟨plainId_quiet plain_eq_loop _, codeAny_builtin entry_eq_loop (by rw [Around.under_plainId plain_eq_loop _]; exact ih (i + 1) (by omega) A R _ ⟨gp, gq, hf, by simpa using hr⟩)⟩
    | false =>
      rw [hfi] at hr
      wp_walk using wpAny_loadPart' gp, wpAny_loadPart' gq
      rw [n1, n2]
      wp_walk
      simpa using hr
theorem neL (p q : Addr) (xs ys : Array Value) (c1 c2 : Nat) (e1 e2 : Option Addr) (t1 t2 : Array (Option Value)) (hz : xs.size = ys.size) (f : Nat → Bool) :
    MeetsIn P w (Builtin.«list.__ne__» ⟨[.ref p, .ref q], []⟩)
      (fun A R s => s.heap.get? p = some { cls := .type "list", dict := e1, data := .seq xs c1, slots := t1 } ∧ s.heap.get? q = some { cls := .type "list", dict := e2, data := .seq ys c2, slots := t2 } ∧
        (∀ j (g1 : j < xs.size) (g2 : j < ys.size), EqIn P w A.in1 s xs[j] ys[j] (f j)) ∧ R (.ok (.ret (.bool (!(List.range xs.size).all f)))) s) := by
  intro A R s ⟨gp, gq, hf, hr⟩
  obtain ⟨hp, g, d, tk, os⟩ := s
  have sub3 := AutoSeq1.sub_list_list
  have nz : ¬ (xs.size != ys.size) = true := by simp [hz]
  wp_walk using wpAny_loadPart' gp, wpAny_loadPart' gq
  exact ⟨plainId_quiet plain_eq_loop _, codeAny_builtin entry_eq_loop (by rw [Around.under_plainId plain_eq_loop _]; exact neL_loop p q xs ys c1 c2 e1 e2 t1 t2 hz f _ 0 rfl A R _ ⟨gp, gq, hf, by simpa using hr⟩)⟩
theorem neT (p q : Addr) (xs ys : Array Value) (c1 c2 : Nat) (e1 e2 : Option Addr) (t1 t2 : Array (Option Value)) (f : Nat → Bool) :
    MeetsIn P w (Builtin.«tuple.__ne__» ⟨[.ref p, .ref q], []⟩)
      (fun A R s => s.heap.get? p = some { cls := .type "tuple", dict := e1, data := .seq xs c1, slots := t1 } ∧ s.heap.get? q = some { cls := .type "tuple", dict := e2, data := .seq ys c2, slots := t2 } ∧
        (∀ j (g1 : j < xs.size) (g2 : j < ys.size), EqIn P w A.in1 s xs[j] ys[j] (f j)) ∧ R (.ok (.ret (.bool (!((List.range (min xs.size ys.size)).all f && xs.size == ys.size))))) s) :=
  .of_wp fun A R s ⟨gp, gq, hf, hr⟩ => by
    obtain ⟨hp, g, d, tk, os⟩ := s
    have sub2 := AutoSeq1.sub_tuple_tuple
    have hZ : (xs.toList.zip ys.toList).length = min xs.size ys.size := by simp
    wp_walk using wpAny_loadPart' gp, wpAny_loadPart' gq, wpAny_forIn_list _ (fun rest b s' => b.1 = none ∧ s' = ⟨hp, g, d, tk, os⟩ ∧ ∃ i, rest = (xs.toList.zip ys.toList).drop i ∧
      R (.ok (.ret (.bool (!(((List.range (min xs.size ys.size)).drop i).all f && xs.size == ys.size))))) ⟨hp, g, d, tk, os⟩) _
    case turn =>
      rintro ⟨y, x⟩ rest b s' ⟨hb', rfl, i, zr, hR⟩
      have li : i < (xs.toList.zip ys.toList).length := by
        rcases Nat.lt_or_ge i (xs.toList.zip ys.toList).length with z | z
        · exact z
        · rw [List.drop_of_length_le z] at zr; cases zr
      have lm : i < min xs.size ys.size := hZ ▸ li
      have k1 : i < xs.size := Nat.lt_of_lt_of_le lm (Nat.min_le_left _ _)
      have k2 : i < ys.size := Nat.lt_of_lt_of_le lm (Nat.min_le_right _ _)
      rw [List.drop_eq_getElem_cons li] at zr
      injection zr with zyx zrest
      have ey : y = xs[i] := by simpa using congrArg Prod.fst zyx
      have ex : x = ys[i] := by simpa using congrArg Prod.snd zyx
      subst ey ex
      have nd : (List.range (min xs.size ys.size)).drop i = i :: (List.range (min xs.size ys.size)).drop (i + 1) := by simp [List.drop_eq_getElem_cons, lm]
      rw [nd, List.all_cons] at hR
      refine wpAny_bind (hf i k1 k2 _ _ ?_)
      cases hfi : f i with
      | true =>
        rw [hfi] at hR
        wp_walk
        exact ⟨rfl, rfl, i + 1, zrest, by simpa using hR⟩
      | false =>
        rw [hfi] at hR
        wp_walk
        exact ⟨_, rfl, by simpa using hR⟩
    case fin =>
      rintro ⟨b1, b2⟩ s' ⟨hb', rfl, i, zr, hR⟩
      simp only at hb'
      subst hb'
      have ge : min xs.size ys.size ≤ i := by
        rcases Nat.lt_or_ge i (xs.toList.zip ys.toList).length with z | z
        · rw [List.drop_eq_getElem_cons z] at zr; cases zr
        · exact hZ ▸ z
      rw [List.drop_of_length_le (by simpa using ge)] at hR
      wp_walk
      exact ⟨_, rfl, by simpa [Builtin.Tuple.tupleCompareSizes, bne] using hR⟩
    case h => exact ⟨rfl, rfl, 0, rfl, by simpa using hr⟩
variable {A : Around} {s : Shared} {p q : Addr} {xs ys : Array Value} {f : Nat → Bool}
theorem NeIn.lists (hl : s.heap.IsList p xs) (hb : s.heap.IsList q ys) (hz : xs.size = ys.size) (hu : A.units < cLine) (hf : ∀ j (g1 : j < xs.size) (g2 : j < ys.size), EqIn P w A.in1 s xs[j] ys[j] (f j)) : NeIn P w A s (.ref p) (.ref q) (!(List.range xs.size).all f) := fun E Q h => by
  obtain ⟨⟨k1, e1, d1, t1⟩, o1, c1, n1, f1⟩ := id hl
  obtain ⟨⟨k2, e2, d2, t2⟩, o2, c2, n2, f2⟩ := id hb
  simp only at c1 f1 c2 f2
  subst c1 f1 c2 f2
  exact wpAny_richCompare_same_room (T := "list") (op := .NotEq) ⟨_, o1, rfl⟩ ⟨_, o2, rfl⟩ F.slot_list_ne (call_meetsIn F.slot_list_ne ⟨_, o1, rfl⟩ F.entry_list_ne (F.args_list_ne_2 _ _) (neL p q xs ys n1 n2 e1 e2 t1 t2 hz f)
    ⟨o1, o2, hf, show Value.bool (!(List.range xs.size).all f) ≠ Value.notImplemented ∧ Q (.bool (!(List.range xs.size).all f)) s from ⟨(fun x => nomatch x), h⟩⟩) hu
theorem NeIn.tuples (hl : s.heap.IsTuple p xs) (hb : s.heap.IsTuple q ys) (hu : A.units < cLine) (hf : ∀ j (g1 : j < xs.size) (g2 : j < ys.size), EqIn P w A.in1 s xs[j] ys[j] (f j)) :
    NeIn P w A s (.ref p) (.ref q) (!((List.range (min xs.size ys.size)).all f && xs.size == ys.size)) := fun E Q h => by
  obtain ⟨⟨k1, e1, d1, t1⟩, o1, c1, n1, f1⟩ := id hl
  obtain ⟨⟨k2, e2, d2, t2⟩, o2, c2, n2, f2⟩ := id hb
  simp only at c1 f1 c2 f2
  subst c1 f1 c2 f2
  exact wpAny_richCompare_same_room (T := "tuple") (op := .NotEq) ⟨_, o1, rfl⟩ ⟨_, o2, rfl⟩ F.slot_tuple_ne (call_meetsIn F.slot_tuple_ne ⟨_, o1, rfl⟩ F.entry_tuple_ne (F.args_tuple_ne_2 _ _) (neT p q xs ys n1 n2 e1 e2 t1 t2 f)
    ⟨o1, o2, hf, show Value.bool (!((List.range (min xs.size ys.size)).all f && xs.size == ys.size)) ≠ Value.notImplemented ∧ Q (.bool (!((List.range (min xs.size ys.size)).all f && xs.size == ys.size))) s from ⟨(fun x => nomatch x), h⟩⟩) hu
theorem NeIn.dicts {K : Type} [DecidableEq K] {knd : KeyKind P w K} {ka kb : List (K × Value)} {r : Bool} (hp : (p == sysModules) = false) (hq : (q == sysModules) = false) (dp : s.heap.DictOf knd p ka) (dq : s.heap.DictOf knd q kb) (hu : A.units < cLine)
    (hits : ka.length = kb.length → PySem.W.KeqHitsIn P w A.in1 s kb ka r) : NeIn P w A s (.ref p) (.ref q) (!(ka.length == kb.length && r)) := fun E Q h => by
  refine wpAny_richCompare_same_room (op := .NotEq) dp.typeIs dq.typeIs PySem.F.slot_dict_ne (wpAny_call_entry PySem.F.slot_dict_ne dp.typeIs PySem.F.entry_dict_ne ?_ (PySem.F.args_dict_ne_2 _ _)) hu
  show wpAny _ _ (Builtin.Dict.dictSlotArgs "__ne__" ⟨[.ref p, .ref q], []⟩ >>= _) _ _ s
  refine wpAny_bind (by
    unfold Builtin.Dict.dictSlotArgs
    exact wpAny_bind (wpAny_notOrdered_dict dp.typeIs (show wpAny _ _ (pure (Value.ref p, Value.ref q)) _ _ s from wpAny_pure (wpAny_bind (wpAny_isInstance (T := "dict") dq.typeIs PySem.F.sub_dict_dict (by
      simp only [Bool.not_true, Bool.false_eq_true, if_false]
      exact wpAny_bind (wpAny_pure (wpAny_bind (wpAny_pure (wpAny_bind (PySem.W.keq_samePairsIn hp hq dp dq hits (wpAny_pure ⟨_, rfl, (fun x => nomatch x), by simpa using h⟩))))))))))))
end
end SD
set_option Elab.async false
set_option linter.all false
set_option maxRecDepth 100000
set_option maxHeartbeats 4000000
namespace SD
open PySem PySem.Spec PyProof.Rows L2 PySem.SeqAt
/-! ### == and != of data -/
def andAll : List (Option Bool) → Option Bool
  | [] => some true
  | o :: r => match o, andAll r with
    | some b, some c => some (b && c)
    | _, _ => none
def eqS : D → D → Option Bool
  | .non, .non => some true
  | .bl a, .bl b => some (a == b)
  | .bl a, .int j => some ((if a then 1 else 0) == j)
  | .int i, .bl b => some (i == (if b then 1 else 0))
  | .int i, .int j => some (i == j)
  | .str s, .str t => some (s == t)
  | .lst _, .lst _ => none
  | .tup _, .tup _ => none
  | .dct _, _ => none
  | _, .dct _ => none
  | .scr _, _ => none
  | _, .scr _ => none
  | .obj _ _, _ => none
  | _, .obj _ _ => none
  | .exv _ _, _ => none
  | _, .exv _ _ => none
  | _, _ => some false
def lookK (ls : List (Key × D)) (k : Key) : Option D := (ls.find? fun kv => decide (kv.1 = k)).map (·.2)
/-- no deeper than n -/
def eqO : Nat → D → D → Option Bool
  | 0, d, e => eqS d e
  | n + 1, d, e => match d, e with
    | .lst ds, .lst es => if ds.length = es.length then andAll (List.zipWith (eqO n) ds es) else some false
    | .tup ds, .tup es => (andAll (List.zipWith (eqO n) ds es)).map fun b => b && ds.length == es.length
    | .dct ks, .dct ls => if ks.length = ls.length then andAll (ks.map fun p => match lookK ls p.1 with
        | some d => eqO n p.2 d
        | none => some false) else some false
    | d, e => eqS d e
theorem mkS_beq (a b : Cs) : (mkS a == mkS b) = (a == b) := by
  have h : (mkS a = mkS b) ↔ a = b := ⟨fun h => by simpa [mkS] using congrArg (fun x : Str => x.cps.toList) h, fun h => h ▸ rfl⟩
  by_cases e : a = b
  · subst e; simp
  · rw [beq_eq_false_iff_ne.mpr e, beq_eq_false_iff_ne.mpr (fun z => e (h.mp z))]
theorem andAll_some : ∀ {l : List (Option Bool)} {b : Bool}, andAll l = some b → ∃ e : Nat → Bool, (∀ j o, l[j]? = some o → o = some (e j)) ∧ b = (List.range l.length).all e
  | [], b, h => by
    cases h
    exact ⟨fun _ => true, fun j o h => by simp at h, rfl⟩
  | o :: r, b, h => by
    unfold andAll at h
    split at h
    · rename_i b1 c hc
      cases h
      obtain ⟨e, h1, h2⟩ := andAll_some hc
      refine ⟨fun j => match j with | 0 => b1 | j + 1 => e j, fun j o h => ?_, ?_⟩
      · cases j with
        | zero => simp at h; exact h.symm
        | succ j => exact h1 j o (by simpa using h)
      · rw [h2, List.length_cons, List.range_succ_eq_map, List.all_cons, List.all_map]
        rfl
    · cases h
inductive Sh (s : Shared) : D → Value → Prop
  | non : Sh s .non .none
  | bl (b : Bool) : Sh s (.bl b) (.bool b)
  | int (i : Int) (t : Tok) : Sh s (.int i) (.int i t)
  | str (x : Cs) (t : Tok) : Sh s (.str x) (.str (mkS x) t)
  | lst {ds : List D} {a : Addr} {items : Array Value} : s.heap.IsList a items → Sh s (.lst ds) (.ref a)
  | tup {ds : List D} {a : Addr} {items : Array Value} : s.heap.IsTuple a items → Sh s (.tup ds) (.ref a)
theorem sh_eqS {A : Around} {s : Shared} {d e : D} {v u : Value} {b : Bool} (h1 : Sh s d v) (h2 : Sh s e u) (hu : A.units < cLine) (h : eqS d e = some b) : EqAt A s v u b ∧ RcAt A s v u b ∧ RcNeAt A s v u (!b) := by
  cases h1 with
  | non =>
    cases h2 with
    | non => cases h; exact ⟨EqAt.same _, RcAt.none_none, RcNeAt.none_none⟩
    | bl x2 => cases h; exact ⟨EqAt.none_bool x2, RcAt.none_bool x2, RcNeAt.none_bool x2⟩
    | int x2 t2 => cases h; exact ⟨EqAt.none_int x2 t2, RcAt.none_int x2 t2, RcNeAt.none_int x2 t2⟩
    | str x2 t2 => cases h; exact ⟨EqAt.none_str (mkS x2) t2, RcAt.none_str (mkS x2) t2, RcNeAt.none_str (mkS x2) t2⟩
    | lst h2 => cases h; exact ⟨EqAt.none_list h2 hu, RcAt.none_list h2 hu, RcNeAt.none_list h2 hu⟩
    | tup h2 => cases h; exact ⟨EqAt.none_tuple h2 hu, RcAt.none_tuple h2 hu, RcNeAt.none_tuple h2 hu⟩
  | bl x1 =>
    cases h2 with
    | non => cases h; exact ⟨EqAt.bool_none x1, RcAt.bool_none x1, RcNeAt.bool_none x1⟩
    | bl x2 => cases h; exact ⟨EqAt.bool_bool x1 x2, RcAt.bool_bool x1 x2, RcNeAt.bool_bool x1 x2⟩
    | int x2 t2 => cases h; exact ⟨EqAt.bool_int x1 x2 t2, RcAt.bool_int x1 x2 t2, RcNeAt.bool_int x1 x2 t2⟩
    | str x2 t2 => cases h; exact ⟨EqAt.bool_str x1 (mkS x2) t2, RcAt.bool_str x1 (mkS x2) t2, RcNeAt.bool_str x1 (mkS x2) t2⟩
    | lst h2 => cases h; exact ⟨EqAt.bool_list x1 h2 hu, RcAt.bool_list x1 h2 hu, RcNeAt.bool_list x1 h2 hu⟩
    | tup h2 => cases h; exact ⟨EqAt.bool_tuple x1 h2 hu, RcAt.bool_tuple x1 h2 hu, RcNeAt.bool_tuple x1 h2 hu⟩
  | int x1 t1 =>
    cases h2 with
    | non => cases h; exact ⟨EqAt.int_none x1 t1, RcAt.int_none x1 t1, RcNeAt.int_none x1 t1⟩
    | bl x2 => cases h; exact ⟨EqAt.int_bool x1 t1 x2, RcAt.int_bool x1 t1 x2, RcNeAt.int_bool x1 t1 x2⟩
    | int x2 t2 => cases h; exact ⟨EqAt.int_int x1 t1 x2 t2, RcAt.int_int x1 t1 x2 t2, RcNeAt.int_int x1 t1 x2 t2⟩
    | str x2 t2 => cases h; exact ⟨EqAt.int_str x1 t1 (mkS x2) t2, RcAt.int_str x1 t1 (mkS x2) t2, RcNeAt.int_str x1 t1 (mkS x2) t2⟩
    | lst h2 => cases h; exact ⟨EqAt.int_list x1 t1 h2 hu, RcAt.int_list x1 t1 h2 hu, RcNeAt.int_list x1 t1 h2 hu⟩
    | tup h2 => cases h; exact ⟨EqAt.int_tuple x1 t1 h2 hu, RcAt.int_tuple x1 t1 h2 hu, RcNeAt.int_tuple x1 t1 h2 hu⟩
  | str x1 t1 =>
    cases h2 with
    | non => cases h; exact ⟨EqAt.str_none (mkS x1) t1, RcAt.str_none (mkS x1) t1, RcNeAt.str_none (mkS x1) t1⟩
    | bl x2 => cases h; exact ⟨EqAt.str_bool (mkS x1) t1 x2, RcAt.str_bool (mkS x1) t1 x2, RcNeAt.str_bool (mkS x1) t1 x2⟩
    | int x2 t2 => cases h; exact ⟨EqAt.str_int (mkS x1) t1 x2 t2, RcAt.str_int (mkS x1) t1 x2 t2, RcNeAt.str_int (mkS x1) t1 x2 t2⟩
    | str x2 t2 => cases h; rw [← mkS_beq]; exact ⟨EqAt.str_str (mkS x1) t1 (mkS x2) t2, RcAt.str_str (mkS x1) t1 (mkS x2) t2, RcNeAt.str_str (mkS x1) t1 (mkS x2) t2⟩
    | lst h2 => cases h; exact ⟨EqAt.str_list (mkS x1) t1 h2 hu, RcAt.str_list (mkS x1) t1 h2 hu, RcNeAt.str_list (mkS x1) t1 h2 hu⟩
    | tup h2 => cases h; exact ⟨EqAt.str_tuple (mkS x1) t1 h2 hu, RcAt.str_tuple (mkS x1) t1 h2 hu, RcNeAt.str_tuple (mkS x1) t1 h2 hu⟩
  | lst h1 =>
    cases h2 with
    | non => cases h; exact ⟨EqAt.list_none h1 hu, RcAt.list_none h1 hu, RcNeAt.list_none h1 hu⟩
    | bl x2 => cases h; exact ⟨EqAt.list_bool x2 h1 hu, RcAt.list_bool x2 h1 hu, RcNeAt.list_bool x2 h1 hu⟩
    | int x2 t2 => cases h; exact ⟨EqAt.list_int x2 t2 h1 hu, RcAt.list_int x2 t2 h1 hu, RcNeAt.list_int x2 t2 h1 hu⟩
    | str x2 t2 => cases h; exact ⟨EqAt.list_str (mkS x2) t2 h1 hu, RcAt.list_str (mkS x2) t2 h1 hu, RcNeAt.list_str (mkS x2) t2 h1 hu⟩
    | lst h2 => cases h
    | tup h2 => cases h; exact ⟨EqAt.list_tuple h1 h2 hu, RcAt.list_tuple h1 h2 hu, RcNeAt.list_tuple h1 h2 hu⟩
  | tup h1 =>
    cases h2 with
    | non => cases h; exact ⟨EqAt.tuple_none h1 hu, RcAt.tuple_none h1 hu, RcNeAt.tuple_none h1 hu⟩
    | bl x2 => cases h; exact ⟨EqAt.tuple_bool x2 h1 hu, RcAt.tuple_bool x2 h1 hu, RcNeAt.tuple_bool x2 h1 hu⟩
    | int x2 t2 => cases h; exact ⟨EqAt.tuple_int x2 t2 h1 hu, RcAt.tuple_int x2 t2 h1 hu, RcNeAt.tuple_int x2 t2 h1 hu⟩
    | str x2 t2 => cases h; exact ⟨EqAt.tuple_str (mkS x2) t2 h1 hu, RcAt.tuple_str (mkS x2) t2 h1 hu, RcNeAt.tuple_str (mkS x2) t2 h1 hu⟩
    | lst h2 => cases h; exact ⟨EqAt.tuple_list h1 h2 hu, RcAt.tuple_list h1 h2 hu, RcNeAt.tuple_list h1 h2 hu⟩
    | tup h2 => cases h
section
variable {X : Cx} {pins : List (Addr × Obj)} {σ : L2.St} {H : Hp} {s : Shared} {ξ : List Addr} {μ : List Addr}
def plainK : D → Bool
  | .dct _ => false
  | .scr _ => false
  | .obj _ _ => false
  | .exv _ _ => false
  | _ => true
theorem RepV.sh (I : Inv X pins σ H s) {x : V} {d : D} {v : Value} (r : RepV X.K ξ H μ x d) (rv : RelV x v) (hp : plainK d = true) : Sh s d v := by
  cases d with
  | non => cases r.non; cases (show v = Value.none from rv); exact .non
  | bl b => cases r.bl; cases (show v = Value.bool b from rv); exact .bl b
  | int i => cases r.int; obtain ⟨t, rfl⟩ := (show ∃ t, v = Value.int i t from rv); exact .int i t
  | str x => cases r.str; obtain ⟨t, rfl⟩ := (show ∃ t, v = Value.str (mkS x) t from rv); exact .str x t
  | lst ds =>
    obtain ⟨a, xs, rfl, e, _⟩ := r.lstv
    cases (show v = Value.ref a from rv)
    obtain ⟨its, _, p, _⟩ := I.list (SqL.of e)
    exact .lst p.isList
  | tup ds =>
    obtain ⟨a, xs, rfl, _, e, _⟩ := r.tup
    cases (show v = Value.ref a from rv)
    obtain ⟨its, _, p, _⟩ := I.tuple e
    exact .tup (show s.heap.IsTuple a its.toArray from p)
  | dct ds => cases hp
  | scr ns => cases hp
  | obj c fs => cases hp
  | exv c fs => cases hp
theorem eqS_plain {d e : D} {b : Bool} (h : eqS d e = some b) : plainK d = true ∧ plainK e = true := by
  cases d <;> cases e <;> first | exact ⟨rfl, rfl⟩ | cases h
theorem rep_self_all (n : Nat) (ih : ∀ (d e : D) (b : Bool) (x : V), eqO n d e = some b → Rep X.K ξ H μ x d → Rep X.K ξ H μ x e → b = true) :
    ∀ {xs : List V} {ds es : List D} {b : Bool}, RepL X.K ξ H μ xs ds → RepL X.K ξ H μ xs es → andAll (List.zipWith (eqO n) ds es) = some b → b = true
  | _, _, _, _, .nil, .nil, h => by cases h; rfl
  | _, _, _, _, .cons r1 t1, .cons r2 t2, h => by
    rw [List.zipWith_cons_cons] at h
    unfold andAll at h
    split at h
    · rename_i b1 c h1 h2
      cases h
      rw [ih _ _ _ _ h1 r1 r2, rep_self_all n ih t1 t2 h2]; rfl
    · cases h
theorem tup_lst (I : Inv X pins σ H s) {a : Addr} {xs ys : List V} (q1 : SqT X.K H a xs) (e : H a = some (.lst ys)) : False := by
  obtain ⟨its, _, p1, _⟩ := I.tuple q1
  obtain ⟨its2, _, p2, _⟩ := I.list (SqL.of e)
  obtain ⟨o, e1, c1, _⟩ := p1
  obtain ⟨o2, e2, c2, _⟩ := p2.isList
  rw [e1] at e2; cases e2; rw [c1] at c2; exact absurd (Value.type.inj c2) (by decide)
theorem self_tup (I : Inv X pins σ H s) {a : Addr} {xs : List V} {ds : List D} {e : D} {b : Bool} (q1 : SqT X.K H a xs) (r2 : Rep X.K ξ H μ (.ref a) e) (h : eqS (.tup ds) e = some b) : b = true := by
  cases r2 with
  | lst h' e r => exact (tup_lst I q1 e).elim
  | _ => cases h
theorem self_lst (I : Inv X pins σ H s) {a : Addr} {xs : List V} {ds : List D} {e : D} {b : Bool} (q1 : H a = some (.lst xs)) (r2 : Rep X.K ξ H μ (.ref a) e) (h : eqS (.lst ds) e = some b) : b = true := by
  cases r2 with
  | tup h' e r => exact (tup_lst I (.inl e) q1).elim
  | ktup e r => exact (tup_lst I (e H) q1).elim
  | _ => cases h
theorem eqS_self {d e : D} {b : Bool} {x : V} (h : eqS d e = some b) (r1 : Rep X.K ξ H μ x d) (r2 : Rep X.K ξ H μ x e) (I : Inv X pins σ H s) : b = true := by
  cases r1 with
  | non => cases r2; cases h; rfl
  | bl b => cases r2; cases h; simp
  | int i => cases r2; cases h; simp
  | str z =>
    generalize hy : V.str (mkS z) = y at r2
    cases r2 with
    | str z' =>
      have e1 : z = z' := by
        have := congrArg (fun q => match q with | V.str w => w.cps.toList | _ => []) hy
        simpa [mkS] using this
      subst e1
      cases h; simp
    | _ => cases hy
  | tup _ q1 _ => exact self_tup I (.inl q1) r2 h
  | ktup q1 _ => exact self_tup I (q1 H) r2 h
  | lst _ q1 _ => exact self_lst I q1 r2 h
  | dct => cases e <;> cases h
  | scr => cases e <;> cases h
  | obj => cases e <;> cases h
  | exv => cases e <;> cases h
  | exv0 => cases e <;> cases h
  | kscr => cases e <;> cases h
theorem lookK_ne {k0 k : Key} {d : D} {ls : List (Key × D)} (h : ¬ k0 = k) : lookK ((k0, d) :: ls) k = lookK ls k := by unfold lookK; rw [List.find?_cons_of_neg (by simpa using h)]
theorem valueAt_ne {k0 k : Key} {d : Value} {ls : List (Key × Value)} (h : ¬ k0 = k) : valueAt ((k0, d) :: ls) k = valueAt ls k := by unfold valueAt; rw [List.find?_cons_of_neg (by simpa using h)]
theorem KV.find {k : Key} {xs : List (Key × V)} : ∀ {vs : List (Key × Value)} {ks : List (Key × D)}, KV xs vs → RepK X.K ξ H μ xs ks → (valueAt vs k = none ∧ lookK ks k = none) ∨ ∃ v x d, valueAt vs k = some v ∧ lookK ks k = some d ∧ RelV x v ∧ Rep X.K ξ H μ x d := by
  induction xs with
  | nil => intro vs ks h r; cases h; cases r; exact .inl ⟨rfl, rfl⟩
  | cons p xs ih =>
    intro vs ks h r
    obtain ⟨k0, x0⟩ := p
    cases h with
    | @cons _ q _ vs' h t =>
    obtain ⟨k1, v1⟩ := q
    obtain ⟨e1, e2⟩ := h
    simp only at e1 e2
    subst e1
    cases r with
    | cons r t2 =>
    by_cases hk : k0 = k
    · exact .inr ⟨v1, _, _, by simp [valueAt, hk], by simp [lookK, hk], e2, r⟩
    · rw [lookK_ne hk, valueAt_ne hk]; exact ih t t2
theorem KV.mem {k : Key} {v : Value} {xs : List (Key × V)} : ∀ {vs : List (Key × Value)} {ks : List (Key × D)}, KV xs vs → RepK X.K ξ H μ xs ks → (k, v) ∈ vs → ∃ x d, (k, d) ∈ ks ∧ RelV x v ∧ Rep X.K ξ H μ x d := by
  induction xs with
  | nil => intro vs ks h r hm; cases h; simp at hm
  | cons p xs ih =>
    intro vs ks h r hm
    obtain ⟨k0, x0⟩ := p
    cases h with
    | @cons _ q _ vs' h t =>
    obtain ⟨k1, v1⟩ := q
    obtain ⟨e1, e2⟩ := h
    simp only at e1 e2
    subst e1
    cases r with
    | cons r t2 =>
    rcases List.mem_cons.mp hm with z | z
    · cases z; exact ⟨_, _, .head _, e2, r⟩
    · obtain ⟨x, d, a, b⟩ := ih t t2 z; exact ⟨x, d, .tail _ a, b⟩
theorem KV.keys {xs : List (Key × V)} : ∀ {vs : List (Key × Value)} {ks : List (Key × D)}, KV xs vs → RepK X.K ξ H μ xs ks → vs.map (·.1) = ks.map (·.1) := by
  induction xs with
  | nil => intro vs ks h r; cases h; cases r; rfl
  | cons p xs ih =>
    intro vs ks h r
    obtain ⟨k0, x0⟩ := p
    cases h with
    | @cons _ q _ vs' h t =>
    obtain ⟨k1, v1⟩ := q
    obtain ⟨e1, _⟩ := h
    simp only at e1
    subst e1
    cases r with
    | cons r t2 => rw [List.map_cons, List.map_cons, ih t t2]
theorem lookK_mem {k : Key} {d : D} : ∀ {ks : List (Key × D)}, (ks.map (·.1)).Nodup → (k, d) ∈ ks → lookK ks k = some d
  | (k0, d0) :: ks, hn, hm => by
    rw [List.map_cons, List.nodup_cons] at hn
    rcases List.mem_cons.mp hm with z | z
    · cases z; simp [lookK]
    · have hk : ¬ k0 = k := fun e => hn.1 (e ▸ List.mem_map.mpr ⟨(k, d), z, rfl⟩)
      rw [lookK_ne hk]; exact lookK_mem hn.2 z
theorem repK_same : ∀ {xs : List (Key × V)} {ks ls : List (Key × D)} {k : Key} {d e : D}, RepK X.K ξ H μ xs ks → RepK X.K ξ H μ xs ls → (k, d) ∈ ks → lookK ls k = some e → (ks.map (·.1)).Nodup → ∃ x, Rep X.K ξ H μ x d ∧ Rep X.K ξ H μ x e
  | _, _, _, _, _, _, .nil, .nil, h, _, _ => by simp at h
  | _, _, _, k, d, e, .cons (k := k0) r t, .cons r2 t2, hm, hl, hn => by
    rw [List.map_cons, List.nodup_cons] at hn
    rcases List.mem_cons.mp hm with z | z
    · cases z
      simp [lookK] at hl
      subst hl
      exact ⟨_, r, r2⟩
    · have hk : ¬ k0 = k := fun q => hn.1 (q ▸ List.mem_map.mpr ⟨(k, d), z, rfl⟩)
      rw [lookK_ne hk] at hl
      exact repK_same t t2 z hl hn.2
theorem repK_len : ∀ {xs : List (Key × V)} {ks : List (Key × D)}, RepK X.K ξ H μ xs ks → xs.length = ks.length
  | _, _, .nil => rfl
  | _, _, .cons _ t => by rw [List.length_cons, List.length_cons, repK_len t]
theorem lookK_some {k : Key} : ∀ {xs : List (Key × V)} {ks ls : List (Key × D)} {d : D}, RepK X.K ξ H μ xs ks → RepK X.K ξ H μ xs ls → (k, d) ∈ ks → ∃ e, lookK ls k = some e
  | _, _, _, _, .nil, .nil, h => by simp at h
  | _, _, _, d, .cons (k := k0) r t, .cons r2 t2, hm => by
    by_cases hk : k0 = k
    · exact ⟨_, by simp [lookK, hk]; rfl⟩
    · rcases List.mem_cons.mp hm with z | z
      · cases z; exact absurd rfl hk
      · rw [lookK_ne hk]; exact lookK_some t t2 z
theorem andAll_all : ∀ {l : List (Option Bool)} {b : Bool}, andAll l = some b → b = l.all (fun o => o.getD false) ∧ ∀ o ∈ l, ∃ c, o = some c
  | [], b, h => by cases h; exact ⟨rfl, fun o h => by simp at h⟩
  | o :: r, b, h => by
    unfold andAll at h
    split at h
    · rename_i b1 c hc
      cases h
      obtain ⟨e, q⟩ := andAll_all hc
      refine ⟨by rw [List.all_cons, e]; rfl, fun o ho => ?_⟩
      rcases List.mem_cons.mp ho with z | z
      · exact ⟨_, z⟩
      · exact q o z
    · cases h
theorem self_dct (I : Inv X pins σ H s) (n : Nat) (ih : ∀ (d e : D) (b : Bool) (x : V), eqO n d e = some b → Rep X.K ξ H μ x d → Rep X.K ξ H μ x e → b = true) {a : Addr} {xs : List (Key × V)} {ks ls : List (Key × D)} {b : Bool} (ha : Rd H a (.dK xs)) (t1 : RepK X.K ξ H μ xs ks) (t2 : RepK X.K ξ H μ xs ls)
    (h : (if ks.length = ls.length then andAll (ks.map fun p => match lookK ls p.1 with | some d => eqO n p.2 d | none => some false) else some false) = some b) : b = true := by
  rw [if_pos (by rw [← repK_len t1, ← repK_len t2])] at h
  obtain ⟨e, q⟩ := andAll_all h
  obtain ⟨_, _, vs, kv, dk⟩ := dk_rd I.hok ha
  obtain ⟨_, _, _, _, _, _, _, _, nd⟩ := dk
  rw [KV.keys kv t1] at nd
  rw [e, List.all_eq_true]
  intro o ho
  obtain ⟨⟨k, d⟩, hp, rfl⟩ := List.mem_map.mp ho
  obtain ⟨d', hd'⟩ := lookK_some t1 t2 hp
  obtain ⟨x, r1, r2⟩ := repK_same t1 t2 hp hd' nd
  simp only [hd'] at ho ⊢
  obtain ⟨c, hc⟩ := q _ ho
  rw [hc]
  exact ih _ _ _ _ hc r1 r2
theorem eqO_self (I : Inv X pins σ H s) : ∀ (n : Nat) (d e : D) (b : Bool) (x : V), eqO n d e = some b → Rep X.K ξ H μ x d → Rep X.K ξ H μ x e → b = true
  | 0, d, e, b, x, h, r1, r2 => eqS_self h r1 r2 I
  | n + 1, d, e, b, x, h, r1, r2 => by
    unfold eqO at h
    split at h
    · rename_i ds es
      obtain ⟨a, xs, rfl, e1, t1⟩ := (RepV.of r1).lstv
      obtain ⟨a', ys, q, e2, t2⟩ := (RepV.of r2).lstv
      cases q
      rw [e1] at e2; cases e2
      rw [if_pos (by rw [← t1.length, ← t2.length])] at h
      exact rep_self_all n (eqO_self I n) t1 t2 h
    · rename_i ds es
      obtain ⟨a, xs, rfl, _, e1, t1⟩ := (RepV.of r1).tup
      obtain ⟨a', ys, q, _, e2, t2⟩ := (RepV.of r2).tup
      cases q
      cases I.tuple_inj e1 e2
      cases hz : andAll (List.zipWith (eqO n) ds es) with
      | none => rw [hz] at h; cases h
      | some c =>
        rw [hz] at h
        cases h
        rw [rep_self_all n (eqO_self I n) t1 t2 hz]
        simp [← t1.length, ← t2.length]
    · rename_i ks ls
      obtain ⟨a, xs, rfl, e1, t1⟩ := (RepV.of r1).dctv
      obtain ⟨a', ys, q, e2, t2⟩ := (RepV.of r2).dctv
      cases q
      cases rd_dk e1 e2
      exact self_dct I n (eqO_self I n) e1 t1 t2 h
    · exact eqS_self h r1 r2 I
theorem zip_get {f : D → D → Option Bool} {ds es : List D} {j : Nat} {d e : D} (h1 : ds[j]? = some d) (h2 : es[j]? = some e) : (List.zipWith f ds es)[j]? = some (f d e) := by
  rw [List.getElem?_zipWith, h1, h2]
/-- the items of two sequences -/
theorem eq_items {n : Nat} {A : Around} (ih : ∀ (d e : D) (b : Bool) (x y : V) (v u : Value), eqO n d e = some b → RepV X.K ξ H μ x d → RepV X.K ξ H μ y e → RelV x v → RelV y u → EqIn X.prog X.w A s v u b)
    {xs ys : List V} {ds es : List D} {its jts : List Value} {e : Nat → Bool} (t1 : RepL X.K ξ H μ xs ds) (t2 : RepL X.K ξ H μ ys es) (v1 : Vals xs its) (v2 : Vals ys jts) (he : ∀ j o, (List.zipWith (eqO n) ds es)[j]? = some o → o = some (e j)) :
    ∀ j (h1 : j < its.toArray.size) (h2 : j < jts.toArray.size), EqIn X.prog X.w A s its.toArray[j] jts.toArray[j] (e j) := by
  intro j h1 h2
  have l1 : j < ds.length := by rw [← t1.length, v1.length]; simpa using h1
  have l2 : j < es.length := by rw [← t2.length, v2.length]; simpa using h2
  have e1 : ds[j]? = some ds[j] := List.getElem?_eq_getElem l1
  have e2 : es[j]? = some es[j] := List.getElem?_eq_getElem l2
  obtain ⟨x, hx, rx⟩ := t1.get e1
  obtain ⟨y, hy, ry⟩ := t2.get e2
  obtain ⟨v, hv, rv⟩ := v1.get hx
  obtain ⟨u, hu, ru⟩ := v2.get hy
  have q := he j _ (zip_get e1 e2)
  have a1 : its.toArray[j] = v := by
    have : its[j]? = some its[j] := List.getElem?_eq_getElem (by simpa using h1)
    rw [this] at hv
    simpa using Option.some.inj hv
  have a2 : jts.toArray[j] = u := by
    have : jts[j]? = some jts[j] := List.getElem?_eq_getElem (by simpa using h2)
    rw [this] at hu
    simpa using Option.some.inj hu
  rw [a1, a2]
  exact ih _ _ _ _ _ _ _ q (.of rx) (.of ry) rv ru
theorem eq_leaf {A : Around} {v u : Value} {b : Bool} (h : EqAt A s v u b ∧ RcAt A s v u b ∧ RcNeAt A s v u (!b)) : EqIn X.prog X.w A s v u b ∧ RcIn X.prog X.w A s v u b ∧ NeIn X.prog X.w A s v u (!b) :=
  ⟨h.1.inModel _ _, fun E Q hq => h.2.1 _ _ E Q hq, fun E Q hq => h.2.2 _ _ E Q hq⟩
theorem eq_data (I : Inv X pins σ H s) : ∀ (n : Nat) (A : Around), A.units + n < cLine → ∀ (d e : D) (b : Bool) (x y : V) (v u : Value), eqO n d e = some b → RepV X.K ξ H μ x d → RepV X.K ξ H μ y e → RelV x v → RelV y u →
    EqIn X.prog X.w A s v u b ∧ RcIn X.prog X.w A s v u b ∧ NeIn X.prog X.w A s v u (!b)
  | 0, A, hu, d, e, b, x, y, v, u, h, r1, r2, rv, ru => eq_leaf (sh_eqS (r1.sh I rv (eqS_plain h).1) (r2.sh I ru (eqS_plain h).2) (by omega) h)
  | n + 1, A, hu, d, e, b, x, y, v, u, h, r1, r2, rv, ru => by
    have h0 := h
    unfold eqO at h
    have hin : A.in1.units + n < cLine := by show A.units + 1 + n < cLine; omega
    have hA : A.units < cLine := by omega
    split at h
    · rename_i ds es
      obtain ⟨a, xs, rfl, e1, t1⟩ := id r1.lstv
      obtain ⟨c, ys, rfl, e2, t2⟩ := id r2.lstv
      cases (show v = Value.ref a from rv)
      cases (show u = Value.ref c from ru)
      obtain ⟨its, v1, p1, _⟩ := I.list (SqL.of e1)
      obtain ⟨jts, v2, p2, _⟩ := I.list (SqL.of e2)
      have q1 := p1.isList
      have q2 := p2.isList
      have n1 : its.length = ds.length := by rw [← v1.length, t1.length]
      have n2 : jts.length = es.length := by rw [← v2.length, t2.length]
      have both : RcIn X.prog X.w A s (.ref a) (.ref c) b ∧ NeIn X.prog X.w A s (.ref a) (.ref c) (!b) := by
        by_cases hl : ds.length = es.length
        · rw [if_pos hl] at h
          obtain ⟨e, he, hb⟩ := andAll_some h
          have hit := eq_items (A := A.in1) (fun d e b x y v u q r1 r2 rv ru => (eq_data I n A.in1 hin d e b x y v u q r1 r2 rv ru).1) t1 t2 v1 v2 he
          have hs : its.toArray.size = jts.toArray.size := by simp; omega
          have hz : (List.zipWith (eqO n) ds es).length = its.toArray.size := by simp; omega
          rw [hz] at hb
          subst hb
          exact ⟨fun E Q hq => rcIn_lists q1 q2 hs hA hit hq, NeIn.lists q1 q2 hs hA hit⟩
        · rw [if_neg hl] at h
          cases h
          have hs : (its.toArray.size != jts.toArray.size) = true := by simp; omega
          exact ⟨fun E Q hq => RcAt.lists_lengths q1 q2 hs hA _ _ E Q hq, fun E Q hq => RcNeAt.lists_lengths q1 q2 hs hA _ _ E Q hq⟩
      refine ⟨?_, both⟩
      by_cases hac : a = c
      · subst hac
        rw [e1] at e2; cases e2
        have : b = true := by
          rw [if_pos (by rw [← t1.length, ← t2.length])] at h
          exact rep_self_all n (eqO_self I n) t1 t2 h
        subst this
        exact (EqAt.same _).inModel _ _
      · exact EqIn.of_refs hac fun E Q hq => both.1 E Q hq
    · rename_i ds es
      obtain ⟨a, xs, rfl, _, e1, t1⟩ := id r1.tup
      obtain ⟨c, ys, rfl, _, e2, t2⟩ := id r2.tup
      cases (show v = Value.ref a from rv)
      cases (show u = Value.ref c from ru)
      obtain ⟨its, v1, p1, _⟩ := I.tuple e1
      obtain ⟨jts, v2, p2, _⟩ := I.tuple e2
      have q1 : s.heap.IsTuple a its.toArray := p1
      have q2 : s.heap.IsTuple c jts.toArray := p2
      have n1 : its.length = ds.length := by rw [← v1.length, t1.length]
      have n2 : jts.length = es.length := by rw [← v2.length, t2.length]
      cases hz0 : andAll (List.zipWith (eqO n) ds es) with
      | none => rw [hz0] at h; cases h
      | some c0 =>
        rw [hz0] at h
        cases h
        have both : RcIn X.prog X.w A s (.ref a) (.ref c) (c0 && ds.length == es.length) ∧ NeIn X.prog X.w A s (.ref a) (.ref c) (!(c0 && ds.length == es.length)) := by
          obtain ⟨e, he, hb⟩ := andAll_some hz0
          have hit := eq_items (A := A.in1) (fun d e b x y v u q r1 r2 rv ru => (eq_data I n A.in1 hin d e b x y v u q r1 r2 rv ru).1) t1 t2 v1 v2 he
          have hz : (List.zipWith (eqO n) ds es).length = min its.toArray.size jts.toArray.size := by simp; omega
          rw [hz] at hb
          have hl : (ds.length == es.length) = (its.toArray.size == jts.toArray.size) := by simp [n1, n2]
          rw [hl, hb]
          exact ⟨fun E Q hq => rcIn_tuples q1 q2 hA hit hq, NeIn.tuples q1 q2 hA hit⟩
        refine ⟨?_, both⟩
        by_cases hac : a = c
        · subst hac
          cases I.tuple_inj e1 e2
          have : c0 = true := rep_self_all n (eqO_self I n) t1 t2 hz0
          subst this
          show EqIn X.prog X.w A s _ _ (true && ds.length == es.length)
          rw [show (true && ds.length == es.length) = true by simp [← t1.length, ← t2.length]]
          exact (EqAt.same _).inModel _ _
        · exact EqIn.of_refs hac fun E Q hq => both.1 E Q hq
    · rename_i ks ls
      obtain ⟨a, xs, rfl, e1, t1⟩ := id r1.dctv
      obtain ⟨c, ys, rfl, e2, t2⟩ := id r2.dctv
      cases (show v = Value.ref a from rv)
      cases (show u = Value.ref c from ru)
      obtain ⟨_, y1, vs, kv1, d1⟩ := dk_rd I.hok e1
      obtain ⟨_, y2, ws, kv2, d2⟩ := dk_rd I.hok e2
      have nd1 : (vs.map (·.1)).Nodup := by obtain ⟨_, _, _, _, _, _, _, _, nd⟩ := id d1; exact nd
      have l1 : vs.length = ks.length := by rw [← repK_len t1]; exact kv1.length.symm
      have l2 : ws.length = ls.length := by rw [← repK_len t2]; exact kv2.length.symm
      have both : RcIn X.prog X.w A s (.ref a) (.ref c) b ∧ NeIn X.prog X.w A s (.ref a) (.ref c) (!b) := by
        by_cases hl : ks.length = ls.length
        · rw [if_pos hl] at h
          obtain ⟨eb, hall⟩ := andAll_all h
          -- what each key answers
          have nd : (ks.map (·.1)).Nodup := by rw [← KV.keys kv1 t1]; exact nd1
          let g : Key → Bool := fun k => match lookK ks k, lookK ls k with
            | some d, some d' => (eqO n d d').getD false
            | _, _ => false
          have hits : PySem.W.KeqHitsIn X.prog X.w A.in1 s ws vs (vs.all fun p => (valueAt ws p.1).isSome && g p.1) := PySem.W.KeqHitsIn.of vs fun k v0 w0 hm hw => by
            obtain ⟨x, d, hd, rx, rd⟩ := KV.mem kv1 t1 hm
            rcases KV.find (k := k) kv2 t2 with ⟨z, _⟩ | ⟨w1, y, d', z1, z2, ry, rd'⟩
            · rw [hw] at z; cases z
            · rw [hw] at z1; cases z1
              have lk := lookK_mem nd hd
              have hmem : (match lookK ls k with | some d' => eqO n d d' | none => some false) ∈ ks.map fun p => match lookK ls p.1 with | some d => eqO n p.2 d | none => some false := List.mem_map.mpr ⟨(k, d), hd, rfl⟩
              obtain ⟨c0, hc0⟩ := hall _ hmem
              simp only [z2] at hc0
              have hg : g k = c0 := by simp only [g, lk, z2, hc0, Option.getD_some]
              rw [hg]
              exact (eq_data I n A.in1 hin d d' c0 x y v0 w0 hc0 (.of rd) (.of rd') rx ry).1
          have hr : b = (vs.length == ws.length && vs.all fun p => (valueAt ws p.1).isSome && g p.1) := by
            rw [l1, l2, eb]
            have : (ks.length == ls.length) = true := by simpa using hl
            rw [this, Bool.true_and, List.all_map]
            have m1 : ∀ (ps : List (Key × D)) (qs : List (Key × Value)), (∀ p ∈ ps, p ∈ ks) → ps.map (·.1) = qs.map (·.1) → (ps.all ((fun o => o.getD false) ∘ fun p => match lookK ls p.1 with | some d => eqO n p.2 d | none => some false)) = qs.all fun p => (valueAt ws p.1).isSome && g p.1 := by
              intro ps
              induction ps with
              | nil => intro qs _ hq; cases qs with
                | nil => rfl
                | cons => cases hq
              | cons p ps ihp =>
                intro qs hp hq
                cases qs with
                | nil => cases hq
                | cons q qs =>
                  obtain ⟨k, d⟩ := p
                  obtain ⟨k', v'⟩ := q
                  rw [List.map_cons, List.map_cons] at hq
                  injection hq with hk hq
                  simp only at hk
                  subst hk
                  rw [List.all_cons, List.all_cons, ihp qs (fun p h => hp p (.tail _ h)) hq]
                  congr 1
                  have lk := lookK_mem nd (hp (k, d) (.head _))
                  show ((match lookK ls k with | some d' => eqO n d d' | none => some false).getD false) = ((valueAt ws k).isSome && g k)
                  rcases KV.find (k := k) kv2 t2 with ⟨z, z'⟩ | ⟨w1, y, d', z1, z2, _, _⟩
                  · simp [z, z']
                  · simp [z1, z2, g, lk]
            exact m1 ks vs (fun p h => h) (KV.keys kv1 t1).symm
          rw [hr]
          exact ⟨fun E Q hq => PySem.W.keq_eqIn y1 y2 d1 d2 hA (fun _ => hits) hq, NeIn.dicts y1 y2 d1 d2 hA fun _ => hits⟩
        · rw [if_neg hl] at h
          cases h
          have hr : false = (vs.length == ws.length && false) := by simp
          rw [hr]
          exact ⟨fun E Q hq => PySem.W.keq_eqIn y1 y2 d1 d2 hA (fun z => absurd (l1.symm.trans (z.trans l2)) hl) hq, NeIn.dicts y1 y2 d1 d2 hA fun z => absurd (l1.symm.trans (z.trans l2)) hl⟩
      refine ⟨?_, both⟩
      by_cases hac : a = c
      · subst hac
        cases rd_dk e1 e2
        have : b = true := self_dct I n (eqO_self I n) e1 t1 t2 h
        subst this
        exact (EqAt.same _).inModel _ _
      · exact EqIn.of_refs hac fun E Q hq => both.1 E Q hq
    · exact eq_leaf (sh_eqS (r1.sh I rv (eqS_plain h).1) (r2.sh I ru (eqS_plain h).2) (by omega) h)
def eqN : Nat := 24
def rNeO (K : PySem.W.Frag) : R2 := fun x y H Q => ∃ ξ μ d e b, RepV K ξ H μ x d ∧ RepV K ξ H μ y e ∧ eqO eqN d e = some b ∧ Q (.bl (!b)) H
theorem op_neO (hu : X.A.units + 64 < cLine) : OpR X (compareOp .NotEq) (rNeO X.K) := by
  intro pins s σ H x y v u Q I rx ry ⟨ξ, μ, d, e, b, r1, r2, h, q⟩
  exact (eq_data I eqN X.A (by unfold eqN; omega) d e b x y v u h r1 r2 rx ry).2.2 _ _ ⟨.bl (!b), H, I, rfl, q⟩
end
def eqD (d e : D) : Option D := (eqO eqN d e).map .bl
def neD (d e : D) : Option D := (eqO eqN d e).map fun b => .bl (!b)
theorem o_ne {K : PySem.W.Frag} : Op2 K (lift2 neD) (rNeO K) := Op2.lift fun ξ mg W x y d e c σ H μ M Q m kh r1 r2 h p => by
  unfold neD at h
  cases q : eqO eqN d e with
  | none => rw [q] at h; cases h
  | some b => rw [q] at h; cases h; exact ⟨ξ, μ, d, e, b, r1, r2, q, fun kh => p.here m kh (.dat (.bl _))⟩
end SD
set_option Elab.async false
set_option linter.all false
set_option maxRecDepth 100000
set_option maxHeartbeats 4000000
namespace SD
open PySem PySem.Spec PyProof.Rows L2
/-! ### new lists -/
/-- a new list: as data, or (c) as a cell -/
def newL (c : Bool) (ds : List D) (M : Mem) : Out U := if c then .ok (.cell M.length) (M ++ [.lst ds]) else .ok (.dat (.lst ds)) M
theorem newL_post {K : PySem.W.Frag} {ξ : List Addr} {mg : Str → Option Value} {W : WX} {σ : L2.St} {H : Hp} {μ : List Addr} {M : Mem} {Q : VK} {c : Bool} {ds : List D} {xs : List V} (h : Post K ξ mg W (RepU K ξ) σ H μ (newL c ds M) Q) (m : RelM K ξ H μ M) (r : RepL K ξ H μ xs ds)
    {p : Addr} (hp : H p = none) (kh : KH K (upd H p (.lst xs))) : Q (.ref p) (upd H p (.lst xs)) := by
  unfold newL at h
  cases c with
  | false => exact h _ _ μ (Nxt.laid hp) (m.laid hp) kh (.dat (.lst (m.new hp) upd_same (RepL.next (Nxt.laid hp) r)))
  | true =>
    have hk : K.lookup p = none := by
      cases e : K.lookup p with
      | none => rfl
      | some o =>
        have := kh p o e
        rw [upd_same] at this; cases this
    refine h _ _ (μ ++ [p]) (Nxt.laidC m hp hk) (m.laidC hp hk r) kh (.cell ?_)
    rw [← m.len, List.getElem?_append_right (Nat.le_refl _)]; simp
/-- a new tuple -/
theorem newT_post {K : PySem.W.Frag} {ξ : List Addr} {mg : Str → Option Value} {W : WX} {σ : L2.St} {H : Hp} {μ : List Addr} {M : Mem} {Q : VK} {ds : List D} {xs : List V} (h : Post K ξ mg W (RepU K ξ) σ H μ (.ok (.dat (.tup ds)) M) Q) (m : RelM K ξ H μ M) (r : RepL K ξ H μ xs ds)
    {p : Addr} (hp : H p = none) (kh : KH K (upd H p (.tup xs))) : Q (.ref p) (upd H p (.tup xs)) :=
  h _ _ μ (Nxt.laid hp) (m.laid hp) kh (.dat (.tup (m.new hp) (.inl upd_same) (RepL.next (Nxt.laid hp) r)))
/-! ### arithmetic -/
def addD : D → D → Option D
  | .int i, .int j => some (.int (i + j))
  | .str s, .str t => if s.length + t.length ≤ 16777216 then some (.str (s ++ t)) else none
  | .tup ds, .tup es => if ds.length + es.length ≤ 16777216 then some (.tup (ds ++ es)) else none
  | _, _ => none
def subD : D → D → Option D
  | .int i, .int j => some (.int (i - j))
  | _, _ => none
def mulD : D → D → Option D
  | .int i, .int j => if (-(2 ^ 64) < i ∧ i < 2 ^ 64) ∨ (-(2 ^ 64) < j ∧ j < 2 ^ 64) then some (.int (i * j)) else none
  | _, _ => none
def fdivD : D → D → Option D
  | .int i, .int j => if 0 < j ∧ j < 1073741824 then some (.int (i / j)) else none
  | _, _ => none
def modD : D → D → Option D
  | .int i, .int j => if 0 < j then some (.int (i % j)) else none
  | _, _ => none
def powD : D → D → Option D
  | .int i, .int j => if 0 ≤ j ∧ j ≤ 1000000 ∧ i.natAbs < 2 ^ 64 then some (.int (i ^ j.toNat)) else none
  | _, _ => none
theorem mkS_app (s t : Cs) : mkS s ++ mkS t = mkS (s ++ t) := by
  show Str.mk (s.toArray ++ t.toArray) = _
  simp [mkS]
theorem mkS_len (s : Cs) : (mkS s).length = s.length := by simp [mkS, Str.length]
section
variable {K : PySem.W.Frag}
/-- + : numbers, texts; lists (c: the sum is a cell) -/
def pAdd (c : Bool) : P2 := fun u w M => match view u M, view w M with
  | some (.lst ds), some (.lst es) => if ds.length + es.length ≤ 16777216 then newL c (ds ++ es) M else .bad
  | _, _ => lift2 addD u w M
def rAddB (K : PySem.W.Frag) : R2 := fun x y H Q => rCatA K x y H Q ∨ (rI0 (fun i j => .int (i + j)) x y H Q ∨ ∃ i j, x = .str i ∧ y = .str j ∧ i.length + j.length ≤ sizeLine ∧ Q (.str (i ++ j)) H)
def rAddA (K : PySem.W.Frag) : R2 := fun x y H Q => rCat x y H Q ∨ rAddB K x y H Q
theorem or_add {X : Cx} : OpR X (binaryOp .Add) (rAddA X.K) := op_cat.or (op_catA.or (op_add.or op_add_str))
theorem o_add {c : Bool} : Op2 K (pAdd c) (rAddA K) := by
  intro ξ mg W x y u w σ H μ M Q m kh ru rw p
  unfold pAdd at p
  split at p
  · rename_i ds es hd he
    split at p
    · rename_i hl
      obtain ⟨a, xs, rfl, e1, t1⟩ := (ru.view m hd).lstv
      obtain ⟨b, ys, rfl, e2, t2⟩ := (rw.view m he).lstv
      refine .inl ⟨a, b, xs, ys, rfl, rfl, e1, e2, ?_, fun q hq kh' => newL_post p m (t1.append t2) hq kh'⟩
      rw [sizeLine_eq, t1.length, t2.length]; exact hl
    · exact p.elim
  · refine .inr ((Op2.lift (K := K) (g := addD) (r := rAddB K) ?_) ξ mg W x y u w σ H μ M Q m kh ru rw p)
    intro ξ mg W x y d e c σ H μ M Q m kh r1 r2 h p
    unfold addD at h
    split at h
    · cases h; cases r1.int; cases r2.int
      exact .inr (.inl ⟨_, _, rfl, rfl, fun kh => p.here m kh (.dat (.int _))⟩)
    · split at h
      · rename_i hl
        cases h; cases r1.str; cases r2.str
        refine .inr (.inr ⟨_, _, rfl, rfl, by rw [sizeLine_eq, mkS_len, mkS_len]; exact hl, fun kh => p.here m kh ?_⟩)
        rw [mkS_app]; exact .dat (.str _)
      · cases h
    · split at h
      · rename_i hl
        cases h
        cases r1 with | of r1 => cases r2 with | of r2 =>
        obtain ⟨a, xs, rfl, _, e1, t1⟩ := (RepV.of r1).tup
        obtain ⟨b, ys, rfl, _, e2, t2⟩ := (RepV.of r2).tup
        refine .inl ⟨a, b, xs, ys, rfl, rfl, e1, e2, by rw [sizeLine_eq, t1.length, t2.length]; exact hl, fun z kh' => ?_, fun _ z kh' => ?_, fun _ _ q hq kh' => newT_post p m (t1.append t2) hq kh'⟩
        · subst z; cases t1; exact p.here m kh' (.dat r2)
        · subst z; cases t2; rw [List.append_nil] at p; exact p.here m kh' (.dat r1)
      · cases h
    · cases h
theorem o_int {g : D → D → Option D} {C : Int → Int → Prop} {f : Int → Int → Int} (hg : ∀ d e c, g d e = some c → ∃ i j, d = .int i ∧ e = .int j ∧ C i j ∧ c = .int (f i j)) : Op2 K (lift2 g) (rI C fun i j => .int (f i j)) :=
  Op2.lift fun ξ mg W x y d e c σ H μ M Q m kh r1 r2 h p => by
    obtain ⟨i, j, rfl, rfl, hc, rfl⟩ := hg d e c h
    cases r1.int; cases r2.int
    exact ⟨i, j, rfl, rfl, hc, fun kh => p.here m kh (.dat (.int _))⟩
theorem o_sub : Op2 K (lift2 subD) (rI0 fun i j => .int (i - j)) := Op2.lift fun ξ mg W x y d e c σ H μ M Q m kh r1 r2 h p => by
  unfold subD at h
  split at h
  · cases h; cases r1.int; cases r2.int
    exact ⟨_, _, rfl, rfl, fun kh => p.here m kh (.dat (.int _))⟩
  · cases h
theorem o_fdiv : Op2 K (lift2 fdivD) (rI CDiv fun i j => .int (i / j)) := o_int fun d e c h => by
  unfold fdivD at h
  split at h
  · split at h
    · rename_i hc; cases h; exact ⟨_, _, rfl, rfl, hc, rfl⟩
    · cases h
  · cases h
theorem o_mod : Op2 K (lift2 modD) (rI (fun _ j => 0 < j) fun i j => .int (i % j)) := o_int fun d e c h => by
  unfold modD at h
  split at h
  · split at h
    · rename_i hc; cases h; exact ⟨_, _, rfl, rfl, hc, rfl⟩
    · cases h
  · cases h
theorem o_pow : Op2 K (lift2 powD) (rI CPow fun i j => .int (i ^ j.toNat)) := o_int fun d e c h => by
  unfold powD at h
  split at h
  · split at h
    · rename_i hc; cases h; exact ⟨_, _, rfl, rfl, hc, rfl⟩
    · cases h
  · cases h
/-! ### order -/
def csLt (s t : Cs) : Bool := decide (s < t)
def ltD : D → D → Option D
  | .int i, .int j => some (.bl (decide (i < j)))
  | .str s, .str t => some (.bl (csLt s t))
  | _, _ => none
def leD : D → D → Option D
  | .int i, .int j => some (.bl (decide (i ≤ j)))
  | .str s, .str t => some (.bl (!csLt t s))
  | _, _ => none
def gtD (d e : D) : Option D := ltD e d
def geD (d e : D) : Option D := leD e d
def rOrd (f : Int → Int → Bool) (g : Str → Str → Bool) : R2 := fun x y H Q => rI0 (fun i j => .bl (f i j)) x y H Q ∨ ∃ i j, x = .str i ∧ y = .str j ∧ Q (.bl (g i j)) H
theorem or_lt {X : Cx} : OpR X (compareOp .Lt) (rOrd (fun i j => decide (i < j)) fun i j => decide (i.cps.toList < j.cps.toList)) := op_lt.or op_lt_str
theorem or_gt {X : Cx} : OpR X (compareOp .Gt) (rOrd (fun i j => decide (j < i)) fun i j => decide (j.cps.toList < i.cps.toList)) := op_gt.or op_gt_str
theorem o_ord {g : D → D → Option D} {f : Int → Int → Bool} {h : Str → Str → Bool} (hg : ∀ d e c, g d e = some c → (∃ i j, d = .int i ∧ e = .int j ∧ c = .bl (f i j)) ∨ ∃ s t, d = .str s ∧ e = .str t ∧ c = .bl (h (mkS s) (mkS t))) : Op2 K (lift2 g) (rOrd f h) :=
  Op2.lift fun ξ mg W x y d e c σ H μ M Q m kh r1 r2 q p => by
    rcases hg d e c q with ⟨i, j, rfl, rfl, rfl⟩ | ⟨i, j, rfl, rfl, rfl⟩
    · cases r1.int; cases r2.int
      exact .inl ⟨i, j, rfl, rfl, fun kh => p.here m kh (.dat (.bl _))⟩
    · cases r1.str; cases r2.str
      exact .inr ⟨_, _, rfl, rfl, fun kh => p.here m kh (.dat (.bl _))⟩
theorem o_lt : Op2 K (lift2 ltD) (rOrd (fun i j => decide (i < j)) fun i j => decide (i.cps.toList < j.cps.toList)) := o_ord fun d e c h => by
  unfold ltD at h; split at h <;> first | (cases h; exact .inl ⟨_, _, rfl, rfl, rfl⟩) | (cases h; exact .inr ⟨_, _, rfl, rfl, rfl⟩) | cases h
theorem o_gt : Op2 K (lift2 gtD) (rOrd (fun i j => decide (j < i)) fun i j => decide (j.cps.toList < i.cps.toList)) := o_ord fun d e c h => by
  unfold gtD ltD at h; split at h <;> first | (cases h; exact .inl ⟨_, _, rfl, rfl, rfl⟩) | (cases h; exact .inr ⟨_, _, rfl, rfl, rfl⟩) | cases h
/-! ### is None, in -/
def isNone : D → Bool
  | .non => true
  | _ => false
def isND : D → D → Option D
  | d, .non => some (.bl (isNone d))
  | _, _ => none
def notND : D → D → Option D
  | d, .non => some (.bl (!isNone d))
  | _, _ => none
end
end SD
set_option Elab.async false
set_option linter.all false
set_option maxRecDepth 100000
set_option maxHeartbeats 4000000
namespace SD
open PySem PySem.Spec PyProof.Rows L2
/-! ### arguments, displays -/
def aNil : Av := fun _ M => .ok [] M
def aCons (f : Ev) (g : Av) : Av := fun ρ M => (f ρ M).bind fun u M1 => (g ρ M1).bind fun us M2 => .ok (u :: us) M2
def toDs : List U → Option (List D)
  | [] => some []
  | .dat d :: r => (toDs r).map (d :: ·)
  | .cell _ :: _ => none
  | .exn _ _ _ :: _ => none
  | .tup _ :: _ => none
section
variable {K : PySem.W.Frag} {ξ : List Addr} {H : Hp} {μ : List Addr}
theorem RepUs.toL : ∀ {vs : List V} {us : List U} {ds : List D}, RepUs K ξ H μ vs us → toDs us = some ds → RepL K ξ H μ vs ds
  | _, _, _, .nil, h => by cases h; exact .nil
  | _, _, ds, .cons (us := us) r t, h => by
    cases r with
    | dat r =>
      unfold toDs at h
      cases q : toDs us with
      | none => rw [q] at h; cases h
      | some es => rw [q] at h; cases h; exact .cons r (RepUs.toL t q)
    | cell => cases h
    | exn => cases h
    | tup => cases h
theorem RepUs.length : ∀ {vs : List V} {us : List U}, RepUs K ξ H μ vs us → vs.length = us.length
  | _, _, .nil => rfl
  | _, _, .cons _ t => by simp [RepUs.length t]
end
section
variable {X : Cx} {W : WX}
theorem sa_nil : SA X W [] aNil := pa_sd pa_nil fun σ H Q kh ⟨ξ, ρ, μ, M, e, m, p⟩ kh' => p.here m kh' .nil
theorem sa_cons {e : Expr} {es : List Expr} {f : Ev} {g : Av} (ha : SE X W e f) (hr : SA X W es g) (hs : starEach (e :: es) X.env = (false, eval e X.env) :: starEach es X.env := by rfl) : SA X W (e :: es) (aCons f g) :=
  pa_sd (pa_cons ha hr hs) fun σ H Q kh ⟨ξ, ρ, μ, M, e, m, q⟩ => tg.of e m ((Post.bind (R := RepU X.K ξ) q).mono fun x H1 ⟨u, M1, μ1, n1, m1, kh1, r1, q1⟩ =>
    tg.of (e.next n1) m1 ((Post.bind (R := RepUs X.K ξ) q1).mono fun xs H2 ⟨us, M2, μ2, n2, m2, kh2, r2, q2⟩ kh => q2.here m2 kh (.cons (r1.next n2) r2)))
def eLst (c : Bool) (f : Av) : Ev := fun ρ M => (f ρ M).bind fun us M1 => match toDs us with
  | some ds => if ds.length ≤ 16777216 then newL c ds M1 else .bad
  | none => .bad
def eTup (f : Av) : Ev := fun ρ M => (f ρ M).bind fun us M1 => match toDs us with
  | some ds => if ds.length ≤ 16777216 then .ok (.dat (.tup ds)) M1 else .bad
  | none => .bad
theorem se_lst (c : Bool) {es : List Expr} {f : Av} {pos : Pos} (h : SA X W es f) : SE X W (.List es pos) (eLst c f) :=
  pe_sd (pe_lst h) fun σ H Q kh ⟨ξ, ρ, μ, M, e, m, q⟩ => tg.of e m ((Post.bind (R := RepUs X.K ξ) q).mono fun xs H1 ⟨us, M1, μ1, n1, m1, kh1, r1, q1⟩ => by
    split at q1
    · rename_i ds hd
      split at q1
      · rename_i hl
        have r := r1.toL hd
        exact ⟨by rw [sizeLine_eq, r.length]; exact hl, fun p hp kh => newL_post q1 m1 r hp kh⟩
      · exact q1.elim
    · exact q1.elim)
theorem se_tup {es : List Expr} {f : Av} {x1} {pos : Pos} (h : SA X W es f) : SE X W (.Tuple es x1 pos) (eTup f) :=
  pe_sd (pe_tup h) fun σ H Q kh ⟨ξ, ρ, μ, M, e, m, q⟩ => tg.of e m ((Post.bind (R := RepUs X.K ξ) q).mono fun xs H1 ⟨us, M1, μ1, n1, m1, kh1, r1, q1⟩ => by
    split at q1
    · rename_i ds hd
      split at q1
      · rename_i hl
        have r := r1.toL hd
        exact ⟨by rw [sizeLine_eq, r.length]; exact hl, fun p hp kh => newT_post q1 m1 r hp kh⟩
      · exact q1.elim
    · exact q1.elim)
/-! ### subscripts -/
def strAt (s : Cs) (i : Int) : Option D := (atI s i).map fun c => .str [c]
def ixD : D → D → Option D
  | .lst ds, .int i => atI ds i
  | .tup ds, .int i => atI ds i
  | .scr ns, .int i => (atI ns i).map .int
  | .str s, .int i => if s.length ≤ 16777216 then strAt s i else none
  | _, _ => none
theorem atI_len {α β : Type} {xs : List α} {ys : List β} (h : xs.length = ys.length) {i : Int} {y : β} (e : atI ys i = some y) : ∃ j : Nat, ys[j]? = some y ∧ ∀ x : α, xs[j]? = some x → atI xs i = some x := by
  unfold atI at e ⊢
  cases q : ixN ys.length i with
  | none => rw [q] at e; cases e
  | some j =>
    rw [q] at e
    refine ⟨j, e, fun x hx => ?_⟩
    rw [h, q]; exact hx
theorem RepL.atI {K : PySem.W.Frag} {ξ : List Addr} {H : Hp} {μ : List Addr} {vs : List V} {ds : List D} {i : Int} {d : D} (r : RepL K ξ H μ vs ds) (h : atI ds i = some d) : ∃ v, L2.atI vs i = some v ∧ Rep K ξ H μ v d := by
  obtain ⟨j, h1, h2⟩ := atI_len r.length h
  obtain ⟨v, h3, h4⟩ := r.get h1
  exact ⟨v, h2 v h3, h4⟩
theorem o_ix {K : PySem.W.Frag} : Op2 K (lift2 ixD) (rIx K) := Op2.lift fun ξ mg W x y d e c σ H μ M Q m kh r1 r2 q p => by
  unfold ixD at q
  split at q
  · obtain ⟨a, xs, rfl, e1, t1⟩ := r1.lstv
    cases r2.int
    obtain ⟨v, h1, h2⟩ := t1.atI q
    exact .inl ⟨a, xs, _, v, rfl, rfl, SqL.of e1, h1, fun kh => p.here m kh (.dat h2)⟩
  · obtain ⟨a, xs, rfl, _, e1, t1⟩ := r1.tup
    cases r2.int
    obtain ⟨v, h1, h2⟩ := t1.atI q
    exact .inr (.inl ⟨a, xs, _, v, rfl, rfl, e1, h1, fun kh => p.here m kh (.dat h2)⟩)
  · rename_i ns i
    obtain ⟨a, rfl, _, e1⟩ := r1.scr
    cases r2.int
    cases hz : atI ns i with
    | none => rw [hz] at q; cases q
    | some z =>
      rw [hz] at q; cases q
      obtain ⟨j, h1, h2⟩ := atI_len (xs := ns.map V.int) (by simp) hz
      exact .inl ⟨a, _, _, .int z, rfl, rfl, e1, h2 _ (by simp [h1]), fun kh => p.here m kh (.dat (.int z))⟩
  · rename_i s i
    split at q
    · rename_i hl
      cases r1.str; cases r2.int
      unfold strAt at q
      cases hz : atI s i with
      | none => rw [hz] at q; cases q
      | some z =>
        rw [hz] at q; cases q
        refine .inr (.inr ⟨_, _, z, rfl, rfl, by rw [sizeLine_eq, mkS_len]; exact hl, by simpa [mkS] using hz, fun kh => p.here m kh (.dat (.str [z]))⟩)
    · cases q
  · cases q
theorem se_ix {a b : Expr} {f g : Ev} {pos : Pos} (ha : SE X W a f) (hb : SE X W b g) (hs : PlainIx b := by exact fun _ _ => rfl) : SE X W (.Subscript a b pos) (e2 (lift2 ixD) f g) :=
  pe_sd (pe_ix ix_seq ha hb hs) fun σ H Q kh h => tg.e2 o_ix h
/-- parts of a slice -/
abbrev Pv := En → Mem → Out (Option Int)
def pNone : Pv := fun _ M => .ok none M
def pSome (f : Ev) : Pv := fun ρ M => (f ρ M).bind fun u M1 => match u with
  | .dat (.int i) => .ok (some i) M1
  | _ => .bad
def cutL {α : Type} (xs : List α) (lo hi : Option Int) : List α := (xs.drop (HT.sIx xs.length 0 lo)).take (HT.sIx xs.length xs.length hi - HT.sIx xs.length 0 lo)
def pSl (c : Bool) (u : U) (lo hi : Option Int) (M : Mem) : Out U := match view u M with
  | some (.lst ds) => newL c (cutL ds lo hi) M
  | some (.str s) => if s.length ≤ 16777216 then .ok (.dat (.str (cutL s lo hi))) M else .bad
  | some (.tup ds) => .ok (.dat (.tup (cutL ds lo hi))) M
  | _ => .bad
def eSl (c : Bool) (f : Ev) (lo hi : Pv) : Ev := fun ρ M => (f ρ M).bind fun u M1 => (lo ρ M1).bind fun l M2 => (hi ρ M2).bind fun h M3 => pSl c u l h M3
/-! ### built-ins -/
abbrev Pf := List U → Mem → Out U
def eCall (p : Pf) (f : Av) : Ev := fun ρ M => (f ρ M).bind p
def Cl (K : PySem.W.Frag) (p : Pf) (r : List V → Hp → VK → Prop) : Prop := ∀ (ξ : List Addr) (mg : Str → Option Value) (W : WX) (xs : List V) (us : List U) (σ : L2.St) (H : Hp) (μ : List Addr) (M : Mem) (Q : VK), RelM K ξ H μ M → KH K H → RepUs K ξ H μ xs us →
  Post K ξ mg W (RepU K ξ) σ H μ (p us M) Q → r xs H (fun v H' => KH K H' → Q v H')
theorem tg.call {K : PySem.W.Frag} {mg : Str → Option Value} {p : Pf} {r : List V → Hp → VK → Prop} {f : Av} {σ : L2.St} {H : Hp} {Q : VK} (hp : Cl K p r) (h : tE K mg W (eCall p f) σ H Q) : tCB r (tA K mg W f) σ H (fun v H' => KH K H' → Q v H') := by
  obtain ⟨ξ, ρ, μ, M, e, m, q⟩ := h
  exact tg.of e m ((Post.bind (R := RepUs K ξ) q).mono fun xs H1 ⟨us, M1, μ1, n1, m1, kh1, r1, q1⟩ => hp ξ mg W xs us σ H1 μ1 M1 Q m1 kh1 r1 q1)
theorem se_callB {x : Str} {p pos : Pos} {e : Expr} {es : List Expr} {f : Av} {id : String} {r : List V → Hp → VK → Prop} {pf : Pf} (hc : CallR X (.builtin id) r) (hp : Cl X.K pf r) (hm : X.mg x = none) (ha : SA X W (e :: es) f)
    (hv : bootBuiltins x = some (.builtin id) := by decide +kernel) (hg : Gl X x := by rfl) (hn : x ≠ "__name__" := by decide) (hdb : (x == ("__debug__" : Str)) = false := by decide)
    (he : starEach (e :: es) X.env = (false, eval e X.env) :: starEach es X.env := by rfl) (hpl : (backTo pos (starEach es X.env)).any (·.1) = false := by rfl) : SE X W (.Call (.Name x p) (e :: es) [] pos) (eCall pf f) :=
  pe_sd (pe_callB hc hg hm hv ha hn hdb he hpl) fun σ H Q kh h => tg.call hp h
/-- functions of one datum, of two -/
def pf1 (g : D → Option D) : Pf := fun us M => match us with
  | [u] => match view u M with
    | some d => match g d with
      | some c => .ok (.dat c) M
      | none => .bad
    | none => .bad
  | _ => .bad
def pf2 (g : D → D → Option D) : Pf := fun us M => match us with
  | [u, w] => match view u M, view w M with
    | some d, some e => match g d e with
      | some c => .ok (.dat c) M
      | none => .bad
    | _, _ => .bad
  | _ => .bad
/-- .. that give a new list -/
def pfL (c : Bool) (g : D → Option (List D)) : Pf := fun us M => match us with
  | [u] => match view u M with
    | some d => match g d with
      | some ds => newL c ds M
      | none => .bad
    | none => .bad
  | _ => .bad
section
variable {K : PySem.W.Frag}
theorem Cl.one {g : D → Option D} {r : List V → Hp → VK → Prop} (h : ∀ (ξ : List Addr) (mg : Str → Option Value) (W : WX) (x : V) (d c : D) (σ : L2.St) (H : Hp) (μ : List Addr) (M : Mem) (Q : VK), RelM K ξ H μ M → KH K H → RepV K ξ H μ x d → g d = some c →
    Post K ξ mg W (RepU K ξ) σ H μ (.ok (.dat c) M) Q → r [x] H (fun v H' => KH K H' → Q v H')) : Cl K (pf1 g) r := by
  intro ξ mg W xs us σ H μ M Q m kh r p
  unfold pf1 at p
  split at p
  · cases r with
    | cons r1 r2 =>
      cases r2
      split at p
      · rename_i d hd
        split at p
        · rename_i c hc
          exact h ξ mg W _ d c σ H μ M Q m kh (r1.view m hd) hc p
        · exact p.elim
      · exact p.elim
  · exact p.elim
theorem Cl.two {g : D → D → Option D} {r : List V → Hp → VK → Prop} (h : ∀ (ξ : List Addr) (mg : Str → Option Value) (W : WX) (x y : V) (d e c : D) (σ : L2.St) (H : Hp) (μ : List Addr) (M : Mem) (Q : VK), RelM K ξ H μ M → KH K H → RepV K ξ H μ x d → RepV K ξ H μ y e → g d e = some c →
    Post K ξ mg W (RepU K ξ) σ H μ (.ok (.dat c) M) Q → r [x, y] H (fun v H' => KH K H' → Q v H')) : Cl K (pf2 g) r := by
  intro ξ mg W xs us σ H μ M Q m kh r p
  unfold pf2 at p
  split at p
  · cases r with
    | cons r1 r2 => cases r2 with
      | cons r2 r3 =>
        cases r3
        split at p
        · rename_i d e hd he
          split at p
          · rename_i c hc
            exact h ξ mg W _ _ d e c σ H μ M Q m kh (r1.view m hd) (r2.view m he) hc p
          · exact p.elim
        · exact p.elim
  · exact p.elim
theorem Cl.lst {c : Bool} {g : D → Option (List D)} {r : List V → Hp → VK → Prop} (h : ∀ (ξ : List Addr) (mg : Str → Option Value) (W : WX) (x : V) (d : D) (ds : List D) (σ : L2.St) (H : Hp) (μ : List Addr) (M : Mem) (Q : VK), RelM K ξ H μ M → KH K H → RepV K ξ H μ x d → g d = some ds →
    (∀ xs p, RepL K ξ H μ xs ds → H p = none → KH K (upd H p (.lst xs)) → Q (.ref p) (upd H p (.lst xs))) → r [x] H (fun v H' => KH K H' → Q v H')) : Cl K (pfL c g) r := by
  intro ξ mg W xs us σ H μ M Q m kh r p
  unfold pfL at p
  split at p
  · cases r with
    | cons r1 r2 =>
      cases r2
      split at p
      · rename_i d hd
        split at p
        · rename_i ds hc
          exact h ξ mg W _ d ds σ H μ M Q m kh (r1.view m hd) hc fun xs q r hq kh' => newL_post p m r hq kh'
        · exact p.elim
      · exact p.elim
  · exact p.elim
def lenD : D → Option D
  | .str s => if s.length ≤ 16777216 then some (.int s.length) else none
  | .lst ds => some (.int ds.length)
  | .tup ds => some (.int ds.length)
  | .scr ns => some (.int ns.length)
  | _ => none
theorem c_len : Cl K (pf1 lenD) (fun xs H Q => ∃ x n, xs = [x] ∧ LenV K x H n ∧ Q (.int n) H) := Cl.one fun ξ mg W x d c σ H μ M Q m kh r h p => by
  unfold lenD at h
  split at h
  · split at h
    · rename_i s hl
      cases h; cases r.str
      refine ⟨_, _, rfl, ⟨by rw [sizeLine_eq, mkS_len]; exact hl, rfl⟩, fun kh => ?_⟩
      rw [mkS_len]; exact p.here m kh (.dat (.int _))
    · cases h
  · cases h
    obtain ⟨a, xs, rfl, e1, t1⟩ := r.lstv
    exact ⟨_, _, rfl, .inl ⟨xs, SqL.of e1, t1.length.symm⟩, fun kh => p.here m kh (.dat (.int _))⟩
  · cases h
    obtain ⟨a, xs, rfl, _, e1, t1⟩ := r.tup
    exact ⟨_, _, rfl, .inr ⟨xs, e1, t1.length.symm⟩, fun kh => p.here m kh (.dat (.int _))⟩
  · cases h
    obtain ⟨a, rfl, _, e1⟩ := r.scr
    exact ⟨_, _, rfl, .inl ⟨_, e1, by simp⟩, fun kh => p.here m kh (.dat (.int _))⟩
  · cases h
def max2D : D → D → Option D
  | .int i, .int j => some (.int (if j > i then j else i))
  | _, _ => none
def min2D : D → D → Option D
  | .int i, .int j => some (.int (if j < i then j else i))
  | _, _ => none
theorem c_max2 : Cl K (pf2 max2D) (fun xs H Q => ∃ i j, xs = [.int i, .int j] ∧ Q (.int (if j > i then j else i)) H) := Cl.two fun ξ mg W x y d e c σ H μ M Q m kh r1 r2 h p => by
  unfold max2D at h
  split at h
  · cases h; cases r1.int; cases r2.int
    exact ⟨_, _, rfl, fun kh => p.here m kh (.dat (.int _))⟩
  · cases h
theorem c_min2 : Cl K (pf2 min2D) (fun xs H Q => ∃ i j, xs = [.int i, .int j] ∧ Q (.int (if j < i then j else i)) H) := Cl.two fun ξ mg W x y d e c σ H μ M Q m kh r1 r2 h p => by
  unfold min2D at h
  split at h
  · cases h; cases r1.int; cases r2.int
    exact ⟨_, _, rfl, fun kh => p.here m kh (.dat (.int _))⟩
  · cases h
def seqD : D → Option (List D)
  | .lst ds => some ds
  | .tup ds => some ds
  | _ => none
/-! ### isinstance -/
def isiB (T : String) (d : D) : Bool := match d with
  | .non => T == "NoneType"
  | .bl _ => T == "bool" || T == "int"
  | .int _ => T == "int"
  | .str _ => T == "str"
  | .tup _ => T == "tuple"
  | .lst _ => T == "list"
  | .dct _ => T == "dict"
  | .scr _ => T == "list"
  | .obj _ _ => false
  | .exv _ _ => false
def noEx : D → Bool
  | .exv _ _ => false
  | _ => true
def eIsi (T : String) (f : Ev) : Ev := fun ρ M => (f ρ M).bind fun u M1 => match view u M1 with
  | some d => if noEx d = true then .ok (.dat (.bl (isiB T d))) M1 else .bad
  | none => .bad
structure IsiT (T : String) : Prop where
  non : kitB "NoneType" T = some (isiB T .non)
  bl : kitB "bool" T = some (T == "bool" || T == "int")
  int : kitB "int" T = some (T == "int")
  str : kitB "str" T = some (T == "str")
  tup : kitB "tuple" T = some (T == "tuple")
  lst : kitB "list" T = some (T == "list")
  dct : kitB "dict" T = some (T == "dict")
  mem : T ∈ (["int", "bool", "str", "tuple", "list", "dict"] : List String)
theorem RepV.ty {ξ : List Addr} {H : Hp} {μ : List Addr} {x : V} {d : D} {T : String} (h : IsiT T) (hx : noEx d = true) (r : RepV K ξ H μ x d) : ∃ t, TyX K H x t ∧ PySem.W.kitOne K t (.type T) = some (isiB T d) := by
  cases d with
  | non => cases r.non; exact ⟨_, .base .non, kit_ty h.non⟩
  | bl b => cases r.bl; exact ⟨_, .base (.bl b), kit_ty h.bl⟩
  | int i => cases r.int; exact ⟨_, .base (.int i), kit_ty h.int⟩
  | str s => cases r.str; exact ⟨_, .base (.str _), kit_ty h.str⟩
  | lst ds => obtain ⟨a, xs, rfl, e, _⟩ := r.lstv; exact ⟨_, .base (.lst e), kit_ty h.lst⟩
  | tup ds =>
    obtain ⟨a, xs, rfl, _, e, _⟩ := r.tup
    refine ⟨.type "tuple", ?_, kit_ty h.tup⟩
    rcases e with (e | ⟨o, e⟩) | ⟨o, its, n, e, c, _⟩
    · exact .base (.tup e)
    · exact .fTuple e
    · exact .kTuple e c
  | dct ds =>
    obtain ⟨a, xs, rfl, e, _⟩ := r.dctv
    rcases e with e | ⟨o, e⟩
    · exact ⟨_, .base (.dK e), kit_ty h.dct⟩
    · exact ⟨_, .fDict e, kit_ty h.dct⟩
  | scr ns =>
    obtain ⟨a, rfl, _, e⟩ := r.scr
    refine ⟨.type "list", ?_, kit_ty h.lst⟩
    rcases e with (e | ⟨o, e⟩) | ⟨o, its, n, e, c, _⟩
    · exact .base (.lst e)
    · exact .base (.frz e)
    · exact .kList e c
  | obj c fs =>
    obtain ⟨a, C, dx, vs, rfl, hc, e, _⟩ := r.objv
    exact ⟨_, .base (.ins e hc.cls hc.ca hc.cg hc.ct hc.cm), hc.isi T h.mem⟩
  | exv c fs => cases hx
theorem ii_bool : IsiT "bool" := ⟨by decide +kernel, by decide +kernel, by decide +kernel, by decide +kernel, by decide +kernel, by decide +kernel, by decide +kernel, by decide +kernel⟩
end
theorem se_isi {T : String} {x : Str} {e : Expr} {f : Ev} {p pos pt : Pos} (hT : IsiT T) (hmi : X.mg "isinstance" = none) (hm : X.mg x = none) (he : SE X W e f) (hv : bootBuiltins x = some (.type T) := by decide +kernel) (hg : Gl X x := by rfl) (hgi : Gl X "isinstance" := by rfl)
    (hn : x ≠ "__name__" := by decide) (hdb : (x == ("__debug__" : Str)) = false := by decide)
    (h1 : starEach [e, .Name x pt] X.env = (false, eval e X.env) :: starEach [.Name x pt] X.env := by rfl) (h2 : starEach [.Name x pt] X.env = (false, eval (.Name x pt) X.env) :: starEach [] X.env := by rfl) (hpl : (backTo pos (starEach [.Name x pt] X.env)).any (·.1) = false := by rfl) :
    SE X W (.Call (.Name "isinstance" p) [e, .Name x pt] [] pos) (eIsi T f) :=
  pe_sd (pe_callB (r := rIsi X.K) call_isi hgi hmi (by decide +kernel) (pa_cons he (pa_cons (pe_bltn (v := .ty T) hg hm hv rfl hn hdb) pa_nil h2) h1) (by decide) (by decide) h1 hpl)
    fun σ H Q kh ⟨ξ, ρ, μ, M, e, m, q⟩ => tg.of e m ((Post.bind (R := RepU X.K ξ) q).mono fun x H1 ⟨u, M1, μ1, n1, m1, kh1, r1, q1⟩ => by
      split at q1
      · rename_i d hd
        split at q1
        · rename_i hx
          obtain ⟨t, ht, hk⟩ := (r1.view m1 hd).ty hT hx
          exact ⟨x, .ty T, _, _, _, rfl, .ty T, ht, hk, fun kh => q1.here m1 kh (.dat (.bl _))⟩
        · exact q1.elim
      · exact q1.elim)
end
end SD
set_option Elab.async false
set_option linter.all false
set_option maxRecDepth 100000
set_option maxHeartbeats 4000000
namespace SD
open PySem PySem.Spec PyProof.Rows L2
/-! ### statements -/
def PostS (K : PySem.W.Frag) (ξ : List Addr) (mg : Str → Option Value) (W : WX) (H : Hp) (μ : List Addr) (o : SOut) (E : Ends) : Prop := match o with
  | .nx ρ M => ∀ σ H' μ', Nxt K H μ H' μ' → RelE K ξ H' μ' σ ρ → RelM K ξ H' μ' M → KH K H' → E.nx σ H'
  | .rt u M => ∀ v H' μ', Nxt K H μ H' μ' → RelM K ξ H' μ' M → KH K H' → RepU K ξ H' μ' v u → E.rt v H'
  | .bk ρ M => ∀ σ H' μ', Nxt K H μ H' μ' → RelE K ξ H' μ' σ ρ → RelM K ξ H' μ' M → KH K H' → E.bk σ H'
  | .ct ρ M => ∀ σ H' μ', Nxt K H μ H' μ' → RelE K ξ H' μ' σ ρ → RelM K ξ H' μ' M → KH K H' → E.ct σ H'
  | .exc c fs ρ M => ∀ (C : Addr) (dd : Option Addr) σ H' μ', Nxt K H μ H' μ' → RelE K ξ H' μ' σ ρ → RelM K ξ H' μ' M → mg c = some (.ref C) → RepX K ξ H' μ' dd fs → W (.ref C) dd σ H'
  | .bad => False
def tS (K : PySem.W.Frag) (mg : Str → Option Value) (W : WX) (f : Sv) : TS := fun E σ H => ∃ ξ ρ μ M, RelE K ξ H μ σ ρ ∧ RelM K ξ H μ M ∧ PostS K ξ mg W H μ (f ρ M) E
abbrev S1 (X : Cx) (W : WX) (st : Stmt) (f : Sv) : Prop := PS X st (tS X.K X.mg W f)
abbrev SS (X : Cx) (W : WX) (sts : List Stmt) (f : Sv) : Prop := PSs X sts (tS X.K X.mg W f)
def EK (K : PySem.W.Frag) (E : Ends) : Ends := ⟨fun σ H => KH K H → E.nx σ H, fun v H => KH K H → E.rt v H, fun σ H => KH K H → E.bk σ H, fun σ H => KH K H → E.ct σ H⟩
def SOut.ofE {α : Type} (ρ : En) (o : Out α) (k : α → Mem → SOut) : SOut := match o with
  | .ok a m => k a m
  | .exc c fs m => .exc c fs ρ m
  | .bad => .bad
section
variable {α β : Type} {K : PySem.W.Frag} {ξ : List Addr} {mg : Str → Option Value} {W : WX} {R : Hp → List Addr → β → α → Prop} {σ : L2.St} {H H1 : Hp} {μ μ1 : List Addr} {E E' : Ends}
theorem PostS.next {o : SOut} (h : PostS K ξ mg W H μ o E) (n : Nxt K H μ H1 μ1) : PostS K ξ mg W H1 μ1 o E := by
  cases o with
  | nx ρ M => exact fun σ H' μ' n' => h σ H' μ' (n.trans n')
  | rt u M => exact fun σ H' μ' n' => h σ H' μ' (n.trans n')
  | bk ρ M => exact fun σ H' μ' n' => h σ H' μ' (n.trans n')
  | ct ρ M => exact fun σ H' μ' n' => h σ H' μ' (n.trans n')
  | exc c fs ρ M => exact fun C dd σ H' μ' n' => h C dd σ H' μ' (n.trans n')
  | bad => exact h
theorem PostS.mono {o : SOut} (h : PostS K ξ mg W H μ o E) (h1 : ∀ σ H, E.nx σ H → E'.nx σ H) (h2 : ∀ v H, E.rt v H → E'.rt v H) (h3 : ∀ σ H, E.bk σ H → E'.bk σ H) (h4 : ∀ σ H, E.ct σ H → E'.ct σ H) : PostS K ξ mg W H μ o E' := by
  cases o with
  | nx ρ M => exact fun σ H' μ' a b c d => h1 _ _ (h σ H' μ' a b c d)
  | rt u M => exact fun σ H' μ' a b c d => h2 _ _ (h σ H' μ' a b c d)
  | bk ρ M => exact fun σ H' μ' a b c d => h3 _ _ (h σ H' μ' a b c d)
  | ct ρ M => exact fun σ H' μ' a b c d => h4 _ _ (h σ H' μ' a b c d)
  | exc c fs ρ M => exact h
  | bad => exact h
theorem PostS.ek {o : SOut} (h : PostS K ξ mg W H μ o E) : PostS K ξ mg W H μ o (EK K E) := h.mono (fun _ _ q _ => q) (fun _ _ q _ => q) (fun _ _ q _ => q) (fun _ _ q _ => q)
theorem PostS.here {ρ : En} {M : Mem} (h : PostS K ξ mg W H μ (.nx ρ M) E) (e : RelE K ξ H μ σ ρ) (m : RelM K ξ H μ M) (kh : KH K H) : E.nx σ H := h σ H μ .refl e m kh
theorem PostS.bindE {ρ : En} {o : Out α} {k : α → Mem → SOut} (h : PostS K ξ mg W H μ (SOut.ofE ρ o k) E) (e : RelE K ξ H μ σ ρ) :
    Post K ξ mg W R σ H μ o (fun b H1 => ∃ a M1 μ1, Nxt K H μ H1 μ1 ∧ RelM K ξ H1 μ1 M1 ∧ KH K H1 ∧ R H1 μ1 b a ∧ PostS K ξ mg W H1 μ1 (k a M1) E) := by
  cases o with
  | ok a M => exact fun b H1 μ1 n m kh r => ⟨a, M, μ1, n, m, kh, r, PostS.next h n⟩
  | exc c fs M => exact fun C dd H' μ' n m hc hx => h C dd σ H' μ' n (e.next n) m hc hx
  | bad => exact h
end
section
variable {X : Cx} {W : WX}
theorem ps_sd {st : Stmt} {t : TS} {f : Sv} (h : PS X st t) (hi : ∀ E σ H, KH X.K H → tS X.K X.mg W f E σ H → t (EK X.K E) σ H) : S1 X W st f :=
  ⟨fun pins s σ H E I ht => thn (h.run pins s σ H _ I (hi E σ H (Inv.kh I) ht)) fun fl s1 q => by
    cases fl with
    | next => obtain ⟨σ', H', I', q⟩ := q; exact ⟨σ', H', I', q (Inv.kh I')⟩
    | brk => obtain ⟨σ', H', I', q⟩ := q; exact ⟨σ', H', I', q (Inv.kh I')⟩
    | cont => obtain ⟨σ', H', I', q⟩ := q; exact ⟨σ', H', I', q (Inv.kh I')⟩
    | ret u => obtain ⟨v, σ', H', I', r, q⟩ := q; exact ⟨v, σ', H', I', r, q (Inv.kh I')⟩⟩
theorem pss_sd {st : List Stmt} {t : TS} {f : Sv} (h : PSs X st t) (hi : ∀ E σ H, KH X.K H → tS X.K X.mg W f E σ H → t (EK X.K E) σ H) : SS X W st f :=
  ⟨fun pins s σ H E I ht => thn (h.run pins s σ H _ I (hi E σ H (Inv.kh I) ht)) fun fl s1 q => by
    cases fl with
    | next => obtain ⟨σ', H', I', q⟩ := q; exact ⟨σ', H', I', q (Inv.kh I')⟩
    | brk => obtain ⟨σ', H', I', q⟩ := q; exact ⟨σ', H', I', q (Inv.kh I')⟩
    | cont => obtain ⟨σ', H', I', q⟩ := q; exact ⟨σ', H', I', q (Inv.kh I')⟩
    | ret u => obtain ⟨v, σ', H', I', r, q⟩ := q; exact ⟨v, σ', H', I', r, q (Inv.kh I')⟩⟩
/-! ### blocks -/
def sNil : Sv := fun ρ M => .nx ρ M
def sCons (f g : Sv) : Sv := fun ρ M => match f ρ M with
  | .nx ρ' M' => g ρ' M'
  | o => o
theorem ss_nil : SS X W [] sNil := pss_sd pss_nil fun E σ H kh ⟨ξ, ρ, μ, M, e, m, p⟩ kh' => p.here e m kh'
theorem ss_cons {st : Stmt} {rest : List Stmt} {f g : Sv} (h1 : S1 X W st f) (h2 : SS X W rest g) : SS X W (st :: rest) (sCons f g) :=
  pss_sd (pss_cons h1 h2) fun E σ H kh ⟨ξ, ρ, μ, M, e, m, p⟩ => by
    refine ⟨ξ, ρ, μ, M, e, m, ?_⟩
    unfold sCons at p
    cases q : f ρ M with
    | nx ρ' M' =>
      rw [q] at p
      exact fun σ' H' μ' n' e' m' kh' => ⟨ξ, ρ', μ', M', e', m', (PostS.next p n').ek⟩
    | rt u M' => rw [q] at p; exact fun v H' μ' n' m' kh' r _ => p v H' μ' n' m' kh' r
    | bk ρ' M' => rw [q] at p; exact fun σ' H' μ' n' e' m' kh' _ => p σ' H' μ' n' e' m' kh'
    | ct ρ' M' => rw [q] at p; exact fun σ' H' μ' n' e' m' kh' _ => p σ' H' μ' n' e' m' kh'
    | exc c fs ρ' M' => rw [q] at p; exact p
    | bad => rw [q] at p; exact p
theorem ss_one {st : Stmt} {f : Sv} (h1 : S1 X W st f) : SS X W [st] f := pss_sd (pss_one h1) fun E σ H kh ⟨ξ, ρ, μ, M, e, m, p⟩ => ⟨ξ, ρ, μ, M, e, m, p.ek⟩
def sBrk : Sv := fun ρ M => .bk ρ M
def sCnt : Sv := fun ρ M => .ct ρ M
def sRet (f : Ev) : Sv := fun ρ M => SOut.ofE ρ (f ρ M) fun u M1 => .rt u M1
theorem s_ret {e : Expr} {f : Ev} {pos : Pos} (h : SE X W e f) : S1 X W (.Return (some e) pos) (sRet f) :=
  ps_sd (ps_ret h) fun E σ H kh ⟨ξ, ρ, μ, M, e, m, p⟩ => tg.of e m ((PostS.bindE (R := RepU X.K ξ) p e).mono fun v H1 ⟨u, M1, μ1, n1, m1, kh1, r1, q1⟩ kh' => q1 v H1 μ1 .refl m1 kh' r1)
def sRetN : Sv := fun ρ M => .rt (.dat .non) M
def sIf (c : Tv) (f g : Sv) : Sv := fun ρ M => SOut.ofE ρ (c ρ M) fun b M1 => if b then f ρ M1 else g ρ M1
theorem s_if {c : Expr} {a b : List Stmt} {t : Tv} {f g : Sv} {pos : Pos} (hc : ST X W c t) (ha : SS X W a f) (hb : SS X W b g) : S1 X W (.If c a b pos) (sIf t f g) :=
  ps_sd (ps_if hc ha hb) fun E σ H kh ⟨ξ, ρ, μ, M, e, m, p⟩ => tg.of e m ((PostS.bindE (R := fun _ _ (b b' : Bool) => b = b') p e).mono fun v H1 ⟨u, M1, μ1, n1, m1, kh1, r1, q1⟩ => by
    subst r1
    cases v with
    | true => exact iteT ⟨ξ, ρ, μ1, M1, e.next n1, m1, PostS.ek q1⟩
    | false => exact iteF ⟨ξ, ρ, μ1, M1, e.next n1, m1, PostS.ek q1⟩)
def sDrop (f : Ev) : Sv := fun ρ M => SOut.ofE ρ (f ρ M) fun _ M1 => .nx ρ M1
/-! ### targets -/
inductive Tgt where
  | name (i : Nat) | tup (is : List Nat)
def setAll : List Nat → List D → En → En
  | i :: is, d :: ds, ρ => setAll is ds (ρ.set i (some (.dat d)))
  | _, _, ρ => ρ
def Tgt.bind (t : Tgt) (u : U) (ρ : En) : Option En := match t with
  | .name i => some (ρ.set i (some u))
  | .tup is => match u with
    | .dat (.tup ds) => if ds.length = is.length then some (setAll is ds ρ) else none
    | .dat (.lst ds) => if ds.length = is.length then some (setAll is ds ρ) else none
    | _ => none
def Tgt.slots : Tgt → List Nat
  | .name i => [i]
  | .tup is => is
theorem RelE.set {K : PySem.W.Frag} {ξ : List Addr} {H : Hp} {μ : List Addr} {σ : L2.St} {ρ : En} {v : V} {u : U} (e : RelE K ξ H μ σ ρ) (i : Nat) (r : RepU K ξ H μ v u) : RelE K ξ H μ (σ.set i (some v)) (ρ.set i (some u)) := by
  refine ⟨by simp [e.len], fun j w h => ?_⟩
  by_cases hj : j = i
  · subst hj
    have hl : j < ρ.length := by
      have := (List.getElem?_eq_some_iff.mp h).1
      simpa using this
    rw [List.getElem?_set_self hl] at h
    cases h
    exact ⟨v, by rw [List.getElem?_set_self (by rw [e.len]; exact hl)], r⟩
  · rw [List.getElem?_set_ne (Ne.symm hj)] at h
    obtain ⟨v', h1, h2⟩ := e.at_ j w h
    exact ⟨v', by rw [List.getElem?_set_ne (Ne.symm hj)]; exact h1, h2⟩
theorem wipe_set {σ : L2.St} {i : Nat} {v : Option V} : ∀ {vs : List Nat}, i ∈ vs → wipe (σ.set i v) vs = wipe σ vs
  | j :: vs, h => by
    unfold wipe
    by_cases hm : i ∈ vs
    · rw [wipe_set hm]
    · have : i = j := by
        rcases List.mem_cons.mp h with h | h
        · exact h
        · exact absurd h hm
      subst this
      have comm : ∀ ws : List Nat, i ∉ ws → wipe (σ.set i v) ws = (wipe σ ws).set i v := by
        intro ws
        induction ws with
        | nil => intro _; rfl
        | cons w ws ih =>
          intro hw
          rw [List.mem_cons, not_or] at hw
          unfold wipe
          rw [ih hw.2, List.set_comm _ _ hw.1]
      rw [comm vs hm, List.set_set]
/-- a list, a tuple that stands still -/
def StL (K : PySem.W.Frag) (ξ : List Addr) (H : Hp) (μ : List Addr) (a : Addr) (xs : List V) : Prop := (a ∉ ξ ++ μ ∧ Rd H a (.lst xs)) ∨ ∀ G : Hp, SqL K G a xs
def StT (K : PySem.W.Frag) (ξ : List Addr) (H : Hp) (μ : List Addr) (a : Addr) (xs : List V) : Prop := (a ∉ ξ ++ μ ∧ Rd H a (.tup xs)) ∨ ∀ G : Hp, SqT K G a xs
section
variable {K : PySem.W.Frag} {ξ : List Addr} {H H' : Hp} {μ μ' : List Addr} {a : Addr} {xs : List V}
theorem StL.sq (h : StL K ξ H μ a xs) : SqL K H a xs := h.elim (fun h => .inl h.2) fun h => h H
theorem StT.sq (h : StT K ξ H μ a xs) : SqT K H a xs := h.elim (fun h => .inl h.2) fun h => h H
theorem StL.next (h : StL K ξ H μ a xs) (n : Nw ξ H μ H' μ') : StL K ξ H' μ' a xs := h.elim (fun h => .inl ⟨(Rd.nextW n h.1 h.2).2, (Rd.nextW n h.1 h.2).1⟩) .inr
theorem StT.next (h : StT K ξ H μ a xs) (n : Nw ξ H μ H' μ') : StT K ξ H' μ' a xs := h.elim (fun h => .inl ⟨(Rd.nextW n h.1 h.2).2, (Rd.nextW n h.1 h.2).1⟩) .inr
theorem StL.more (h : StL K ξ H μ a xs) {p : Addr} (hp : H p = none) : StL K (p :: ξ) H μ a xs := h.elim (fun h => .inl ⟨nm_more h.1 (rd_ne hp h.2), h.2⟩) .inr
theorem StT.more (h : StT K ξ H μ a xs) {p : Addr} (hp : H p = none) : StT K (p :: ξ) H μ a xs := h.elim (fun h => .inl ⟨nm_more h.1 (rd_ne hp h.2), h.2⟩) .inr
theorem Rep.tupS {ds : List D} {v : V} (r : Rep K ξ H μ v (.tup ds)) : ∃ a xs, v = .ref a ∧ StT K ξ H μ a xs ∧ RepL K ξ H μ xs ds := by
  cases r with
  | tup h e r => exact ⟨_, _, rfl, .inl ⟨h, e⟩, r⟩
  | ktup e r => exact ⟨_, _, rfl, .inr e, r⟩
end
def gNs : List Nat → TGs
  | [] => gNil
  | i :: is => gCons (gName i) (gNs is)
def gT (K : PySem.W.Frag) : Tgt → TG
  | .name i => gName i
  | .tup is => fun v σ H Q => gTup K is.length (gNs is) v σ H Q ∨ gLst K is.length (gNs is) v σ H Q
/-- the target tg of the text is t -/
abbrev GD (X : Cx) (tg0 : Expr) (t : Tgt) : Prop := PG X tg0 (gT X.K t)
section
variable {K : PySem.W.Frag} {ξ : List Addr} {H : Hp} {μ : List Addr}
theorem gNs_ok : ∀ (is : List Nat) {vs : List V} {ds : List D} {σ : L2.St} {ρ : En} {Q : L2.St → Hp → Prop}, RelE K ξ H μ σ ρ → RepL K ξ H μ vs ds → ds.length = is.length →
    (∀ σ', RelE K ξ H μ σ' (setAll is ds ρ) → (∀ ws, (∀ i ∈ is, i ∈ ws) → wipe σ' ws = wipe σ ws) → Q σ' H) → gNs is vs σ H Q
  | [], _, _, σ, ρ, Q, e, r, h, q => by
    cases r with
    | nil => exact ⟨rfl, q σ e fun _ _ => rfl⟩
    | cons => cases h
  | i :: is, _, _, σ, ρ, Q, e, r, h, q => by
    cases r with
    | nil => cases h
    | cons r t =>
      refine ⟨_, _, rfl, ?_⟩
      refine gNs_ok is (e.set i (.dat r)) t (by simpa using h) fun σ' e' w => q σ' e' fun ws hw => ?_
      rw [w ws fun j hj => hw j (List.mem_cons_of_mem _ hj), wipe_set (hw i List.mem_cons_self)]
theorem gT_ok (t : Tgt) {v : V} {u : U} {σ : L2.St} {ρ ρ' : En} {Q : L2.St → Hp → Prop} (e : RelE K ξ H μ σ ρ) (r : RepU K ξ H μ v u) (h : t.bind u ρ = some ρ')
    (q : ∀ σ', RelE K ξ H μ σ' ρ' → (∀ vs, (∀ i ∈ t.slots, i ∈ vs) → wipe σ' vs = wipe σ vs) → Q σ' H) : gT K t v σ H Q := by
  cases t with
  | name i =>
    cases h
    exact q _ (e.set i r) fun vs hv => wipe_set (hv i (List.mem_singleton.mpr rfl))
  | tup is =>
    simp only [Tgt.bind] at h
    split at h
    · rename_i ds
      split at h
      · rename_i hl
        cases h
        cases r with | dat r =>
          obtain ⟨a, xs, rfl, e1, t1⟩ := r.tupS
          exact .inl ⟨_, _, rfl, e1.sq, t1.length.trans hl, gNs_ok is e t1 hl fun σ' e' w => q σ' e' w⟩
      · cases h
    · rename_i ds
      split at h
      · rename_i hl
        cases h
        cases r with | dat r =>
          cases r with | lst h1 e1 t1 =>
          exact .inr ⟨_, _, rfl, SqL.of e1, t1.length.trans hl, gNs_ok is e t1 hl fun σ' e' w => q σ' e' w⟩
      · cases h
    · cases h
end
theorem g_name (i : Nat) {x : Str} {pos : Pos} (hN : X.N.Nodup) (hi : X.N[i]? = some x := by rfl) (hx : Loc X.env.scope x := by first | exact Or.inl rfl | exact Or.inr rfl)
    (hf : X.fn x = true ∨ X.env.scope.names.lookup x = some .local := by first | exact .inl rfl | exact .inr rfl | assumption) : GD X (.Name x pos) (.name i) := pg_name hN hi hx hf
def sAsg (t : Tgt) (f : Ev) : Sv := fun ρ M => SOut.ofE ρ (f ρ M) fun u M1 => match t.bind u ρ with
  | some ρ' => .nx ρ' M1
  | none => .bad
theorem s_set (i : Nat) {x : Str} {e : Expr} {f : Ev} {pos pos' : Pos} (hN : X.N.Nodup) (he : SE X W e f) (hi : X.N[i]? = some x := by rfl) (hx : Loc X.env.scope x := by first | exact Or.inl rfl | exact Or.inr rfl) (hs : swapsWith e (some (.Name x pos')) pos.line X.env = pure false := by rfl)
    (hf : X.fn x = true ∨ X.env.scope.names.lookup x = some .local := by first | exact .inl rfl | exact .inr rfl | assumption) : S1 X W (.Assign [.Name x pos'] e pos) (sAsg (.name i) f) :=
  ps_sd (ps_set hN hi hx he hs hf) fun E σ H kh ⟨ξ, ρ, μ, M, e, m, p⟩ => tg.of e m ((PostS.bindE (R := RepU X.K ξ) p e).mono fun v H1 ⟨u, M1, μ1, n1, m1, kh1, r1, q1⟩ kh' => q1.here ((e.next n1).set i r1) m1 kh')
end
/-! ### what is walked -/
structure WkD (K : PySem.W.Frag) (J : It) (ds : List D) (I0 : List Addr → Hp → List Addr → Prop) : Prop where
  walk : ∃ G Y, Walk J ds.length G Y ∧ (∀ ξ H μ, I0 ξ H μ → G H) ∧ ∀ (ξ : List Addr) (i : Nat) (H : Hp) (μ : List Addr) (x : V) (H' : Hp) (M : Mem), i < ds.length → I0 ξ H μ → RelM K ξ H μ M → Y i H x H' → Nxt K H μ H' μ ∧ RelM K ξ H' μ M ∧ ∃ d, ds[i]? = some d ∧ Rep K ξ H' μ x d
  next : ∀ ξ H μ H' μ', I0 ξ H μ → Nw ξ H μ H' μ' → I0 ξ H' μ'
  more : ∀ ξ H μ p, H p = none → I0 ξ H μ → I0 (p :: ξ) H μ
def RIt (K : PySem.W.Frag) (ξ : List Addr) : Hp → List Addr → It → List D → Prop := fun H μ J ds => ∃ I0, WkD K J ds I0 ∧ I0 ξ H μ
abbrev SI (X : Cx) (W : WX) (tg' iter : Expr) (f : Lv) : Prop := PI X tg' iter (tg X.K X.mg W (RIt X.K) f)
def forL (t : Tgt) (body : Sv) : List D → Sv
  | [], ρ, M => .nx ρ M
  | d :: ds, ρ, M => match t.bind (.dat d) ρ with
    | none => .bad
    | some ρ1 => match body ρ1 M with
      | .nx ρ2 M2 => forL t body ds ρ2 M2
      | .ct ρ2 M2 => forL t body ds ρ2 M2
      | .bk ρ2 M2 => .nx ρ2 M2
      | .rt u M2 => .rt u M2
      | .exc c fs ρ2 M2 => .exc c fs ρ2 M2
      | .bad => .bad
def sFor (t : Tgt) (src : Lv) (body : Sv) : Sv := fun ρ M => SOut.ofE ρ (src ρ M) fun ds M1 => forL t body ds ρ M1
section
variable {X : Cx} {W : WX}
theorem s_for {tg' iter : Expr} {sts : List Stmt} {t : Tgt} {src : Lv} {body : Sv} {pos : Pos} (hp : PassesOwn (model X.prog X.w) X.A X.env X.xe) (hc : X.calm = true) (hi : SI X W tg' iter src) (hg : GD X tg' t) (hb : SS X W sts body)
    (hs : ∀ x, foldedSetIterable iter X.env x = pure x := by intro _; rfl) : S1 X W (.For tg' iter sts [] pos) (sFor t src body) := by
  refine ps_sd (ps_for hp hc hi hg hb hs) fun E σ H kh ⟨ξ, ρ, μ, M, e, m, p⟩ => tg.of e m ((PostS.bindE (R := RIt X.K ξ) p e).mono fun J H1 ⟨ds, M1, μ1, n1, m1, kh1, ⟨I0, wk, i0⟩, q1⟩ => ?_)
  obtain ⟨G, Y, w, hG, hY⟩ := wk.walk
  refine for_it w (fun i σ H => ∃ ρ μ M, RelE X.K ξ H μ σ ρ ∧ RelM X.K ξ H μ M ∧ I0 ξ H μ ∧ PostS X.K ξ X.mg W H μ (forL t body (ds.drop i) ρ M) E) ⟨ρ, μ1, M1, e.next n1, m1, i0, q1⟩ (fun i σ H _ ⟨ρ, μ, M, _, _, i0, _⟩ => hG ξ H μ i0) ?_ ?_
  · rintro i x σ H H' hi' ⟨ρ, μ, M, e, m, i0, q⟩ y
    obtain ⟨n, m', d, hd, r⟩ := hY ξ i H μ x H' M hi' i0 m y
    have i0' := wk.next _ _ _ _ _ i0 n.w
    have e' := e.next n
    have q' := PostS.next q n
    have hdr : ds.drop i = d :: ds.drop (i + 1) := by
      obtain ⟨h1, h2⟩ := List.getElem?_eq_some_iff.mp hd
      rw [List.drop_eq_getElem_cons h1, h2]
    rw [hdr] at q'
    unfold forL at q'
    cases hb1 : t.bind (.dat d) ρ with
    | none => simp only [hb1] at q'; exact q'.elim
    | some ρ1 =>
      simp only [hb1] at q'
      refine gT_ok t e' (.dat r) hb1 fun σ2 e2 _ => ⟨ξ, ρ1, μ, M, e2, m', ?_⟩
      cases hbd : body ρ1 M with
      | nx ρ2 M2 => simp only [hbd] at q'; exact fun σ3 H3 μ3 n3 e3 m3 k3 => ⟨ρ2, μ3, M2, e3, m3, wk.next _ _ _ _ _ i0' n3.w, PostS.next q' n3⟩
      | ct ρ2 M2 => simp only [hbd] at q'; exact fun σ3 H3 μ3 n3 e3 m3 k3 => ⟨ρ2, μ3, M2, e3, m3, wk.next _ _ _ _ _ i0' n3.w, PostS.next q' n3⟩
      | bk ρ2 M2 => simp only [hbd] at q'; exact fun σ3 H3 μ3 n3 e3 m3 k3 _ => q' σ3 H3 μ3 n3 e3 m3 k3
      | rt u M2 => simp only [hbd] at q'; exact fun v H3 μ3 n3 m3 k3 r3 _ => q' v H3 μ3 n3 m3 k3 r3
      | exc c fs ρ2 M2 => simp only [hbd] at q'; exact q'
      | bad => simp only [hbd] at q'; exact q'.elim
  · rintro σ H ⟨ρ, μ, M, e, m, i0, q⟩ kh'
    rw [List.drop_length] at q
    exact PostS.here q e m kh'
/-! sources: lists, tuples, texts, ranges -/
theorem pi_sd {tg' iter : Expr} {t : TI} {f : Lv} (h : PI X tg' iter t) (hi : ∀ σ H R, KH X.K H → tg X.K X.mg W (RIt X.K) f σ H R → t σ H (fun J H' => KH X.K H' → R J H')) : SI X W tg' iter f :=
  ⟨fun pins s σ H R I ht => thn (h.run pins s σ H _ I (hi σ H R (Inv.kh I) ht)) fun v s1 q => thn q fun itv s2 ⟨it, fp, tn, J, H', e, I', T, st, hf, r⟩ => ⟨it, fp, tn, J, H', e, I', T, st, hf, r (Inv.kh I')⟩⟩
theorem pi_or {tg' iter : Expr} {t u : TI} (h : PI X tg' iter t) (h' : PI X tg' iter u) : PI X tg' iter (fun σ H R => t σ H R ∨ u σ H R) :=
  ⟨fun pins s σ H R I q => q.elim (h.run pins s σ H R I) (h'.run pins s σ H R I)⟩
def itD : D → Option (List D)
  | .lst ds => some ds
  | .tup ds => some ds
  | .str s => some (s.map fun c => .str [c])
  | .scr ns => some (ns.map .int)
  | _ => none
/-- the items of data (no cells) -/
def iVal (f : Ev) : Lv := fun ρ M => (f ρ M).bind fun u M1 => match u with
  | .dat d => match itD d with
    | some ds => .ok ds M1
    | none => .bad
  | _ => .bad
theorem wk_list {K : PySem.W.Frag} {a : Addr} {xs : List V} {ds : List D} (hl : xs.length = ds.length) : WkD K (Itl K a) ds (fun ξ H μ => StL K ξ H μ a xs ∧ RepL K ξ H μ xs ds) := by
  refine ⟨⟨_, _, hl ▸ walk_list (xs := xs), fun ξ H μ h => h.1.sq, fun ξ i H μ x H' M hi h m y => ?_⟩, fun ξ H μ H' μ' ⟨h1, h2⟩ n => ⟨h1.next n, RepL.nextW n h2⟩, fun ξ H μ p hp ⟨h1, h2⟩ => ⟨h1.more hp, h2.more hp⟩⟩
  obtain ⟨rfl, hx⟩ := y
  obtain ⟨v, h1, h2⟩ := h.2.get (List.getElem?_eq_getElem hi)
  rw [hx] at h1; cases h1
  exact ⟨.refl, m, _, List.getElem?_eq_getElem hi, h2⟩
theorem wk_tup {K : PySem.W.Frag} {a : Addr} {xs : List V} {ds : List D} (hl : xs.length = ds.length) : WkD K (Itt K a) ds (fun ξ H μ => StT K ξ H μ a xs ∧ RepL K ξ H μ xs ds) := by
  refine ⟨⟨_, _, hl ▸ walk_tup (xs := xs), fun ξ H μ h => h.1.sq, fun ξ i H μ x H' M hi h m y => ?_⟩, fun ξ H μ H' μ' ⟨h1, h2⟩ n => ⟨h1.next n, RepL.nextW n h2⟩, fun ξ H μ p hp ⟨h1, h2⟩ => ⟨h1.more hp, h2.more hp⟩⟩
  obtain ⟨rfl, hx⟩ := y
  obtain ⟨v, h1, h2⟩ := h.2.get (List.getElem?_eq_getElem hi)
  rw [hx] at h1; cases h1
  exact ⟨.refl, m, _, List.getElem?_eq_getElem hi, h2⟩
theorem wk_str {K : PySem.W.Frag} {s : Cs} : WkD K (Its (mkS s)) (s.map fun c => .str [c]) (fun _ _ _ => True) := by
  refine ⟨⟨fun _ => True, _, (by have := walk_str (z := mkS s); simpa [mkS] using this), fun _ _ _ _ => trivial, fun ξ i H μ x H' M hi h m y => ?_⟩, fun _ _ _ _ _ _ _ => trivial, fun _ _ _ _ _ _ => trivial⟩
  obtain ⟨rfl, c, hc, rfl⟩ := y
  have hc' : s[i]? = some c := by simpa [mkS] using hc
  exact ⟨.refl, m, .str [c], by simp [hc'], .str [c]⟩
theorem RepL.ints {K : PySem.W.Frag} {ξ : List Addr} {H : Hp} {μ : List Addr} : ∀ ns : List Int, RepL K ξ H μ (ns.map V.int) (ns.map D.int)
  | [] => .nil
  | n :: ns => .cons (.int n) (RepL.ints ns)
theorem i_val {tg' e : Expr} {f : Ev} (h : SE X W e f) : SI X W tg' e (iVal f) :=
  pi_sd (pi_or (pi_list h) (pi_or (pi_tup h) (pi_str h))) fun σ H R kh ⟨ξ, ρ, μ, M, e, m, q⟩ => by
    unfold iVal at q
    cases hf : f ρ M with
    | ok u M1 =>
      rw [hf] at q
      simp only [Out.bind] at q
      split at q
      · rename_i d
        split at q
        · rename_i ds hd
          unfold itD at hd
          split at hd
          · cases hd
            refine .inl (tg.of e m (hf ▸ fun x H1 μ1 n1 m1 kh1 r1 => ?_))
            cases r1 with | dat r1 => cases r1 with
              | lst h e1 t1 => exact ⟨_, rfl, ⟨_, SqL.of e1⟩, fun kh' => q _ H1 μ1 n1 m1 kh' ⟨_, wk_list t1.length, .inl ⟨h, .inl e1⟩, t1⟩⟩
          · cases hd
            refine .inr (.inl (tg.of e m (hf ▸ fun x H1 μ1 n1 m1 kh1 r1 => ?_)))
            cases r1 with | dat r1 =>
              obtain ⟨a, xs, rfl, e1, t1⟩ := r1.tupS
              exact ⟨_, rfl, ⟨_, e1.sq⟩, fun kh' => q _ H1 μ1 n1 m1 kh' ⟨_, wk_tup t1.length, e1, t1⟩⟩
          · cases hd
            refine .inr (.inr (tg.of e m (hf ▸ fun x H1 μ1 n1 m1 kh1 r1 => ?_)))
            cases r1 with | dat r1 => cases r1 with
              | str s => exact ⟨_, rfl, fun kh' => q _ H1 μ1 n1 m1 kh' ⟨_, wk_str, trivial⟩⟩
          · cases hd
            refine .inl (tg.of e m (hf ▸ fun x H1 μ1 n1 m1 kh1 r1 => ?_))
            cases r1 with | dat r1 => cases r1 with
              | scr h e1 => exact ⟨_, rfl, ⟨_, .inl e1⟩, fun kh' => q _ H1 μ1 n1 m1 kh' ⟨_, wk_list (by simp), .inl ⟨h, e1⟩, RepL.ints _⟩⟩
              | kscr e1 => exact ⟨_, rfl, ⟨_, e1 H1⟩, fun kh' => q _ H1 μ1 n1 m1 kh' ⟨_, wk_list (by simp), .inr e1, RepL.ints _⟩⟩
          · cases hd
        · exact q.elim
      · exact q.elim
    | exc c fs M1 => rw [hf] at q; exact .inl (tg.of e m (hf ▸ q))
    | bad => rw [hf] at q; exact q.elim
def intsUp (lo : Int) (n : Nat) : List D := (List.range n).map fun (i : Nat) => D.int (lo + (i : Int))
theorem wk_range {K : PySem.W.Frag} {lo : Int} {n : Nat} : WkD K (Itr lo n) (intsUp lo n) (fun _ _ _ => True) := by
  refine ⟨⟨fun _ => True, _, (by have := walk_range (lo := lo) (n := n); simpa [intsUp] using this), fun _ _ _ _ => trivial, fun ξ i H μ x H' M hi h m y => ?_⟩, fun _ _ _ _ _ _ _ => trivial, fun _ _ _ _ _ _ => trivial⟩
  obtain ⟨rfl, rfl⟩ := y
  have hi' : i < n := by simpa [intsUp] using hi
  exact ⟨.refl, m, .int (lo + i), by simp [intsUp, hi'], .int _⟩
def iRng1 (f : Av) : Lv := fun ρ M => (f ρ M).bind fun us M1 => match us with
  | [.dat (.int j)] => if -(2 ^ 62) ≤ j ∧ j < 2 ^ 62 then .ok (intsUp 0 j.toNat) M1 else .bad
  | _ => .bad
def iRng2 (f : Av) : Lv := fun ρ M => (f ρ M).bind fun us M1 => match us with
  | [.dat (.int i), .dat (.int j)] => if -(2 ^ 62) ≤ i ∧ i < 2 ^ 62 ∧ -(2 ^ 62) ≤ j ∧ j < 2 ^ 62 then .ok (intsUp i (j - i).toNat) M1 else .bad
  | _ => .bad
theorem i_range1 {tg' a : Expr} {f : Av} {p pos : Pos} (hm : X.mg "range" = none) (ha : SA X W [a] f) (hg : Gl X "range" := by rfl) (hs : starEach [a] X.env = [(false, eval a X.env)] := by rfl) : SI X W tg' (.Call (.Name "range" p) [a] [] pos) (iRng1 f) :=
  pi_sd (pi_range1 hg hm ha hs) fun σ H R kh ⟨ξ, ρ, μ, M, e, m, q⟩ => tg.of e m ((Post.bind (R := RepUs X.K ξ) q).mono fun xs H1 ⟨us, M1, μ1, n1, m1, kh1, r1, q1⟩ => by
    split at q1
    · rename_i j
      split at q1
      · rename_i hj
        cases r1 with | cons r1 t => cases t; cases r1 with | dat r1 => cases r1; exact ⟨j, rfl, hj.1, hj.2, fun kh' => q1 _ H1 μ1 .refl m1 kh' ⟨_, wk_range, trivial⟩⟩
      · exact q1.elim
    · exact q1.elim)
end
end SD
set_option Elab.async false
set_option linter.all false
set_option maxRecDepth 100000
set_option maxHeartbeats 4000000
namespace SD
open PySem PySem.Spec PyProof.Rows L2
abbrev W0 : WX := fun _ _ _ _ => False
/-! ### list comprehensions of one clause -/
def Out.quiet {α : Type} (o : Out α) : Out α := match o with
  | .exc _ _ _ => .bad
  | o => o
def wipeE (ρ : En) : List Nat → En
  | [] => ρ
  | v :: vs => (wipeE ρ vs).set v none
def lcL (t : Tgt) (test : Tv) (elt : Ev) (ρ : En) : List D → Mem → Out (List D)
  | [], M => .ok [] M
  | d :: ds, M => match t.bind (.dat d) ρ with
    | none => .bad
    | some ρ1 => (test ρ1 M).bind fun b M1 => if b then (elt ρ1 M1).bind fun u M2 => match u with
        | .dat e => (lcL t test elt ρ ds M2).bind fun r M3 => .ok (e :: r) M3
        | _ => .bad
      else lcL t test elt ρ ds M1
def eLc (c : Bool) (src : Lv) (t : Tgt) (test : Tv) (elt : Ev) (vs : List Nat) : Ev := fun ρ M => (src ρ M).bind fun ds M1 =>
  if ds.length ≤ 16777216 then ((lcL t test elt (wipeE ρ vs) ds M1).quiet).bind fun es M2 => newL c es M2 else .bad
def bYes : Tv := fun _ M => .ok true M
theorem RelE.wipe {K : PySem.W.Frag} {ξ : List Addr} {H : Hp} {μ : List Addr} {σ : L2.St} {ρ : En} (e : RelE K ξ H μ σ ρ) : ∀ vs : List Nat, RelE K ξ H μ (L2.wipe σ vs) (wipeE ρ vs)
  | [] => e
  | v :: vs => by
    have ih := RelE.wipe e vs
    unfold L2.wipe wipeE
    refine ⟨by simp [ih.len], fun i u h => ?_⟩
    by_cases hi : i = v
    · subst hi
      have hl := (List.getElem?_eq_some_iff.mp h).1
      rw [List.getElem?_set_self (by simpa using hl)] at h
      cases h
    · rw [List.getElem?_set_ne (Ne.symm hi)] at h
      obtain ⟨w, h1, h2⟩ := ih.at_ i u h
      exact ⟨w, by rw [List.getElem?_set_ne (Ne.symm hi)]; exact h1, h2⟩
theorem wipe_mem {σ : L2.St} {i : Nat} : ∀ {vs : List Nat}, i ∈ vs → ∀ {x : V}, (L2.wipe σ vs)[i]? ≠ some (some x) := fun h x e => (wipe_some e).2 h
theorem wipe_wipe (σ : L2.St) (vs : List Nat) : L2.wipe (L2.wipe σ vs) vs = L2.wipe σ vs := by
  have gen : ∀ ws : List Nat, (∀ i ∈ ws, i ∈ vs) → L2.wipe (L2.wipe σ vs) ws = L2.wipe σ vs := by
    intro ws
    induction ws with
    | nil => intro _; rfl
    | cons w ws ih =>
      intro h
      show List.set (L2.wipe (L2.wipe σ vs) ws) w none = L2.wipe σ vs
      rw [show L2.wipe (L2.wipe σ vs) ws = L2.wipe σ vs from ih fun i hi => h i (List.mem_cons_of_mem _ hi)]
      apply List.ext_getElem?
      intro j
      by_cases hj : w = j
      · subst hj
        by_cases hl : w < (L2.wipe σ vs).length
        · rw [List.getElem?_set_self hl]
          cases q : (L2.wipe σ vs)[w]? with
          | none => rw [List.getElem?_eq_none_iff] at q; omega
          | some o => cases o with
            | none => rfl
            | some x => exact absurd q (wipe_mem (h w List.mem_cons_self))
        · rw [List.getElem?_eq_none (by simpa using hl), List.getElem?_eq_none (by omega)]
      · rw [List.getElem?_set_ne hj]
  exact gen vs fun _ h => h
abbrev STs (X : Cx) (W : WX) (es : List Expr) (f : Tv) : Prop := PTs X es (tB' X.K X.mg W f)
section
variable {X : Cx} {W : WX}
theorem sts_one {c : Expr} {f : Tv} (h : ST X W c f) : STs X W [c] f := pts_one h
/-- the list of a comprehension that grows, at p -/
theorem lc_read {own : List (Str × Nat)} {K : PySem.W.Frag} {mg : Str → Option Value} {t : Tgt} {src : Lv} {test : Tv} {el : Ev} {c : Bool} (hv : ∀ i ∈ t.slots, i ∈ own.map (·.2)) {σ : L2.St} {H : Hp} {Q : VK}
    (h : tE K mg W (eLc c src t test el (own.map (·.2))) σ H Q) :
    tLc (tg K mg W (RIt K) src) (gT K t) (tB' K mg W0 test) (tE K mg W0 el) (own.map (·.2)) σ H (fun v H' => KH K H' → Q v H') := by
  obtain ⟨ξ, ρ, μ, M, e, m, q⟩ := h
  refine tg.of e m ((Post.bind (R := RIt K ξ) q).mono fun J H1 ⟨ds, M1, μ1, n1, m1, kh1, ⟨I0, wk, i0⟩, q1⟩ p hp => ?_)
  split at q1
  · rename_i hlen
    obtain ⟨G, Y, w, hG, hY⟩ := wk.walk
    have hpμ := m1.new hp
    -- the outer cells stand beside p; within, p is excluded
    refine lc_it w (fun i H' => ∃ acc accD μ' M', H' p = some (.lst acc) ∧ accD.length ≤ i ∧ RepL K (p :: ξ) H' μ' acc accD ∧ Nxt K H1 μ1 H' μ' ∧ RelM K (p :: ξ) H' μ' M' ∧ I0 (p :: ξ) H' μ' ∧
      Post K ξ mg W (RepU K ξ) σ H1 μ1 (((lcL t test el (wipeE ρ (own.map (·.2))) (ds.drop i) M').quiet).bind fun es M2 => newL c (accD ++ es) M2) Q) ?_ ?_ ?_ ?_
    · refine ⟨[], [], μ1, M1, upd_same, Nat.le_refl _, .nil, Nxt.laid hp, ?_, wk.next _ _ _ _ _ (wk.more _ _ _ _ hp i0) (Nxt.laid (K := K) hp).w, q1⟩
      have m2 := m1.laid (o := .lst []) hp
      refine ⟨m2.len, m2.nd, fun a ha => ?_, fun k a o h1 h2 => ?_⟩
      · rcases List.mem_cons.mp ha with ha | ha
        · rw [ha]; exact ⟨⟨_, upd_same⟩, (nm hpμ).2⟩
        · exact m2.xt a ha
      · exact ((m1.at_ k a o h1 h2).more hp).next_at (Nxt.laid (K := K) hp).w (upd_ne fun z => m1.new0 hp (z ▸ List.mem_of_getElem? h1))
    · rintro i H' _ ⟨acc, accD, μ', M', _, _, _, _, _, i0', _⟩
      exact hG _ _ _ i0'
    · rintro i x H2 H3 hi ⟨acc, accD, μ', M', hacc, hal, racc, n2, m2, i2, q2⟩ y
      obtain ⟨n3, m3, d, hd, r⟩ := hY _ i H2 μ' x H3 M' hi i2 m2 y
      have hdr : ds.drop i = d :: ds.drop (i + 1) := by
        obtain ⟨h1, h2⟩ := List.getElem?_eq_some_iff.mp hd
        rw [List.drop_eq_getElem_cons h1, h2]
      rw [hdr] at q2
      have e3 : RelE K (p :: ξ) H3 μ' (L2.wipe σ (own.map (·.2))) (wipeE ρ (own.map (·.2))) := ((((e.next n1).more hp).next n2).next n3).wipe _
      have hacc3 : H3 p = some (.lst acc) := n3.same p _ (m2.xt p List.mem_cons_self).2 hacc
      have racc3 := RepL.next n3 racc
      have i3 := wk.next _ _ _ _ _ i2 n3.w
      unfold lcL at q2
      cases hb1 : t.bind (.dat d) (wipeE ρ (own.map (·.2))) with
      | none => simp only [hb1] at q2; exact q2.elim
      | some ρ1 =>
        simp only [hb1] at q2
        refine gT_ok t e3 (.dat r) hb1 fun σ2 e4 wp => ⟨(wp _ hv).trans (wipe_wipe σ _), ?_⟩
        refine tg.of e4 m3 ?_
        -- the step behind a test that says no, or behind the element
        have stepN : ∀ (H4 : Hp) (μ4 : List Addr) (M4 : Mem), Nxt K H3 μ' H4 μ4 → RelM K (p :: ξ) H4 μ4 M4 → Post K ξ mg W (RepU K ξ) σ H1 μ1 (((lcL t test el (wipeE ρ (own.map (·.2))) (ds.drop (i + 1)) M4).quiet).bind fun es M2 => newL c (accD ++ es) M2) Q →
            ∃ acc accD μ' M', H4 p = some (.lst acc) ∧ accD.length ≤ i + 1 ∧ RepL K (p :: ξ) H4 μ' acc accD ∧ Nxt K H1 μ1 H4 μ' ∧ RelM K (p :: ξ) H4 μ' M' ∧ I0 (p :: ξ) H4 μ' ∧
              Post K ξ mg W (RepU K ξ) σ H1 μ1 (((lcL t test el (wipeE ρ (own.map (·.2))) (ds.drop (i + 1)) M').quiet).bind fun es M2 => newL c (accD ++ es) M2) Q := fun H4 μ4 M4 n4 m4 q4 =>
          ⟨acc, accD, μ4, M4, n4.same p _ (m3.xt p List.mem_cons_self).2 hacc3, Nat.le_succ_of_le hal, RepL.next n4 racc3, (n2.trans n3).trans n4, m4, wk.next _ _ _ _ _ i3 n4.w, q4⟩
        cases ht : test ρ1 M' with
        | ok b M4 =>
          rw [ht] at q2
          intro b' H4 μ4 n4 m4 kh4 hbb
          subst hbb
          cases b' with
          | false => exact iteF (stepN H4 μ4 M4 n4 m4 (by simpa [Out.bind] using q2))
          | true =>
            refine iteT (tg.of (e4.next n4) m4 ?_)
            cases he : el ρ1 M4 with
            | ok u M5 =>
              simp only [Out.bind, if_true, he] at q2
              intro yv H5 μ5 n5 m5 kh5 r5
              cases u with
              | cell k => exact q2.elim
              | exn => exact q2.elim
              | tup => exact q2.elim
              | dat dd =>
                cases r5 with | dat r5 =>
                have hacc5 : H5 p = some (.lst acc) := n5.same p _ (m4.xt p List.mem_cons_self).2 (n4.same p _ (m3.xt p List.mem_cons_self).2 hacc3)
                have racc5 := RepL.next n5 (RepL.next n4 racc3)
                have hpin : p ∈ p :: ξ := List.mem_cons_self
                refine ⟨acc, hacc5, ?_, acc ++ [yv], accD ++ [dd], μ5, M5, upd_same, ?_, ?_, ?_, m5.own hpin (nz hacc5), wk.next _ _ _ _ _ (wk.next _ _ _ _ _ i3 (n4.trans n5).w) (Nw.own hpin (nz hacc5)), ?_⟩
                · rw [racc.length, sizeLine_eq]; omega
                · simp; exact hal
                · exact RepL.append (RepL.nextW (Nw.own hpin (nz hacc5)) racc5) (.cons (Rep.nextW (Nw.own hpin (nz hacc5)) r5) .nil)
                · have nn := ((n2.trans n3).trans n4).trans n5
                  refine ⟨fun b o hb eb => ?_, nn.pre, fun b o u e => by rw [upd_ne (ne_of_none e hp)]; exact nn.frz b o u e⟩
                  rw [upd_ne (ne_of_none eb hp)]
                  exact nn.same b o hb eb
                · revert q2
                  cases lcL t test el (wipeE ρ (own.map (·.2))) (ds.drop (i + 1)) M5 with
                  | ok es M6 => intro q2; simpa [Out.quiet, Out.bind] using q2
                  | exc => exact id
                  | bad => exact id
            | exc c' fs M5 => simp only [Out.bind, if_true, he] at q2; exact q2.elim
            | bad => simp only [Out.bind, if_true, he] at q2; exact q2.elim
        | exc c' fs M4 => rw [ht] at q2; exact q2.elim
        | bad => rw [ht] at q2; exact q2.elim
    · rintro H' ⟨acc, accD, μ', M', hacc, hal, racc, n2, m2, i2, q2⟩ kh'
      rw [List.drop_length] at q2
      have q3 : Post K ξ mg W (RepU K ξ) σ H1 μ1 (newL c accD M') Q := by simpa [lcL, Out.quiet, Out.bind] using q2
      have out : ∀ b, b ∉ (p :: ξ) ++ μ' → b ∉ ξ ++ μ' := fun b hb => nm_of (fun z => (nm hb).1 (List.mem_cons_of_mem _ z)) (nm hb).2
      have mO : RelM K ξ H' μ' M' := ⟨m2.len, m2.nd, fun a ha => m2.xt a (List.mem_cons_of_mem _ ha), fun k a o h1 h2 => (m2.at_ k a o h1 h2).sub out⟩
      unfold newL at q3
      have hpx := (m2.xt p List.mem_cons_self).2
      have hpk : K.lookup p = none := by
        cases ek : K.lookup p with
        | none => rfl
        | some o =>
          have := kh' p o ek
          rw [hacc] at this; cases this
      cases c with
      | false => exact q3 _ H' μ' n2 mO kh' (.dat (.lst (nm_of (fun z => by
          obtain ⟨⟨o, eo⟩, _⟩ := m1.xt p z
          rw [hp] at eo; cases eo) hpx) hacc (racc.sub out)))
      | true =>
        refine q3 _ H' (μ' ++ [p]) ?_ ?_ kh' (.cell ?_)
        · obtain ⟨ν, hν, h2⟩ := n2.pre
          refine ⟨n2.same, ⟨ν ++ [p], by rw [hν, List.append_assoc], fun a ha => ?_⟩, n2.frz⟩
          rcases List.mem_append.mp ha with ha | ha
          · exact h2 a ha
          · have : a = p := by simpa using ha
            subst this
            exact ⟨(nm hpμ).2, hp, hpk⟩
        · have out2 : ∀ b, b ∉ (p :: ξ) ++ μ' → b ∉ ξ ++ (μ' ++ [p]) := fun b hb => nm_of (fun z => (nm hb).1 (List.mem_cons_of_mem _ z)) fun z => (List.mem_append.mp z).elim (nm hb).2 fun z => (nm hb).1 (by
            have : b = p := by simpa using z
            rw [this]; exact List.mem_cons_self)
          refine ⟨by simp [m2.len], ?_, fun a ha => ?_, fun k a o h1 h2 => ?_⟩
          · rw [List.nodup_append]
            refine ⟨m2.nd, by simp, fun a ha b hb z => ?_⟩
            have : b = p := by simpa using hb
            subst this z
            exact hpx ha
          · obtain ⟨h1, h2⟩ := m2.xt a (List.mem_cons_of_mem _ ha)
            refine ⟨h1, fun z => (List.mem_append.mp z).elim h2 fun z => ?_⟩
            have : a = p := by simpa using z
            subst this
            obtain ⟨⟨o, eo⟩, _⟩ := m1.xt a ha
            rw [hp] at eo; cases eo
          · by_cases hk : k < μ'.length
            · rw [List.getElem?_append_left hk] at h1
              rw [List.getElem?_append_left (by rw [← m2.len]; exact hk)] at h2
              exact (m2.at_ k a o h1 h2).subC out2 fun k _ a e => by rw [List.getElem?_append_left (List.getElem?_eq_some_iff.mp e).1]; exact e
            · have ek : k = μ'.length := by
                have := (List.getElem?_eq_some_iff.mp h1).1
                simp at this; omega
              subst ek
              rw [List.getElem?_append_right (Nat.le_refl _)] at h1
              rw [m2.len, List.getElem?_append_right (Nat.le_refl _)] at h2
              simp at h1 h2
              subst h1 h2
              exact .lst hacc (racc.sub out2)
        · rw [← m2.len, List.getElem?_append_right (Nat.le_refl _)]; simp
  · exact q1.elim
theorem se_lc (c : Bool) {elt tg0 iter : Expr} {ifs : List Expr} {scope : Scope} {own : List (Str × Nat)} {pos : Pos} {t : Tgt} {src : Lv} {test : Tv} {el : Ev} (hc : X.calm = true) (hN : X.N.Nodup) (hi : SI X W tg0 iter src) (ok : BlkOk X.N X.env.scope scope own)
    (hg : ∀ (s : Shared) (H : Hp) (C : Addr) (cl : List (Str × Addr)) (fp : List Addr), GD (X.blk s H scope (compEnvC scope cl C X.env) fp) tg0 t)
    (ht : ∀ (s : Shared) (H : Hp) (C : Addr) (cl : List (Str × Addr)) (fp : List Addr), STs (X.blk s H scope (compEnvC scope cl C X.env) fp) W0 ifs test)
    (he : ∀ (s : Shared) (H : Hp) (C : Addr) (cl : List (Str × Addr)) (fp : List Addr), SE (X.blk s H scope (compEnvC scope cl C X.env) fp) W0 elt el) (hv : ∀ i ∈ t.slots, i ∈ own.map (·.2))
    (hs : ∀ x, foldedSetIterable iter X.env x = pure x := by intro _; rfl) : SE X W (.ListComp elt [⟨tg0, iter, ifs, 0⟩] scope pos) (eLc c src t test el (own.map (·.2))) := by
  exact pe_sd (pe_lc hc hN hi ok hg ht he hs) fun σ H Q kh h => lc_read hv h
end
end SD
set_option Elab.async false
set_option linter.all false
set_option maxRecDepth 100000
set_option maxHeartbeats 4000000
/-! exceptions whose contexts are a row that ends with None: raised where nothing is handled, or in an except suite -/
namespace L2K
open PySem PySem.Spec PyProof.Rows L2 HotX
def hdV : List Addr → Value
  | [] => .none
  | e :: _ => .ref e
/-- contexts behind one another -/
def Lnk (g : Addr → Option Obj) : List Addr → Prop
  | [] => True
  | e :: l => (∃ (o : Obj) (vs : Array Value), g e = some o ∧ o.data = .fields vs ∧ vs[2]? = some (hdV l)) ∧ Lnk g l
theorem Lnk.imp {g g' : Addr → Option Obj} : ∀ {l : List Addr}, Lnk g l → (∀ b ∈ l, ∀ o, g b = some o → g' b = some o) → Lnk g' l
  | [], _, _ => trivial
  | e :: l, ⟨⟨o, vs, a, b, c⟩, r⟩, h => ⟨⟨o, vs, h e (.head _) o a, b, c⟩, r.imp fun x hx => h x (.tail _ hx)⟩
theorem Lnk.suffix {g : Addr → Option Obj} : ∀ {p l : List Addr}, Lnk g (p ++ l) → Lnk g l
  | [], _, h => h
  | _ :: p, _, h => Lnk.suffix (p := p) h.2
section
variable {prog : Program} {w : World} {A : Around} {s : Shared}
theorem quiet_unchain (args : Args) : (Code.builtin "proto.unchain" args).quiet = true := plainId_quiet (by decide +kernel) args
theorem ref_none {e : Addr} : ¬ ((Value.ref e == Value.none) = true) := fun h => by simp at h
theorem ref_ne {e a : Addr} (h : e ≠ a) : ¬ ((Value.ref e == Value.ref a) = true) := fun q => by
  have := eq_of_beq q
  cases this
  exact h rfl
theorem walk {a : Addr} {R : Except Value Flow → Shared → Prop} (q : R (.ok (.ret .none)) s) : ∀ (ro : List Addr) (o sl : Addr) (p rs : List Addr) (tg : Bool), sl :: rs = p ++ o :: ro → (tg = true → p ≠ []) → Lnk s.heap.get? (sl :: rs) → a ∉ ro →
    codeAny (model prog w) A (.builtin "proto.unchain" ⟨[.ref a, .ref o, .ref sl, .bool tg], []⟩) R s := by
  intro ro
  induction ro with
  | nil =>
    intro o sl p rs tg hl ht lk na
    rw [hl] at lk
    obtain ⟨⟨oo, vs, g1, d1, c1⟩, _⟩ := lk.suffix
    refine codeAny_builtin HotX.entry_unchain ?_
    show wpAny _ _ (field (.ref o) 2 >>= _) _ _ s
    refine wpAny_bind (wpAny_field g1 d1 c1 ?_)
    rw [if_pos (show (hdV [] == Value.none) = true from rfl)]
    first
    | exact wpAny_bind (wpAny_pure (wpAny_pure q))
    | exact wpAny_pure q
  | cons e r ih =>
    intro o sl p rs tg hl ht lk na
    have lk0 := lk
    rw [hl] at lk0
    obtain ⟨⟨oo, vs, g1, d1, c1⟩, _⟩ := lk0.suffix
    have ne : e ≠ a := fun z => na (by rw [z]; exact .head _)
    refine codeAny_builtin HotX.entry_unchain ?_
    show wpAny _ _ (field (.ref o) 2 >>= _) _ _ s
    refine wpAny_bind (wpAny_field g1 d1 c1 ?_)
    show wpAny _ _ (if (Value.ref e == Value.none) = true then _ else _) _ _ _
    rw [if_neg ref_none]
    try (refine wpAny_bind ?_)
    show wpAny _ _ (if (Value.ref e == Value.ref a) = true then _ else _) _ _ _
    rw [if_neg (ref_ne ne)]
    have nr : a ∉ r := fun z => na (.tail _ z)
    by_cases hs : (Value.ref e == Value.ref sl) = true
    · show wpAny _ _ (if (Value.ref e == Value.ref sl) = true then _ else _) _ _ _
      rw [if_pos hs]
      exact wpAny_bind (wpAny_rule (wpAny_pure q))
    · show wpAny _ _ (if (Value.ref e == Value.ref sl) = true then _ else _) _ _ _
      rw [if_neg hs]
      cases tg with
      | false =>
        show wpAny _ _ (do let slow ← pure (Value.ref sl); again (.builtin "proto.unchain" ⟨[.ref a, .ref e, slow, .bool true], []⟩)) _ _ _
        refine wpAny_bind (wpAny_pure (wpAny_pure ⟨quiet_unchain _, ?_⟩))
        exact ih e sl (p ++ [o]) rs true (by rw [hl, List.append_assoc]; rfl) (fun _ => by simp) lk nr
      | true =>
        cases p with
        | nil => exact absurd rfl (ht rfl)
        | cons b p' =>
          have hb : sl = b ∧ rs = p' ++ o :: e :: r := by simpa using hl
          obtain ⟨_, hr⟩ := hb
          obtain ⟨⟨os, ws, gs, ds, cs⟩, lr⟩ := lk
          obtain ⟨s', rs', e'⟩ : ∃ s' rs', rs = s' :: rs' := by
            rw [hr]
            cases p' with
            | nil => exact ⟨_, _, rfl⟩
            | cons b p => exact ⟨_, _, rfl⟩
          rw [e'] at cs lr
          show wpAny _ _ (do let slow ← field (Value.ref sl) 2; again (.builtin "proto.unchain" ⟨[.ref a, .ref e, slow, .bool false], []⟩)) _ _ _
          refine wpAny_bind (wpAny_field gs ds cs (wpAny_pure ⟨quiet_unchain _, ?_⟩))
          exact ih e s' (p' ++ [o]) rs' false (by rw [← e', hr, List.append_assoc]; rfl) (fun z => nomatch z) lr nr
end
/-- an exception's object: its class, its dict, its contexts a row in B, apart from what is tracked -/
def Zk (B : Heap) (H : Hp) (cls : Value) (d : Option Addr) : Obj → Prop := fun o => (o.cls = cls ∧ o.dict = d) ∧ ∀ vs : Array Value, o.data = .fields vs → ∃ l, vs[2]? = some (hdV l) ∧ Lnk B.get? l ∧ ∀ e ∈ l, H e = none
/-- an exception in the air -/
def XE (X : Cx) (W : WX) (u : Value) (s' : Shared) : Prop := ∃ (a : Addr) (B : Heap) (sI : Shared) (pins : List (Addr × Obj)) (σ : L2.St) (H : Hp) (cls : Value) (d : Option Addr),
  u = .ref a ∧ Inv X pins σ H sI ∧ (∀ b o, sI.heap.get? b = some o → b ∉ frs X.stack → B.get? b = some o) ∧ sI.heap.UpToSlots s'.heap ∧ Sky B X.stack a (Zk B H cls d) X.env.locals s'.heap ∧ H a = none ∧ s'.os = sI.os ∧ AllBare s'.gens ∧ W cls d σ H
def Takes (X : Cx) (W : WX) : Prop := ∀ u s', XE X W u s' → X.xe u s'
/-- behind a call that let one out -/
def CX (P : Program) (w : World) (outer : List Env) (H : Hp) (s : Shared) (E : XK) (u : Value) (s' : Shared) : Prop := ∃ (a : Addr) (B : Heap) (H' : Hp) (cls : Value) (d : Option Addr),
  u = .ref a ∧ HandSPX.FlyingZ B outer a (Zk B H' cls d) s'.heap ∧ HOk P w H' B ∧ UB (frs outer) H H' s.heap B s'.heap ∧ H' a = none ∧ s'.os = s.os ∧ AllBare s'.gens ∧ E cls d H'
section
variable {X : Cx} {W : WX} {pins : List (Addr × Obj)} {σ : L2.St} {H : Hp} {s sI s' : Shared} {E : XK}
/-- a call's exception is in our air -/
theorem in_air (I : Inv X pins σ H s) (hW : ∀ cls d H', E cls d H' → W cls d σ H') {u : Value} (c : CX X.prog X.w X.stack H s E u s') : XE X W u s' := by
  obtain ⟨a, B, H', cls, d, rfl, fl, hok, ub, na, os, ag, hE⟩ := c
  obtain ⟨G, g1, g2⟩ := restrict s'.heap fun b => (B.get? b).isSome || decide (b ∈ frs X.stack)
  have stays : B.StaysIn s'.heap := fl.1
  have inG : ∀ b o, B.get? b = some o → G.get? b = some o := fun b o e => (g1 b (by simp [e])).trans (stays b o e)
  have ofG : ∀ b o, G.get? b = some o → s'.heap.get? b = some o ∧ ((B.get? b).isSome = true ∨ b ∈ frs X.stack) := fun b o e => by
    cases q : ((B.get? b).isSome || decide (b ∈ frs X.stack)) with
    | false => rw [g2 b q] at e; cases e
    | true => exact ⟨(g1 b q).symm.trans e, by simpa [Bool.or_eq_true] using q⟩
  have J : Inv X pins σ H' { s with heap := G, gens := s'.gens, drawn := s'.drawn, toks := s'.toks } := by
    refine I.call (ch := []) ⟨fun b o e n hb _ => inG b o (ub.keep b o e n hb), fun b o e n hb _ => ?_, fun b o e n _ => ub.free b o e n, fun b o e _ => ?_, ub.tups, ub.frzs, ub.tbls⟩ (hok.kept inG) ag fun _ z => nomatch z
    · obtain ⟨sl, q⟩ := ub.slot b o e hb
      exact ⟨sl, (g1 b (by simp [hb])).trans q⟩
    · by_cases hb : b ∈ frs X.stack
      · obtain ⟨sl, q⟩ := ub.slot b o e hb
        exact ⟨_, (g1 b (by simp [hb])).trans q⟩
      · obtain ⟨o', q⟩ := ub.there b o e hb
        exact ⟨o', inG b o' q⟩
  refine ⟨a, B, _, pins, σ, H', cls, d, rfl, J, fun b o e hb => ?_, Heap.UpToSlots.of_keeps fun b o e => (ofG b o e).1, .inr (.inl fl), na, os, ag, hW _ _ _ hE⟩
  obtain ⟨e', h | h⟩ := ofG b o e
  · obtain ⟨o', q⟩ := Option.isSome_iff_exists.mp h
    have z := stays b o' q
    rw [e'] at z
    cases z
    exact q
  · exact absurd h hb
theorem passAt (tk : Takes X W) (σ : L2.St) : PassesAt (CX X.prog X.w) X σ (WE W σ) := fun _ _ _ e s' I c => tk e s' (in_air I (fun _ _ _ h => h) c)
end
/-! ### raise .. from None while an exception is handled whose contexts are a row -/
/-- the pins bear the handled exception and its contexts -/
def PLnk (pn : List (Addr × Obj)) : List Addr → Prop
  | [] => True
  | e :: l => (∃ (o : Obj) (vs : Array Value), (e, o) ∈ pn ∧ o.data = .fields vs ∧ vs[2]? = some (hdV l)) ∧ PLnk pn l
theorem PLnk.imp {p q : List (Addr × Obj)} (h : ∀ x ∈ p, x ∈ q) : ∀ {l : List Addr}, PLnk p l → PLnk q l
  | [], _ => trivial
  | _ :: _, ⟨⟨o, vs, a, r⟩, t⟩ => ⟨⟨o, vs, h _ a, r⟩, t.imp h⟩
end L2K
set_option Elab.async false
set_option linter.all false
set_option maxRecDepth 100000
set_option maxHeartbeats 4000000
/-! what is told of an exception that a call lets out: on: its contexts are a row that ends with None, too -/
class Md where
  on : Bool
instance (priority := low) mdOff : Md := ⟨false⟩
namespace SD
open PySem PySem.Spec PyProof.Rows L2
def Takes [m : Md] (X : Cx) (W : WX) : Prop := match m.on with
  | false => L2.Takes X W
  | true => L2K.Takes X W
def CXm [m : Md] (P : Program) (w : World) : CXT := match m.on with
  | false => L2.CX P w
  | true => L2K.CX P w
section
variable {X : Cx} {W : WX}
theorem passAt [m : Md] (tk : Takes X W) (σ : L2.St) : PassesAt (CXm X.prog X.w) X σ (WE W σ) := by
  obtain ⟨b⟩ := m
  cases b with
  | false => exact L2.passAt tk σ
  | true => exact L2K.passAt tk σ
/-- as the kit's Fun.okX -/
theorem okM [m : Md] {P : Program} {w : World} {K : PySem.W.Frag} {mg : Str → Option Value} {base : Heap} {x qual : Str} {st : Stmt} {f : Addr} {fd : FuncData} {N ps : List Str} {k : Nat} {sp : Sp} (F : Fun K x qual st f fd) (S : FnScope N ps (defScope st)) (len : ∀ vs H Q E, sp vs H Q E → vs.length = ps.length)
    (hbody : ∀ (cdv : Value) (A : Around) (outer : List Env) (s : Shared) (H : Hp) (vs : List V) (Q : VK) (E : XK), Room k (A.deeper (envOfC qual (defScope st) s.heap.objs.size f cdv)) → sp vs H Q E →
      ∃ t, PSs (cxOf (CXm P w) P w K mg base N qual (defScope st) f cdv A outer s H E) (defBody st) t ∧ t { nx := fun _ H' => Q .non H', rt := Q } (start N vs) H) : FnOk P w K mg base (CXm P w) (k + 1) f fd ps sp := by
  obtain ⟨oc, od, kV, doc, pm, an, cdv, ct, osl, rfl, lk, hcd⟩ := F.ex
  exact fn_of lk hcd S len fun A outer s H vs Q E hr hsp => hbody cdv A outer s H vs Q E hr hsp
end
end SD
set_option Elab.async false
set_option linter.all false
set_option maxRecDepth 100000
set_option maxHeartbeats 4000000
namespace SD
open PySem PySem.Spec PyProof.Rows L2
/-! ### methods of built-in types -/
abbrev Pm := U → List U → Mem → Out U
def tyU (T : String) (u : U) (M : Mem) : Bool := match view u M with
  | some (.str _) => T == "str"
  | some (.lst _) => T == "list"
  | some (.scr _) => T == "list"
  | _ => false
def eBm (T : String) (p : Pm) (f : Ev) (g : Av) : Ev := fun ρ M => (f ρ M).bind fun u M1 => if tyU T u M1 then (g ρ M1).bind fun us M2 => p u us M2 else .bad
section
variable {K : PySem.W.Frag}
theorem RepU.cellv {ξ : List Addr} {H : Hp} {μ : List Addr} {M : Mem} {x : V} {k : Nat} {ds : List D} (m : RelM K ξ H μ M) (r : RepU K ξ H μ x (.cell k)) (h : M[k]? = some (.lst ds)) : ∃ a xs, x = .ref a ∧ μ[k]? = some a ∧ H a = some (.lst xs) ∧ RepL K ξ H μ xs ds := by
  cases r with
  | cell e =>
    cases m.at_ k _ _ e h with
    | lst h r => exact ⟨_, _, rfl, e, h, r⟩
def mAppend : Pm := fun u us M => match u, us with
  | .cell k, [.dat d] => match M[k]? with
    | some (.lst ds) => if ds.length < 16777216 then .ok (.dat .non) (M.set k (.lst (ds ++ [d]))) else .bad
    | _ => .bad
  | _, _ => .bad
/-- pop(i) -/
def mPopAt : Pm := fun u us M => match u, us with
  | .cell k, [.dat (.int i)] => match M[k]? with
    | some (.lst ds) => if 0 ≤ i ∧ i < ds.length ∧ i < 9223372036854775808 then match ds[i.toNat]? with
        | some d => .ok (.dat d) (M.set k (.lst (ds.eraseIdx i.toNat)))
        | none => .bad
      else .bad
    | _ => .bad
  | _, _ => .bad
def mPop : Pm := fun u us M => match u, us with
  | .cell k, [] => match M[k]? with
    | some (.lst ds) => match ds[ds.length - 1]? with
      | some d => .ok (.dat d) (M.set k (.lst ds.dropLast))
      | none => .bad
    | _ => .bad
  | _, _ => .bad
theorem RepL.dropLast {ξ : List Addr} {H : Hp} {μ : List Addr} : ∀ {vs : List V} {ds : List D}, RepL K ξ H μ vs ds → RepL K ξ H μ vs.dropLast ds.dropLast
  | _, _, .nil => .nil
  | _, _, .cons r .nil => .nil
  | _, _, .cons r (.cons q t) => .cons r (RepL.dropLast (.cons q t))
def mInsert : Pm := fun u us M => match u, us with
  | .cell k, [.dat (.int i), .dat d] => match M[k]? with
    | some (.lst ds) => if ds.length < 16777216 ∧ 0 ≤ i ∧ i < 9223372036854775808 then .ok (.dat .non) (M.set k (.lst (ds.take i.toNat ++ [d] ++ ds.drop i.toNat))) else .bad
    | _ => .bad
  | _, _ => .bad
def mClear : Pm := fun u us M => match u, us with
  | .cell k, [] => match M[k]? with
    | some (.lst _) => .ok (.dat .non) (M.set k (.lst []))
    | _ => .bad
  | _, _ => .bad
/-! texts -/
def toStrs : List D → Option (List Cs)
  | [] => some []
  | .str s :: r => (toStrs r).map (s :: ·)
  | _ :: _ => none
end
/-! ### o[i] = e -/
def sSetIx (fo fi fe : Ev) : Sv := fun ρ M => SOut.ofE ρ (fe ρ M) fun u M1 => SOut.ofE ρ (fo ρ M1) fun o M2 => SOut.ofE ρ (fi ρ M2) fun i M3 => match o, i, u with
  | .cell k, .dat (.int j), .dat d => match M3[k]? with
    | some (.lst ds) => match ixN ds.length j with
      | some n => .nx ρ (M3.set k (.lst (ds.set n d)))
      | none => .bad
    | _ => .bad
  | _, _, _ => .bad
section
variable {X : Cx} {W : WX}
theorem s_setIx {o i e : Expr} {fo fi fe : Ev} {pos p2 : Pos} (ho : SE X W o fo) (hi : SE X W i fi) (he : SE X W e fe)
    (ha : ∀ v, assign (.Subscript o i p2) X.env v = (do
      let ov ← holding [v] (eval o X.env)
      let iv ← holding [v, ov] (eval i X.env)
      standAt p2
      holding [v, ov, iv] (setItem ov iv v)
      release [v, ov, iv] []) := by intro _; rfl)
    (hs : swapsWithSole [.Subscript o i p2] e pos.line X.env = pure false := by rfl) (hw : swappedStores [.Subscript o i p2] e X.env = pure none := by rfl) (h1 : (assignEach [.Subscript o i p2] X.env).map (·.2) = [assign (.Subscript o i p2) X.env] := by rfl) :
    S1 X W (.Assign [.Subscript o i p2] e pos) (sSetIx fo fi fe) :=
  ps_sd (ps_asg he (pg_sub ho hi set_list ha) hs hw h1) fun E σ H kh ⟨ξ, ρ, μ, M, en, m, p⟩ => tg.of en m ((PostS.bindE (R := RepU X.K ξ) p en).mono fun v H1 ⟨u, M1, μ1, n1, m1, kh1, r1, q1⟩ =>
    tg.of (en.next n1) m1 ((PostS.bindE (R := RepU X.K ξ) q1 (en.next n1)).mono fun ov H2 ⟨uo, M2, μ2, n2, m2, kh2, r2, q2⟩ => tg.of ((en.next n1).next n2) m2 ((PostS.bindE (R := RepU X.K ξ) q2 ((en.next n1).next n2)).mono fun iv H3 ⟨ui, M3, μ3, n3, m3, kh3, r3, q3⟩ => by
      cases uo with
      | dat d0 => exact q3.elim
      | exn => exact q3.elim
      | tup => exact q3.elim
      | cell k =>
        cases ui with
        | cell k1 => exact q3.elim
        | exn => exact q3.elim
        | tup => exact q3.elim
        | dat di =>
          cases u with
          | cell k2 => cases di <;> exact q3.elim
          | exn => cases di <;> exact q3.elim
          | tup => cases di <;> exact q3.elim
          | dat d =>
            cases di with
            | int j =>
              simp only at q3
              split at q3
              · rename_i ds hM
                split at q3
                · rename_i nn hn
                  obtain ⟨a, ys, rfl, ea, h, t⟩ := (r2.next n3).cellv m3 hM
                  cases r3 with
                  | dat r3 =>
                    cases r3
                    cases (r1.next n2).next n3 with
                    | dat rv =>
                      refine ⟨a, ys, j, nn, rfl, rfl, h, by rw [t.length]; exact hn, fun kh' => ?_⟩
                      have w : Nxt X.K H3 μ3 (upd H3 a (.lst (ys.set nn v))) μ3 := Nxt.wr (List.mem_of_getElem? ea) (nz h)
                      exact q3 _ _ μ3 w ((((en.next n1).next n2).next n3).next w) (m3.wr ea (nz h) (t.set rv _)) kh'
                · exact q3.elim
              · exact q3.elim
            | _ => exact q3.elim)))
end
/-! ### own functions -/
abbrev Fn := List U → Mem → Out U
def spS (K : PySem.W.Frag) (mg : Str → Option Value) (n : Nat) (F : Fn) : Sp := fun vs H Q E => vs.length = n ∧ ∃ ξ us μ M, RepUs K ξ H μ vs us ∧ RelM K ξ H μ M ∧ match F us M with
  | .ok u M' => ∀ v H' μ', Nxt K H μ H' μ' → RelM K ξ H' μ' M' → RepU K ξ H' μ' v u → Q v H'
  | .exc c fs M' => ∀ (C : Addr) (dd : Option Addr) H' μ', Nxt K H μ H' μ' → RelM K ξ H' μ' M' → mg c = some (.ref C) → RepX K ξ H' μ' dd fs → E (.ref C) dd H'
  | .bad => False
/-- the def named x with defaults dus reckons F -/
structure Callable [Md] (P : Program) (w : World) (K : PySem.W.Frag) (mg : Str → Option Value) (base : Heap) (k : Nat) (x : Str) (n : Nat) (dus : List U) (F : Fn) : Prop where
  ex : ∃ (f : Addr) (fd : FuncData) (ps : List Str) (ds : List Value) (dvs : List V), mg x = some (.ref f) ∧ PySem.W.keepIn K (.ref f) = true ∧ Binds K fd ps ds ∧ Vals dvs ds ∧ (∀ ξ H μ, RepUs K ξ H μ dvs dus) ∧ FnOk P w K mg base (CXm P w) k f fd ps (spS K mg n F)
def eFn (n : Nat) (dus : List U) (F : Fn) (g : Av) : Ev := fun ρ M => (g ρ M).bind fun us M1 => if (us ++ dus).length = n then F (us ++ dus) M1 else .bad
theorem RepUs.append {K : PySem.W.Frag} {ξ : List Addr} {H : Hp} {μ : List Addr} : ∀ {vs ws : List V} {us us' : List U}, RepUs K ξ H μ vs us → RepUs K ξ H μ ws us' → RepUs K ξ H μ (vs ++ ws) (us ++ us')
  | _, _, _, _, .nil, s => s
  | _, _, _, _, .cons r t, s => .cons r (RepUs.append t s)
section
variable {X : Cx} {W : WX}
theorem se_fn [Md] {k n : Nat} {x : Str} {dus : List U} {F : Fn} {g : Av} {e : Expr} {es : List Expr} {p pos : Pos} (C : Callable X.prog X.w X.K X.mg X.base k x n dus F) (hr : Room k X.A) (tk : Takes X W) (ha : SA X W (e :: es) g) (hg : Gl X x := by rfl)
    (hdb : (x == ("__debug__" : Str)) = false := by decide) (he : starEach (e :: es) X.env = (false, eval e X.env) :: starEach es X.env := by rfl) (hpl : (backTo pos (starEach es X.env)).any (·.1) = false := by rfl) :
    SE X W (.Call (.Name x p) (e :: es) [] pos) (eFn n dus F g) := by
  obtain ⟨f, fd, ps, ds, dvs, hm, hk, hb, hd, hdu, ok⟩ := C.ex
  refine pe_sd (pe_callSD (E := WE W) ok hr hg hm hk hb hd (fun σ => passAt tk σ) ha hdb he hpl) fun σ H Q kh ⟨ξ, ρ, μ, M, en, m, q⟩ => tg.of en m ((Post.bind (R := RepUs X.K ξ) q).mono fun xs H1 ⟨us, M1, μ1, n1, m1, kh1, r1, q1⟩ => ?_)
  split at q1
  · rename_i hl
    have rr := r1.append (hdu ξ H1 μ1)
    refine ⟨rr.length.trans hl, ξ, _, μ1, M1, rr, m1, ?_⟩
    cases hF : F (us ++ dus) M1 with
    | ok u M2 => rw [hF] at q1; exact fun v H' μ' nn mm r kh' => q1 v H' μ' nn mm kh' r
    | exc c fs M2 => rw [hF] at q1; exact q1
    | bad => rw [hF] at q1; exact q1
  · exact q1.elim
end
/-! ### a def by its body -/
def FlO {α : Type} (M : Mem) : Out α → Prop
  | .ok _ M' => Fl M M'
  | .exc _ _ M' => Fl M M'
  | .bad => True
def FlS (M : Mem) : SOut → Prop
  | .nx _ M' => Fl M M'
  | .rt _ M' => Fl M M'
  | .bk _ M' => Fl M M'
  | .ct _ M' => Fl M M'
  | .exc _ _ _ M' => Fl M M'
  | .bad => True
/-- no old cell is made to tell of a new one -/
class FE {α : Type} (f : En → Mem → Out α) : Prop where
  h : ∀ ρ M, FlO M (f ρ M)
class FS (f : Sv) : Prop where
  h : ∀ ρ M, FlS M (f ρ M)
class FF (F : Fn) : Prop where
  h : ∀ us M, FlO M (F us M)
def finish (n : Nat) (o : SOut) : Out U := match o with
  | .nx _ M => .ok (.dat .non) (M.take n)
  | .rt (.dat d) M => .ok (.dat d) (M.take n)
  | .rt (.cell k) M => if k < n then .ok (.cell k) (M.take n) else match M[k]? with
    | some o => if o.refs = [] then .ok (.cell n) (M.take n ++ [o]) else .bad
    | none => .bad
  | .exc c fs _ M => .exc c fs (M.take n)
  | _ => .bad
def fnRun (m : Nat) (body : Sv) : Fn := fun us M => finish M.length (body (us.map some ++ List.replicate (m - us.length) none) M)
instance {m : Nat} {body : Sv} [i : FS body] : FF (fnRun m body) := ⟨fun us M => by
  unfold fnRun finish
  have h := i.h (us.map some ++ List.replicate (m - us.length) none) M
  cases hb : body (us.map some ++ List.replicate (m - us.length) none) M with
  | nx ρ M' => rw [hb] at h; exact Fl.take h
  | rt u M' =>
    rw [hb] at h
    cases u with
    | dat d => exact Fl.take h
    | exn => exact trivial
    | tup => exact trivial
    | cell k =>
      simp only
      split
      · exact Fl.take h
      · split
        · split
          · exact (Fl.take h).trans Fl.app
          · exact trivial
        · exact trivial
  | bk => exact trivial
  | ct => exact trivial
  | exc c fs ρ M' => rw [hb] at h; exact Fl.take h
  | bad => exact trivial⟩
section
variable {K : PySem.W.Frag} {ξ : List Addr} {H H' : Hp} {μ μ' : List Addr}
theorem relE_start {vs : List V} {us : List U} (r : RepUs K ξ H μ vs us) (N : List Str) : RelE K ξ H μ (L2.start N vs) (us.map some ++ List.replicate (N.length - us.length) none) := by
  unfold L2.start
  rw [r.length]
  generalize N.length - us.length = m
  have gen : ∀ {vs : List V} {us : List U}, RepUs K ξ H μ vs us → RelE K ξ H μ (vs.map some ++ List.replicate m none) (us.map some ++ List.replicate m none) := fun {vs} => by
    induction vs with
    | nil =>
      intro us r
      cases r
      refine ⟨by simp, fun i u h => ?_⟩
      simp at h
      rw [List.getElem?_replicate] at h
      split at h <;> cases h
    | cons v vs ih =>
      intro us r
      cases r with | cons r t =>
      refine ⟨by simp [t.length], fun i u h => ?_⟩
      cases i with
      | zero => simp at h; subst h; exact ⟨_, rfl, r⟩
      | succ i => exact (ih t).at_ i u (by simpa using h)
  exact gen r
/-- the def's own cells are dropped -/
theorem drop_cells {M M' : Mem} (m0 : RelM K ξ H μ M) (n : Nxt K H μ H' μ') (m : RelM K ξ H' μ' M') (fl : Fl M M') : Nxt K H μ H' μ ∧ RelM K ξ H' μ (M'.take M.length) := by
  obtain ⟨ν, rfl, hν⟩ := n.pre
  have out : ∀ b, b ∉ ξ ++ (μ ++ ν) → b ∉ ξ ++ μ := fun b hb => nm_of (nm hb).1 fun z => (nm hb).2 (List.mem_append_left _ z)
  refine ⟨⟨n.same, ⟨[], by simp, fun _ h => by simp at h⟩, n.frz⟩, ⟨?_, ?_, fun a ha => ⟨(m.xt a ha).1, fun z => (m.xt a ha).2 (List.mem_append_left _ z)⟩, fun k a o h1 h2 => ?_⟩⟩
  · have := m.len
    rw [List.length_take, ← this, List.length_append, ← m0.len]; omega
  · exact (List.nodup_append.mp m.nd).1
  · have hk : k < μ.length := (List.getElem?_eq_some_iff.mp h1).1
    rw [List.getElem?_take_of_lt (by rw [← m0.len]; exact hk)] at h2
    obtain ⟨o0, e0, s0⟩ := fl.2 k o (by rw [← m0.len]; exact hk) h2
    exact (m.at_ k a o (by rw [List.getElem?_append_left hk]; exact h1) h2).subC out fun j hj b e => by
      have := (m0.at_ k a o0 h1 e0).refs_lt j (s0 j hj)
      rwa [List.getElem?_append_left this] at e
end
theorem fn_ok [Md] {P : Program} {w : World} {K : PySem.W.Frag} {mg : Str → Option Value} {base : Heap} {x qual : Str} {st : Stmt} {f : Addr} {fd : FuncData} {N ps : List Str} {k : Nat} {body : Sv} [fsb : FS body] (F : Fun K x qual st f fd) (S : FnScope N ps (defScope st))
    (hbody : ∀ (cdv : Value) (A : Around) (outer : List Env) (s : Shared) (H : Hp) (E : XK), Room k (A.deeper (envOfC qual (defScope st) s.heap.objs.size f cdv)) →
      SS (cxOf (CXm P w) P w K mg base N qual (defScope st) f cdv A outer s H E) (fun cls d _ H => E cls d H) (defBody st) body) : FnOk P w K mg base (CXm P w) (k + 1) f fd ps (spS K mg ps.length (fnRun N.length body)) := by
  refine okM F S (fun vs H Q E h => h.1) fun cdv A outer s H vs Q E hr h => ⟨_, hbody cdv A outer s H E hr, ?_⟩
  obtain ⟨hl, ξ, us, μ, M, ru, m, q⟩ := h
  refine ⟨ξ, _, μ, M, relE_start ru N, m, ?_⟩
  unfold fnRun at q
  have fl0 := fsb.h (us.map some ++ List.replicate (N.length - us.length) none) M
  cases hb : body (us.map some ++ List.replicate (N.length - us.length) none) M with
  | nx ρ M' =>
    rw [hb] at q fl0
    intro σ' H' μ' n e' m' kh'
    obtain ⟨n2, m2⟩ := drop_cells m n m' fl0
    exact q .non H' μ n2 m2 (.dat .non)
  | rt u M' =>
    rw [hb] at q fl0
    intro v H' μ' n m' kh' r
    obtain ⟨n2, m2⟩ := drop_cells m n m' fl0
    obtain ⟨ν, rfl, hν⟩ := n.pre
    cases u with
    | dat d =>
      cases r with | dat r =>
        exact q v H' μ n2 m2 (.dat (r.sub fun b hb => nm_of (nm hb).1 fun z => (nm hb).2 (List.mem_append_left _ z)))
    | exn => exact q.elim
    | tup => exact q.elim
    | cell c =>
      cases r with | cell ec =>
        by_cases hc : c < M.length
        · have e1 : finish M.length (.rt (.cell c) M') = .ok (.cell c) (M'.take M.length) := by simp [finish, hc]
          rw [e1] at q
          refine q _ H' μ n2 m2 (.cell ?_)
          rw [← m.len] at hc
          rw [List.getElem?_append_left hc] at ec; exact ec
        · cases ho : M'[c]? with
          | none =>
            have e1 : finish M.length (.rt (.cell c) M') = .bad := by simp [finish, hc, ho]
            rw [e1] at q
            exact q.elim
          | some o =>
            by_cases hr : o.refs = []
            case neg =>
              have e1 : finish M.length (.rt (.cell c) M') = .bad := by simp [finish, hc, ho, hr]
              rw [e1] at q
              exact q.elim
            have e1 : finish M.length (.rt (.cell c) M') = .ok (.cell M.length) (M'.take M.length ++ [o]) := by simp [finish, hc, ho, hr]
            rw [e1] at q
            rename_i a
            have hge : μ.length ≤ c := by rw [m.len]; omega
            rw [List.getElem?_append_right hge] at ec
            have ha : a ∈ ν := List.mem_of_getElem? ec
            obtain ⟨h1, h2, h3⟩ := hν _ ha
            have out : ∀ b, b ∉ ξ ++ (μ ++ ν) → b ∉ ξ ++ (μ ++ [a]) := fun b hb => nm_of (nm hb).1 fun z => (nm hb).2 (by
              rcases List.mem_append.mp z with z | z
              · exact List.mem_append_left _ z
              · exact List.mem_append_right _ (by rw [List.mem_singleton.mp z]; exact ha))
            refine q _ H' (μ ++ [a]) ⟨n.same, ⟨[a], rfl, fun b hb => by rw [List.mem_singleton.mp hb]; exact ⟨h1, h2, h3⟩⟩, n.frz⟩ ⟨?_, ?_, fun b hb => ⟨(m'.xt b hb).1, fun z => ?_⟩, fun j b o' e1 e2 => ?_⟩ (.cell ?_)
            · have := m2.len
              simp [this]
            · rw [List.nodup_append]
              exact ⟨m2.nd, by simp, fun b hb c hc z => h1 (by rw [← List.mem_singleton.mp hc, ← z]; exact hb)⟩
            · refine (m'.xt b hb).2 ?_
              rcases List.mem_append.mp z with z | z
              · exact List.mem_append_left _ z
              · exact List.mem_append_right _ (by rw [List.mem_singleton.mp z]; exact ha)
            · by_cases hj : j < μ.length
              · rw [List.getElem?_append_left hj] at e1
                rw [List.getElem?_append_left (by rw [← m2.len]; exact hj), List.getElem?_take_of_lt (by rw [← m.len]; exact hj)] at e2
                obtain ⟨o0, e0, s0⟩ := fl0.2 j o' (by rw [← m.len]; exact hj) e2
                refine (m'.at_ j b o' (by rw [List.getElem?_append_left hj]; exact e1) e2).subC out fun i hi b' e => ?_
                have := (m.at_ j b o0 e1 e0).refs_lt i (s0 i hi)
                rw [List.getElem?_append_left this] at e ⊢
                exact e
              · have ej : j = μ.length := by
                  have := (List.getElem?_eq_some_iff.mp e1).1
                  simp at this; omega
                subst ej
                rw [List.getElem?_append_right (Nat.le_refl _)] at e1
                rw [m2.len, List.getElem?_append_right (Nat.le_refl _)] at e2
                simp at e1 e2
                subst e1 e2
                refine (m'.at_ c _ _ ?_ ho).subC out fun i hi => by rw [hr] at hi; cases hi
                rw [List.getElem?_append_right hge]; exact ec
            · rw [← m.len, List.getElem?_append_right (Nat.le_refl _)]; simp
  | bk ρ M' => rw [hb] at q; exact q.elim
  | ct ρ M' => rw [hb] at q; exact q.elim
  | exc c fs ρ M' =>
    rw [hb] at q fl0
    intro C dd σ' H' μ' n e' m' hc hx
    obtain ⟨n2, m2⟩ := drop_cells m n m' fl0
    obtain ⟨ν, rfl, hν⟩ := n.pre
    refine q C dd H' μ n2 m2 hc (hx.imp id fun ⟨d, vs, e, hd, hv, rv⟩ => ⟨d, vs, e, ?_, hv, rv.sub fun b hb => ?_⟩)
    · exact nm_of (nm hd).1 fun z => (nm hd).2 (List.mem_append_left _ z)
    · exact nm_of (nm hb).1 fun z => (nm hb).2 (List.mem_append_left _ z)
  | bad => rw [hb] at q; exact q.elim
end SD
set_option Elab.async false
set_option linter.all false
set_option maxRecDepth 100000
set_option maxHeartbeats 4000000
namespace SD
open PySem PySem.Spec PyProof.Rows L2
/-! ### sep.join(texts) -/
theorem mkS_tl (s : Cs) : TL.tl (mkS s) = s := by simp [TL.tl, mkS]
def joinC (sep : Cs) (ss : List Cs) : Cs := TL.joinL sep ss
def mJoin : Pm := fun u us M => match u, us with
  | .dat (.str sep), [w] => match view w M with
    | some d => match seqD d with
      | some ds => match toStrs ds with
        | some ss => if (ss.map (·.length)).sum + ss.length * sep.length ≤ 16777216 then .ok (.dat (.str (joinC sep ss))) M else .bad
        | none => .bad
      | none => .bad
    | none => .bad
  | _, _ => .bad
/-! ### text * number -/
def repS (s : Cs) (n : Int) : Cs := (List.replicate n.toNat s).flatten
def mulSD : D → D → Option D
  | .int i, .int j => mulD (.int i) (.int j)
  | .str s, .int n => if 0 < n ∧ n ≤ 1000000 ∧ s.length * n.toNat ≤ 1000000 then some (.str (repS s n)) else none
  | .lst ds, .int n => if 0 ≤ n ∧ n ≤ 1000000 ∧ ds.length * n.toNat ≤ 1000000 then some (.lst (List.replicate n.toNat ds).flatten) else none
  | _, _ => none
def rMulS : R2 := fun x y H Q => rI CMul (fun i j => .int (i * j)) x y H Q ∨ ∃ s n, x = .str (mkS s) ∧ y = .int n ∧ 0 < n ∧ n ≤ 1000000 ∧ s.length * n.toNat ≤ 1000000 ∧ Q (.str (mkS (repS s n))) H
def rMulL : R2 := fun x y H Q => rMulS x y H Q ∨ rRep x y H Q
theorem foldl_rep (c : Array Nat) : ∀ (n : Nat) (acc : Array Nat), ((List.replicate n c).foldl (· ++ ·) acc).toList = acc.toList ++ (List.replicate n c.toList).flatten
  | 0, acc => by simp
  | n + 1, acc => by
    rw [List.replicate_succ, List.foldl_cons, foldl_rep c n, List.replicate_succ]
    simp
theorem or_mul {X : Cx} : OpR X (binaryOp .Mult) rMulS := op_mul.or fun pins s0 σ H x y v u Q I rx ry ⟨s, n, e1, e2, h1, h2, h3, q⟩ => by
  subst e1 e2
  obtain ⟨t, rfl⟩ := rx
  obtain ⟨t', rfl⟩ := ry
  have hlen : (mkS s).length = s.length := mkS_len s
  refine P.mul_str ?_ (fun _ _ => ?_) (fun _ _ => ?_) ?_
  · rw [decide_eq_false (by omega), decide_eq_false (by omega)]; rfl
  · have hn : (2 ^ 63 - 1 : Int) / n ≥ 1000000 := by
      have : (1000000 : Int) * 1000000 ≤ 2 ^ 63 - 1 := by decide
      exact (Int.le_ediv_iff_mul_le h1).mpr (by omega)
    have hs : s.length ≤ 1000000 := by
      have : 1 ≤ n.toNat := by omega
      calc s.length = s.length * 1 := by omega
        _ ≤ s.length * n.toNat := Nat.mul_le_mul_left _ this
        _ ≤ 1000000 := h3
    rw [hlen]; omega
  · rw [hlen]
    simp [Builtin.Str.tooLong, sizeLine_eq]; omega
  · rw [if_neg (by omega)]
    split
    · rename_i hc
      have : repS s n = s := by
        rw [Bool.or_eq_true, beq_iff_eq, beq_iff_eq, hlen] at hc
        rcases hc with hc | hc
        · subst hc; simp [repS]
        · have : s = [] := List.length_eq_zero_iff.mp hc
          subst this; simp [repS]
      rw [this] at q
      exact ⟨.str (mkS s), H, I, ⟨t, rfl⟩, q⟩
    · refine ⟨?_, ⟨.str (mkS (repS s n)), H, I.tok _, ⟨s0.toks, ?_⟩, q⟩⟩
      · rw [sizeLine_eq]
        have : (Str.mk ((List.replicate n.toNat (mkS s).cps).foldl (· ++ ·) #[])).length = n.toNat * s.length := by
          show Array.size _ = _
          rw [← Array.length_toList, foldl_rep]
          simp [mkS]
        rw [this, Nat.mul_comm]; omega
      · congr 1
        refine TL.ext_tl ?_
        rw [mkS_tl]
        show (Array.toList _) = _
        rw [foldl_rep]
        simp [mkS, repS]
theorem or_mulL {X : Cx} : OpR X (binaryOp .Mult) rMulL := or_mul.or op_rep
theorem RepL.rep {K : PySem.W.Frag} {ξ : List Addr} {H : Hp} {μ : List Addr} {vs : List V} {ds : List D} (r : RepL K ξ H μ vs ds) : ∀ n : Nat, RepL K ξ H μ (List.replicate n vs).flatten (List.replicate n ds).flatten
  | 0 => .nil
  | n + 1 => by
    rw [List.replicate_succ, List.replicate_succ, List.flatten_cons, List.flatten_cons]
    exact r.append (RepL.rep r n)
theorem o_mulS {K : PySem.W.Frag} : Op2 K (lift2 mulSD) rMulL := Op2.lift fun ξ mg W x y d e c σ H μ M Q m kh r1 r2 h p => by
  unfold mulSD at h
  split at h
  · rename_i i j
    unfold mulD at h
    dsimp only at h
    split at h
    · rename_i hc
      cases h; cases r1.int; cases r2.int
      exact .inl (.inl ⟨_, _, rfl, rfl, hc, fun kh => p.here m kh (.dat (.int _))⟩)
    · cases h
  · split at h
    · rename_i hc; cases h; cases r1.str; cases r2.int; exact .inl (.inr ⟨_, _, rfl, rfl, hc.1, hc.2.1, hc.2.2, fun kh => p.here m kh (.dat (.str _))⟩)
    · cases h
  · split at h
    · rename_i ds n hc
      cases h; cases r2.int
      obtain ⟨a, xs, rfl, e1, t1⟩ := r1.lstv
      have hl := t1.length
      refine .inr ⟨a, n, xs, rfl, rfl, e1, by omega, by omega, by rw [hl, sizeLine_eq]; omega, fun q hq kh => newL_post (c := false) p m (t1.rep _) hq kh⟩
    · cases h
  · cases h
/-! ### dict displays -/
def toKey : U → Option Key
  | .dat (.int i) => some (.inl i)
  | .dat (.str s) => some (.inr (mkS s))
  | _ => none
def pairsE : List (Ev × Ev) → En → Mem → Out (List (Key × D))
  | [], _, M => .ok [] M
  | (f, g) :: r, ρ, M => (f ρ M).bind fun k M1 => (g ρ M1).bind fun v M2 => (pairsE r ρ M2).bind fun kvs M3 => match toKey k, v with
    | some k, .dat d => .ok ((k, d) :: kvs) M3
    | _, _ => .bad
def putD (kvs : List (Key × D)) (k : Key) (v : D) : List (Key × D) := if (kvs.any fun kv => decide (kv.1 = k)) = true then kvs.map (fun kv => if kv.1 = k then (kv.1, v) else kv) else kvs ++ [(k, v)]
def mergeD (kvs more : List (Key × D)) : List (Key × D) := more.foldl (fun acc kv => putD acc kv.1 kv.2) kvs
def newD (c : Bool) (kvs : List (Key × D)) (M : Mem) : Out U := if c then .ok (.cell M.length) (M ++ [.dct kvs]) else .ok (.dat (.dct kvs)) M
def eDisp (c : Bool) (fs : List (Ev × Ev)) : Ev := fun ρ M => (pairsE fs ρ M).bind fun kvs M1 => if kvs.length ≤ 15 then newD c (mergeD [] kvs) M1 else .bad
section
variable {K : PySem.W.Frag} {ξ : List Addr} {H : Hp} {μ : List Addr}
theorem RepK.any {k : Key} : ∀ {vs : List (Key × V)} {ds : List (Key × D)}, RepK K ξ H μ vs ds → (vs.any fun kv => decide (kv.1 = k)) = ds.any fun kv => decide (kv.1 = k)
  | _, _, .nil => rfl
  | _, _, .cons _ t => by rw [List.any_cons, List.any_cons, RepK.any t]
theorem RepK.append : ∀ {vs vs' : List (Key × V)} {ds ds' : List (Key × D)}, RepK K ξ H μ vs ds → RepK K ξ H μ vs' ds' → RepK K ξ H μ (vs ++ vs') (ds ++ ds')
  | _, _, _, _, .nil, s => s
  | _, _, _, _, .cons r t, s => .cons r (RepK.append t s)
theorem RepK.repl {k : Key} {v : V} {d : D} (r : Rep K ξ H μ v d) : ∀ {vs : List (Key × V)} {ds : List (Key × D)}, RepK K ξ H μ vs ds → RepK K ξ H μ (vs.map fun kv => if kv.1 = k then (kv.1, v) else kv) (ds.map fun kv => if kv.1 = k then (kv.1, d) else kv)
  | _, _, .nil => .nil
  | _, _, .cons (k := k') q t => by
    rw [List.map_cons, List.map_cons]
    by_cases h : k' = k
    · rw [if_pos h, if_pos h]; exact .cons r (RepK.repl r t)
    · rw [if_neg h, if_neg h]; exact .cons q (RepK.repl r t)
theorem RepK.put {k : Key} {v : V} {d : D} {vs : List (Key × V)} {ds : List (Key × D)} (t : RepK K ξ H μ vs ds) (r : Rep K ξ H μ v d) : RepK K ξ H μ (putK vs k v) (putD ds k d) := by
  unfold putK putD
  rw [t.any]
  split
  · exact t.repl r
  · exact t.append (.cons r .nil)
theorem RepK.merge : ∀ {more : List (Key × V)} {moreD : List (Key × D)} {vs : List (Key × V)} {ds : List (Key × D)}, RepK K ξ H μ more moreD → RepK K ξ H μ vs ds → RepK K ξ H μ (mergeK vs more) (mergeD ds moreD)
  | _, _, _, _, .nil, s => s
  | _, _, vs, ds, .cons (k := k) (v := v) (d := d) (vs := mv) (ds := md) r t, s => by
    show RepK K ξ H μ (mergeK (putK vs k v) mv) (mergeD (putD ds k d) md)
    exact RepK.merge t (s.put r)
theorem RepK.length : ∀ {vs : List (Key × V)} {ds : List (Key × D)}, RepK K ξ H μ vs ds → vs.length = ds.length
  | _, _, .nil => rfl
  | _, _, .cons _ t => by simp [RepK.length t]
theorem RelM.unx {p : Addr} {M : Mem} (m : RelM K (p :: ξ) H μ M) : RelM K ξ H μ M :=
  ⟨m.len, m.nd, fun a ha => m.xt a (List.mem_cons_of_mem _ ha), fun k a o h1 h2 => (m.at_ k a o h1 h2).sub fun b hb => nm_of (fun z => (nm hb).1 (List.mem_cons_of_mem _ z)) (nm hb).2⟩
theorem unx {p b : Addr} (hb : b ∉ (p :: ξ) ++ μ) : b ∉ ξ ++ μ := nm_of (fun z => (nm hb).1 (List.mem_cons_of_mem _ z)) (nm hb).2
/-- a new object whose making goes on: p is excluded meanwhile -/
theorem RelM.lay {p : Addr} {o : HO} {M : Mem} (m1 : RelM K ξ H μ M) (hp : H p = none) : RelM K (p :: ξ) (upd H p o) μ M := by
  have m2 := m1.laid (o := o) hp
  have hpμ := m1.new hp
  refine ⟨m2.len, m2.nd, fun a ha => ?_, fun k a o h1 h2 => ?_⟩
  · rcases List.mem_cons.mp ha with ha | ha
    · rw [ha]; exact ⟨⟨_, upd_same⟩, (nm hpμ).2⟩
    · exact m2.xt a ha
  · exact ((m1.at_ k a o h1 h2).more hp).next_at (Nxt.laid (K := K) hp).w (upd_ne fun z => m1.new0 hp (z ▸ List.mem_of_getElem? h1))
/-- what was laid beside becomes a cell -/
theorem RelM.unlay {p : Addr} {M : Mem} {oo : O} (m2 : RelM K (p :: ξ) H μ M) (hx : p ∉ ξ) (ho : RepO K ξ H (μ ++ [p]) p oo) : RelM K ξ H (μ ++ [p]) (M ++ [oo]) := by
  have hpx := (m2.xt p List.mem_cons_self).2
  have out2 : ∀ b, b ∉ (p :: ξ) ++ μ → b ∉ ξ ++ (μ ++ [p]) := fun b hb => nm_of (fun z => (nm hb).1 (List.mem_cons_of_mem _ z)) fun z => (List.mem_append.mp z).elim (nm hb).2 fun z => (nm hb).1 (by
    have : b = p := by simpa using z
    rw [this]; exact List.mem_cons_self)
  refine ⟨by simp [m2.len], ?_, fun a ha => ?_, fun k a o h1 h2 => ?_⟩
  · rw [List.nodup_append]
    refine ⟨m2.nd, by simp, fun a ha b hb z => ?_⟩
    have : b = p := by simpa using hb
    subst this z
    exact hpx ha
  · obtain ⟨h1, h2⟩ := m2.xt a (List.mem_cons_of_mem _ ha)
    refine ⟨h1, fun z => (List.mem_append.mp z).elim h2 fun z => ?_⟩
    have : a = p := by simpa using z
    subst this
    exact hx ha
  · by_cases hk : k < μ.length
    · rw [List.getElem?_append_left hk] at h1
      rw [List.getElem?_append_left (by rw [← m2.len]; exact hk)] at h2
      exact (m2.at_ k a o h1 h2).subC out2 fun k _ a e => by rw [List.getElem?_append_left (List.getElem?_eq_some_iff.mp e).1]; exact e
    · have ek : k = μ.length := by
        have := (List.getElem?_eq_some_iff.mp h1).1
        simp at this; omega
      subst ek
      rw [List.getElem?_append_right (Nat.le_refl _)] at h1
      rw [m2.len, List.getElem?_append_right (Nat.le_refl _)] at h2
      simp at h1 h2
      subst h1 h2
      exact ho
inductive RepPs (ξ : List Addr) (H : Hp) (μ : List Addr) : List (V × V) → List (Key × D) → Prop
  | nil : RepPs ξ H μ [] []
  | cons {k : Key} {v : V} {d : D} {ps : List (V × V)} {kvs : List (Key × D)} : Rep K ξ H μ v d → RepPs ξ H μ ps kvs → RepPs ξ H μ ((kV k, v) :: ps) ((k, d) :: kvs)
theorem RepPs.split : ∀ {ps : List (V × V)} {kvs : List (Key × D)}, RepPs (K := K) ξ H μ ps kvs → ∃ vs, ps = vs.map (fun kv : Key × V => (kV kv.1, kv.2)) ∧ RepK K ξ H μ vs kvs
  | _, _, .nil => ⟨[], rfl, .nil⟩
  | _, _, .cons (k := k) (v := v) r t => let ⟨vs, e, q⟩ := RepPs.split t; ⟨(k, v) :: vs, by rw [e]; rfl, .cons r q⟩
theorem toKey_ok {v : V} {u : U} {k : Key} (r : RepU K ξ H μ v u) (h : toKey u = some k) : v = kV k := by
  unfold toKey at h
  split at h
  · cases h; cases r with | dat r => cases r; rfl
  · cases h; cases r with | dat r => cases r; rfl
  · cases h
theorem pairs_read {mg : Str → Option Value} {W : WX} : ∀ (fs : List (Ev × Ev)) {σ : L2.St} {ρ : En} {H : Hp} {μ : List Addr} {M : Mem} {Q : List (V × V) → Hp → Prop}, RelE K ξ H μ σ ρ → RelM K ξ H μ M → (fs = [] → KH K H) →
    Post K ξ mg W (RepPs (K := K) ξ) σ H μ (pairsE fs ρ M) Q → tPairs (fs.map fun fg => (tE K mg W fg.1, tE K mg W fg.2)) σ H Q
  | [], σ, ρ, H, μ, M, Q, e, m, kh, p => p.here m (kh rfl) .nil
  | (f, g) :: r, σ, ρ, H, μ, M, Q, e, m, kh, p => by
    unfold pairsE at p
    refine tg.of e m ((Post.bind (R := RepU K ξ) p).mono fun x H1 ⟨k, M1, μ1, n1, m1, kh1, r1, q1⟩ => tg.of (e.next n1) m1 ((Post.bind (R := RepU K ξ) q1).mono fun y H2 ⟨v, M2, μ2, n2, m2, kh2, r2, q2⟩ => ?_))
    refine pairs_read r ((e.next n1).next n2) m2 (fun _ => kh2) ((Post.bind (R := RepPs (K := K) ξ) q2).mono fun ps H3 ⟨kvs, M3, μ3, n3, m3, kh3, r3, q3⟩ => ?_)
    cases hk : toKey k with
    | none => simp only [hk] at q3; exact q3.elim
    | some k' =>
      have ek := toKey_ok (r1.next (n2.trans n3)) hk
      subst ek
      cases v with
      | cell c => simp only [hk] at q3; exact q3.elim
      | exn => simp only [hk] at q3; exact q3.elim
      | tup => simp only [hk] at q3; exact q3.elim
      | dat d =>
        simp only [hk] at q3
        cases r2.next n3 with
        | dat rv => exact q3.here m3 kh3 (.cons rv r3)
theorem disp_read {c : Bool} {mg : Str → Option Value} {W : WX} {fs : List (Ev × Ev)} {σ : L2.St} {Q : VK} (hne : fs ≠ []) (h : tE K mg W (eDisp c fs) σ H Q) : tDisp (fs.map fun fg => (tE K mg W fg.1, tE K mg W fg.2)) σ H (orLock fun v H' => KH K H' → Q v H') := by
  obtain ⟨ξ, ρ, μ, M, e, m, q⟩ := h
  intro p hp
  have m1 := m.lay (o := .dK []) hp
  have e1 : RelE K (p :: ξ) (upd H p (.dK [])) μ σ ρ := (e.more hp).next (Nxt.laid hp)
  refine pairs_read fs e1 m1 (fun z => absurd z hne) ?_
  unfold eDisp at q
  cases hr : pairsE fs ρ M with
  | ok kvs M1 =>
    rw [hr] at q
    simp only [Out.bind] at q
    intro ps H' μ' n m' kh' r
    have hpH : H' p = some (.dK []) := n.same p _ (m1.xt p List.mem_cons_self).2 upd_same
    obtain ⟨vs, rfl, rk⟩ := r.split
    split at q
    · rename_i hl
      refine ⟨hpH, vs, rfl, by rw [rk.length]; exact hl, ?_⟩
      have hpin : p ∈ p :: ξ := List.mem_cons_self
      have hpξ : p ∉ ξ := fun z => by
        obtain ⟨⟨o, eo⟩, _⟩ := m.xt p z
        rw [hp] at eo; cases eo
      have nn : ∀ ho : HO, Nxt K H μ (upd H' p ho) μ' := fun ho => ⟨fun b o hb eb => by
          rw [upd_ne (ne_of_none eb hp)]
          exact n.same b o hb (by rw [upd_ne (ne_of_none eb hp)]; exact eb), by
        obtain ⟨ν, hν, h2⟩ := n.pre
        exact ⟨ν, hν, fun a ha => ⟨(h2 a ha).1, by
          have := (h2 a ha).2.1
          by_cases z : a = p
          · subst z; exact hp
          · rw [upd_ne z] at this; exact this, (h2 a ha).2.2⟩⟩, fun b o u e => by rw [upd_ne (ne_of_none e hp)]; exact n.frz b o u (by rw [upd_ne (ne_of_none e hp)]; exact e)⟩
      cases c with
      | false =>
        refine .inr ⟨p, _, upd_same, trivial, fun od kh2 => ?_⟩
        have mo := m'.own (o := .frz od (.dK (mergeK [] vs))) hpin (nz hpH)
        have rk2 := RepK.merge (RepK.nextW (Nw.own (o := .frz od (.dK (mergeK [] vs))) hpin (nz hpH)) rk) .nil
        have ee : upd (upd H' p (.dK (mergeK [] vs))) p (.frz od (.dK (mergeK [] vs))) = upd H' p (.frz od (.dK (mergeK [] vs))) := upd_upd
        rw [ee] at kh2 ⊢
        exact q _ _ μ' (nn _) mo.unx kh2 (.dat (.dct (nm_of hpξ (m'.xt p hpin).2) upd_same (RepK.sub (fun _ => unx) rk2)))
      | true =>
        refine .inl fun kh2 => ?_
        have mo := m'.own (o := .dK (mergeK [] vs)) hpin (nz hpH)
        have rk2 := RepK.merge (RepK.nextW (Nw.own (o := .dK (mergeK [] vs)) hpin (nz hpH)) rk) .nil
        have hpk : K.lookup p = none := by
          cases ek : K.lookup p with
          | none => rfl
          | some o =>
            have := kh2 p o ek
            rw [upd_same] at this; cases this
        have out2 : ∀ b, b ∉ (p :: ξ) ++ μ' → b ∉ ξ ++ (μ' ++ [p]) := fun b hb => nm_of (fun z => (nm hb).1 (List.mem_cons_of_mem _ z)) fun z => (List.mem_append.mp z).elim (nm hb).2 fun z => (nm hb).1 (by
          have : b = p := by simpa using z
          rw [this]; exact List.mem_cons_self)
        refine q _ _ (μ' ++ [p]) ⟨(nn _).same, ?_, (nn _).frz⟩ (mo.unlay hpξ (.dct upd_same (RepK.sub out2 rk2))) kh2 (.cell (by rw [← mo.len, List.getElem?_append_right (Nat.le_refl _)]; simp))
        obtain ⟨ν, hν, h2⟩ := (nn (.dK (mergeK [] vs))).pre
        refine ⟨ν ++ [p], by rw [hν, List.append_assoc], fun a ha => ?_⟩
        rcases List.mem_append.mp ha with ha | ha
        · exact h2 a ha
        · have : a = p := by simpa using ha
          subst this
          exact ⟨(nm (m.new hp)).2, hp, hpk⟩
    · exact q.elim
  | exc c fs' M1 =>
    rw [hr] at q
    intro C dd H' μ' n m' hc hx
    refine q C dd H' μ' ⟨fun b o hb eb => n.same b o hb (by rw [upd_ne (ne_of_none eb hp)]; exact eb), ?_, fun b o u e => n.frz b o u (by rw [upd_ne (ne_of_none e hp)]; exact e)⟩ m'.unx hc (hx.imp id fun ⟨d, vs, e, hd, hv, rv⟩ => ⟨d, vs, e, unx hd, hv, rv.sub fun _ => unx⟩)
    obtain ⟨ν, hν, h2⟩ := n.pre
    exact ⟨ν, hν, fun a ha => ⟨(h2 a ha).1, by
      have := (h2 a ha).2.1
      by_cases z : a = p
      · subst z; exact hp
      · rw [upd_ne z] at this; exact this, (h2 a ha).2.2⟩⟩
  | bad => rw [hr] at q; exact q.elim
section
variable {X : Cx} {W : WX}
structure SPs (X : Cx) (W : WX) (pos : Pos) (keys : List (Option Expr)) (values : List Expr) (fs : List (Ev × Ev)) : Prop where
  pps : PPs X pos keys values (fs.map fun fg => (tE X.K X.mg W fg.1, tE X.K X.mg W fg.2))
theorem sps_nil {pos : Pos} : SPs X W pos [] [] [] := ⟨pps_nil⟩
theorem sps_cons {pos : Pos} {k v : Expr} {ks : List (Option Expr)} {vs : List Expr} {f g : Ev} {fs : List (Ev × Ev)} (hk : SE X W k f) (hv : SE X W v g) (hr : SPs X W pos ks vs fs) : SPs X W pos (some k :: ks) (v :: vs) ((f, g) :: fs) := ⟨pps_cons hk hv hr.pps⟩
theorem se_disp (c : Bool) {pos : Pos} {keys : List (Option Expr)} {values : List Expr} {fs : List (Ev × Ev)} (h : SPs X W pos keys values fs) (hne : fs ≠ [] := by exact List.cons_ne_nil _ _) (hall : keys.all (·.isSome) = true := by rfl) (hl : keys.length = values.length := by rfl) (h0 : keys ≠ [] := by exact List.cons_ne_nil _ _)
    (h15 : keys.length ≤ 15 := by decide) : SE X W (.Dict keys values pos) (eDisp c fs) := pe_sd (pe_lockEnd (pe_disp h.pps hall hl h0 h15)) fun σ H Q kh h => disp_read hne h
def eDnew (c : Bool) : Ev := fun _ M => newD c [] M
end
end
end SD
set_option Elab.async false
set_option linter.all false
set_option maxRecDepth 100000
set_option maxHeartbeats 4000000
namespace SD
open PySem PySem.Spec PyProof.Rows L2
/-! ### a op b op' c -/
def eChain (p p' : P2) (f g h : Ev) : Ev := fun ρ M => (f ρ M).bind fun u M1 => (g ρ M1).bind fun w M2 => (p u w M2).bind fun t M3 => match t with
  | .dat (.bl true) => (h ρ M3).bind fun v M4 => p' w v M4
  | .dat (.bl false) => .ok (.dat (.bl false)) M3
  | _ => .bad
/-! ### a new cell's list taken as data -/
def eFrz (f : Ev) : Ev := fun ρ M => (f ρ M).bind fun u M1 => match u with
  | .cell k => if k = M.length ∧ k + 1 = M1.length then match M1[k]? with
      | some (.lst ds) => .ok (.dat (.lst ds)) (M1.take k)
      | _ => .bad
    else .bad
  | u => .ok u M1
/-- a def of the text, where it stands and how it binds -/
structure DefAt (K : PySem.W.Frag) (mg : Str → Option Value) (x qual : Str) (st : Stmt) (ps : List Str) : Prop where
  ex : ∃ (f : Addr) (fd : FuncData), mg x = some (.ref f) ∧ Fun K x qual st f fd ∧ Binds K fd ps [] ∧ ∀ us : List Value, us.length = ps.length → bindArgs fd ⟨us, []⟩ = pure (ps.zip us)
section
variable {P : Program} {w : World} {K : PySem.W.Frag} {mg : Str → Option Value} {base : Heap} {x qual : Str} {st : Stmt} {N ps : List Str} {k : Nat} {body : Sv} [FS body]
theorem DefAt.call [Md] (d : DefAt K mg x qual st ps) (S : FnScope N ps (defScope st))
    (hbody : ∀ (f : Addr) (cdv : Value) (A : Around) (outer : List Env) (s : Shared) (H : Hp) (E : XK), Room k (A.deeper (envOfC qual (defScope st) s.heap.objs.size f cdv)) →
      SS (cxOf (CXm P w) P w K mg base N qual (defScope st) f cdv A outer s H E) (fun cls d _ H => E cls d H) (defBody st) body) : Callable P w K mg base (k + 1) x ps.length [] (fnRun N.length body) := by
  obtain ⟨f, fd, hm, F, hb, _⟩ := d.ex
  exact ⟨⟨_, fd, ps, [], [], hm, F.kp, hb, .nil, fun _ _ _ => .nil, fn_ok F S (hbody _)⟩⟩
theorem DefAt.law {p : Str} {fa : Addr} (d : DefAt K mg x qual st [p]) (hfa : mg x = some (.ref fa)) (S : FnScope N [p] (defScope st))
    (hbody : ∀ (base : Heap) (f : Addr) (cdv : Value) (A : Around) (outer : List Env) (s : Shared) (H : Hp) (E : XK), Room k (A.deeper (envOfC qual (defScope st) s.heap.objs.size f cdv)) →
      SS (cxOf (L2.CX P w) P w K mg base N qual (defScope st) f cdv A outer s H E) (fun cls d _ H => E cls d H) (defBody st) body) :
    ∃ fd : FuncData, (∀ (s : Shared) (u : Value), BindsTo s fd ⟨[u], []⟩ [(p, u)]) ∧ ∀ base : Heap, K.In base → base.Ns mainGlobals mg → FnOk P w K mg base (L2.CX P w) (k + 1) fa fd [p] (spS K mg 1 (fnRun N.length body)) := by
  obtain ⟨f, fd, hm, F, hb, he⟩ := d.ex
  rw [hm] at hfa
  cases hfa
  exact ⟨fd, fun s u => .of_eq (he [u] rfl), fun base _ _ => fn_ok F S (hbody base _)⟩
theorem DefAt.mk' {h : Heap} {f : Addr} {oc kV doc pm cdv ct : Value} {od an : Option Addr} {osl : Array (Option Value)} (X : K.In h) (G : h.Ns mainGlobals mg) (a : PySem.W.nsIn K mainGlobals x = some (some (.ref f)))
    (l : K.lookup f = some ⟨oc, od, .func (PySem.W.fnOf x qual (defArgs st) (defBody st) (defScope st) .none kV doc pm an cdv ct), osl⟩) (c : PySem.W.codeIn K cdv qual = true) (k : PySem.W.keepIn K (.ref f) = true)
    (hb : ∀ (kV doc pm : Value) (an : Option Addr) (cdv ct : Value) (us : List Value), us.length = ps.length → bindArgs (PySem.W.fnOf x qual (defArgs st) (defBody st) (defScope st) .none kV doc pm an cdv ct) ⟨us, []⟩ = pure (ps.zip us)) : DefAt K mg x qual st ps := by
  have F := fun_mk (st := st) l c k
  exact ⟨⟨_, _, PySem.W.mg_of X G a, F, F.binds hb, fun us hu => hb _ _ _ _ _ _ us hu⟩⟩
end
end SD
set_option Elab.async false
set_option linter.all false
set_option maxRecDepth 100000
set_option maxHeartbeats 4000000
namespace SD
open PySem PySem.Spec PyProof.Rows L2
section
variable {X : Cx} {W : WX}
def eNeg (f : Ev) : Ev := fun ρ M => (f ρ M).bind fun u M1 => match u with
  | .dat (.int i) => .ok (.dat (.int (-i))) M1
  | _ => .bad
end
end SD
set_option Elab.async false
set_option linter.all false
set_option maxRecDepth 100000
set_option maxHeartbeats 4000000
namespace SX
open PySem PySem.W PySem.Calls PyProof.Rows PySem.HandSPX
/-! ### own exceptions whose __init__ says super().__init__('..') and keeps its argument -/
abbrev veL : List Value := [.type "ValueError", .type "Exception", .type "BaseException", .type "object"]
def scp (par : List Str) : Scope := { kind := .function, names := [(PySem.Str.ofString "self", .local)] ++ par.map (fun p => (p, .local)) ++ [(PySem.Str.ofString "__class__", .free), (PySem.Str.ofString "super", .globalImplicit)], isGenerator := false, isCoroutine := false, more := [] }
def prm (a : Pos) (par : List (Str × Pos)) : Arguments := { posonlyargs := [], args := { arg := "self", annotation := none, pos := a } :: par.map fun p => { arg := p.1, annotation := none, pos := p.2 }, vararg := none, kwonlyargs := [], kw_defaults := [], kwarg := none, defaults := [] }
def sup (text : Str) (b1 b2 b3 b4 b5 b6 : Pos) : Stmt := .Expr (.Call (.Attribute (.Call (.Name "super" b1) [] [] b2) "__init__" b3) [.Constant (.str text) 0 b4] [] b5) b6
def keeps (fld par : Str) (c1 c2 c3 c4 : Pos) : Stmt := .Assign [.Attribute (.Name "self" c1) fld c2] (.Name par c3) c4
/-- what the written part says of the class at C, of its __init__ at fI -/
structure OwnC (K : Frag) (prog : Program) (C fI : Addr) (qual : Str) (params : Arguments) (body : List Stmt) (scope : Scope) : Prop where
  cls : ∃ nm q N bs bm sn sub ab col dd k0 k1 k2 k3 k5, K.lookup C = some (excClassObj nm q C N bs bm true sn sub ab col dd k0 k1 k2 k3 k5 "ValueError.__new__") ∧ refsVE bm = true
  sa : findIn K (.ref C) "__setattr__" = some (some (.builtin "object.__setattr__"))
  ga : findIn K (.ref C) "__getattribute__" = some (some (.builtin "BaseException.__getattribute__"))
  gg : findIn K (.ref C) "__getattr__" = some none
  iC : findIn K (.ref C) "__init__" = some (some (.ref fI))
  tC : typeIn K (.ref fI) = some (.type "function")
  kC : keepIn K (.ref C) = true
  exC : subIn K (.ref C) (.type "BaseException") = some true
  tyC : typeIn K (.ref C) = some (.type "type")
  hdC : hasDictIn K C = true
  vE : subIn K (.ref C) (.type "ValueError") = some true
  ei : excInitIn K C veL "ValueError.__new__" = true
  su : ks_superIn K C C "__init__" = some (some (.builtin "ValueError.__init__"))
  mro : mroIn K C (.ref C) = some true
  any : nsIn K cStatics "thirdparty.any" = some none
  fn : ∃ (oc : Value) (od : Option Addr) (doc pm : Value) (an : Option Addr) (cda : Addr) (ct : Value) (osl : Array (Option Value)) (cc : Addr) (ccl : Value) (cdd : Option Addr) (vs : Array Value) (ccs : Array (Option Value)) (cl : Value) (cld : Option Addr) (csl : Array (Option Value)) (file : Str) (tf : Tok),
    K.lookup fI = some ⟨oc, od, .func (ksFn "__init__" qual params body scope .none .none doc pm an (.ref cda) ct cc), osl⟩ ∧ codeIn K (.ref cda) qual = true ∧ K.lookup cda = some ⟨ccl, cdd, .fields vs, ccs⟩ ∧ vs[2]? = some (.str file tf) ∧ ((prog.main.file : Str) == file) = true ∧
    K.lookup cc = some ⟨cl, cld, .cell (some (.ref C)), csl⟩
  top : (prog.main.scope.names.lookup ("super" : Str)).isSome = false
structure InitEnd (h h' : Heap) (x C dx t1 : Addr) (fld : Str) (v : Value) : Prop where
  keep : ∀ b o, b ≠ x → h.get? b = some o → h'.get? b = some o
  obj : h'.get? x = some { cls := .ref C, dict := some dx, data := .fields #[.ref t1, .none, .none, .none, .bool false, .none] }
  dbig : h.objs.size ≤ dx
  dne : dx ≠ x
  ns : h'.Ns1 dx (fun y => if y = fld then some v else none)
structure InitEnd0 (h h' : Heap) (x C t1 : Addr) : Prop where
  keep : ∀ b o, b ≠ x → h.get? b = some o → h'.get? b = some o
  obj : h'.get? x = some { cls := .ref C, data := .fields #[.ref t1, .none, .none, .none, .bool false, .none] }
/-- the call's own reckoning, at its places in the text -/
def CallOk (text : Str) (b1 b2 b3 b4 b5 : Pos) : Prop := ∀ env : Env, ∃ pl : Sem Bool, eval (.Call (.Attribute (.Call (.Name "super" b1) [] [] b2) "__init__" b3) [.Constant (.str text) 0 b4] [] b5) env = (do
  let ov ← attributeBase (.Call (.Name "super" b1) [] [] b2) "__init__" env (eval (.Call (.Name "super" b1) [] [] b2) env)
  standAt b3.atName
  let (f, first) ← holding [ov] (getMethod ov "__init__" pl)
  callWith b5 f first (backTo b5 (starEach [.Constant (.str text) 0 b4] env)) [])
theorem ldC {M : Model} {s : Shared} {env : Env} {m : Str → Option Value} {x : Str} {pos : Pos} {v : Value} {Q : Value → Shared → Prop} {A : Around} {E : Value → Shared → Prop} (hn : s.heap.Ns env.locals m) (hv : m x = some v) (h : Q v s)
    (hk : env.scope.kind = .function := by rfl) (hl : env.kindOf x = some .local := by rfl) (hd : (x == ("__debug__" : Str)) = false := by decide) :
    wpAny M A (eval (.Name x pos) env) Q E s := wpAny_Name (wpAny_loadName_local hk hl hn hv h) hd
section
variable {prog : Program} {w : World} {A : Around} {E : Value → Shared → Prop} {R : Result → Shared → Prop} {s : Shared} {K : Frag} {mg mb : Str → Option Value} {C fI : Addr}
/-- super().__init__('text'), the first row of the body -/
theorem sup_row {qual : Str} {params : Arguments} {body0 : List Stmt} {par : List Str} {text : Str} {b1 b2 b3 b4 b5 b6 : Pos} {cda cc L x t0 : Addr} {m : Str → Option Value} {rest : List Stmt} {h₀ : Heap} {ar : Arg} {Q : Flow → Shared → Prop}
    (T : OwnC K prog C fI qual params body0 (scp par)) (he : CallOk text b1 b2 b3 b4 b5) {oc : Value} {od : Option Addr} {doc pm : Value} {an : Option Addr} {ct : Value} {osl : Array (Option Value)} {ccl : Value} {cdd : Option Addr} {vs : Array Value} {ccs : Array (Option Value)} {cl : Value} {cld : Option Addr} {csl : Array (Option Value)} {file : Str} {tf : Tok}
    (hf : K.lookup fI = some ⟨oc, od, .func (ksFn "__init__" qual params body0 (scp par) .none .none doc pm an (.ref cda) ct cc), osl⟩) (hcode : K.lookup cda = some ⟨ccl, cdd, .fields vs, ccs⟩) (hvs : vs[2]? = some (.str file tf)) (hfile : ((prog.main.file : Str) == file) = true)
    (hcell : K.lookup cc = some ⟨cl, cld, .cell (some (.ref C)), csl⟩) (F : Fr h₀ L s.heap m) (X₀ : K.In h₀) (N : News h₀ L s.heap [(x, excObj C t0 none .none)]) (hg : s.heap.Ns mainGlobals mg) (hms : mg "super" = none) (hb : s.heap.Ns builtinsNs mb) (hbs : mb "super" = some (.type "super"))
    (hp : (params.posonlyargs ++ params.args).head? = some ar) (hv : m ar.arg = some (.ref x)) (hks : (scp par).names.lookup ("super" : Str) = some .globalImplicit) (hkc : (scp par).names.lookup ("__class__" : Str) = some .free) (hka : (scp par).names.lookup ar.arg = some .local)
    (hhd : ∀ y ∈ [(x, excObj C t0 none .none)], y.1 < s.heap.objs.size)
    (h : ∀ h' tk' t1, Fr h₀ L h' m → h'.get? x = some (excObj C t1 none .none) → _root_.PySem.wpAt (model prog w) A (.func body0 (ksEnv qual (scp par) L fI (.ref cda) cc)) (execs rest (ksEnv qual (scp par) L fI (.ref cda) cc)) Q E { s with heap := h', toks := tk' }) :
    _root_.PySem.wpAt (model prog w) A (.func body0 (ksEnv qual (scp par) L fI (.ref cda) cc)) (execs (sup text b1 b2 b3 b4 b5 b6 :: rest) (ksEnv qual (scp par) L fI (.ref cda) cc)) Q E s := by
  have X : K.In s.heap := X₀.keeps F.keep
  have I0 : InstAt s.heap x (excObj C t0 none .none) C none := InstAt.of_exc0 N List.mem_cons_self
  obtain ⟨nm, q, Nn, bs, bm, sn, sub, ab, col, dd, k0, k1, k2, k3, k5, hC, hbm⟩ := T.cls
  have hk : (scp par).kind = .function := rfl
  unfold sup
  refine ks_wpAt_execs_cons ?_
  refine ks_wpAt_Expr_any ?_
  obtain ⟨pl, he⟩ := he (ksEnv qual (scp par) L fI (.ref cda) cc)
  refine ks_wpAt_MethodCall (pl := pl) ?_ he
  refine ks_wpAt_super_base (env := ksEnv qual (scp par) L fI (.ref cda) cc) hks hkc (by decide) rfl (X _ _ hf) rfl hp rfl (X _ _ hcode) rfl hvs hfile T.top ?_
  refine ks_loadName_global hk hks (loadGlobal_builtin (env := ksEnv qual (scp par) L fI (.ref cda) cc) hg hms hb hbs ⟨rfl, ?_⟩)
  refine wpAny_loadName_free hk hkc rfl ⟨_, X _ _ hcell, rfl⟩ ?_
  refine wpAny_loadName_local hk hka F.ns hv ?_
  refine ks_wpAny_isType_cls (X _ _ hC) rfl ⟨rfl, ?_⟩
  obtain ⟨hh, g, d, t, os⟩ := s
  refine ks_wpAny_call_super (X _ _ hC) rfl I0.at_ I0.cls (fun c e => by cases e) (looks_mroIn X T.mro) (fun h1 e1 kk1 => ?_)
  obtain ⟨F1, N1, l1⟩ := ks_newsPush (s := ⟨hh, g, d, t, os⟩) F N rfl e1 kk1
  have X1 : K.In h1 := X₀.keeps F1.keep
  have I1 : InstAt h1 x (excObj C t0 none .none) C none := InstAt.of_exc0 N1 (.tail _ (.head _))
  refine kxs_method (s := ⟨h1, g, d, t, os⟩) kxs_ValueError F1 X₀ N1 (.head _) I1 T.any T.su T.vE (by decide) fun u h2 F2 N2 l2 => ?_
  refine kxs_callWith1 (s := ⟨h2, g, d, t + 1, os⟩) N2 (.head _) ?_
  show wpAny _ _ (spliced ((false, eval (.Constant (.str text) 0 b4) _) :: [])) _ _ _
  refine Calls.spliced_cons (wpAny_Constant_str (Calls.spliced_nil ⟨kxs_at N2 (.head _), ?_⟩))
  have hsz : hh.objs.size ≠ x := Nat.ne_of_gt (hhd _ List.mem_cons_self)
  have hxs : x < hh.objs.size := hhd _ List.mem_cons_self
  have hu1 : hh.objs.size < u := l2 _ (.head _)
  have U : UpdF x (excObj C t0 none .none) ((u, kxs_mw "ValueError.__init__" x) :: (hh.objs.size, ks_superObj C x C) :: [(x, excObj C t0 none .none)]) _ :=
    .tail (show u ≠ x from fun z => absurd (show hh.objs.size < x from z ▸ hu1) (Nat.not_lt.mpr (Nat.le_of_lt hxs))) (.tail hsz (.head fun p hp => nomatch hp))
  refine kxs_call (s := ⟨h2, g, d, t + 1 + 1, os⟩) F2 X₀ N2 PySem.F.excBase_ValueError T.ei (.head _) U (show 1 ≤ sizeLine by rw [sizeLine_eq]; decide) fun t1 h3 F3 N3 l3 => ?_
  exact h h3 _ t1 F3 (N3 (x, _) (.tail _ (.tail _ (.tail _ (.head _))))).1
/-- the frame of __init__ behind its binding -/
theorem frame_of {h h1 : Heap} {x L : Addr} {m : Str → Option Value} {o : Obj} (hx : h.get? x = some o) (hL : h.objs.size = L) (hns : h1.Ns L m) (hk : ∀ b o, h.get? b = some o → h1.get? b = some o) :
    Fr (h.hide x) L h1 m ∧ News (h.hide x) L h1 [(x, o)] ∧ ∀ y ∈ [(x, o)], y.1 < h1.objs.size := by
  refine ⟨⟨hns, fun b o e => hk b o (Heap.of_hide e), by rw [Heap.hide_size, hL]; exact Nat.le_refl _⟩, fun p hp => ?_, fun p hp => ?_⟩
  · have : p = (x, o) := by simpa using hp
    subst this
    exact ⟨hk _ _ hx, fun z => Nat.ne_of_lt (Heap.lt_size hx) (z.trans hL.symm), Heap.hide_self _ _⟩
  · have : p = (x, o) := by simpa using hp
    subst this
    exact Heap.lt_size (hk _ _ hx)
theorem in_hide {h : Heap} {x : Addr} (X : K.In h) (hx : K.lookup x = none) : K.In (h.hide x) := fun a o e => by
  rw [Heap.hide_ne _ (show a ≠ x from fun z => by rw [z, hx] at e; cases e)]
  exact X a o e
theorem hide_keep {h h' : Heap} {x L : Addr} {m : Str → Option Value} (F : Fr (h.hide x) L h' m) : ∀ b o, b ≠ x → h.get? b = some o → h'.get? b = some o := fun b o hb e => F.keep b o (by rw [Heap.hide_ne _ hb]; exact e)
theorem init1 {qual : Str} {a1 a2 : Pos} {par fld text : Str} {b1 b2 b3 b4 b5 b6 c1 c2 c3 c4 : Pos} {t0 x : Addr} {v : Value}
    (T : OwnC K prog C fI qual (prm a1 [(par, a2)]) [sup text b1 b2 b3 b4 b5 b6, keeps fld par c1 c2 c3 c4] (scp [par])) (hpar : par ≠ "self" ∧ par ≠ "__class__" ∧ par ≠ "super" ∧ (par == ("__debug__" : Str)) = false) (he : CallOk text b1 b2 b3 b4 b5) (noN : findIn K (.ref C) fld = some none)
    (hbind : ∀ (s : Shared) (doc pm : Value) (an : Option Addr) (cdv ct : Value) (cc : Addr) (u v : Value), BindsTo s (ksFn "__init__" qual (prm a1 [(par, a2)]) [sup text b1 b2 b3 b4 b5 b6, keeps fld par c1 c2 c3 c4] (scp [par]) .none .none doc pm an cdv ct cc) ⟨[u, v], []⟩ [("self", u), (par, v)])
    (X : K.In s.heap) (hg : s.heap.Ns mainGlobals mg) (hms : mg "super" = none) (hb : s.heap.Ns builtinsNs mb) (hbs : mb "super" = some (.type "super")) (hlim : s.heap.NoLimit) (hx : s.heap.get? x = some (excO C t0)) (hnx : K.lookup x = none) (hroom : A.depth < recursionLimit)
    (hq : ∀ h' tk dx t1, InitEnd s.heap h' x C dx t1 fld v → R (.ok (.ret .none)) { s with heap := h', toks := tk }) :
    codeAny (model prog w) A (.call (.ref fI) ⟨[.ref x, v], []⟩) R s := by
  obtain ⟨oc, od, doc, pm, an, cda, ct, osl, cc, ccl, cdd, vs, ccs, cl, cld, csl, file, tf, hf, hcd, hcode, hvs, hfile, hcell⟩ := T.fn
  obtain ⟨nm, q, N, bs, bm, sn, sub, ab, col, dd, k0, k1, k2, k3, k5, hC, hbm⟩ := T.cls
  have hcl : clsIn K C = some { name := nm, bases := bs, mro := .ref C :: bm, ns := N, qualname := q, hasDict := true, slotNames := sn, subclasses := sub, abstract := ab, collection := col, hasDel := false } := by unfold clsIn; rw [hC] <;> rfl
  have e1 : (par == ("self" : Str)) = false := by simpa using hpar.1
  have l1 : (scp [par]).names.lookup par = some .local := by
    show List.lookup par [(PySem.Str.ofString "self", _), (par, _), _, _] = _
    simp only [List.lookup, e1, beq_self_eq_true]
  have hks : (scp [par]).names.lookup ("super" : Str) = some .globalImplicit := by
    have e2 : ((("super" : Str)) == par) = false := by simpa using hpar.2.2.1.symm
    show List.lookup ("super" : Str) [(PySem.Str.ofString "self", _), (par, _), (PySem.Str.ofString "__class__", _), (PySem.Str.ofString "super", _)] = _
    simp only [List.lookup, e2, show ((("super" : Str)) == PySem.Str.ofString "self") = false from by decide, show ((("super" : Str)) == PySem.Str.ofString "__class__") = false from by decide, beq_self_eq_true]
  have hkc : (scp [par]).names.lookup ("__class__" : Str) = some .free := by
    have e2 : ((("__class__" : Str)) == par) = false := by simpa using hpar.2.1.symm
    show List.lookup ("__class__" : Str) [(PySem.Str.ofString "self", _), (par, _), (PySem.Str.ofString "__class__", _), (PySem.Str.ofString "super", _)] = _
    simp only [List.lookup, e2, show ((("__class__" : Str)) == PySem.Str.ofString "self") = false from by decide, beq_self_eq_true]
  refine ks_codeAny_call_defAt (fd := ksFn "__init__" qual (prm a1 [(par, a2)]) [sup text b1 b2 b3 b4 b5 b6, keeps fld par c1 c2 c3 c4] (scp [par]) .none .none doc pm an (.ref cda) ct cc) (body := [sup text b1 b2 b3 b4 b5 b6, keeps fld par c1 c2 c3 c4])
    (binds := [("self", .ref x), (par, v)]) hroom (X _ _ hf) rfl hlim (codeRec_of X hcd) rfl (hbind s doc pm an (.ref cda) ct cc _ _) (fun y hy => ?_) (fun y hy => ?_) (fun h₁ hns hk₁ => ?_)
  · have hy' : y ∈ [(PySem.Str.ofString "self", NameKind.local), (par, .local), (PySem.Str.ofString "__class__", .free), (PySem.Str.ofString "super", .globalImplicit)] := hy
    simp only [List.mem_cons, List.not_mem_nil, or_false] at hy'
    rcases hy' with rfl | rfl | rfl | rfl <;> exact fun z => by cases z
  · have hy' : y = (("self" : Str), Value.ref x) ∨ y = (par, v) := by simpa using hy
    rcases hy' with rfl | rfl
    · rfl
    · exact l1
  · obtain ⟨F, N1, lt⟩ := frame_of hx rfl hns hk₁
    have X₀ := in_hide X hnx
    have hv1 : (fun y => List.lookup y [(("self" : Str), Value.ref x), (par, v)].reverse) ("self" : Str) = some (.ref x) := by
      have e2 : ((("self" : Str)) == par) = false := by simpa using hpar.1.symm
      show List.lookup ("self" : Str) [(par, v), (("self" : Str), Value.ref x)] = _
      simp only [List.lookup, e2, beq_self_eq_true]
    have hv2 : (fun y => List.lookup y [(("self" : Str), Value.ref x), (par, v)].reverse) par = some v := by
      show List.lookup par [(par, v), (("self" : Str), Value.ref x)] = _
      simp only [List.lookup, beq_self_eq_true]
    refine sup_row T he hf hcode hvs hfile hcell F X₀ N1 (hg.keeps hk₁) hms (hb.keeps hk₁) hbs rfl hv1 hks hkc rfl lt fun h2 tk2 t1 F2 hx2 => ?_
    refine ks_wpAt_execs_cons ?_
    refine wpAt_of_wpAny ?_
    have X2 : K.In h2 := X₀.keeps F2.keep
    refine plainObj_wpAny_Assign_Attribute ?_
    refine ldC (v := v) F2.ns hv2 (ldC (v := .ref x) F2.ns hv1 ?_) rfl l1 hpar.2.2.2
    refine set_plain X2 (ox := excO C t1) (od := none) ⟨hx2, rfl, rfl, trivial⟩ T.sa ?_
    refine exc_osa X2 hx2 hcl (show refsVE (.ref C :: bm) = true from hbm) rfl noN (fun h₃ tk₃ dx k₃ dn dne hx₃ hn₃ => ?_)
    show _root_.PySem.wpAt _ _ _ (execs [] _) _ _ _
    refine wpAt_of_wpAny (wpAny_execs_nil (hq h₃ tk₃ dx t1 ⟨fun b o hb e => k₃ b o hb (hide_keep F2 b o hb e), hx₃, ?_, dne, hn₃⟩))
    exact Nat.le_trans (Nat.le_of_lt F2.ns.lt) dn
theorem init0 {qual : Str} {a1 : Pos} {text : Str} {b1 b2 b3 b4 b5 b6 : Pos} {t0 x : Addr}
    (T : OwnC K prog C fI qual (prm a1 []) [sup text b1 b2 b3 b4 b5 b6] (scp [])) (he : CallOk text b1 b2 b3 b4 b5)
    (hbind : ∀ (s : Shared) (doc pm : Value) (an : Option Addr) (cdv ct : Value) (cc : Addr) (u : Value), BindsTo s (ksFn "__init__" qual (prm a1 []) [sup text b1 b2 b3 b4 b5 b6] (scp []) .none .none doc pm an cdv ct cc) ⟨[u], []⟩ [("self", u)])
    (X : K.In s.heap) (hg : s.heap.Ns mainGlobals mg) (hms : mg "super" = none) (hb : s.heap.Ns builtinsNs mb) (hbs : mb "super" = some (.type "super")) (hlim : s.heap.NoLimit) (hx : s.heap.get? x = some (excO C t0)) (hnx : K.lookup x = none) (hroom : A.depth < recursionLimit)
    (hq : ∀ h' tk t1, InitEnd0 s.heap h' x C t1 → R (.ok (.ret .none)) { s with heap := h', toks := tk }) :
    codeAny (model prog w) A (.call (.ref fI) ⟨[.ref x], []⟩) R s := by
  obtain ⟨oc, od, doc, pm, an, cda, ct, osl, cc, ccl, cdd, vs, ccs, cl, cld, csl, file, tf, hf, hcd, hcode, hvs, hfile, hcell⟩ := T.fn
  have hks : (scp []).names.lookup ("super" : Str) = some .globalImplicit := by decide
  have hkc : (scp []).names.lookup ("__class__" : Str) = some .free := by decide
  refine ks_codeAny_call_defAt (fd := ksFn "__init__" qual (prm a1 []) [sup text b1 b2 b3 b4 b5 b6] (scp []) .none .none doc pm an (.ref cda) ct cc) (body := [sup text b1 b2 b3 b4 b5 b6])
    (binds := [("self", .ref x)]) hroom (X _ _ hf) rfl hlim (codeRec_of X hcd) rfl (hbind s doc pm an (.ref cda) ct cc _) (fun y hy => ?_) (fun y hy => ?_) (fun h₁ hns hk₁ => ?_)
  · have hy' : y ∈ [(PySem.Str.ofString "self", NameKind.local), (PySem.Str.ofString "__class__", .free), (PySem.Str.ofString "super", .globalImplicit)] := hy
    simp only [List.mem_cons, List.not_mem_nil, or_false] at hy'
    rcases hy' with rfl | rfl | rfl <;> exact fun z => by cases z
  · have hy' : y = (("self" : Str), Value.ref x) := by simpa using hy
    subst hy'
    rfl
  · obtain ⟨F, N1, lt⟩ := frame_of hx rfl hns hk₁
    have X₀ := in_hide X hnx
    refine sup_row T he hf hcode hvs hfile hcell F X₀ N1 (hg.keeps hk₁) hms (hb.keeps hk₁) hbs rfl rfl hks hkc rfl lt fun h2 tk2 t1 F2 hx2 => ?_
    exact wpAt_of_wpAny (wpAny_execs_nil (hq h2 tk2 t1 ⟨hide_keep F2, hx2⟩))
/-- a made one, with its field | without -/
structure OwnMade (h h' : Heap) (e C d : Addr) (fld : Str) (v : Value) : Prop where
  keep : ∀ b o, h.get? b = some o → h'.get? b = some o
  new : h.objs.size ≤ e
  obj : ∃ t1 : Addr, h'.get? e = some { cls := .ref C, dict := some d, data := .fields #[.ref t1, .none, .none, .none, .bool false, .none] }
  dbig : h.objs.size ≤ d
  dne : d ≠ e
  ns : h'.Ns1 d (fun y => if y = fld then some v else none)
structure OwnMade0 (h h' : Heap) (e C : Addr) : Prop where
  keep : ∀ b o, h.get? b = some o → h'.get? b = some o
  new : h.objs.size ≤ e
  obj : ∃ t1 : Addr, h'.get? e = some { cls := .ref C, data := .fields #[.ref t1, .none, .none, .none, .bool false, .none] }
theorem made1 {qual : Str} {a1 a2 : Pos} {par fld text : Str} {b1 b2 b3 b4 b5 b6 c1 c2 c3 c4 : Pos} {v : Value}
    (T : OwnC K prog C fI qual (prm a1 [(par, a2)]) [sup text b1 b2 b3 b4 b5 b6, keeps fld par c1 c2 c3 c4] (scp [par])) (hpar : par ≠ "self" ∧ par ≠ "__class__" ∧ par ≠ "super" ∧ (par == ("__debug__" : Str)) = false) (he : CallOk text b1 b2 b3 b4 b5) (noN : findIn K (.ref C) fld = some none)
    (hbind : ∀ (s : Shared) (doc pm : Value) (an : Option Addr) (cdv ct : Value) (cc : Addr) (u v : Value), BindsTo s (ksFn "__init__" qual (prm a1 [(par, a2)]) [sup text b1 b2 b3 b4 b5 b6, keeps fld par c1 c2 c3 c4] (scp [par]) .none .none doc pm an cdv ct cc) ⟨[u, v], []⟩ [("self", u), (par, v)])
    (X : K.In s.heap) (hg : s.heap.Ns mainGlobals mg) (hms : mg "super" = none) (hb : s.heap.Ns builtinsNs mb) (hbs : mb "super" = some (.type "super")) (hlim : s.heap.NoLimit) (hroom : A.depth + 1 < recursionLimit)
    (hq : ∀ h' tk e d, OwnMade s.heap h' e C d fld v → R (.ok (.ret (.ref e))) { s with heap := h', toks := tk }) :
    codeAny (model prog w) A (.call (.ref C) ⟨[v], []⟩) R s := by
  obtain ⟨nm, q, N, bs, bm, sn, sub, ab, col, dd, k0, k1, k2, k3, k5, hC, hbm⟩ := T.cls
  obtain ⟨hp, g, dr, tk, os⟩ := s
  have k : ∀ b o, hp.get? b = some o → ((hp.push (kdv_tup [v])).push (excO C hp.objs.size)).get? b = some o := fun b o e => Heap.get?_push_of_some _ (Heap.get?_push_of_some _ e)
  have hget : ((hp.push (kdv_tup [v])).push (excO C hp.objs.size)).get? (hp.objs.size + 1) = some (excO C hp.objs.size) := by heap_get
  have hnx : K.lookup (hp.objs.size + 1) = none := by
    cases e : K.lookup (hp.objs.size + 1) with
    | none => rfl
    | some o =>
      have z : hp.get? (hp.objs.size + 1) = some o := X _ _ e
      exact absurd (Nat.lt_of_succ_lt (Heap.lt_size z)) (Nat.lt_irrefl _)
  refine call_own F.excBase_ValueError (fun X => refsVE_contains X bm hbm) (X _ _ hC) (looks_findIn X T.iC) (fun self => bind_fn X self T.tC) (show 1 ≤ sizeLine by rw [sizeLine_eq]; decide) ?_
  refine init1 (s := ⟨(hp.push (kdv_tup [v])).push (excO C hp.objs.size), g, dr, tk, os⟩) T hpar he noN hbind (X.keeps k) (hg.keeps k) hms (hb.keeps k) hbs (hlim.keeps k) hget hnx hroom fun h' tk' dx t1 ⟨k', hx, dn, dne, hns⟩ => ?_
  have old : ∀ b o, hp.get? b = some o → h'.get? b = some o := fun b o e => k' b o (Nat.ne_of_lt (Nat.lt_succ_of_lt (Heap.lt_size e))) (k b o e)
  have z : hp.objs.size + 1 + 1 ≤ dx := by
    first
      | (simpa only [Heap.size_push] using dn)
      | exact dn
      | (have q := dn; rw [Heap.size_push, Heap.size_push] at q; exact q)
  exact ⟨rfl, hq h' tk' (hp.objs.size + 1) dx ⟨old, Nat.le_succ _, ⟨_, hx⟩, Nat.le_trans (Nat.le_trans (Nat.le_succ _) (Nat.le_succ _)) z, dne, hns⟩⟩
theorem made0 {qual : Str} {a1 : Pos} {text : Str} {b1 b2 b3 b4 b5 b6 : Pos}
    (T : OwnC K prog C fI qual (prm a1 []) [sup text b1 b2 b3 b4 b5 b6] (scp [])) (he : CallOk text b1 b2 b3 b4 b5)
    (hbind : ∀ (s : Shared) (doc pm : Value) (an : Option Addr) (cdv ct : Value) (cc : Addr) (u : Value), BindsTo s (ksFn "__init__" qual (prm a1 []) [sup text b1 b2 b3 b4 b5 b6] (scp []) .none .none doc pm an cdv ct cc) ⟨[u], []⟩ [("self", u)])
    (X : K.In s.heap) (hg : s.heap.Ns mainGlobals mg) (hms : mg "super" = none) (hb : s.heap.Ns builtinsNs mb) (hbs : mb "super" = some (.type "super")) (hlim : s.heap.NoLimit) (hroom : A.depth + 1 < recursionLimit)
    (hq : ∀ h' tk e, OwnMade0 s.heap h' e C → R (.ok (.ret (.ref e))) { s with heap := h', toks := tk }) :
    codeAny (model prog w) A (.call (.ref C) ⟨[], []⟩) R s := by
  obtain ⟨nm, q, N, bs, bm, sn, sub, ab, col, dd, k0, k1, k2, k3, k5, hC, hbm⟩ := T.cls
  obtain ⟨hp, g, dr, tk, os⟩ := s
  have k : ∀ b o, hp.get? b = some o → ((hp.push (kdv_tup [])).push (excO C hp.objs.size)).get? b = some o := fun b o e => Heap.get?_push_of_some _ (Heap.get?_push_of_some _ e)
  have hget : ((hp.push (kdv_tup [])).push (excO C hp.objs.size)).get? (hp.objs.size + 1) = some (excO C hp.objs.size) := by heap_get
  have hnx : K.lookup (hp.objs.size + 1) = none := by
    cases e : K.lookup (hp.objs.size + 1) with
    | none => rfl
    | some o =>
      have z : hp.get? (hp.objs.size + 1) = some o := X _ _ e
      exact absurd (Nat.lt_of_succ_lt (Heap.lt_size z)) (Nat.lt_irrefl _)
  refine call_own F.excBase_ValueError (fun X => refsVE_contains X bm hbm) (X _ _ hC) (looks_findIn X T.iC) (fun self => bind_fn X self T.tC) (show 0 ≤ sizeLine from Nat.zero_le _) ?_
  refine init0 (s := ⟨(hp.push (kdv_tup [])).push (excO C hp.objs.size), g, dr, tk, os⟩) T he hbind (X.keeps k) (hg.keeps k) hms (hb.keeps k) hbs (hlim.keeps k) hget hnx hroom fun h' tk' t1 ⟨k', hx⟩ => ?_
  have old : ∀ b o, hp.get? b = some o → h'.get? b = some o := fun b o e => k' b o (Nat.ne_of_lt (Nat.lt_succ_of_lt (Heap.lt_size e))) (k b o e)
  exact ⟨rfl, hq h' tk' (hp.objs.size + 1) ⟨old, Nat.le_succ _, ⟨_, hx⟩⟩⟩
end
end SX
namespace SD
open PySem PySem.Spec PyProof.Rows L2
theorem relO_one {v : V} {v' : Value} {fld : Str} (r : RelV v v') (f : Str) : RelO (List.lookup f [(fld, v)]) (if f = fld then some v' else none) := by
  by_cases hw : f = fld
  · subst hw
    rw [if_pos rfl]
    have q : List.lookup f [(f, v)] = some v := by simp [List.lookup]
    rw [q]
    exact r
  · rw [if_neg hw]
    have qw : (f == fld) = false := by simpa using hw
    have q2 : List.lookup f [(fld, v)] = none := by simp [List.lookup, qw]
    rw [q2]
    trivial
/-- an own exception class with one field | with none, callable -/
structure Mk1 (P : Program) (w : World) (K : PySem.W.Frag) (x fld : Str) (C : Addr) : Prop where
  nC : PySem.W.nsIn K mainGlobals x = some (some (.ref C))
  kC : PySem.W.keepIn K (.ref C) = true
  exC : PySem.W.subIn K (.ref C) (.type "BaseException") = some true
  tyC : PySem.W.typeIn K (.ref C) = some (.type "type")
  xf : XfC K C
  noN : PySem.W.findIn K (.ref C) fld = some none
  made : ∀ {A : Around} {R : Result → Shared → Prop} {s : Shared} {mg mb : Str → Option Value} {v : Value}, K.In s.heap → s.heap.Ns mainGlobals mg → mg "super" = none → s.heap.Ns builtinsNs mb → mb "super" = some (.type "super") → s.heap.NoLimit → A.depth + 1 < recursionLimit →
    (∀ h' tk e d, SX.OwnMade s.heap h' e C d fld v → R (.ok (.ret (.ref e))) { s with heap := h', toks := tk }) → codeAny (model P w) A (.call (.ref C) ⟨[v], []⟩) R s
structure Mk0 (P : Program) (w : World) (K : PySem.W.Frag) (x : Str) (C : Addr) : Prop where
  nC : PySem.W.nsIn K mainGlobals x = some (some (.ref C))
  kC : PySem.W.keepIn K (.ref C) = true
  exC : PySem.W.subIn K (.ref C) (.type "BaseException") = some true
  tyC : PySem.W.typeIn K (.ref C) = some (.type "type")
  made : ∀ {A : Around} {R : Result → Shared → Prop} {s : Shared} {mg mb : Str → Option Value}, K.In s.heap → s.heap.Ns mainGlobals mg → mg "super" = none → s.heap.Ns builtinsNs mb → mb "super" = some (.type "super") → s.heap.NoLimit → A.depth + 1 < recursionLimit →
    (∀ h' tk e, SX.OwnMade0 s.heap h' e C → R (.ok (.ret (.ref e))) { s with heap := h', toks := tk }) → codeAny (model P w) A (.call (.ref C) ⟨[], []⟩) R s
end SD
set_option Elab.async false
set_option linter.all false
set_option maxRecDepth 100000
set_option maxHeartbeats 4000000
namespace SD
open PySem PySem.Spec PyProof.Rows L2
/-! ### try: body / several clauses, with names or without -/
/-! ### raise C(e) -/
def sRaise1 (c fld : Str) (f : Ev) : Sv := fun ρ M => SOut.ofE ρ (f ρ M) fun u M1 => match u with
  | .dat d => .exc c [(fld, d)] ρ M1
  | _ => .bad
def sRaise0 (c : Str) : Sv := fun ρ M => .exc c [] ρ M
/-! ### e.f, e the exception that a suite holds -/
def eFld (a dd : Addr) (i : Nat) (f : Str) : Ev := fun ρ M => match ρ[i]? with
  | some (some (.exn a' dd' fs)) => if a' = a ∧ dd' = dd then match fs.lookup f with
      | some d => .ok (.dat d) M
      | none => .bad
    else .bad
  | _ => .bad
/-! ### the clauses -/
structure Hd where
  cls : Str
  slot : Option Nat
  run : Addr → Addr → Sv
def subX (own : List Str) (c h : Str) : Option Bool := if own.contains c then some (c == h || (h == ("PartsError" : Str) || (h == ("ValueError" : Str) || h == ("Exception" : Str)))) else none
def noExc : SOut → SOut
  | .exc _ _ _ _ => .bad
  | o => o
def unslot (i : Nat) : SOut → SOut
  | .nx ρ M => .nx (ρ.set i none) M
  | .bk ρ M => .bk (ρ.set i none) M
  | .ct ρ M => .ct (ρ.set i none) M
  | o => o
def suite (h : Hd) (fs : List (Str × D)) (ρ : En) (M : Mem) : SOut := match h.slot with
  | none => noExc (h.run 0 0 ρ M)
  | some i => match fs with
    | [] => .bad
    | _ => unslot i (noExc (h.run 0 0 (ρ.set i (some (.exn 0 0 fs))) M))
def handle (own : List Str) : List Hd → Str → List (Str × D) → En → Mem → SOut
  | [], c, fs, ρ, M => .exc c fs ρ M
  | h :: r, c, fs, ρ, M => match subX own c h.cls with
    | some true => suite h fs ρ M
    | some false => handle own r c fs ρ M
    | none => .bad
def sTry (own : List Str) (f : Sv) (hs : List Hd) : Sv := fun ρ M => match f ρ M with
  | .exc c fs ρ' M' => handle own hs c fs ρ' M'
  | o => o
end SD
set_option Elab.async false
set_option linter.all false
set_option maxRecDepth 100000
set_option maxHeartbeats 4000000
namespace SD
open PySem PySem.Spec PyProof.Rows L2
/-! ### calls with keywords -/
def gP (perm : List Nat) {α : Type} (us ws : List α) : List α := perm.filterMap fun i => (us ++ ws)[i]?
structure CallableK [Md] (P : Program) (w : World) (K : PySem.W.Frag) (mg : Str → Option Value) (base : Heap) (k : Nat) (x : Str) (n : Nat) (ks : List Str) (perm : List Nat) (F : Fn) : Prop where
  ex : ∃ (f : Addr) (fd : FuncData) (ps : List Str), mg x = some (.ref f) ∧ PySem.W.keepIn K (.ref f) = true ∧ (∀ (s : Shared) (us ws : List Value), us.length = n → ws.length = ks.length → BindsTo s fd ⟨us, ks.zip ws⟩ (ps.zip (gP perm us ws))) ∧ perm.length = ps.length ∧ (∀ i ∈ perm, i < n + ks.length) ∧ FnOk P w K mg base (CXm P w) k f fd ps (spS K mg ps.length F)
def eFnK (n m : Nat) (perm : List Nat) (F : Fn) (g h : Av) : Ev := fun ρ M => (g ρ M).bind fun us M1 => (h ρ M1).bind fun ws M2 => if us.length = n ∧ ws.length = m then F (gP perm us ws) M2 else .bad
section
variable {K : PySem.W.Frag} {ξ : List Addr} {H : Hp} {μ : List Addr}
theorem RepUs.get : ∀ {vs : List V} {us : List U} {i : Nat} {v : V}, RepUs K ξ H μ vs us → vs[i]? = some v → ∃ u, us[i]? = some u ∧ RepU K ξ H μ v u
  | _, _, _, _, .nil, e => by simp at e
  | _, _, 0, _, .cons r _, e => by simp at e; subst e; exact ⟨_, rfl, r⟩
  | _, _, i + 1, v, .cons _ t, e => by
    obtain ⟨u, h1, h2⟩ := RepUs.get (i := i) (v := v) t (by simpa using e)
    exact ⟨u, by simpa using h1, h2⟩
end
/-! ### a, b = x, y -/
def sPar (i j : Nat) (f : Av) : Sv := fun ρ M => SOut.ofE ρ (f ρ M) fun us M1 => match us with
  | [u, w] => .nx ((ρ.set i (some u)).set j (some w)) M1
  | _ => .bad
/-! ### max([..]), min([..]) of numbers -/
end SD
namespace SD
open PySem PySem.Spec PyProof.Rows L2
/-! ### what the generated texts name -/
def clsInit (s : Stmt) : Stmt := match s with
  | .ClassDef _ _ _ (b :: _) _ _ _ _ _ _ _ => b
  | s => s
/-! blind suites -/
/-- a def called with keywords -/
structure DefKw (K : PySem.W.Frag) (mg : Str → Option Value) (x qual : Str) (st : Stmt) (ps : List Str) (n : Nat) (ks : List Str) (perm : List Nat) : Prop where
  ex : ∃ (f : Addr) (fd : FuncData), mg x = some (.ref f) ∧ Fun K x qual st f fd ∧ ∀ us ws : List Value, us.length = n → ws.length = ks.length → bindArgs fd ⟨us, ks.zip ws⟩ = pure (ps.zip (gP perm us ws))
section
variable {P : Program} {w : World} {K : PySem.W.Frag} {mg : Str → Option Value} {base : Heap} {x qual : Str} {st : Stmt} {N ps ks : List Str} {k n : Nat} {perm : List Nat} {body : Sv} [FS body]
theorem DefKw.call [Md] (d : DefKw K mg x qual st ps n ks perm) (S : FnScope N ps (defScope st)) (hl : perm.length = ps.length) (hi : ∀ i ∈ perm, i < n + ks.length)
    (hbody : ∀ (f : Addr) (cdv : Value) (A : Around) (outer : List Env) (s : Shared) (H : Hp) (E : XK), Room k (A.deeper (envOfC qual (defScope st) s.heap.objs.size f cdv)) →
      SS (cxOf (CXm P w) P w K mg base N qual (defScope st) f cdv A outer s H E) (fun cls d _ H => E cls d H) (defBody st) body) : CallableK P w K mg base (k + 1) x n ks perm (fnRun N.length body) := by
  obtain ⟨f, fd, hm, F, he⟩ := d.ex
  exact ⟨⟨f, fd, ps, hm, F.kp, fun s us ws h1 h2 => .of_eq (he us ws h1 h2), hl, hi, fn_ok F S (hbody _)⟩⟩
end
end SD
set_option Elab.async false
set_option linter.all false
set_option maxRecDepth 100000
set_option maxHeartbeats 4000000
namespace SD
open PySem PySem.Spec PyProof.Rows L2
/-! ### int(..), str(..), tuple(..) -/
def txtI (i : Int) : Cs := TL.tl (toString i : Str)
section
variable {K : PySem.W.Frag}
/-! ### methods of texts -/
def splitC (a b : Cs) : List Cs := (Txt.split (mkS a) (mkS b)).map TL.tl
def mSplit (c : Bool) : Pm := fun u us M => match u, us with
  | .dat (.str a), [.dat (.str b)] => if b.length ≠ 0 ∧ a.length ≤ 16777000 then newL c ((splitC a b).map .str) M else .bad
  | _, _ => .bad
def findC (a b : Cs) : Int := Txt.find (mkS a) (mkS b)
def startsC (a b : Cs) : Bool := Txt.startswith (mkS a) (mkS b)
def mFind : Pm := fun u us M => match u, us with
  | .dat (.str a), [.dat (.str b)] => .ok (.dat (.int (findC a b))) M
  | _, _ => .bad
def mStarts : Pm := fun u us M => match u, us with
  | .dat (.str a), [.dat (.str b)] => .ok (.dat (.bl (startsC a b))) M
  | _, _ => .bad
end
/-! ### f-strings -/
/-- {e} -/
def eFmt (f : Ev) : Ev := fun ρ M => (f ρ M).bind fun u M1 => match u with
  | .dat (.str s) => if s.length ≤ 16777216 then .ok (.dat (.str s)) M1 else .bad
  | .dat (.int i) => if i.natAbs.log2 < 1920 then .ok (.dat (.str (txtI i))) M1 else .bad
  | _ => .bad
def joinE : List Ev → Cs → En → Mem → Out U
  | [], acc, _, M => .ok (.dat (.str acc)) M
  | f :: fs, acc, ρ, M => (f ρ M).bind fun u M1 => match u with
    | .dat (.str s) => if acc.length + s.length ≤ 16777216 then joinE fs (acc ++ s) ρ M1 else .bad
    | _ => .bad
def eJoin (fs : List Ev) : Ev := joinE fs []
end SD
set_option Elab.async false
set_option linter.all false
set_option maxRecDepth 100000
set_option maxHeartbeats 4000000
namespace SD
open PySem PySem.Spec PyProof.Rows L2
/-! ### zip, enumerate -/
def pairD (d e : D) : D := .tup [d, e]
def iZipD (f : Av) : Lv := fun ρ M => (f ρ M).bind fun us M1 => match us with
  | [.dat (.lst ds), .dat (.lst es)] => .ok (List.zipWith pairD ds es) M1
  | _ => .bad
def enumD (ds : List D) : List D := List.zipWith (fun (i : Nat) d => pairD (.int i) d) (List.range ds.length) ds
def iEnumD (f : Av) : Lv := fun ρ M => (f ρ M).bind fun us M1 => match us with
  | [.dat (.lst ds)] => .ok (enumD ds) M1
  | _ => .bad
end SD
set_option Elab.async false
set_option linter.all false
set_option maxRecDepth 100000
set_option maxHeartbeats 4000000
namespace SD
open PySem PySem.Spec PyProof.Rows L2
/-! ### no evaluator makes an old cell tell of a new one -/
section
variable {α β : Type} {M : Mem}
theorem FlO.from {M0 : Mem} {o : Out α} (h : FlO M o) (f : Fl M0 M) : FlO M0 o := by
  cases o with
  | ok a M' => exact f.trans h
  | exc c fs M' => exact f.trans h
  | bad => exact trivial
theorem FlS.from {M0 : Mem} {o : SOut} (h : FlS M o) (f : Fl M0 M) : FlS M0 o := by
  cases o with
  | nx ρ M' => exact f.trans h
  | rt u M' => exact f.trans h
  | bk ρ M' => exact f.trans h
  | ct ρ M' => exact f.trans h
  | exc c fs ρ M' => exact f.trans h
  | bad => exact trivial
theorem FlO.bind {o : Out α} {k : α → Mem → Out β} (h : FlO M o) (hk : ∀ a M1, FlO M1 (k a M1)) : FlO M (o.bind k) := by
  cases o with
  | ok a M' => exact (hk a M').from h
  | exc c fs M' => exact h
  | bad => exact trivial
theorem FlO.ite {p : Prop} [Decidable p] {a b : Out α} (h1 : FlO M a) (h2 : FlO M b) : FlO M (if p then a else b) := by split <;> assumption
theorem FlS.ofE {ρ : En} {o : Out α} {k : α → Mem → SOut} (h : FlO M o) (hk : ∀ a M1, FlS M1 (k a M1)) : FlS M (SOut.ofE ρ o k) := by
  cases o with
  | ok a M' => exact (hk a M').from h
  | exc c fs M' => exact h
  | bad => exact trivial
end
class FP2 (p : P2) : Prop where
  h : ∀ u w M, FlO M (p u w M)
class FPf (p : Pf) : Prop where
  h : ∀ us M, FlO M (p us M)
class FPm (p : Pm) : Prop where
  h : ∀ u us M, FlO M (p u us M)
class FHd (hs : List Hd) : Prop where
  h : ∀ x ∈ hs, ∀ a dd, FS (x.run a dd)
class FJ (fs : List Ev) : Prop where
  h : ∀ f ∈ fs, FE f
class FPr (fs : List (Ev × Ev)) : Prop where
  h : ∀ f ∈ fs, FE f.1 ∧ FE f.2
section
variable {M : Mem}
theorem fl_newL {c : Bool} {ds : List D} : FlO M (newL c ds M) := by unfold newL; cases c <;> first | exact Fl.refl | exact Fl.app
theorem fl_newD {c : Bool} {ds : List (Key × D)} : FlO M (newD c ds M) := by unfold newD; cases c <;> first | exact Fl.refl | exact Fl.app
end
section
variable {p p' : P2} {f g h : Ev} {a b c : Tv} {q r : Av} {s t : Sv} {l : Lv} {lo hi : Pv} {pf : Pf} {pm : Pm} {F : Fn}
instance {i : Nat} : FE (eVar i) := ⟨fun ρ M => by unfold eVar; (repeat' (first | exact trivial | exact Fl.refl | exact Fl.app | exact fl_newL | exact fl_newD | exact Fl.set rfl | split))⟩
instance {d : D} : FE (eC d) := ⟨fun ρ M => by unfold eC; (repeat' (first | exact trivial | exact Fl.refl | exact Fl.app | exact fl_newL | exact fl_newD | exact Fl.set rfl | split))⟩
instance {g : D → D → Option D} : FP2 (lift2 g) := ⟨fun u w M => by unfold lift2; (repeat' (first | exact trivial | exact Fl.refl | exact Fl.app | exact fl_newL | exact fl_newD | exact Fl.set rfl | split))⟩
instance {c : Bool} : FP2 (pAdd c) := ⟨fun u w M => by unfold pAdd lift2; (repeat' (first | exact trivial | exact Fl.refl | exact Fl.app | exact fl_newL | exact fl_newD | exact Fl.set rfl | split))⟩
instance [i0 : FP2 p] [i1 : FE f] [i2 : FE g] : FE (e2 p f g) := ⟨fun ρ M => FlO.bind (i1.h _ _) fun u M1 => FlO.bind (i2.h _ _) fun w M2 => i0.h _ _ _⟩
instance [i : FE f] : FE (tOf f) := ⟨fun ρ M => FlO.bind (i.h _ _) fun u M1 => by (repeat' (first | exact trivial | exact Fl.refl | exact Fl.app | exact fl_newL | exact fl_newD | exact Fl.set rfl | split))⟩
instance [i : FE a] : FE (bNot a) := ⟨fun ρ M => FlO.bind (i.h _ _) fun u M1 => Fl.refl⟩
instance [i : FE a] [j : FE b] : FE (bAnd a b) := ⟨fun ρ M => FlO.bind (i.h _ _) fun u M1 => FlO.ite (j.h _ _) Fl.refl⟩
instance [i : FE a] [j : FE b] : FE (bOr a b) := ⟨fun ρ M => FlO.bind (i.h _ _) fun u M1 => FlO.ite Fl.refl (j.h _ _)⟩
instance [i : FE a] [j : FE f] [k : FE g] : FE (eIf a f g) := ⟨fun ρ M => FlO.bind (i.h _ _) fun u M1 => FlO.ite (j.h _ _) (k.h _ _)⟩
instance [i : FE a] : FE (eB a) := ⟨fun ρ M => FlO.bind (i.h _ _) fun u M1 => Fl.refl⟩
instance [i : FE f] [j : FE g] : FE (vAnd f g) := ⟨fun ρ M => FlO.bind (FE.h (f := tOf f) _ _) fun u M1 => FlO.ite (j.h _ _) Fl.refl⟩
instance [i : FE f] [j : FE g] : FE (vOr f g) := ⟨fun ρ M => FlO.bind (FE.h (f := tOf f) _ _) fun u M1 => FlO.ite Fl.refl (j.h _ _)⟩
instance : FE aNil := ⟨fun ρ M => Fl.refl⟩
instance [i : FE f] [j : FE q] : FE (aCons f q) := ⟨fun ρ M => FlO.bind (i.h _ _) fun u M1 => FlO.bind (j.h _ _) fun us M2 => Fl.refl⟩
instance {c : Bool} [i : FE q] : FE (eLst c q) := ⟨fun ρ M => FlO.bind (i.h _ _) fun u M1 => by (repeat' (first | exact trivial | exact Fl.refl | exact Fl.app | exact fl_newL | exact fl_newD | exact Fl.set rfl | split))⟩
instance [i : FE q] : FE (eTup q) := ⟨fun ρ M => FlO.bind (i.h _ _) fun u M1 => by (repeat' (first | exact trivial | exact Fl.refl | exact Fl.app | exact fl_newL | exact fl_newD | exact Fl.set rfl | split))⟩
instance : FE pNone := ⟨fun ρ M => Fl.refl⟩
instance [i : FE f] : FE (pSome f) := ⟨fun ρ M => FlO.bind (i.h _ _) fun u M1 => by (repeat' (first | exact trivial | exact Fl.refl | exact Fl.app | exact fl_newL | exact fl_newD | exact Fl.set rfl | split))⟩
instance {c : Bool} [i : FE f] [j : FE lo] [k : FE hi] : FE (eSl c f lo hi) := ⟨fun ρ M => FlO.bind (i.h _ _) fun u M1 => FlO.bind (j.h _ _) fun l M2 => FlO.bind (k.h _ _) fun h M3 => by unfold pSl; (repeat' (first | exact trivial | exact Fl.refl | exact Fl.app | exact fl_newL | exact fl_newD | exact Fl.set rfl | split))⟩
instance [i : FPf pf] [j : FE q] : FE (eCall pf q) := ⟨fun ρ M => FlO.bind (j.h _ _) fun us M1 => i.h _ _⟩
instance {g : D → Option D} : FPf (pf1 g) := ⟨fun us M => by unfold pf1; (repeat' (first | exact trivial | exact Fl.refl | exact Fl.app | exact fl_newL | exact fl_newD | exact Fl.set rfl | split))⟩
instance {g : D → D → Option D} : FPf (pf2 g) := ⟨fun us M => by unfold pf2; (repeat' (first | exact trivial | exact Fl.refl | exact Fl.app | exact fl_newL | exact fl_newD | exact Fl.set rfl | split))⟩
instance {c : Bool} {g : D → Option (List D)} : FPf (pfL c g) := ⟨fun us M => by unfold pfL; (repeat' (first | exact trivial | exact Fl.refl | exact Fl.app | exact fl_newL | exact fl_newD | exact Fl.set rfl | split))⟩
instance {T : String} [i : FE f] : FE (eIsi T f) := ⟨fun ρ M => FlO.bind (i.h _ _) fun u M1 => by (repeat' (first | exact trivial | exact Fl.refl | exact Fl.app | exact fl_newL | exact fl_newD | exact Fl.set rfl | split))⟩
instance : FS sNil := ⟨fun ρ M => Fl.refl⟩
instance : FS sBrk := ⟨fun ρ M => Fl.refl⟩
instance : FS sCnt := ⟨fun ρ M => Fl.refl⟩
instance : FS sRetN := ⟨fun ρ M => Fl.refl⟩
instance [i : FS s] [j : FS t] : FS (sCons s t) := ⟨fun ρ M => by
  unfold sCons
  have h := i.h ρ M
  cases e : s ρ M <;> rw [e] at h <;> first | exact (j.h _ _).from h | exact h⟩
instance [i : FE f] : FS (sRet f) := ⟨fun ρ M => FlS.ofE (i.h _ _) fun u M1 => Fl.refl⟩
instance [i : FE f] : FS (sDrop f) := ⟨fun ρ M => FlS.ofE (i.h _ _) fun u M1 => Fl.refl⟩
instance [i : FE a] [j : FS s] [k : FS t] : FS (sIf a s t) := ⟨fun ρ M => FlS.ofE (i.h _ _) fun u M1 => by split <;> first | exact j.h _ _ | exact k.h _ _⟩
instance {t : Tgt} [i : FE f] : FS (sAsg t f) := ⟨fun ρ M => FlS.ofE (i.h _ _) fun u M1 => by (repeat' (first | exact trivial | exact Fl.refl | exact Fl.app | exact fl_newL | exact fl_newD | exact Fl.set rfl | split))⟩
theorem fl_forL {t : Tgt} [i : FS s] : ∀ (ds : List D) (ρ : En) (M : Mem), FlS M (forL t s ds ρ M)
  | [], ρ, M => Fl.refl
  | d :: ds, ρ, M => by
    unfold forL
    split
    · exact trivial
    · rename_i ρ1 _
      have h := i.h ρ1 M
      cases e : s ρ1 M <;> rw [e] at h <;> first | exact (fl_forL ds _ _).from h | exact h
instance {t : Tgt} [i : FE l] [j : FS s] : FS (sFor t l s) := ⟨fun ρ M => FlS.ofE (i.h _ _) fun u M1 => fl_forL _ _ _⟩
instance [i : FE f] : FE (iVal f) := ⟨fun ρ M => FlO.bind (i.h _ _) fun u M1 => by (repeat' (first | exact trivial | exact Fl.refl | exact Fl.app | exact fl_newL | exact fl_newD | exact Fl.set rfl | split))⟩
instance [i : FE q] : FE (iRng1 q) := ⟨fun ρ M => FlO.bind (i.h _ _) fun u M1 => by (repeat' (first | exact trivial | exact Fl.refl | exact Fl.app | exact fl_newL | exact fl_newD | exact Fl.set rfl | split))⟩
instance [i : FE q] : FE (iRng2 q) := ⟨fun ρ M => FlO.bind (i.h _ _) fun u M1 => by (repeat' (first | exact trivial | exact Fl.refl | exact Fl.app | exact fl_newL | exact fl_newD | exact Fl.set rfl | split))⟩
instance [i : FE q] : FE (iZipD q) := ⟨fun ρ M => FlO.bind (i.h _ _) fun u M1 => by (repeat' (first | exact trivial | exact Fl.refl | exact Fl.app | exact fl_newL | exact fl_newD | exact Fl.set rfl | split))⟩
instance [i : FE q] : FE (iEnumD q) := ⟨fun ρ M => FlO.bind (i.h _ _) fun u M1 => by (repeat' (first | exact trivial | exact Fl.refl | exact Fl.app | exact fl_newL | exact fl_newD | exact Fl.set rfl | split))⟩
theorem fl_lcL {t : Tgt} [i : FE a] [j : FE f] {ρ : En} : ∀ (ds : List D) (M : Mem), FlO M (lcL t a f ρ ds M)
  | [], M => Fl.refl
  | d :: ds, M => by
    unfold lcL
    split
    · exact trivial
    · refine FlO.bind (i.h _ _) fun b M1 => FlO.ite (FlO.bind (j.h _ _) fun u M2 => ?_) (fl_lcL ds _)
      split
      · exact FlO.bind (fl_lcL ds _) fun r M3 => Fl.refl
      · exact trivial
theorem FlO.quiet {α : Type} {M : Mem} {o : Out α} (h : FlO M o) : FlO M o.quiet := by
  cases o with
  | ok a M' => exact h
  | exc c fs M' => exact trivial
  | bad => exact trivial
instance {c : Bool} {t : Tgt} {vs : List Nat} [i : FE l] [j : FE a] [k : FE f] : FE (eLc c l t a f vs) := ⟨fun ρ M => FlO.bind (i.h _ _) fun ds M1 => FlO.ite (FlO.bind (FlO.quiet (fl_lcL _ _)) fun es M2 => fl_newL) trivial⟩
instance : FE bYes := ⟨fun ρ M => Fl.refl⟩
instance {T : String} [i : FPm pm] [j : FE f] [k : FE q] : FE (eBm T pm f q) := ⟨fun ρ M => FlO.bind (j.h _ _) fun u M1 => FlO.ite (FlO.bind (k.h _ _) fun us M2 => i.h _ _ _) trivial⟩
instance : FPm mAppend := ⟨fun u us M => by unfold mAppend; (repeat' (first | exact trivial | exact Fl.refl | exact Fl.app | exact fl_newL | exact fl_newD | exact Fl.set rfl | split))⟩
instance : FPm mPopAt := ⟨fun u us M => by unfold mPopAt; (repeat' (first | exact trivial | exact Fl.refl | exact Fl.app | exact fl_newL | exact fl_newD | exact Fl.set rfl | split))⟩
instance : FPm mPop := ⟨fun u us M => by unfold mPop; (repeat' (first | exact trivial | exact Fl.refl | exact Fl.app | exact fl_newL | exact fl_newD | exact Fl.set rfl | split))⟩
instance : FPm mInsert := ⟨fun u us M => by unfold mInsert; (repeat' (first | exact trivial | exact Fl.refl | exact Fl.app | exact fl_newL | exact fl_newD | exact Fl.set rfl | split))⟩
instance : FPm mClear := ⟨fun u us M => by unfold mClear; (repeat' (first | exact trivial | exact Fl.refl | exact Fl.app | exact fl_newL | exact fl_newD | exact Fl.set rfl | split))⟩
instance : FPm mJoin := ⟨fun u us M => by unfold mJoin; (repeat' (first | exact trivial | exact Fl.refl | exact Fl.app | exact fl_newL | exact fl_newD | exact Fl.set rfl | split))⟩
instance {c : Bool} : FPm (mSplit c) := ⟨fun u us M => by unfold mSplit; (repeat' (first | exact trivial | exact Fl.refl | exact Fl.app | exact fl_newL | exact fl_newD | exact Fl.set rfl | split))⟩
instance : FPm mFind := ⟨fun u us M => by unfold mFind; (repeat' (first | exact trivial | exact Fl.refl | exact Fl.app | exact fl_newL | exact fl_newD | exact Fl.set rfl | split))⟩
instance : FPm mStarts := ⟨fun u us M => by unfold mStarts; (repeat' (first | exact trivial | exact Fl.refl | exact Fl.app | exact fl_newL | exact fl_newD | exact Fl.set rfl | split))⟩
instance {fo fi fe : Ev} [i : FE fo] [j : FE fi] [k : FE fe] : FS (sSetIx fo fi fe) := ⟨fun ρ M => FlS.ofE (k.h _ _) fun u M1 => FlS.ofE (i.h _ _) fun o M2 => FlS.ofE (j.h _ _) fun x M3 => by (repeat' (first | exact trivial | exact Fl.refl | exact Fl.app | exact fl_newL | exact fl_newD | exact Fl.set rfl | split))⟩
instance {n : Nat} {dus : List U} [i : FF F] [j : FE q] : FE (eFn n dus F q) := ⟨fun ρ M => FlO.bind (j.h _ _) fun us M1 => FlO.ite (i.h _ _) trivial⟩
instance {n m : Nat} {perm : List Nat} [i : FF F] [j : FE q] [k : FE r] : FE (eFnK n m perm F q r) := ⟨fun ρ M => FlO.bind (j.h _ _) fun us M1 => FlO.bind (k.h _ _) fun ws M2 => FlO.ite (i.h _ _) trivial⟩
instance : FPr [] := ⟨fun f h => by cases h⟩
instance {fs : List (Ev × Ev)} [i : FE f] [j : FE g] [k : FPr fs] : FPr ((f, g) :: fs) := ⟨fun x h => by
  rcases List.mem_cons.mp h with rfl | h
  · exact ⟨i, j⟩
  · exact k.h x h⟩
theorem fl_pairs : ∀ (fs : List (Ev × Ev)) (ρ : En) (M : Mem), (∀ f ∈ fs, FE f.1 ∧ FE f.2) → FlO M (pairsE fs ρ M)
  | [], ρ, M, _ => Fl.refl
  | (f, g) :: r, ρ, M, h => by
    unfold pairsE
    refine FlO.bind ((h _ List.mem_cons_self).1.h _ _) fun k M1 => FlO.bind ((h _ List.mem_cons_self).2.h _ _) fun v M2 => FlO.bind (fl_pairs r _ _ fun x hx => h x (List.mem_cons_of_mem _ hx)) fun kvs M3 => ?_
    (repeat' (first | exact trivial | exact Fl.refl | exact Fl.app | exact fl_newL | exact fl_newD | exact Fl.set rfl | split))
instance {c : Bool} {fs : List (Ev × Ev)} [k : FPr fs] : FE (eDisp c fs) := ⟨fun ρ M => FlO.bind (fl_pairs _ _ _ k.h) fun kvs M1 => FlO.ite fl_newD trivial⟩
instance {c : Bool} : FE (eDnew c) := ⟨fun ρ M => fl_newD⟩
instance [i0 : FP2 p] [i1 : FP2 p'] [i : FE f] [j : FE g] [k : FE h] : FE (eChain p p' f g h) := ⟨fun ρ M => FlO.bind (i.h _ _) fun u M1 => FlO.bind (j.h _ _) fun w M2 => FlO.bind (i0.h _ _ _) fun t M3 => by
  split
  · exact FlO.bind (k.h _ _) fun v M4 => i1.h _ _ _
  · exact Fl.refl
  · exact trivial⟩
instance [i : FE f] : FE (eFrz f) := ⟨fun ρ M => by
  unfold eFrz
  have h := i.h ρ M
  cases e : f ρ M with
  | ok u M1 =>
    rw [e] at h
    simp only [Out.bind]
    split
    · split
      · rename_i k hk
        split
        · rw [hk.1]; exact Fl.take h
        · exact trivial
      · exact trivial
    · exact h
  | exc c fs M1 => rw [e] at h; exact h
  | bad => exact trivial⟩
instance [i : FE f] : FE (eNeg f) := ⟨fun ρ M => FlO.bind (i.h _ _) fun u M1 => by (repeat' (first | exact trivial | exact Fl.refl | exact Fl.app | exact fl_newL | exact fl_newD | exact Fl.set rfl | split))⟩
instance {c x : Str} [i : FE f] : FS (sRaise1 c x f) := ⟨fun ρ M => FlS.ofE (i.h _ _) fun u M1 => by (repeat' (first | exact trivial | exact Fl.refl | exact Fl.app | exact fl_newL | exact fl_newD | exact Fl.set rfl | split))⟩
instance {c : Str} : FS (sRaise0 c) := ⟨fun ρ M => Fl.refl⟩
instance {a dd i : Nat} {x : Str} : FE (eFld a dd i x) := ⟨fun ρ M => by unfold eFld; (repeat' (first | exact trivial | exact Fl.refl | exact Fl.app | exact fl_newL | exact fl_newD | exact Fl.set rfl | split))⟩
instance {i j : Nat} [k : FE q] : FS (sPar i j q) := ⟨fun ρ M => FlS.ofE (k.h _ _) fun u M1 => by (repeat' (first | exact trivial | exact Fl.refl | exact Fl.app | exact fl_newL | exact fl_newD | exact Fl.set rfl | split))⟩
instance [i : FE f] : FE (eFmt f) := ⟨fun ρ M => FlO.bind (i.h _ _) fun u M1 => by (repeat' (first | exact trivial | exact Fl.refl | exact Fl.app | exact fl_newL | exact fl_newD | exact Fl.set rfl | split))⟩
instance : FJ [] := ⟨fun f h => by cases h⟩
instance {fs : List Ev} [i : FE f] [k : FJ fs] : FJ (f :: fs) := ⟨fun x h => by
  rcases List.mem_cons.mp h with rfl | h
  · exact i
  · exact k.h x h⟩
theorem fl_join : ∀ (fs : List Ev) (acc : Cs) (ρ : En) (M : Mem), (∀ f ∈ fs, FE f) → FlO M (joinE fs acc ρ M)
  | [], acc, ρ, M, _ => Fl.refl
  | f :: r, acc, ρ, M, h => by
    unfold joinE
    refine FlO.bind ((h _ List.mem_cons_self).h _ _) fun u M1 => ?_
    split
    · exact FlO.ite (fl_join r _ _ _ fun x hx => h x (List.mem_cons_of_mem _ hx)) trivial
    · exact trivial
instance {fs : List Ev} [k : FJ fs] : FE (eJoin fs) := ⟨fun ρ M => fl_join _ _ _ _ k.h⟩
instance : FHd [] := ⟨fun f h => by cases h⟩
instance {c : Str} {o : Option Nat} {run : Addr → Addr → Sv} {hs : List Hd} [i : ∀ a dd, FS (run a dd)] [k : FHd hs] : FHd (⟨c, o, run⟩ :: hs) := ⟨fun x h => by
  rcases List.mem_cons.mp h with rfl | h
  · exact i
  · exact k.h x h⟩
theorem fl_noExc {M : Mem} {o : SOut} (h : FlS M o) : FlS M (noExc o) := by cases o <;> first | exact h | exact trivial
theorem fl_unslot {M : Mem} {i : Nat} {o : SOut} (h : FlS M o) : FlS M (unslot i o) := by cases o <;> first | exact h | exact trivial
theorem fl_handle {own : List Str} : ∀ (hs : List Hd) (c : Str) (fs : List (Str × D)) (ρ : En) (M : Mem), (∀ x ∈ hs, ∀ a dd, FS (x.run a dd)) → FlS M (handle own hs c fs ρ M)
  | [], c, fs, ρ, M, _ => Fl.refl
  | x :: r, c, fs, ρ, M, h => by
    unfold handle
    split
    · unfold suite
      have hx := h x List.mem_cons_self
      split
      · exact fl_noExc ((hx 0 0).h _ _)
      · split
        · exact trivial
        · exact fl_unslot (fl_noExc ((hx 0 0).h _ _))
    · exact fl_handle r _ _ _ _ fun y hy => h y (List.mem_cons_of_mem _ hy)
    · exact trivial
instance {own : List Str} {hs : List Hd} [i : FS s] [k : FHd hs] : FS (sTry own s hs) := ⟨fun ρ M => by
  unfold sTry
  have h := i.h ρ M
  cases e : s ρ M <;> rw [e] at h <;> first | exact (fl_handle _ _ _ _ _ k.h).from h | exact h⟩
end
end SD
set_option Elab.async false
set_option linter.all false
set_option maxRecDepth 100000
set_option maxHeartbeats 4000000
namespace SD
open PySem PySem.Spec PyProof.Rows L2
/-! ### own exceptions as values -/
theorem RepV.exvv {K : PySem.W.Frag} {ξ : List Addr} {H : Hp} {μ : List Addr} {v : V} {c : Str} {fs : List (Str × D)} (r : RepV K ξ H μ v (.exv c fs)) : ∃ (a C : Addr) (d : Option Addr) (φ : Heap → Prop), v = .ref a ∧ PySem.W.nsIn K mainGlobals c = some (some (.ref C)) ∧ H a = some (.ext φ) ∧ (∀ h, φ h → ExAt C a d h) ∧
    ((d = none ∧ fs = []) ∨ ∃ dx vs, d = some dx ∧ H dx = some (.xd vs) ∧ RepF K ξ H μ vs fs) := by
  cases r with
  | of r =>
    cases r with
    | exv h1 h2 e1 e e2 r => exact ⟨_, _, _, _, rfl, e1.1, e, e1.2, .inr ⟨_, _, rfl, e2, r⟩⟩
    | exv0 h1 e1 e => exact ⟨_, _, _, _, rfl, e1.1, e, e1.2, .inl ⟨rfl, rfl⟩⟩
section
variable {X : Cx} {pins : List (Addr × Obj)} {σ : L2.St} {H : Hp} {s : Shared}
/-- the object, for the rules that read it -/
theorem ex_inst {a C : Addr} {d : Option Addr} {φ : Heap → Prop} (I : Inv X pins σ H s) (h : H a = some (.ext φ)) (hφ : ∀ h, φ h → ExAt C a d h) (hd : d = none ∨ ∃ dx vs, d = some dx ∧ H dx = some (.xd vs)) : ∃ oe od, PySem.W.InstAt s.heap a oe C od := by
  obtain ⟨oe, vs, g, c, dd, dt⟩ := hφ _ (I.hok a _ h).1
  have no : PySem.W.notCls oe = true := by unfold PySem.W.notCls; rw [dt] <;> rfl
  rcases hd with rfl | ⟨dx, vs', rfl, hx⟩
  · exact ⟨oe, none, g, c, no, by rw [dd]; trivial⟩
  · obtain ⟨mA, hns, hr⟩ := (show ObjOk X.prog X.w H s.heap dx (.xd vs') from I.hok dx _ hx)
    obtain ⟨od, ho, hl⟩ := lookIn_ns hns
    exact ⟨oe, some od, g, c, no, by rw [dd]; exact ho⟩
end
/-- a class whose instances' class is told -/
structure ExA (K : PySem.W.Frag) (C : Addr) : Prop where
  cl : (PySem.W.clsIn K C).isSome = true
  ga : PySem.W.findIn K (.ref C) "__getattribute__" = some (some (.builtin "BaseException.__getattribute__"))
  gg : PySem.W.findIn K (.ref C) "__getattr__" = some none
  ex : PySem.W.subIn K (.ref C) (.type "BaseException") = some true
  ca : PySem.W.findIn K (.ref C) "__class__" = some (some (.builtin "object.__class__"))
  cg : PySem.W.specialIn K (.builtin "object.__class__") "__get__" = some (some (.builtin "getset_descriptor.__get__"))
  ct : PySem.W.takesIn K (.builtin "object.__class__") = some true
  cm : PySem.W.mroIn K C (.type "object") = some true
def exaB (K : PySem.W.Frag) (C : Addr) : Bool := (PySem.W.clsIn K C).isSome && (decide (PySem.W.findIn K (.ref C) "__getattribute__" = some (some (.builtin "BaseException.__getattribute__"))) && (decide (PySem.W.findIn K (.ref C) "__getattr__" = some none) && (decide (PySem.W.subIn K (.ref C) (.type "BaseException") = some true) &&
  (decide (PySem.W.findIn K (.ref C) "__class__" = some (some (.builtin "object.__class__"))) && (decide (PySem.W.specialIn K (.builtin "object.__class__") "__get__" = some (some (.builtin "getset_descriptor.__get__"))) && (decide (PySem.W.takesIn K (.builtin "object.__class__") = some true) && decide (PySem.W.mroIn K C (.type "object") = some true)))))))
theorem exa_of {K : PySem.W.Frag} {C : Addr} (h : exaB K C = true) : ExA K C := by
  unfold exaB at h
  simp only [Bool.and_eq_true, decide_eq_true_eq] at h
  obtain ⟨a, b, c, d, e, f, g, i⟩ := h
  exact ⟨a, b, c, d, e, f, g, i⟩
/-- whether an exception of the class c is one of the class x -/
def isRel (c x : Str) : Bool := c == x || (x == ("PartsError" : Str) || (x == ("ValueError" : Str) || x == ("Exception" : Str)))
/-- what the text says of isinstance: kv the class x -/
def IsX (K : PySem.W.Frag) (known : List Str) (x : Str) (kv : Value) : Prop := ∀ c ∈ known, ∃ C, PySem.W.nsIn K mainGlobals c = some (some (.ref C)) ∧ ExA K C ∧ PySem.W.kitOne K (.ref C) kv = some (isRel c x)
def isxB (K : PySem.W.Frag) (l : List (Str × Addr)) (x : Str) (kv : Value) : Bool := l.all fun p => decide (PySem.W.nsIn K mainGlobals p.1 = some (some (.ref p.2))) && (exaB K p.2 && decide (PySem.W.kitOne K (.ref p.2) kv = some (isRel p.1 x)))
theorem isx_of {K : PySem.W.Frag} {l : List (Str × Addr)} {x : Str} {kv : Value} (h : isxB K l x kv = true) : IsX K (l.map (·.1)) x kv := fun c hc => by
  obtain ⟨p, hp, rfl⟩ := List.mem_map.mp hc
  have := List.all_eq_true.mp h p hp
  simp only [Bool.and_eq_true, decide_eq_true_eq] at this
  exact ⟨p.2, this.1, exa_of this.2.1, this.2.2⟩
def rIsX (K : PySem.W.Frag) : List V → Hp → VK → Prop := fun xs H Q => ∃ (a C : Addr) (d : Option Addr) (φ : Heap → Prop) (c : V) (cv : Value) (b : Bool), xs = [.ref a, c] ∧ ClsV c cv ∧ H a = some (.ext φ) ∧ (∀ h, φ h → ExAt C a d h) ∧ (d = none ∨ ∃ dx vs, d = some dx ∧ H dx = some (.xd vs)) ∧ ExA K C ∧ PySem.W.kitOne K (.ref C) cv = some b ∧ Q (.bl b) H
theorem call_isX {X : Cx} : CallR X (.builtin "isinstance") (rIsX X.K) := by
  intro pins s σ H xs us Q I r h
  obtain ⟨a, C, d, φ, c, cv, b, rfl, hc, ha, hφ, hd, A, e, q⟩ := h
  obtain ⟨u1, u2, rfl, r1, r2⟩ := vals2 r
  have e2 := hc.eq r2
  subst e2
  cases (show u1 = Value.ref a from r1)
  obtain ⟨oe, od, J⟩ := ex_inst I ha hφ hd
  exact PySem.W.kia_one (PySem.W.kitx_exc A.cl A.ga A.gg A.ex A.ca A.cg A.ct A.cm) I.kIn J e (fun z => nomatch z) fun tk => ⟨.bl b, H, I.tok tk, rfl, q⟩
def eIsX (x : Str) (known : List Str) (f : Ev) : Ev := fun ρ M => (f ρ M).bind fun u M1 => match u with
  | .dat (.exv c _) => if known.contains c then .ok (.dat (.bl (isRel c x))) M1 else .bad
  | _ => .bad
section
variable {X : Cx} {W : WX}
theorem isx_post {x : Str} {known : List Str} {kv : Value} {c : V} (hk : ClsV c kv) (T : IsX X.K known x kv) {σ : L2.St} {H : Hp} {Q : VK} {ξ : List Addr} {ρ : En} {μ : List Addr} {M : Mem} {f : Ev} (kh : KH X.K H)
    (e : RelE X.K ξ H μ σ ρ) (m : RelM X.K ξ H μ M) (q : Post X.K ξ X.mg W (RepU X.K ξ) σ H μ (eIsX x known f ρ M) Q) : Post X.K ξ X.mg W (RepU X.K ξ) σ H μ (f ρ M) (fun v H1 => rIsX X.K [v, c] H1 fun v H' => KH X.K H' → Q v H') := by
  refine (Post.bind (R := RepU X.K ξ) q).mono fun v H1 ⟨u, M1, μ1, n1, m1, kh1, r1, q1⟩ => ?_
  split at q1
  · rename_i c' fs
    split at q1
    · rename_i hc
      cases r1 with | dat r1 =>
      obtain ⟨a, C, d, φ, rfl, h1, h2, h3, h4⟩ := (RepV.of r1 : RepV X.K ξ H1 μ1 v (.exv c' fs)).exvv
      obtain ⟨C', g1, g2, g3⟩ := T c' (List.contains_iff_mem.mp hc)
      rw [h1] at g1
      cases g1
      refine ⟨a, C, d, φ, c, kv, _, rfl, hk, h2, h3, ?_, g2, g3, fun kh' => q1.here m1 kh' (.dat (.bl _))⟩
      rcases h4 with ⟨e, _⟩ | ⟨dx, vs, e1, e2, _⟩
      · exact .inl e
      · exact .inr ⟨dx, vs, e1, e2⟩
    · exact q1.elim
  · exact q1.elim
theorem se_isX {x : Str} {known : List Str} {D : Addr} {e : Expr} {f : Ev} {p pos pt : Pos} (T : IsX X.K known x (.ref D)) (hm : X.mg x = some (.ref D)) (hmi : X.mg "isinstance" = none) (he : SE X W e f) (hg : Gl X x := by rfl) (hgi : Gl X "isinstance" := by rfl)
    (hdb : (x == ("__debug__" : Str)) = false := by decide) (h1 : starEach [e, .Name x pt] X.env = (false, eval e X.env) :: starEach [.Name x pt] X.env := by rfl) (h2 : starEach [.Name x pt] X.env = (false, eval (.Name x pt) X.env) :: starEach [] X.env := by rfl) (hpl : (backTo pos (starEach [.Name x pt] X.env)).any (·.1) = false := by rfl) :
    SE X W (.Call (.Name "isinstance" p) [e, .Name x pt] [] pos) (eIsX x known f) :=
  pe_sd (pe_callB (r := rIsX X.K) call_isX hgi hmi (by decide +kernel) (pa_cons he (pa_cons (pe_glob (v := .ref D) hg hm rfl hdb) pa_nil h2) h1) (by decide) (by decide) h1 hpl)
    fun σ H Q kh ⟨ξ, ρ, μ, M, e, m, q⟩ => tg.of e m (isx_post (.own D) T kh e m q)
theorem se_isXT {x : String} {known : List Str} {e : Expr} {f : Ev} {p pos pt : Pos} (T : IsX X.K known x (.type x)) (hmi : X.mg "isinstance" = none) (hm : X.mg x = none) (he : SE X W e f) (hv : bootBuiltins x = some (.type x) := by decide +kernel) (hg : Gl X x := by rfl) (hgi : Gl X "isinstance" := by rfl)
    (hn : (x : Str) ≠ "__name__" := by decide) (hdb : ((x : Str) == ("__debug__" : Str)) = false := by decide)
    (h1 : starEach [e, .Name x pt] X.env = (false, eval e X.env) :: starEach [.Name x pt] X.env := by rfl) (h2 : starEach [.Name x pt] X.env = (false, eval (.Name x pt) X.env) :: starEach [] X.env := by rfl) (hpl : (backTo pos (starEach [.Name x pt] X.env)).any (·.1) = false := by rfl) :
    SE X W (.Call (.Name "isinstance" p) [e, .Name x pt] [] pos) (eIsX x known f) :=
  pe_sd (pe_callB (r := rIsX X.K) call_isX hgi hmi (by decide +kernel) (pa_cons he (pa_cons (pe_bltn (v := .ty x) hg hm hv rfl hn hdb) pa_nil h2) h1) (by decide) (by decide) h1 hpl)
    fun σ H Q kh ⟨ξ, ρ, μ, M, e, m, q⟩ => tg.of e m (isx_post (.ty x) T kh e m q)
end
instance {x : Str} {known : List Str} {f : Ev} [i : FE f] : FE (eIsX x known f) := ⟨fun ρ M => FlO.bind (i.h _ _) fun u M1 => by (repeat' (first | exact trivial | exact Fl.refl | split))⟩
/-! ### made -/
def eExv1 (c fld : Str) (f : Ev) : Ev := fun ρ M => (f ρ M).bind fun u M1 => match u with
  | .dat d => .ok (.dat (.exv c [(fld, d)])) M1
  | _ => .bad
def eExv0 (c : Str) : Ev := fun _ M => .ok (.dat (.exv c [])) M
instance {c fld : Str} {f : Ev} [i : FE f] : FE (eExv1 c fld f) := ⟨fun ρ M => FlO.bind (i.h _ _) fun u M1 => by (repeat' (first | exact trivial | exact Fl.refl | split))⟩
instance {c : Str} : FE (eExv0 c) := ⟨fun ρ M => Fl.refl⟩
theorem exAt_ok {P : Program} {w : World} {H : Hp} {h : Heap} {C a : Addr} {d : Option Addr} {oe : Obj} {vs : Array Value} (e : h.get? a = some oe) (c : oe.cls = .ref C) (dd : oe.dict = d) (dt : oe.data = .fields vs) : ObjOk P w H h a (.ext (ExAt C a d)) :=
  ⟨⟨oe, vs, e, c, dd, dt⟩, ⟨oe, e⟩, fun _ _ ⟨o, v, q, r⟩ k => ⟨o, v, k o q, r⟩⟩
section
variable {X : Cx} {W : WX} {C : Addr}
def tExv1 (C : Addr) (fld : Str) (ta : TA) : TE := fun σ H Q => ta σ H fun vs H1 => ∃ v, vs = [v] ∧ ∀ a d, H1 a = none → H1 d = none → a ≠ d → Q (.ref a) (upd (upd H1 d (.xd [(fld, v)])) a (.ext (ExAt C a (some d))))
theorem pe_exv1 {x fld : Str} {a : Expr} {ta : TA} {p pos : Pos} (T : Mk1 X.prog X.w X.K x fld C) (hm : X.mg x = some (.ref C)) (hms : X.mg "super" = none) (hr : X.A.depth + 1 < recursionLimit) (ha : PA X [a] ta) (hg : Gl X x := by rfl) (hdb : (x == ("__debug__" : Str)) = false := by decide)
    (he : starEach (a :: []) X.env = (false, eval a X.env) :: starEach [] X.env := by rfl) (hpl : (backTo pos (starEach [] X.env)).any (·.1) = false := by rfl) :
    PE X (.Call (.Name x p) [a] [] pos) (tExv1 C fld ta) := by
  refine ⟨fun pins s σ H Q I h => ?_⟩
  refine wpAny_Call_Name_kw (ld_glob I hg hm ?_ hdb)
  refine PySem.W.callWith_K (h₀ := X.base) I.ok.mod.kin T.kC (thn (ha.run pos pins s σ H _ I h) fun us s1 hh => ?_) he hpl
  obtain ⟨vs, H1, I1, r1, v, ev, q1⟩ := hh
  subst ev
  refine ⟨I1.kIn, ?_⟩
  cases r1 with
  | cons rv rn =>
    rename_i v' us'
    cases rn
    show wpAny _ _ (call (.ref C) [v']) _ _ _
    have hlim := I1.nolimit
    obtain ⟨mb, h1, h2⟩ := I1.mod.blt
    have hgl := I1.mod.glob.keeps I1.bk
    have hbl := h1.keeps I1.bk
    have hbs : mb "super" = some (.type "super") := (h2 _ (by decide)).trans (by decide +kernel)
    obtain ⟨hp, g, dr, tk, os⟩ := s1
    refine wpAny_call (T.made I1.kIn hgl hms hbl hbs hlim hr fun h' tk' e d M => ?_)
    obtain ⟨t1, hoe⟩ := M.obj
    have hns := M.ns
    obtain ⟨G', g1, g2⟩ := restrict h' fun b => decide (b ≠ e)
    have gk : ∀ b, b ≠ e → G'.get? b = h'.get? b := fun b hb => g1 b (decide_eq_true hb)
    have ge : G'.get? e = none := g2 e (by simp)
    have old : ∀ b o, hp.get? b = some o → G'.get? b = some o := fun b o q => (gk b (Nat.ne_of_lt (Nat.lt_of_lt_of_le (Heap.lt_size q) M.new))).trans (M.keep b o q)
    have ob : ObjOk X.prog X.w (upd H1 d (.xd [(fld, v)])) G' d (.xd [(fld, v)]) :=
      ⟨_, hns.at (fun o q => (gk d M.dne).trans q), fun f => relO_one rv f⟩
    have J : Inv X pins σ (upd H1 d (.xd [(fld, v)])) ⟨G', g, dr, tk', os⟩ := I1.laid (t' := tk') old M.dbig ob
    have e0 : H1 e = none := I1.hok.fresh M.new
    have en : upd H1 d (.xd [(fld, v)]) e = none := by rw [upd_ne (Ne.symm M.dne)]; exact e0
    have J2 : Inv X pins σ (upd (upd H1 d (.xd [(fld, v)])) e (.ext (ExAt C e (some d)))) ⟨h', g, dr, tk', os⟩ :=
      Inv.laidN (t' := tk') J (fun b u q => by
        have hb : b ≠ e := fun z => by
          have q' : G'.get? b = some u := q
          rw [z, ge] at q'; cases q'
        exact (gk b hb).symm.trans q) ge en (exAt_ok hoe rfl rfl rfl)
    exact ⟨.ref e, _, J2, rfl, q1 e d e0 (I1.hok.fresh M.dbig) (Ne.symm M.dne)⟩
theorem se_exv1 {x fld : Str} {e : Expr} {f : Ev} {p pos : Pos} {k : Nat} (T : Mk1 X.prog X.w X.K x fld C) (hm : X.mg x = some (.ref C)) (hms : X.mg "super" = none) (hr : Room k X.A) (he : SE X W e f) (hg : Gl X x := by rfl) (hdb : (x == ("__debug__" : Str)) = false := by decide)
    (hst : starEach (e :: []) X.env = (false, eval e X.env) :: starEach [] X.env := by rfl) (hpl : (backTo pos (starEach [] X.env)).any (·.1) = false := by rfl) : SE X W (.Call (.Name x p) [e] [] pos) (eExv1 x fld f) :=
  pe_sd (pe_exv1 T hm hms (by have := hr.dp; omega) (sa_cons he sa_nil hst) hg hdb hst hpl) fun σ H Q kh ⟨ξ, ρ, μ, M, en, m, q⟩ => by
    refine tg.of en m ?_
    unfold aCons aNil
    unfold eExv1 at q
    have key : Post X.K ξ X.mg W (RepUs X.K ξ) σ H μ ((f ρ M).bind fun u M1 => .ok [u] M1) (fun vs H1 => ∃ v, vs = [v] ∧ ∀ a d, H1 a = none → H1 d = none → a ≠ d → (KH X.K (upd (upd H1 d (.xd [(fld, v)])) a (.ext (ExAt C a (some d)))) → Q (.ref a) (upd (upd H1 d (.xd [(fld, v)])) a (.ext (ExAt C a (some d)))))) := by
      cases hf : f ρ M with
      | ok u M1 =>
        rw [hf] at q
        intro vs H1 μ1 n1 m1 kh1 r1
        cases r1 with
        | @cons v1 vs1 u1 us1 r1 r2 =>
          cases r2
          refine ⟨v1, rfl, fun a d ha hd hne kh' => ?_⟩
          simp only [Out.bind] at q
          split at q
          · rename_i dt
            cases r1 with | dat rv =>
            have nA : Nxt X.K H1 μ1 (upd H1 d (.xd [(fld, v1)])) μ1 := Nxt.laid hd
            have hA : upd H1 d (.xd [(fld, v1)]) a = none := by rw [upd_ne hne]; exact ha
            have nB : Nxt X.K (upd H1 d (.xd [(fld, v1)])) μ1 (upd (upd H1 d (.xd [(fld, v1)])) a (.ext (ExAt C a (some d)))) μ1 := Nxt.laid hA
            refine q _ _ μ1 (n1.trans (nA.trans nB)) ((m1.laid hd).laid hA) kh' (.dat (.exv ((m1.laid hd).new hA) (m1.new hd) ⟨T.nC, fun h z => z⟩ upd_same ?_ (.cons ((rv.next nA).next nB) .nil)))
            rw [upd_ne (Ne.symm hne)]
            exact upd_same
          · exact q.elim
      | exc c fs M1 => rw [hf] at q; exact q
      | bad => rw [hf] at q; exact q
    exact key
end
end SD
namespace SD
open PySem PySem.Spec PyProof.Rows L2
section
variable {X : Cx} {W : WX} {C : Addr}
theorem pe_exv0 {x : Str} {p pos : Pos} (T : Mk0 X.prog X.w X.K x C) (hm : X.mg x = some (.ref C)) (hms : X.mg "super" = none) (hr : X.A.depth + 1 < recursionLimit) (hg : Gl X x := by rfl) (hdb : (x == ("__debug__" : Str)) = false := by decide) :
    PE X (.Call (.Name x p) [] [] pos) (fun _ H Q => ∀ a, H a = none → Q (.ref a) (upd H a (.ext (ExAt C a none)))) := by
  refine ⟨fun pins s σ H Q I h => ?_⟩
  refine wpAny_Call_Name_kw (ld_glob I hg hm ?_ hdb)
  refine PySem.W.callWith_K0 I.kIn T.kC ?_
  show wpAny _ _ (call (.ref C) []) _ _ _
  have hlim := I.nolimit
  obtain ⟨mb, h1, h2⟩ := I.mod.blt
  have hgl := I.mod.glob.keeps I.bk
  have hbl := h1.keeps I.bk
  have hbs : mb "super" = some (.type "super") := (h2 _ (by decide)).trans (by decide +kernel)
  obtain ⟨hp, g, dr, tk, os⟩ := s
  refine wpAny_call (T.made I.kIn hgl hms hbl hbs hlim hr fun h' tk' e M => ?_)
  obtain ⟨t1, hoe⟩ := M.obj
  have e0 : H e = none := I.hok.fresh M.new
  exact ⟨.ref e, _, Inv.laidN (t' := tk') I M.keep (Heap.get?_none_of_le M.new) e0 (exAt_ok hoe rfl rfl rfl), rfl, h e e0⟩
theorem se_exv0 {x : Str} {p pos : Pos} {k : Nat} (T : Mk0 X.prog X.w X.K x C) (hm : X.mg x = some (.ref C)) (hms : X.mg "super" = none) (hr : Room k X.A) (hg : Gl X x := by rfl) (hdb : (x == ("__debug__" : Str)) = false := by decide) :
    SE X W (.Call (.Name x p) [] [] pos) (eExv0 x) :=
  pe_sd (pe_exv0 T hm hms (by have := hr.dp; omega) hg hdb) fun σ H Q kh ⟨ξ, ρ, μ, M, en, m, q⟩ => by
    intro a ha
    intro kh'
    exact q _ _ μ (Nxt.laid ha) (m.laid ha) kh' (.dat (.exv0 (m.new ha) ⟨T.nC, fun h z => z⟩ upd_same))
end
/-! ### an own class without an __init__ of its own -/
structure MkB (K : PySem.W.Frag) (x : Str) (C : Addr) : Prop where
  nC : PySem.W.nsIn K mainGlobals x = some (some (.ref C))
  kC : PySem.W.keepIn K (.ref C) = true
  ei : PySem.W.excIn K C SX.veL "ValueError.__new__" = true
def mkbB (K : PySem.W.Frag) (x : Str) (C : Addr) : Bool := decide (PySem.W.nsIn K mainGlobals x = some (some (.ref C))) && (PySem.W.keepIn K (.ref C) && PySem.W.excIn K C SX.veL "ValueError.__new__")
theorem mkb_of {K : PySem.W.Frag} {x : Str} {C : Addr} (h : mkbB K x C = true) : MkB K x C := by
  unfold mkbB at h
  simp only [Bool.and_eq_true, decide_eq_true_eq] at h
  exact ⟨h.1, h.2.1, h.2.2⟩
def eExvB (c : Str) (f : Ev) : Ev := fun ρ M => (f ρ M).bind fun _ M1 => .ok (.dat (.exv c [])) M1
instance {c : Str} {f : Ev} [i : FE f] : FE (eExvB c f) := ⟨fun ρ M => FlO.bind (i.h _ _) fun u M1 => Fl.refl⟩
section
variable {X : Cx} {W : WX} {C : Addr}
theorem exO_at {C a : Addr} {h : Heap} (z : ∃ (oe : Obj) (vs : Array Value), h.get? a = some oe ∧ Zc (.ref C) none oe ∧ oe.data = .fields vs ∧ vs[1]? = some .none ∧ vs[2]? = some .none ∧ 4 < vs.size) : ExAt C a none h := by
  obtain ⟨oe, vs, g, ⟨c, d⟩, e, _⟩ := z
  exact ⟨oe, vs, g, c, d, e⟩
theorem se_exvB {x : Str} {e : Expr} {f : Ev} {p pos : Pos} (T : MkB X.K x C) (hm : X.mg x = some (.ref C)) (he : SE X W e f) (hg : Gl X x := by rfl) (hdb : (x == ("__debug__" : Str)) = false := by decide)
    (hst : starEach [e] X.env = (false, eval e X.env) :: starEach [] X.env := by rfl) : SE X W (.Call (.Name x p) [e] [] pos) (eExvB x f) :=
  pe_sd (pe_exc1 PySem.F.excBase_ValueError T.ei hm T.kC hg he hst hdb) fun σ H Q kh ⟨ξ, ρ, μ, M, en, m, q⟩ => by
    refine tg.of en m ?_
    refine (Post.bind (R := RepU X.K ξ) q).mono fun v H1 ⟨u, M1, μ1, n1, m1, kh1, r1, q1⟩ => fun a ha kh' => ?_
    exact q1 _ _ μ1 (Nxt.laid ha) (m1.laid ha) kh' (.dat (.exv0 (m1.new ha) ⟨T.nC, fun h z => exO_at z⟩ upd_same))
end
/-! ### err.f -/
def XatA (K : PySem.W.Frag) (known : List Str) (fld : Str) : Prop := ∀ c ∈ known, ∃ C, PySem.W.nsIn K mainGlobals c = some (some (.ref C)) ∧ XfC K C ∧ PySem.W.findIn K (.ref C) fld = some none
theorem xat_nil {K : PySem.W.Frag} {fld : Str} : XatA K [] fld := fun _ h => nomatch h
theorem xat_cons {K : PySem.W.Frag} {P : Program} {w : World} {fld c : Str} {C : Addr} {l : List Str} (T : Mk1 P w K c fld C) (t : XatA K l fld) : XatA K (c :: l) fld := fun x hx => by
  rcases List.mem_cons.mp hx with rfl | h
  · exact ⟨C, T.nC, T.xf, T.noN⟩
  · exact t x h
def eXat (fld : Str) (known : List Str) (f : Ev) : Ev := fun ρ M => (f ρ M).bind fun u M1 => match u with
  | .dat (.exv c fs) => if known.contains c then (match fs.lookup fld with | some d => .ok (.dat d) M1 | none => .bad) else .bad
  | _ => .bad
instance {fld : Str} {known : List Str} {f : Ev} [i : FE f] : FE (eXat fld known f) := ⟨fun ρ M => FlO.bind (i.h _ _) fun u M1 => by (repeat' (first | exact trivial | exact Fl.refl | split))⟩
theorem RepF.getX {K : PySem.W.Frag} {ξ : List Addr} {H : Hp} {μ : List Addr} {f : Str} : ∀ {vs : List (Str × V)} {fs : List (Str × D)} {d : D}, RepF K ξ H μ vs fs → fs.lookup f = some d → ∃ v, vs.lookup f = some v ∧ Rep K ξ H μ v d
  | _, _, _, .nil, h => by cases h
  | _, _, d, .cons (f := g) r t, h => by
    rw [List.lookup_cons] at h
    rw [List.lookup_cons]
    cases e : f == g with
    | true => rw [e] at h; cases h; exact ⟨_, rfl, r⟩
    | false => rw [e] at h; exact RepF.getX t h
section
variable {X : Cx} {W : WX}
def tXat (fld : Str) (te : TE) : TE := fun σ H Q => te σ H fun x H1 => ∃ (a C dd : Addr) (φ : Heap → Prop) (fs : List (Str × V)) (v : V), x = .ref a ∧ H1 a = some (.ext φ) ∧ (∀ h, φ h → ExAt C a (some dd) h) ∧ H1 dd = some (.xd fs) ∧ XfC X.K C ∧ PySem.W.findIn X.K (.ref C) fld = some none ∧ fs.lookup fld = some v ∧ Q v H1
theorem pe_xat {e : Expr} {te : TE} {pos : Pos} {n : Str} (he : PE X e te) (hb : attributeBase e n X.env (eval e X.env) = eval e X.env := by rfl) : PE X (.Attribute e n pos) (tXat (X := X) n te) := by
  refine ⟨fun pins s σ H Q I h => ?_⟩
  refine attr_of hb (thn (he.run pins s σ H _ I h) fun u s1 hh => ?_)
  obtain ⟨x, H1, I1, rx, a, C, dd, φ, fs, v, ex, ha, hφ, hd, T, hno, l, q⟩ := hh
  subst ex
  obtain rfl : u = Value.ref a := rx
  obtain ⟨oe, ws, g, c, de, dt⟩ := hφ _ (I1.hok a _ ha).1
  obtain ⟨mA, hns, hr⟩ := (show ObjOk X.prog X.w H1 s1.heap dd (.xd fs) from I1.hok dd _ hd)
  obtain ⟨od, ho, hl⟩ := lookIn_ns hns
  obtain ⟨u, hu, ru⟩ := RelO.some_of (v := v) (o := mA n) (by rw [← l]; exact hr n)
  have J : PySem.W.InstAt s1.heap a oe C (some od) := ⟨g, c, by unfold PySem.W.notCls; rw [dt] <;> rfl, by rw [de]; exact ho⟩
  exact HandSPX.exc_get I1.kIn J T.ga T.gg T.exC (PySem.W.findObj_own T.hdC hno rfl (by rw [hl, hu])) (handed_of ru) ⟨v, H1, I1.tok _, ru, q⟩
theorem se_xat {fld : Str} {known : List Str} {o : Expr} {fo : Ev} {pos : Pos} (T : XatA X.K known fld) (ho : SE X W o fo) (hb : attributeBase o fld X.env (eval o X.env) = eval o X.env := by rfl) : SE X W (.Attribute o fld pos) (eXat fld known fo) :=
  pe_sd (pe_xat ho hb) fun σ H Q kh ⟨ξ, ρ, μ, M, en, m, q⟩ => tg.of en m ((Post.bind (R := RepU X.K ξ) q).mono fun v H1 ⟨u, M1, μ1, n1, m1, kh1, r1, q1⟩ => by
    split at q1
    · rename_i c' fs
      split at q1
      · rename_i hc
        split at q1
        · rename_i d hl
          cases r1 with | dat r1 =>
          obtain ⟨a, C, d0, φ, rfl, h1, h2, h3, h4⟩ := (RepV.of r1 : RepV X.K ξ H1 μ1 v (.exv c' fs)).exvv
          obtain ⟨C', g1, g2, g3⟩ := T c' (List.contains_iff_mem.mp hc)
          rw [h1] at g1
          cases g1
          rcases h4 with ⟨_, e⟩ | ⟨dx, vs, e1, e2, t⟩
          · subst e; cases hl
          · subst e1
            obtain ⟨y, hy, ry⟩ := RepF.getX t hl
            exact ⟨a, C, dx, φ, vs, y, rfl, h2, h3, e2, g2, g3, hy, fun kh => q1.here m1 kh (.dat ry)⟩
        · exact q1.elim
      · exact q1.elim
    · exact q1.elim)
end
end SD
set_option Elab.async false
set_option linter.all false
set_option maxRecDepth 100000
set_option maxHeartbeats 4000000
namespace SD
open PySem PySem.SeqAt
open AutoSeq1 (wpAny_loadPart')
open MeetsSeq MeetsSeq2 MeetsSeq3
/-! ### x in a list or tuple, within one model -/
end SD
namespace SD
open PySem PySem.Spec PyProof.Rows L2
end SD
set_option Elab.async false
set_option linter.all false
set_option maxRecDepth 100000
set_option maxHeartbeats 4000000
namespace SD
open PySem PySem.Spec PyProof.Rows L2
/-! ### two rules for one operator, by what it meets -/
abbrev SC (X : Cx) (W : WX) (op : CmpOp) (a b : Expr) (F : Ev) : Prop := PC X op a b (tE X.K X.mg W F)
section
variable {X : Cx} {W : WX} {a b e : Expr} {f g : Ev} {p p1 p2 : P2} {op : CmpOp} {pos : Pos} {F : Ev}
theorem sc_op {r : R2} (ho : OpR X (compareOp op) r) (hp : Op2 X.K p r) (ha : SE X W a f) (hb : SE X W b g) : SC X W op a b (e2 p f g) := pc_sd ho hp ha hb
theorem st_sc (h : SC X W op a b F) (hm : behindInMarks op b = false := by first | exact nobehind _ (by decide) (by decide) | rfl) : ST X W (.Compare a [op] [b] pos) (tOf F) :=
  ⟨fun pins s σ H Q I hh => (pt_cmp h hm).run pins s σ H Q I (tg.tOf hh)⟩
end
/-! ### reading dicts -/
def keyD : D → Option Key
  | .int i => some (.inl i)
  | .str s => some (.inr (mkS s))
  | _ => none
theorem RepK.val {K : PySem.W.Frag} {ξ : List Addr} {H : Hp} {μ : List Addr} {k : Key} : ∀ {xs : List (Key × V)} {ks : List (Key × D)}, RepK K ξ H μ xs ks → (valV xs k = none ∧ lookK ks k = none) ∨ ∃ v d, valV xs k = some v ∧ lookK ks k = some d ∧ Rep K ξ H μ v d
  | _, _, .nil => .inl ⟨rfl, rfl⟩
  | _, _, .cons (k := k0) (v := v0) (d := d0) r t => by
    by_cases e : k0 = k
    · exact .inr ⟨v0, d0, valV_pos e, by simp [lookK, List.find?_cons, e], r⟩
    · have e1 : ∀ (vs : List (Key × V)), valV ((k0, v0) :: vs) k = valV vs k := fun vs => by unfold valV; rw [List.find?_cons_of_neg (by simpa using e)]
      rw [e1, lookK_ne e]
      exact RepK.val t
section
variable {X : Cx} {W : WX} {a b c : Expr} {f g h : Ev} {pos apos cpos : Pos}
/-- d.get(k, x) -/
def dgetU (u k : U) (x : D) (M : Mem) : Out U := match view u M, k with
  | some (.dct kvs), .dat k => match keyD k with
    | some key => .ok (.dat ((lookK kvs key).getD x)) M
    | none => .bad
  | _, _ => .bad
def isDctU (u : U) (M : Mem) : Bool := match view u M with
  | some (.dct _) => true
  | _ => false
def eGet2 (f g h : Ev) : Ev := fun ρ M => (f ρ M).bind fun u M1 => if isDctU u M1 = true then (g ρ M1).bind fun k M2 => (h ρ M2).bind fun x M3 => match x with
  | .dat d => dgetU u k d M3
  | _ => .bad else .bad
def eGet1 (f g : Ev) : Ev := fun ρ M => (f ρ M).bind fun u M1 => if isDctU u M1 = true then (g ρ M1).bind fun k M2 => dgetU u k .non M2 else .bad
/-- d[k] = x, d a dict that is a cell -/
def sSetKey (fo fi fe : Ev) : Sv := fun ρ M => SOut.ofE ρ (fe ρ M) fun u M1 => SOut.ofE ρ (fo ρ M1) fun o M2 => SOut.ofE ρ (fi ρ M2) fun i M3 => match o, i, u with
  | .cell k, .dat di, .dat d => match M3[k]?, keyD di with
    | some (.dct kvs), some key => if kvs.length < 16777216 then .nx ρ (M3.set k (.dct (putD kvs key d))) else .bad
    | _, _ => .bad
  | _, _, _ => .bad
end
/-! ### walks over a dict -/
def keyV (k : Key) : D := match k with
  | .inl i => .int i
  | .inr s => .str (TL.tl s)
def keysD (kvs : List (Key × D)) : List D := kvs.map fun p => keyV p.1
def itemsD (kvs : List (Key × D)) : List D := kvs.map fun p => pairD (keyV p.1) p.2
/-- a dict that no one may write -/
def lockedU (u : U) (M : Mem) : Option (List (Key × D)) := match u with
  | .dat (.dct kvs) => some kvs
  | .cell k => match M[k]? with
    | some (.dcf kvs) => some kvs
    | _ => none
  | _ => none
def iKeysD (f : Ev) : Lv := fun ρ M => (f ρ M).bind fun u M1 => match lockedU u M1 with
  | some kvs => .ok (keysD kvs) M1
  | none => .bad
def iItemsD (f : Ev) : Lv := fun ρ M => (f ρ M).bind fun u M1 => match lockedU u M1 with
  | some kvs => .ok (itemsD kvs) M1
  | none => .bad
theorem RepK.get {K : PySem.W.Frag} {ξ : List Addr} {H : Hp} {μ : List Addr} : ∀ {xs : List (Key × V)} {ks : List (Key × D)} {i : Nat}, RepK K ξ H μ xs ks → (hi : i < xs.length) → ∃ k v d, xs[i]? = some (k, v) ∧ ks[i]? = some (k, d) ∧ Rep K ξ H μ v d
  | _, _, _, .nil, h => by simp at h
  | _, _, 0, .cons r _, _ => ⟨_, _, _, rfl, rfl, r⟩
  | _, _, i + 1, .cons _ t, h => by
    obtain ⟨k, v, d, h1, h2, h3⟩ := RepK.get (i := i) t (by simpa using h)
    exact ⟨k, v, d, by simpa using h1, by simpa using h2, h3⟩
end SD
set_option Elab.async false
set_option linter.all false
set_option maxRecDepth 100000
set_option maxHeartbeats 4000000
namespace SD
open PySem PySem.Spec PyProof.Rows L2
instance {f g h : Ev} [i : FE f] [j : FE g] [k : FE h] : FE (eGet2 f g h) := ⟨fun ρ M => FlO.bind (i.h _ _) fun u M1 => FlO.ite (FlO.bind (j.h _ _) fun w M2 => FlO.bind (k.h _ _) fun x M3 => by unfold dgetU; (repeat' (first | exact trivial | exact Fl.refl | exact Fl.app | exact fl_newL | exact fl_newD | exact Fl.set rfl | split))) trivial⟩
instance {f g : Ev} [i : FE f] [j : FE g] : FE (eGet1 f g) := ⟨fun ρ M => FlO.bind (i.h _ _) fun u M1 => FlO.ite (FlO.bind (j.h _ _) fun w M2 => by unfold dgetU; (repeat' (first | exact trivial | exact Fl.refl | exact Fl.app | exact fl_newL | exact fl_newD | exact Fl.set rfl | split))) trivial⟩
instance {fo fi fe : Ev} [i : FE fo] [j : FE fi] [k : FE fe] : FS (sSetKey fo fi fe) := ⟨fun ρ M => FlS.ofE (k.h _ _) fun u M1 => FlS.ofE (i.h _ _) fun o M2 => FlS.ofE (j.h _ _) fun x M3 => by (repeat' (first | exact trivial | exact Fl.refl | exact Fl.app | exact fl_newL | exact fl_newD | exact Fl.set rfl | split))⟩
instance {f : Ev} [i : FE f] : FE (iKeysD f) := ⟨fun ρ M => FlO.bind (i.h _ _) fun u M1 => by (repeat' (first | exact trivial | exact Fl.refl | exact Fl.app | exact fl_newL | exact fl_newD | exact Fl.set rfl | split))⟩
instance {f : Ev} [i : FE f] : FE (iItemsD f) := ⟨fun ρ M => FlO.bind (i.h _ _) fun u M1 => by (repeat' (first | exact trivial | exact Fl.refl | exact Fl.app | exact fl_newL | exact fl_newD | exact Fl.set rfl | split))⟩
/-! ### constants of the module: tuples of texts, dicts of such -/
def strsB : List Value → List Cs → Bool
  | [], [] => true
  | .str x _ :: r, t :: ts => (x == mkS t) && strsB r ts
  | _, _ => false
def ktOf (K : PySem.W.Frag) (v : Value) (ts : List Cs) : Bool := match v with
  | .ref a => match K.lookup a with
    | some o => match o.cls, o.data with
      | .type s, .seq its n => s == "tuple" && (decide (its.size ≤ 16777216) && strsB its.toList ts)
      | _, _ => false
    | none => false
  | _ => false
theorem str_beq (x y : Str) : (x == y) = decide (x = y) := by
  by_cases z : x = y
  · subst z; simp
  · rw [decide_eq_false z]; simpa using z
def tupS (ts : List Cs) : D := .tup (ts.map D.str)
section
variable {X : Cx} {W : WX} {a : Expr} {f : Ev}
abbrev Tab := List (Cs × List Cs)
def kdB (K : PySem.W.Frag) : List DictEntry → Tab → Bool
  | [], [] => true
  | e :: es, (z, ts) :: r => (match e.key with
      | .str x _ => x == mkS z
      | _ => false) && (ktOf K e.val ts && kdB K es r)
  | _, _ => false
def findT (kvs : Tab) (z : Cs) : Option (List Cs) := (kvs.find? fun p => p.1 == z).map (·.2)
theorem kdB_find {K : PySem.W.Frag} (z : Cs) : ∀ {es : List DictEntry} {kvs : Tab}, kdB K es kvs = true → es.any (·.refKey) = false ∧
    match findT kvs z with
    | some ts => ∃ e, es.find? (·.key.isStr (mkS z)) = some e ∧ ktOf K e.val ts = true
    | none => es.find? (·.key.isStr (mkS z)) = none
  | [], [], _ => ⟨rfl, rfl⟩
  | [], _ :: _, h => by cases h
  | _ :: _, [], h => by cases h
  | e :: es, (z0, ts) :: r, h => by
    unfold kdB at h
    rw [Bool.and_eq_true, Bool.and_eq_true] at h
    obtain ⟨h1, h2, h3⟩ := h
    split at h1
    · rename_i x k hk
      rw [str_beq] at h1
      have hx : x = mkS z0 := of_decide_eq_true h1
      subst hx
      obtain ⟨i1, i2⟩ := kdB_find z h3
      have isS : e.key.isStr (mkS z) = (z0 == z) := by
        rw [PySem.W.isStr_of, hk]
        show (mkS z0 == mkS z) = _
        exact mkS_beq _ _
      refine ⟨by rw [List.any_cons, i1]; unfold DictEntry.refKey; rw [hk]; rfl, ?_⟩
      unfold findT at i2 ⊢
      rw [List.find?_cons, List.find?_cons, isS]
      cases hz : (z0 == z) with
      | true => exact ⟨e, rfl, h2⟩
      | false => exact i2
    · cases h1
/-- a dict of the module at d -/
structure KTab (K : PySem.W.Frag) (w : World) (d : Addr) (kvs : Tab) : Prop where
  ex : ∃ es n, KDict K w d es n ∧ kdB K es.toList kvs = true
theorem KTab.ns {K : PySem.W.Frag} {w : World} {d : Addr} {kvs : Tab} (T : KTab K w d kvs) (z : Cs) : match findT kvs z with
    | some ts => ∃ v, PySem.W.nsIn K d (mkS z) = some (some v) ∧ ktOf K v ts = true
    | none => PySem.W.nsIn K d (mkS z) = some none := by
  obtain ⟨es, n, D, hb⟩ := T.ex
  obtain ⟨h1, h2⟩ := kdB_find z hb
  have e : PySem.W.nsIn K d (mkS z) = match es.toList.find? (·.key.isStr (mkS z)) with
      | some e => some (some e.val)
      | none => if es.toList.any (·.refKey) then none else some none := by unfold PySem.W.nsIn; rw [D.at_]; rfl
  rw [e]
  split at h2
  · obtain ⟨e0, h3, h4⟩ := h2
    rw [h3]; exact ⟨_, rfl, h4⟩
  · rw [h2, h1]; rfl
def eKIn (kvs : Tab) (neg : Bool) (f : Ev) : Ev := fun ρ M => (f ρ M).bind fun u M1 => match u with
  | .dat (.str z) => .ok (.dat (.bl (neg != (findT kvs z).isSome))) M1
  | _ => .bad
def eKIx (kvs : Tab) (f : Ev) : Ev := fun ρ M => (f ρ M).bind fun u M1 => match u with
  | .dat (.str z) => match findT kvs z with
    | some ts => .ok (.dat (tupS ts)) M1
    | none => .bad
  | _ => .bad
instance {kvs : Tab} {neg : Bool} [i : FE f] : FE (eKIn kvs neg f) := ⟨fun ρ M => FlO.bind (i.h _ _) fun u M1 => by (repeat' (first | exact trivial | exact Fl.refl | exact Fl.app | exact fl_newL | exact fl_newD | exact Fl.set rfl | split))⟩
instance {kvs : Tab} [i : FE f] : FE (eKIx kvs f) := ⟨fun ρ M => FlO.bind (i.h _ _) fun u M1 => by (repeat' (first | exact trivial | exact Fl.refl | exact Fl.app | exact fl_newL | exact fl_newD | exact Fl.set rfl | split))⟩
end
end SD
set_option Elab.async false
set_option linter.all false
set_option maxRecDepth 100000
set_option maxHeartbeats 2000000
/-! SdHead: a law's head by one kernel run: the facts of the text as Bools over the part of the heap that the module's names reach, by names. -/
namespace SD
open PySem PySem.Spec PyProof.Rows L2
/-! ### addresses -/
abbrev hG (K : PySem.W.Frag) (x : Str) : Addr := He.ga K x
abbrev hM (K : PySem.W.Frag) (C : Addr) (m : Str) : Addr := He.ma K C m
/-! ### functions -/
abbrev HFn : Type := Option (Str × Str × Arguments × FuncBody × Scope × Addr × List Str × Addr)
def hFn (K : PySem.W.Frag) (a : Addr) : HFn := match K.lookup a with
  | some ⟨_, _, .func fd, _⟩ => some (fd.name, fd.qualname, fd.params, fd.body, fd.scope, fd.globals, fd.closure.map (·.1), fd.builtins)
  | _ => none
abbrev hFv (n q : Str) (st : Stmt) (cl : List Str := []) : HFn := some (n, q, defArgs st, .stmts (defBody st), defScope st, mainGlobals, cl, builtinsNs)
def hB0 (K : PySem.W.Frag) (a : Addr) (q : Str) : Bool := match K.lookup a with
  | some ⟨_, _, .func fd, _⟩ => (match fd.defaults with
    | .none => PySem.W.codeIn K fd.code q
    | _ => false)
  | _ => false
theorem h_fn0 {K : PySem.W.Frag} {a : Addr} {n q : Str} {st : Stmt} (e : hFn K a = hFv n q st) (c : hB0 K a q = true) :
    ∃ oc od osl kV doc pm an cdv ct, K.lookup a = some ⟨oc, od, .func (PySem.W.fnOf n q (defArgs st) (defBody st) (defScope st) .none kV doc pm an cdv ct), osl⟩ ∧ PySem.W.codeIn K cdv q = true := by
  unfold hFn at e
  unfold hB0 at c
  cases h : K.lookup a with
  | none => rw [h] at c; cases c
  | some o =>
    obtain ⟨oc, od, dt, osl⟩ := o
    rw [h] at c e
    cases dt with
    | func fd =>
      obtain ⟨n1, n2, n3, n4, n5, n6, n7, n8, n9, n10, n11, n12, n13, n14, n15⟩ := fd
      have e2 : (some (n1, n2, n3, n4, n5, n6, n7.map (·.1), n15) : HFn) = some (n, q, defArgs st, .stmts (defBody st), defScope st, mainGlobals, [], builtinsNs) := e
      simp only [Option.some.injEq, Prod.mk.injEq] at e2
      obtain ⟨h1, h2, h3, h4, h5, h6, h7, h8⟩ := e2
      have h7' : n7 = [] := List.map_eq_nil_iff.mp h7
      subst h1 h2 h3 h4 h5 h6 h7' h8
      cases n8 with
      | none => exact ⟨oc, od, osl, n9, n10, n11, n12, n13, n14, rfl, c⟩
      | _ => cases c
    | _ => cases c
/-! ### constants -/
/-! ### exception classes -/
def hEx (K : PySem.W.Frag) (C : Addr) : Bool := match K.lookup C with
  | some ⟨.type t, _, .cls cd, sl⟩ => decide (t = "type") && (cd.hasDict && (!cd.hasDel && ((match cd.mro with
    | .ref c :: bm => decide (c = C) && PySem.HandSPX.refsVE bm
    | _ => false) && (match sl.toList with
    | [_, _, _, _, some (.builtin b), _] => decide (b = "ValueError.__new__")
    | _ => false))))
  | _ => false
theorem h_ex {K : PySem.W.Frag} {C : Addr} (c : hEx K C = true) : ∃ nm q N bs bm sn sub ab col dd k0 k1 k2 k3 k5,
    K.lookup C = some (excClassObj nm q C N bs bm true sn sub ab col dd k0 k1 k2 k3 k5 "ValueError.__new__") ∧ PySem.HandSPX.refsVE bm = true := by
  unfold hEx at c
  cases h : K.lookup C with
  | none => rw [h] at c; cases c
  | some o =>
    obtain ⟨oc, od, dt, osl⟩ := o
    rw [h] at c
    cases oc with
    | type t =>
      cases dt with
      | cls cd =>
        obtain ⟨nm, bs, mro, N, q, hd, sn, sub, ab, col, del⟩ := cd
        obtain ⟨h1, c⟩ := He.ba c
        obtain ⟨h2, c⟩ := He.ba c
        obtain ⟨h3, c⟩ := He.ba c
        obtain ⟨h4, h5⟩ := He.ba c
        have e1 := of_decide_eq_true h1
        have e2 : hd = true := h2
        have e3 : del = false := by cases del with | false => rfl | true => cases h3
        cases mro with
        | nil => cases h4
        | cons v bm =>
          cases v with
          | ref c' =>
            obtain ⟨h6, h7⟩ := He.ba h4
            have e6 := of_decide_eq_true h6
            obtain ⟨l⟩ := osl
            match l, h5 with
            | [k0, k1, k2, k3, some (.builtin b), k5], h5 =>
              have e5 : b = "ValueError.__new__" := of_decide_eq_true h5
              subst e1 e2 e3 e5 e6
              exact ⟨nm, q, N, bs, bm, sn, sub, ab, col, od, k0, k1, k2, k3, k5, rfl, h7⟩
          | _ => cases h4
      | _ => cases c
    | _ => cases dt <;> cases c
/-- the __init__ of an own error: a closure over its class -/
def hB2 (K : PySem.W.Frag) (a C : Addr) (q file : Str) : Bool := match K.lookup a with
  | some ⟨_, _, .func fd, _⟩ => (match fd.defaults, fd.kwdefaults, fd.code, fd.closure with
    | .none, .none, .ref cda, [(_, cc)] => PySem.W.codeIn K (.ref cda) q && ((match K.lookup cda with
      | some ⟨_, _, .fields vs, _⟩ => (match (vs[2]? : Option Value) with
        | some (Value.str f _) => file == f
        | _ => false)
      | _ => false) && (match K.lookup cc with
      | some ⟨_, _, .cell (some (.ref c)), _⟩ => decide (c = C)
      | _ => false))
    | _, _, _, _ => false)
  | _ => false
theorem h_fn2 {K : PySem.W.Frag} {a C : Addr} {q file : Str} {st : Stmt} (e : hFn K a = hFv "__init__" q st ["__class__"]) (c : hB2 K a C q file = true) :
    ∃ (oc : Value) (od : Option Addr) (doc pm : Value) (an : Option Addr) (cda : Addr) (ct : Value) (osl : Array (Option Value)) (cc : Addr) (ccl : Value) (cdd : Option Addr) (vs : Array Value) (ccs : Array (Option Value)) (cl : Value) (cld : Option Addr) (csl : Array (Option Value)) (f : Str) (tf : PySem.Tok),
    K.lookup a = some ⟨oc, od, .func (PySem.W.ksFn "__init__" q (defArgs st) (defBody st) (defScope st) .none .none doc pm an (.ref cda) ct cc), osl⟩ ∧ PySem.W.codeIn K (.ref cda) q = true ∧ K.lookup cda = some ⟨ccl, cdd, .fields vs, ccs⟩ ∧ vs[2]? = some (.str f tf) ∧ (file == f) = true ∧
    K.lookup cc = some ⟨cl, cld, .cell (some (.ref C)), csl⟩ := by
  unfold hFn at e
  unfold hB2 at c
  cases h : K.lookup a with
  | none => rw [h] at c; cases c
  | some o =>
    obtain ⟨oc, od, dt, osl⟩ := o
    rw [h] at c e
    cases dt with
    | func fd =>
      obtain ⟨n1, n2, n3, n4, n5, n6, n7, n8, n9, n10, n11, n12, n13, n14, n15⟩ := fd
      have e2 : (some (n1, n2, n3, n4, n5, n6, n7.map (·.1), n15) : HFn) = some (("__init__" : Str), q, defArgs st, FuncBody.stmts (defBody st), defScope st, mainGlobals, ([("__class__" : Str)] : List Str), builtinsNs) := e
      simp only [Option.some.injEq, Prod.mk.injEq] at e2
      obtain ⟨h1, h2, h3, h4, h5, h6, h7, h8⟩ := e2
      subst h1 h2 h3 h4 h5 h6 h8
      cases n8 with
      | none =>
        cases n9 with
        | none =>
          cases n13 with
          | ref cda =>
            match n7, h7, c with
            | [(x, cc)], h7, c =>
              have ex : x = "__class__" := by simpa using h7
              subst ex
              obtain ⟨c1, c⟩ := He.ba c
              obtain ⟨c2, c3⟩ := He.ba c
              cases l1 : K.lookup cda with
              | none => rw [l1] at c2; cases c2
              | some o1 =>
                obtain ⟨o1c, o1d, o1t, o1s⟩ := o1
                rw [l1] at c2
                cases o1t with
                | fields vs =>
                  have c2' : (match (vs[2]? : Option Value) with
                    | some (Value.str f _) => file == f
                    | _ => false) = true := c2
                  cases l2 : vs[2]? with
                  | none => rw [l2] at c2'; cases c2'
                  | some v =>
                    rw [l2] at c2'
                    cases v with
                    | str f tf =>
                      cases l3 : K.lookup cc with
                      | none => rw [l3] at c3; cases c3
                      | some o3 =>
                        obtain ⟨o3c, o3d, o3t, o3s⟩ := o3
                        rw [l3] at c3
                        cases o3t with
                        | cell v3 =>
                          cases v3 with
                          | none => cases c3
                          | some v3 =>
                            cases v3 with
                            | ref c =>
                              have ec : c = C := of_decide_eq_true c3
                              subst ec
                              exact ⟨oc, od, n10, n11, n12, cda, n14, osl, cc, o1c, o1d, vs, o1s, o3c, o3d, o3s, f, tf, rfl, c1, l1, l2, c2', l3⟩
                            | _ => cases c3
                        | _ => cases c3
                    | _ => cases c2'
                | _ => cases c2
          | _ => cases c
        | _ => cases c
      | _ => cases c
    | _ => cases c
/-! ### the Hook -/
/-- the parts of the heap that the facts ask for: the names, the classes with their names, the functions with their code, the tables -/
def hCl (g : Addr → Option Obj) (a : Addr) : List Addr := match g a with
  | some ⟨_, _, .cls cd, _⟩ => [cd.ns]
  | _ => []
def hFr (g : Addr → Option Obj) (a : Addr) : List Addr := match g a with
  | some o => He.refsD o
  | _ => []
def hPr (g : Addr → Option Obj) (a : Addr) : List Addr := match g a with
  | some ⟨_, _, .func _, _⟩ => []
  | some o => He.refsO o
  | _ => []
structure HN where
  cs : List Str
  ms : List (Str × Str)
  gs : List Str
  ts : List Str
def hA2 (g : Addr → Option Obj) (F L T : List Addr) : List Addr := L ++ (F ++ (F.flatMap (hFr g) ++ (T ++ T.flatMap (hFr g))))
def hA1 (g : Addr → Option Obj) (N : HN) (K0 : PySem.W.Frag) (L : List Addr) (K1 : PySem.W.Frag) : List Addr :=
  let M := N.ms.map fun p => He.ma K1 (He.ga K0 p.1) p.2
  hA2 g (N.gs.map (He.ga K0) ++ (M ++ M.flatMap (hPr g))) L (N.ts.map (He.ga K0))
def hA0 (g : Addr → Option Obj) (N : HN) (K0 : PySem.W.Frag) (C : List Addr) : List Addr :=
  let L := mainGlobals :: (C ++ (C.flatMap (hCl g) ++ [cStatics]))
  hA1 g N K0 L (He.frG g L)
def hAs (g : Addr → Option Obj) (N : HN) : List Addr := hA0 g N (He.frG g [mainGlobals]) (N.cs.map (He.ga (He.frG g [mainGlobals])))
abbrev HAl : Type := Bool × List HFn × List (Option (List (Option (Str × Int))))
structure HD where
  bs : List (PySem.W.Frag → Bool)
  fs : List ((PySem.W.Frag → Addr) × HFn)
  ts : List ((PySem.W.Frag → Addr) × List Str)
def hObs (D : HD) (K : PySem.W.Frag) : HAl := (D.bs.all fun b => b K, D.fs.map fun p => hFn K (p.1 K), D.ts.map fun t => He.dicW K (t.1 K))
def hVal (D : HD) (w : World) : HAl := (true, D.fs.map fun p => p.2, D.ts.map fun t => some (He.keysIn w.params t.2))
def HSays (D : HD) (w : World) (K : PySem.W.Frag) : Prop := hObs D K = hVal D w
def hOb (n : HN) (D : HD) (g : Addr → Option Obj) : HAl := hObs D (He.frG g (hAs g n))
def hHook (n : HN) (D : HD) : PySem.W.Hook where
  α := HAl
  obs := fun s => hOb n D s.heap.get?
  val := fun w => hVal D w
  says := fun w h => ∃ K : PySem.W.Frag, K.In h ∧ HSays D w K
  of := fun _ _ e => ⟨_, He.frG_in, e⟩
  keeps := fun _ _ _ ⟨K, hK, c⟩ k => ⟨K, PySem.W.Frag.In.keeps hK k, c⟩
theorem hOb_eq {n : HN} {D : HD} {g : Addr → Option Obj} {s : Shared} (h : ∀ a, g a = s.heap.get? a) : hOb n D g = (hHook n D).obs s := by
  have e : g = s.heap.get? := funext h
  rw [e] <;> rfl
section
variable {D : HD} {w : World} {K : PySem.W.Frag}
theorem HSays.b (c : HSays D w K) (i : Nat) {f : PySem.W.Frag → Bool} (h : D.bs[i]? = some f := by rfl) : f K = true := by
  have c1 : (D.bs.all fun b => b K) = true := congrArg (fun z : HAl => z.1) c
  exact List.all_eq_true.mp c1 f (List.mem_of_getElem? h)
theorem HSays.f (c : HSays D w K) (i : Nat) {p : (PySem.W.Frag → Addr) × HFn} (h : D.fs[i]? = some p := by rfl) : hFn K (p.1 K) = p.2 := by
  have e : D.fs.map (fun p => hFn K (p.1 K)) = D.fs.map (fun p => p.2) := congrArg (fun z : HAl => z.2.1) c
  have e2 : (D.fs.map fun p => hFn K (p.1 K))[i]? = (D.fs.map fun p => p.2)[i]? := by rw [e]
  rw [List.getElem?_map, List.getElem?_map, h] at e2
  exact Option.some.inj e2
end
/-- walk_law over a head by facts -/
theorem walk_lawE {l : PySem.W.OpenLaw} {q : Program} {loose : List Str} {XP : (Str → Option Value) → Heap → Prop} {YP : World → Heap → Prop} {d : DefRec} {p : Str} {k : Nat} {F : Fn} (hn : l.most = some 63) (hdf : d.params.defaults = []) (hr : Room k callerA)
    (hF : ∀ (w : World) (mg : Str → Option Value) (fa : Addr) (h : Heap), YP w h → h.Ns mainGlobals mg → mg d.name = some (.ref fa) →
      ∃ K : PySem.W.Frag, K.In h ∧ ∃ fd : FuncData, (∀ (s : Shared) (u : Value), BindsTo s fd ⟨[u], []⟩ [(p, u)]) ∧ ∀ base : Heap, K.In base → base.Ns mainGlobals mg → FnOk l.prog w K mg base (L2.CX l.prog w) k fa fd [p] (spS K mg 1 F))
    (hL : ∀ ns : List Int, ns.length ≤ 63 → ∃ M, F [.dat (.scr ns)] [] = .ok (.dat (.bl true)) M) : PySem.W.WalkO q loose XP YP l.row.toRowW d [] (fun f vs => PySem.call f vs) := by
  refine Att.attach_call hn hdf fun w s₀ s₁ mg mb fa o pm cd doc a vs ns G Y ho hd hcd hmg hobj hints hlen hg => ?_
  obtain ⟨K, KX, fd, hb, h2⟩ := hF w mg fa _ Y G.T.g hmg
  refine law_call (sp := fun vs H Q E => ∃ ns : List Int, ns.length ≤ 63 ∧ vs.length = 1 ∧ ∃ a, vs = [V.ref a] ∧ SqL K H a (ns.map V.int) ∧ ∀ H', Q (.bl true) H') KX G.T.g G.T.b G.T.builtins G.T.nolimit hg hobj hints (Nat.le_trans hlen (by rw [sizeLine_eq]; decide)) hr
    (fun base h3 h4 => (h2 base h3 h4).imp fun vs H Q E ⟨ns, hl, _, a, e, hS, hq⟩ => ?_) hb (fun H hO hS => ⟨ns, hlen, rfl, a, rfl, hS, fun _ => rfl⟩) fun H e s' hc => by
      obtain ⟨_, _, _, _, _, _, _, _, _, _, _, _, z⟩ := hc
      exact z
  subst e
  obtain ⟨M, hM⟩ := hL ns hl
  refine ⟨rfl, [], [.dat (.scr ns)], [], [], .cons (.dat ?_) .nil, ⟨rfl, List.nodup_nil, fun a h => by simp at h, fun k a o h _ => by simp at h⟩, ?_⟩
  · rcases hS with e | ⟨o, its, n, e⟩
    · exact .scr (by simp) e
    · exact .kscr fun G => .inr ⟨o, its, n, e⟩
  · rw [hM]
    intro v H' μ' _ _ r
    cases r with | dat r => cases r; exact hq H'
end SD
set_option synthInstance.maxHeartbeats 0
set_option synthInstance.maxSize 100000
set_option Elab.async false
set_option linter.all false
set_option maxRecDepth 100000
set_option maxHeartbeats 4000000
namespace K04
open PySem PySem.Spec PyProof.Rows L2 SD
def topS (i : Nat) : Stmt := PySem.Challenge.pw_hungparts_k04_exceptions_and_their_field.main.body.getD i (.Pass ⟨0, 0, 0, 0⟩)
abbrev st__law_box : Stmt := topS 42
theorem sc__law_box : FnScope ["_law_cell_here"] ["_law_cell_here"] (defScope st__law_box) := ⟨rfl, rfl, rfl, by decide +kernel, rfl, by decide +kernel, by decide +kernel⟩
abbrev st__law_made : Stmt := topS 44
theorem sc__law_made : FnScope ["_law_thing", "_law_found"] ["_law_thing"] (defScope st__law_made) := ⟨rfl, rfl, rfl, by decide +kernel, rfl, by decide +kernel, by decide +kernel⟩
abbrev st__law_fields : Stmt := topS 46
theorem sc__law_fields : FnScope ["_law_made_here", "_law_told"] ["_law_made_here"] (defScope st__law_fields) := ⟨rfl, rfl, rfl, by decide +kernel, rfl, by decide +kernel, by decide +kernel⟩
abbrev st__law_cell : Stmt := topS 41
theorem sc__law_cell : FnScope ["_law_script", "_law_k"] ["_law_script", "_law_k"] (defScope st__law_cell) := ⟨rfl, rfl, rfl, by decide +kernel, rfl, by decide +kernel, by decide +kernel⟩
abbrev st__law_take : Stmt := topS 43
theorem sc__law_take : FnScope ["_law_box_here", "_law_many", "_law_number", "_law_digit"] ["_law_box_here", "_law_many"] (defScope st__law_take) := ⟨rfl, rfl, rfl, by decide +kernel, rfl, by decide +kernel, by decide +kernel⟩
abbrev st__law_classes : Stmt := topS 45
theorem sc__law_classes : FnScope ["_law_error", "_law_found", "_law_k"] ["_law_error"] (defScope st__law_classes) := ⟨rfl, rfl, rfl, by decide +kernel, rfl, by decide +kernel, by decide +kernel⟩
abbrev st__law_under : Stmt := topS 47
theorem sc__law_under : FnScope ["_law_error", "_law_above", "_law_beside"] ["_law_error"] (defScope st__law_under) := ⟨rfl, rfl, rfl, by decide +kernel, rfl, by decide +kernel, by decide +kernel⟩
abbrev st_law : Stmt := topS 48
theorem sc_law : FnScope ["_law_script", "_law_k", "_law_box_here", "_law_thing", "_law_made_here", "_law_told", "_law_at", "_law_item"] ["_law_script"] (defScope st_law) := ⟨rfl, rfl, rfl, by decide +kernel, rfl, by decide +kernel, by decide +kernel⟩
abbrev hdR : PySem.W.OpenRow := PySem.W.OpenLaw.row PySem.Challenge.rw_hungparts_k04_exceptions_and_their_field
def hdB0 (K : PySem.W.Frag) : Bool := decide (PySem.W.nsIn K PySem.cStatics "thirdparty.any" = some none) && (decide (PySem.W.nsIn K mainGlobals "_law_box" = some (some (.ref (hG K "_law_box")))) && (hB0 K (hG K "_law_box") "_law_box" && (PySem.W.keepIn K (.ref (hG K "_law_box")) && (decide (PySem.W.nsIn K mainGlobals "_law_made" = some (some (.ref (hG K "_law_made")))) && (hB0 K (hG K "_law_made") "_law_made" && (PySem.W.keepIn K (.ref (hG K "_law_made")) && (decide (PySem.W.nsIn K mainGlobals "_law_fields" = some (some (.ref (hG K "_law_fields")))) && (hB0 K (hG K "_law_fields") "_law_fields" && (PySem.W.keepIn K (.ref (hG K "_law_fields")) && (decide (PySem.W.nsIn K mainGlobals "_law_cell" = some (some (.ref (hG K "_law_cell")))) && (hB0 K (hG K "_law_cell") "_law_cell" && (PySem.W.keepIn K (.ref (hG K "_law_cell")) && (decide (PySem.W.nsIn K mainGlobals "_law_take" = some (some (.ref (hG K "_law_take")))))))))))))))))
def hdB1 (K : PySem.W.Frag) : Bool := hB0 K (hG K "_law_take") "_law_take" && (PySem.W.keepIn K (.ref (hG K "_law_take")) && (decide (PySem.W.nsIn K mainGlobals "_law_classes" = some (some (.ref (hG K "_law_classes")))) && (hB0 K (hG K "_law_classes") "_law_classes" && (PySem.W.keepIn K (.ref (hG K "_law_classes")) && (decide (PySem.W.nsIn K mainGlobals "_law_under" = some (some (.ref (hG K "_law_under")))) && (hB0 K (hG K "_law_under") "_law_under" && (PySem.W.keepIn K (.ref (hG K "_law_under")) && (decide (PySem.W.nsIn K mainGlobals "law" = some (some (.ref (hG K "law")))) && (hB0 K (hG K "law") "law" && (PySem.W.keepIn K (.ref (hG K "law")) && (decide (PySem.W.nsIn K mainGlobals "Duplicate" = some (some (.ref (hG K "Duplicate")))) && (hEx K (hG K "Duplicate") && (decide (PySem.W.findIn K (.ref (hG K "Duplicate")) "__setattr__" = some (some (.builtin "object.__setattr__"))))))))))))))))
def hdB2 (K : PySem.W.Frag) : Bool := decide (PySem.W.findIn K (.ref (hG K "Duplicate")) "__getattribute__" = some (some (.builtin "BaseException.__getattribute__"))) && (decide (PySem.W.findIn K (.ref (hG K "Duplicate")) "__getattr__" = some none) && (decide (PySem.W.findIn K (.ref (hG K "Duplicate")) "__init__" = some (some (.ref (hM K (hG K "Duplicate") "__init__")))) && (decide (PySem.W.typeIn K (.ref (hM K (hG K "Duplicate") "__init__")) = some (.type "function")) && (PySem.W.keepIn K (.ref (hG K "Duplicate")) && (decide (PySem.W.subIn K (.ref (hG K "Duplicate")) (.type "BaseException") = some true) && (decide (PySem.W.typeIn K (.ref (hG K "Duplicate")) = some (.type "type")) && (PySem.W.hasDictIn K (hG K "Duplicate") && (decide (PySem.W.subIn K (.ref (hG K "Duplicate")) (.type "ValueError") = some true) && (PySem.W.excInitIn K (hG K "Duplicate") SX.veL "ValueError.__new__" && (decide (PySem.W.ks_superIn K (hG K "Duplicate") (hG K "Duplicate") "__init__" = some (some (.builtin "ValueError.__init__"))) && (decide (PySem.W.mroIn K (hG K "Duplicate") (.ref (hG K "Duplicate")) = some true) && (hB2 K (hM K (hG K "Duplicate") "__init__") (hG K "Duplicate") "Duplicate.__init__" hdR.prog.main.file && (decide (PySem.W.findIn K (.ref (hG K "Duplicate")) "name" = some none))))))))))))))
def hdB3 (K : PySem.W.Frag) : Bool := decide (PySem.W.nsIn K mainGlobals "Ended" = some (some (.ref (hG K "Ended")))) && (hEx K (hG K "Ended") && (decide (PySem.W.findIn K (.ref (hG K "Ended")) "__setattr__" = some (some (.builtin "object.__setattr__"))) && (decide (PySem.W.findIn K (.ref (hG K "Ended")) "__getattribute__" = some (some (.builtin "BaseException.__getattribute__"))) && (decide (PySem.W.findIn K (.ref (hG K "Ended")) "__getattr__" = some none) && (decide (PySem.W.findIn K (.ref (hG K "Ended")) "__init__" = some (some (.ref (hM K (hG K "Ended") "__init__")))) && (decide (PySem.W.typeIn K (.ref (hM K (hG K "Ended") "__init__")) = some (.type "function")) && (PySem.W.keepIn K (.ref (hG K "Ended")) && (decide (PySem.W.subIn K (.ref (hG K "Ended")) (.type "BaseException") = some true) && (decide (PySem.W.typeIn K (.ref (hG K "Ended")) = some (.type "type")) && (PySem.W.hasDictIn K (hG K "Ended") && (decide (PySem.W.subIn K (.ref (hG K "Ended")) (.type "ValueError") = some true) && (PySem.W.excInitIn K (hG K "Ended") SX.veL "ValueError.__new__" && (decide (PySem.W.ks_superIn K (hG K "Ended") (hG K "Ended") "__init__" = some (some (.builtin "ValueError.__init__"))))))))))))))))
def hdB4 (K : PySem.W.Frag) : Bool := decide (PySem.W.mroIn K (hG K "Ended") (.ref (hG K "Ended")) = some true) && (hB2 K (hM K (hG K "Ended") "__init__") (hG K "Ended") "Ended.__init__" hdR.prog.main.file && (decide (PySem.W.findIn K (.ref (hG K "Ended")) "number" = some none) && (decide (PySem.W.nsIn K mainGlobals "InvalidCatalog" = some (some (.ref (hG K "InvalidCatalog")))) && (hEx K (hG K "InvalidCatalog") && (decide (PySem.W.findIn K (.ref (hG K "InvalidCatalog")) "__setattr__" = some (some (.builtin "object.__setattr__"))) && (decide (PySem.W.findIn K (.ref (hG K "InvalidCatalog")) "__getattribute__" = some (some (.builtin "BaseException.__getattribute__"))) && (decide (PySem.W.findIn K (.ref (hG K "InvalidCatalog")) "__getattr__" = some none) && (decide (PySem.W.findIn K (.ref (hG K "InvalidCatalog")) "__init__" = some (some (.ref (hM K (hG K "InvalidCatalog") "__init__")))) && (decide (PySem.W.typeIn K (.ref (hM K (hG K "InvalidCatalog") "__init__")) = some (.type "function")) && (PySem.W.keepIn K (.ref (hG K "InvalidCatalog")) && (decide (PySem.W.subIn K (.ref (hG K "InvalidCatalog")) (.type "BaseException") = some true) && (decide (PySem.W.typeIn K (.ref (hG K "InvalidCatalog")) = some (.type "type")) && (PySem.W.hasDictIn K (hG K "InvalidCatalog"))))))))))))))
def hdB5 (K : PySem.W.Frag) : Bool := decide (PySem.W.subIn K (.ref (hG K "InvalidCatalog")) (.type "ValueError") = some true) && (PySem.W.excInitIn K (hG K "InvalidCatalog") SX.veL "ValueError.__new__" && (decide (PySem.W.ks_superIn K (hG K "InvalidCatalog") (hG K "InvalidCatalog") "__init__" = some (some (.builtin "ValueError.__init__"))) && (decide (PySem.W.mroIn K (hG K "InvalidCatalog") (.ref (hG K "InvalidCatalog")) = some true) && (hB2 K (hM K (hG K "InvalidCatalog") "__init__") (hG K "InvalidCatalog") "InvalidCatalog.__init__" hdR.prog.main.file && (decide (PySem.W.findIn K (.ref (hG K "InvalidCatalog")) "value" = some none) && (decide (PySem.W.nsIn K mainGlobals "InvalidChange" = some (some (.ref (hG K "InvalidChange")))) && (hEx K (hG K "InvalidChange") && (decide (PySem.W.findIn K (.ref (hG K "InvalidChange")) "__setattr__" = some (some (.builtin "object.__setattr__"))) && (decide (PySem.W.findIn K (.ref (hG K "InvalidChange")) "__getattribute__" = some (some (.builtin "BaseException.__getattribute__"))) && (decide (PySem.W.findIn K (.ref (hG K "InvalidChange")) "__getattr__" = some none) && (decide (PySem.W.findIn K (.ref (hG K "InvalidChange")) "__init__" = some (some (.ref (hM K (hG K "InvalidChange") "__init__")))) && (decide (PySem.W.typeIn K (.ref (hM K (hG K "InvalidChange") "__init__")) = some (.type "function")) && (PySem.W.keepIn K (.ref (hG K "InvalidChange")))))))))))))))
def hdB6 (K : PySem.W.Frag) : Bool := decide (PySem.W.subIn K (.ref (hG K "InvalidChange")) (.type "BaseException") = some true) && (decide (PySem.W.typeIn K (.ref (hG K "InvalidChange")) = some (.type "type")) && (PySem.W.hasDictIn K (hG K "InvalidChange") && (decide (PySem.W.subIn K (.ref (hG K "InvalidChange")) (.type "ValueError") = some true) && (PySem.W.excInitIn K (hG K "InvalidChange") SX.veL "ValueError.__new__" && (decide (PySem.W.ks_superIn K (hG K "InvalidChange") (hG K "InvalidChange") "__init__" = some (some (.builtin "ValueError.__init__"))) && (decide (PySem.W.mroIn K (hG K "InvalidChange") (.ref (hG K "InvalidChange")) = some true) && (hB2 K (hM K (hG K "InvalidChange") "__init__") (hG K "InvalidChange") "InvalidChange.__init__" hdR.prog.main.file && (decide (PySem.W.findIn K (.ref (hG K "InvalidChange")) "value" = some none) && (decide (PySem.W.nsIn K mainGlobals "InvalidClash" = some (some (.ref (hG K "InvalidClash")))) && (hEx K (hG K "InvalidClash") && (decide (PySem.W.findIn K (.ref (hG K "InvalidClash")) "__setattr__" = some (some (.builtin "object.__setattr__"))) && (decide (PySem.W.findIn K (.ref (hG K "InvalidClash")) "__getattribute__" = some (some (.builtin "BaseException.__getattribute__"))) && (decide (PySem.W.findIn K (.ref (hG K "InvalidClash")) "__getattr__" = some none))))))))))))))
def hdB7 (K : PySem.W.Frag) : Bool := decide (PySem.W.findIn K (.ref (hG K "InvalidClash")) "__init__" = some (some (.ref (hM K (hG K "InvalidClash") "__init__")))) && (decide (PySem.W.typeIn K (.ref (hM K (hG K "InvalidClash") "__init__")) = some (.type "function")) && (PySem.W.keepIn K (.ref (hG K "InvalidClash")) && (decide (PySem.W.subIn K (.ref (hG K "InvalidClash")) (.type "BaseException") = some true) && (decide (PySem.W.typeIn K (.ref (hG K "InvalidClash")) = some (.type "type")) && (PySem.W.hasDictIn K (hG K "InvalidClash") && (decide (PySem.W.subIn K (.ref (hG K "InvalidClash")) (.type "ValueError") = some true) && (PySem.W.excInitIn K (hG K "InvalidClash") SX.veL "ValueError.__new__" && (decide (PySem.W.ks_superIn K (hG K "InvalidClash") (hG K "InvalidClash") "__init__" = some (some (.builtin "ValueError.__init__"))) && (decide (PySem.W.mroIn K (hG K "InvalidClash") (.ref (hG K "InvalidClash")) = some true) && (hB2 K (hM K (hG K "InvalidClash") "__init__") (hG K "InvalidClash") "InvalidClash.__init__" hdR.prog.main.file && (decide (PySem.W.findIn K (.ref (hG K "InvalidClash")) "value" = some none) && (decide (PySem.W.nsIn K mainGlobals "InvalidCommand" = some (some (.ref (hG K "InvalidCommand")))) && (hEx K (hG K "InvalidCommand"))))))))))))))
def hdB8 (K : PySem.W.Frag) : Bool := decide (PySem.W.findIn K (.ref (hG K "InvalidCommand")) "__setattr__" = some (some (.builtin "object.__setattr__"))) && (decide (PySem.W.findIn K (.ref (hG K "InvalidCommand")) "__getattribute__" = some (some (.builtin "BaseException.__getattribute__"))) && (decide (PySem.W.findIn K (.ref (hG K "InvalidCommand")) "__getattr__" = some none) && (decide (PySem.W.findIn K (.ref (hG K "InvalidCommand")) "__init__" = some (some (.ref (hM K (hG K "InvalidCommand") "__init__")))) && (decide (PySem.W.typeIn K (.ref (hM K (hG K "InvalidCommand") "__init__")) = some (.type "function")) && (PySem.W.keepIn K (.ref (hG K "InvalidCommand")) && (decide (PySem.W.subIn K (.ref (hG K "InvalidCommand")) (.type "BaseException") = some true) && (decide (PySem.W.typeIn K (.ref (hG K "InvalidCommand")) = some (.type "type")) && (PySem.W.hasDictIn K (hG K "InvalidCommand") && (decide (PySem.W.subIn K (.ref (hG K "InvalidCommand")) (.type "ValueError") = some true) && (PySem.W.excInitIn K (hG K "InvalidCommand") SX.veL "ValueError.__new__" && (decide (PySem.W.ks_superIn K (hG K "InvalidCommand") (hG K "InvalidCommand") "__init__" = some (some (.builtin "ValueError.__init__"))) && (decide (PySem.W.mroIn K (hG K "InvalidCommand") (.ref (hG K "InvalidCommand")) = some true) && (hB2 K (hM K (hG K "InvalidCommand") "__init__") (hG K "InvalidCommand") "InvalidCommand.__init__" hdR.prog.main.file)))))))))))))
def hdB9 (K : PySem.W.Frag) : Bool := decide (PySem.W.findIn K (.ref (hG K "InvalidCommand")) "value" = some none) && (decide (PySem.W.nsIn K mainGlobals "InvalidKey" = some (some (.ref (hG K "InvalidKey")))) && (hEx K (hG K "InvalidKey") && (decide (PySem.W.findIn K (.ref (hG K "InvalidKey")) "__setattr__" = some (some (.builtin "object.__setattr__"))) && (decide (PySem.W.findIn K (.ref (hG K "InvalidKey")) "__getattribute__" = some (some (.builtin "BaseException.__getattribute__"))) && (decide (PySem.W.findIn K (.ref (hG K "InvalidKey")) "__getattr__" = some none) && (decide (PySem.W.findIn K (.ref (hG K "InvalidKey")) "__init__" = some (some (.ref (hM K (hG K "InvalidKey") "__init__")))) && (decide (PySem.W.typeIn K (.ref (hM K (hG K "InvalidKey") "__init__")) = some (.type "function")) && (PySem.W.keepIn K (.ref (hG K "InvalidKey")) && (decide (PySem.W.subIn K (.ref (hG K "InvalidKey")) (.type "BaseException") = some true) && (decide (PySem.W.typeIn K (.ref (hG K "InvalidKey")) = some (.type "type")) && (PySem.W.hasDictIn K (hG K "InvalidKey") && (decide (PySem.W.subIn K (.ref (hG K "InvalidKey")) (.type "ValueError") = some true) && (PySem.W.excInitIn K (hG K "InvalidKey") SX.veL "ValueError.__new__")))))))))))))
def hdB10 (K : PySem.W.Frag) : Bool := decide (PySem.W.ks_superIn K (hG K "InvalidKey") (hG K "InvalidKey") "__init__" = some (some (.builtin "ValueError.__init__"))) && (decide (PySem.W.mroIn K (hG K "InvalidKey") (.ref (hG K "InvalidKey")) = some true) && (hB2 K (hM K (hG K "InvalidKey") "__init__") (hG K "InvalidKey") "InvalidKey.__init__" hdR.prog.main.file && (decide (PySem.W.findIn K (.ref (hG K "InvalidKey")) "value" = some none) && (decide (PySem.W.nsIn K mainGlobals "InvalidLog" = some (some (.ref (hG K "InvalidLog")))) && (hEx K (hG K "InvalidLog") && (decide (PySem.W.findIn K (.ref (hG K "InvalidLog")) "__setattr__" = some (some (.builtin "object.__setattr__"))) && (decide (PySem.W.findIn K (.ref (hG K "InvalidLog")) "__getattribute__" = some (some (.builtin "BaseException.__getattribute__"))) && (decide (PySem.W.findIn K (.ref (hG K "InvalidLog")) "__getattr__" = some none) && (decide (PySem.W.findIn K (.ref (hG K "InvalidLog")) "__init__" = some (some (.ref (hM K (hG K "InvalidLog") "__init__")))) && (decide (PySem.W.typeIn K (.ref (hM K (hG K "InvalidLog") "__init__")) = some (.type "function")) && (PySem.W.keepIn K (.ref (hG K "InvalidLog")) && (decide (PySem.W.subIn K (.ref (hG K "InvalidLog")) (.type "BaseException") = some true) && (decide (PySem.W.typeIn K (.ref (hG K "InvalidLog")) = some (.type "type")))))))))))))))
def hdB11 (K : PySem.W.Frag) : Bool := PySem.W.hasDictIn K (hG K "InvalidLog") && (decide (PySem.W.subIn K (.ref (hG K "InvalidLog")) (.type "ValueError") = some true) && (PySem.W.excInitIn K (hG K "InvalidLog") SX.veL "ValueError.__new__" && (decide (PySem.W.ks_superIn K (hG K "InvalidLog") (hG K "InvalidLog") "__init__" = some (some (.builtin "ValueError.__init__"))) && (decide (PySem.W.mroIn K (hG K "InvalidLog") (.ref (hG K "InvalidLog")) = some true) && (hB2 K (hM K (hG K "InvalidLog") "__init__") (hG K "InvalidLog") "InvalidLog.__init__" hdR.prog.main.file && (decide (PySem.W.findIn K (.ref (hG K "InvalidLog")) "value" = some none) && (decide (PySem.W.nsIn K mainGlobals "InvalidModes" = some (some (.ref (hG K "InvalidModes")))) && (hEx K (hG K "InvalidModes") && (decide (PySem.W.findIn K (.ref (hG K "InvalidModes")) "__setattr__" = some (some (.builtin "object.__setattr__"))) && (decide (PySem.W.findIn K (.ref (hG K "InvalidModes")) "__getattribute__" = some (some (.builtin "BaseException.__getattribute__"))) && (decide (PySem.W.findIn K (.ref (hG K "InvalidModes")) "__getattr__" = some none) && (decide (PySem.W.findIn K (.ref (hG K "InvalidModes")) "__init__" = some (some (.ref (hM K (hG K "InvalidModes") "__init__")))) && (decide (PySem.W.typeIn K (.ref (hM K (hG K "InvalidModes") "__init__")) = some (.type "function")))))))))))))))
def hdB12 (K : PySem.W.Frag) : Bool := PySem.W.keepIn K (.ref (hG K "InvalidModes")) && (decide (PySem.W.subIn K (.ref (hG K "InvalidModes")) (.type "BaseException") = some true) && (decide (PySem.W.typeIn K (.ref (hG K "InvalidModes")) = some (.type "type")) && (PySem.W.hasDictIn K (hG K "InvalidModes") && (decide (PySem.W.subIn K (.ref (hG K "InvalidModes")) (.type "ValueError") = some true) && (PySem.W.excInitIn K (hG K "InvalidModes") SX.veL "ValueError.__new__" && (decide (PySem.W.ks_superIn K (hG K "InvalidModes") (hG K "InvalidModes") "__init__" = some (some (.builtin "ValueError.__init__"))) && (decide (PySem.W.mroIn K (hG K "InvalidModes") (.ref (hG K "InvalidModes")) = some true) && (hB2 K (hM K (hG K "InvalidModes") "__init__") (hG K "InvalidModes") "InvalidModes.__init__" hdR.prog.main.file && (decide (PySem.W.findIn K (.ref (hG K "InvalidModes")) "value" = some none) && (decide (PySem.W.nsIn K mainGlobals "InvalidName" = some (some (.ref (hG K "InvalidName")))) && (hEx K (hG K "InvalidName") && (decide (PySem.W.findIn K (.ref (hG K "InvalidName")) "__setattr__" = some (some (.builtin "object.__setattr__"))) && (decide (PySem.W.findIn K (.ref (hG K "InvalidName")) "__getattribute__" = some (some (.builtin "BaseException.__getattribute__"))))))))))))))))
def hdB13 (K : PySem.W.Frag) : Bool := decide (PySem.W.findIn K (.ref (hG K "InvalidName")) "__getattr__" = some none) && (decide (PySem.W.findIn K (.ref (hG K "InvalidName")) "__init__" = some (some (.ref (hM K (hG K "InvalidName") "__init__")))) && (decide (PySem.W.typeIn K (.ref (hM K (hG K "InvalidName") "__init__")) = some (.type "function")) && (PySem.W.keepIn K (.ref (hG K "InvalidName")) && (decide (PySem.W.subIn K (.ref (hG K "InvalidName")) (.type "BaseException") = some true) && (decide (PySem.W.typeIn K (.ref (hG K "InvalidName")) = some (.type "type")) && (PySem.W.hasDictIn K (hG K "InvalidName") && (decide (PySem.W.subIn K (.ref (hG K "InvalidName")) (.type "ValueError") = some true) && (PySem.W.excInitIn K (hG K "InvalidName") SX.veL "ValueError.__new__" && (decide (PySem.W.ks_superIn K (hG K "InvalidName") (hG K "InvalidName") "__init__" = some (some (.builtin "ValueError.__init__"))) && (decide (PySem.W.mroIn K (hG K "InvalidName") (.ref (hG K "InvalidName")) = some true) && (hB2 K (hM K (hG K "InvalidName") "__init__") (hG K "InvalidName") "InvalidName.__init__" hdR.prog.main.file && (decide (PySem.W.findIn K (.ref (hG K "InvalidName")) "value" = some none) && (decide (PySem.W.nsIn K mainGlobals "InvalidNumber" = some (some (.ref (hG K "InvalidNumber")))))))))))))))))
def hdB14 (K : PySem.W.Frag) : Bool := hEx K (hG K "InvalidNumber") && (decide (PySem.W.findIn K (.ref (hG K "InvalidNumber")) "__setattr__" = some (some (.builtin "object.__setattr__"))) && (decide (PySem.W.findIn K (.ref (hG K "InvalidNumber")) "__getattribute__" = some (some (.builtin "BaseException.__getattribute__"))) && (decide (PySem.W.findIn K (.ref (hG K "InvalidNumber")) "__getattr__" = some none) && (decide (PySem.W.findIn K (.ref (hG K "InvalidNumber")) "__init__" = some (some (.ref (hM K (hG K "InvalidNumber") "__init__")))) && (decide (PySem.W.typeIn K (.ref (hM K (hG K "InvalidNumber") "__init__")) = some (.type "function")) && (PySem.W.keepIn K (.ref (hG K "InvalidNumber")) && (decide (PySem.W.subIn K (.ref (hG K "InvalidNumber")) (.type "BaseException") = some true) && (decide (PySem.W.typeIn K (.ref (hG K "InvalidNumber")) = some (.type "type")) && (PySem.W.hasDictIn K (hG K "InvalidNumber") && (decide (PySem.W.subIn K (.ref (hG K "InvalidNumber")) (.type "ValueError") = some true) && (PySem.W.excInitIn K (hG K "InvalidNumber") SX.veL "ValueError.__new__" && (decide (PySem.W.ks_superIn K (hG K "InvalidNumber") (hG K "InvalidNumber") "__init__" = some (some (.builtin "ValueError.__init__"))) && (decide (PySem.W.mroIn K (hG K "InvalidNumber") (.ref (hG K "InvalidNumber")) = some true))))))))))))))
def hdB15 (K : PySem.W.Frag) : Bool := hB2 K (hM K (hG K "InvalidNumber") "__init__") (hG K "InvalidNumber") "InvalidNumber.__init__" hdR.prog.main.file && (decide (PySem.W.findIn K (.ref (hG K "InvalidNumber")) "value" = some none) && (decide (PySem.W.nsIn K mainGlobals "InvalidProgram" = some (some (.ref (hG K "InvalidProgram")))) && (hEx K (hG K "InvalidProgram") && (decide (PySem.W.findIn K (.ref (hG K "InvalidProgram")) "__setattr__" = some (some (.builtin "object.__setattr__"))) && (decide (PySem.W.findIn K (.ref (hG K "InvalidProgram")) "__getattribute__" = some (some (.builtin "BaseException.__getattribute__"))) && (decide (PySem.W.findIn K (.ref (hG K "InvalidProgram")) "__getattr__" = some none) && (decide (PySem.W.findIn K (.ref (hG K "InvalidProgram")) "__init__" = some (some (.ref (hM K (hG K "InvalidProgram") "__init__")))) && (decide (PySem.W.typeIn K (.ref (hM K (hG K "InvalidProgram") "__init__")) = some (.type "function")) && (PySem.W.keepIn K (.ref (hG K "InvalidProgram")) && (decide (PySem.W.subIn K (.ref (hG K "InvalidProgram")) (.type "BaseException") = some true) && (decide (PySem.W.typeIn K (.ref (hG K "InvalidProgram")) = some (.type "type")) && (PySem.W.hasDictIn K (hG K "InvalidProgram") && (decide (PySem.W.subIn K (.ref (hG K "InvalidProgram")) (.type "ValueError") = some true))))))))))))))
def hdB16 (K : PySem.W.Frag) : Bool := PySem.W.excInitIn K (hG K "InvalidProgram") SX.veL "ValueError.__new__" && (decide (PySem.W.ks_superIn K (hG K "InvalidProgram") (hG K "InvalidProgram") "__init__" = some (some (.builtin "ValueError.__init__"))) && (decide (PySem.W.mroIn K (hG K "InvalidProgram") (.ref (hG K "InvalidProgram")) = some true) && (hB2 K (hM K (hG K "InvalidProgram") "__init__") (hG K "InvalidProgram") "InvalidProgram.__init__" hdR.prog.main.file && (decide (PySem.W.findIn K (.ref (hG K "InvalidProgram")) "value" = some none) && (decide (PySem.W.nsIn K mainGlobals "InvalidPrograms" = some (some (.ref (hG K "InvalidPrograms")))) && (hEx K (hG K "InvalidPrograms") && (decide (PySem.W.findIn K (.ref (hG K "InvalidPrograms")) "__setattr__" = some (some (.builtin "object.__setattr__"))) && (decide (PySem.W.findIn K (.ref (hG K "InvalidPrograms")) "__getattribute__" = some (some (.builtin "BaseException.__getattribute__"))) && (decide (PySem.W.findIn K (.ref (hG K "InvalidPrograms")) "__getattr__" = some none) && (decide (PySem.W.findIn K (.ref (hG K "InvalidPrograms")) "__init__" = some (some (.ref (hM K (hG K "InvalidPrograms") "__init__")))) && (decide (PySem.W.typeIn K (.ref (hM K (hG K "InvalidPrograms") "__init__")) = some (.type "function")) && (PySem.W.keepIn K (.ref (hG K "InvalidPrograms")) && (decide (PySem.W.subIn K (.ref (hG K "InvalidPrograms")) (.type "BaseException") = some true))))))))))))))
def hdB17 (K : PySem.W.Frag) : Bool := decide (PySem.W.typeIn K (.ref (hG K "InvalidPrograms")) = some (.type "type")) && (PySem.W.hasDictIn K (hG K "InvalidPrograms") && (decide (PySem.W.subIn K (.ref (hG K "InvalidPrograms")) (.type "ValueError") = some true) && (PySem.W.excInitIn K (hG K "InvalidPrograms") SX.veL "ValueError.__new__" && (decide (PySem.W.ks_superIn K (hG K "InvalidPrograms") (hG K "InvalidPrograms") "__init__" = some (some (.builtin "ValueError.__init__"))) && (decide (PySem.W.mroIn K (hG K "InvalidPrograms") (.ref (hG K "InvalidPrograms")) = some true) && (hB2 K (hM K (hG K "InvalidPrograms") "__init__") (hG K "InvalidPrograms") "InvalidPrograms.__init__" hdR.prog.main.file && (decide (PySem.W.findIn K (.ref (hG K "InvalidPrograms")) "value" = some none) && (decide (PySem.W.nsIn K mainGlobals "InvalidProtocol" = some (some (.ref (hG K "InvalidProtocol")))) && (hEx K (hG K "InvalidProtocol") && (decide (PySem.W.findIn K (.ref (hG K "InvalidProtocol")) "__setattr__" = some (some (.builtin "object.__setattr__"))) && (decide (PySem.W.findIn K (.ref (hG K "InvalidProtocol")) "__getattribute__" = some (some (.builtin "BaseException.__getattribute__"))) && (decide (PySem.W.findIn K (.ref (hG K "InvalidProtocol")) "__getattr__" = some none) && (decide (PySem.W.findIn K (.ref (hG K "InvalidProtocol")) "__init__" = some (some (.ref (hM K (hG K "InvalidProtocol") "__init__")))))))))))))))))
def hdB18 (K : PySem.W.Frag) : Bool := decide (PySem.W.typeIn K (.ref (hM K (hG K "InvalidProtocol") "__init__")) = some (.type "function")) && (PySem.W.keepIn K (.ref (hG K "InvalidProtocol")) && (decide (PySem.W.subIn K (.ref (hG K "InvalidProtocol")) (.type "BaseException") = some true) && (decide (PySem.W.typeIn K (.ref (hG K "InvalidProtocol")) = some (.type "type")) && (PySem.W.hasDictIn K (hG K "InvalidProtocol") && (decide (PySem.W.subIn K (.ref (hG K "InvalidProtocol")) (.type "ValueError") = some true) && (PySem.W.excInitIn K (hG K "InvalidProtocol") SX.veL "ValueError.__new__" && (decide (PySem.W.ks_superIn K (hG K "InvalidProtocol") (hG K "InvalidProtocol") "__init__" = some (some (.builtin "ValueError.__init__"))) && (decide (PySem.W.mroIn K (hG K "InvalidProtocol") (.ref (hG K "InvalidProtocol")) = some true) && (hB2 K (hM K (hG K "InvalidProtocol") "__init__") (hG K "InvalidProtocol") "InvalidProtocol.__init__" hdR.prog.main.file && (decide (PySem.W.findIn K (.ref (hG K "InvalidProtocol")) "value" = some none) && (decide (PySem.W.nsIn K mainGlobals "InvalidRows" = some (some (.ref (hG K "InvalidRows")))) && (hEx K (hG K "InvalidRows") && (decide (PySem.W.findIn K (.ref (hG K "InvalidRows")) "__setattr__" = some (some (.builtin "object.__setattr__"))))))))))))))))
def hdB19 (K : PySem.W.Frag) : Bool := decide (PySem.W.findIn K (.ref (hG K "InvalidRows")) "__getattribute__" = some (some (.builtin "BaseException.__getattribute__"))) && (decide (PySem.W.findIn K (.ref (hG K "InvalidRows")) "__getattr__" = some none) && (decide (PySem.W.findIn K (.ref (hG K "InvalidRows")) "__init__" = some (some (.ref (hM K (hG K "InvalidRows") "__init__")))) && (decide (PySem.W.typeIn K (.ref (hM K (hG K "InvalidRows") "__init__")) = some (.type "function")) && (PySem.W.keepIn K (.ref (hG K "InvalidRows")) && (decide (PySem.W.subIn K (.ref (hG K "InvalidRows")) (.type "BaseException") = some true) && (decide (PySem.W.typeIn K (.ref (hG K "InvalidRows")) = some (.type "type")) && (PySem.W.hasDictIn K (hG K "InvalidRows") && (decide (PySem.W.subIn K (.ref (hG K "InvalidRows")) (.type "ValueError") = some true) && (PySem.W.excInitIn K (hG K "InvalidRows") SX.veL "ValueError.__new__" && (decide (PySem.W.ks_superIn K (hG K "InvalidRows") (hG K "InvalidRows") "__init__" = some (some (.builtin "ValueError.__init__"))) && (decide (PySem.W.mroIn K (hG K "InvalidRows") (.ref (hG K "InvalidRows")) = some true) && (hB2 K (hM K (hG K "InvalidRows") "__init__") (hG K "InvalidRows") "InvalidRows.__init__" hdR.prog.main.file && (decide (PySem.W.findIn K (.ref (hG K "InvalidRows")) "value" = some none))))))))))))))
def hdB20 (K : PySem.W.Frag) : Bool := decide (PySem.W.nsIn K mainGlobals "InvalidScene" = some (some (.ref (hG K "InvalidScene")))) && (hEx K (hG K "InvalidScene") && (decide (PySem.W.findIn K (.ref (hG K "InvalidScene")) "__setattr__" = some (some (.builtin "object.__setattr__"))) && (decide (PySem.W.findIn K (.ref (hG K "InvalidScene")) "__getattribute__" = some (some (.builtin "BaseException.__getattribute__"))) && (decide (PySem.W.findIn K (.ref (hG K "InvalidScene")) "__getattr__" = some none) && (decide (PySem.W.findIn K (.ref (hG K "InvalidScene")) "__init__" = some (some (.ref (hM K (hG K "InvalidScene") "__init__")))) && (decide (PySem.W.typeIn K (.ref (hM K (hG K "InvalidScene") "__init__")) = some (.type "function")) && (PySem.W.keepIn K (.ref (hG K "InvalidScene")) && (decide (PySem.W.subIn K (.ref (hG K "InvalidScene")) (.type "BaseException") = some true) && (decide (PySem.W.typeIn K (.ref (hG K "InvalidScene")) = some (.type "type")) && (PySem.W.hasDictIn K (hG K "InvalidScene") && (decide (PySem.W.subIn K (.ref (hG K "InvalidScene")) (.type "ValueError") = some true) && (PySem.W.excInitIn K (hG K "InvalidScene") SX.veL "ValueError.__new__" && (decide (PySem.W.ks_superIn K (hG K "InvalidScene") (hG K "InvalidScene") "__init__" = some (some (.builtin "ValueError.__init__"))))))))))))))))
def hdB21 (K : PySem.W.Frag) : Bool := decide (PySem.W.mroIn K (hG K "InvalidScene") (.ref (hG K "InvalidScene")) = some true) && (hB2 K (hM K (hG K "InvalidScene") "__init__") (hG K "InvalidScene") "InvalidScene.__init__" hdR.prog.main.file && (decide (PySem.W.findIn K (.ref (hG K "InvalidScene")) "value" = some none) && (decide (PySem.W.nsIn K mainGlobals "InvalidSession" = some (some (.ref (hG K "InvalidSession")))) && (hEx K (hG K "InvalidSession") && (decide (PySem.W.findIn K (.ref (hG K "InvalidSession")) "__setattr__" = some (some (.builtin "object.__setattr__"))) && (decide (PySem.W.findIn K (.ref (hG K "InvalidSession")) "__getattribute__" = some (some (.builtin "BaseException.__getattribute__"))) && (decide (PySem.W.findIn K (.ref (hG K "InvalidSession")) "__getattr__" = some none) && (decide (PySem.W.findIn K (.ref (hG K "InvalidSession")) "__init__" = some (some (.ref (hM K (hG K "InvalidSession") "__init__")))) && (decide (PySem.W.typeIn K (.ref (hM K (hG K "InvalidSession") "__init__")) = some (.type "function")) && (PySem.W.keepIn K (.ref (hG K "InvalidSession")) && (decide (PySem.W.subIn K (.ref (hG K "InvalidSession")) (.type "BaseException") = some true) && (decide (PySem.W.typeIn K (.ref (hG K "InvalidSession")) = some (.type "type")) && (PySem.W.hasDictIn K (hG K "InvalidSession"))))))))))))))
def hdB22 (K : PySem.W.Frag) : Bool := decide (PySem.W.subIn K (.ref (hG K "InvalidSession")) (.type "ValueError") = some true) && (PySem.W.excInitIn K (hG K "InvalidSession") SX.veL "ValueError.__new__" && (decide (PySem.W.ks_superIn K (hG K "InvalidSession") (hG K "InvalidSession") "__init__" = some (some (.builtin "ValueError.__init__"))) && (decide (PySem.W.mroIn K (hG K "InvalidSession") (.ref (hG K "InvalidSession")) = some true) && (hB2 K (hM K (hG K "InvalidSession") "__init__") (hG K "InvalidSession") "InvalidSession.__init__" hdR.prog.main.file && (decide (PySem.W.findIn K (.ref (hG K "InvalidSession")) "value" = some none) && (decide (PySem.W.nsIn K mainGlobals "InvalidSpan" = some (some (.ref (hG K "InvalidSpan")))) && (hEx K (hG K "InvalidSpan") && (decide (PySem.W.findIn K (.ref (hG K "InvalidSpan")) "__setattr__" = some (some (.builtin "object.__setattr__"))) && (decide (PySem.W.findIn K (.ref (hG K "InvalidSpan")) "__getattribute__" = some (some (.builtin "BaseException.__getattribute__"))) && (decide (PySem.W.findIn K (.ref (hG K "InvalidSpan")) "__getattr__" = some none) && (decide (PySem.W.findIn K (.ref (hG K "InvalidSpan")) "__init__" = some (some (.ref (hM K (hG K "InvalidSpan") "__init__")))) && (decide (PySem.W.typeIn K (.ref (hM K (hG K "InvalidSpan") "__init__")) = some (.type "function")) && (PySem.W.keepIn K (.ref (hG K "InvalidSpan")))))))))))))))
def hdB23 (K : PySem.W.Frag) : Bool := decide (PySem.W.subIn K (.ref (hG K "InvalidSpan")) (.type "BaseException") = some true) && (decide (PySem.W.typeIn K (.ref (hG K "InvalidSpan")) = some (.type "type")) && (PySem.W.hasDictIn K (hG K "InvalidSpan") && (decide (PySem.W.subIn K (.ref (hG K "InvalidSpan")) (.type "ValueError") = some true) && (PySem.W.excInitIn K (hG K "InvalidSpan") SX.veL "ValueError.__new__" && (decide (PySem.W.ks_superIn K (hG K "InvalidSpan") (hG K "InvalidSpan") "__init__" = some (some (.builtin "ValueError.__init__"))) && (decide (PySem.W.mroIn K (hG K "InvalidSpan") (.ref (hG K "InvalidSpan")) = some true) && (hB2 K (hM K (hG K "InvalidSpan") "__init__") (hG K "InvalidSpan") "InvalidSpan.__init__" hdR.prog.main.file && (decide (PySem.W.findIn K (.ref (hG K "InvalidSpan")) "value" = some none) && (decide (PySem.W.nsIn K mainGlobals "InvalidSpans" = some (some (.ref (hG K "InvalidSpans")))) && (hEx K (hG K "InvalidSpans") && (decide (PySem.W.findIn K (.ref (hG K "InvalidSpans")) "__setattr__" = some (some (.builtin "object.__setattr__"))) && (decide (PySem.W.findIn K (.ref (hG K "InvalidSpans")) "__getattribute__" = some (some (.builtin "BaseException.__getattribute__"))) && (decide (PySem.W.findIn K (.ref (hG K "InvalidSpans")) "__getattr__" = some none))))))))))))))
def hdB24 (K : PySem.W.Frag) : Bool := decide (PySem.W.findIn K (.ref (hG K "InvalidSpans")) "__init__" = some (some (.ref (hM K (hG K "InvalidSpans") "__init__")))) && (decide (PySem.W.typeIn K (.ref (hM K (hG K "InvalidSpans") "__init__")) = some (.type "function")) && (PySem.W.keepIn K (.ref (hG K "InvalidSpans")) && (decide (PySem.W.subIn K (.ref (hG K "InvalidSpans")) (.type "BaseException") = some true) && (decide (PySem.W.typeIn K (.ref (hG K "InvalidSpans")) = some (.type "type")) && (PySem.W.hasDictIn K (hG K "InvalidSpans") && (decide (PySem.W.subIn K (.ref (hG K "InvalidSpans")) (.type "ValueError") = some true) && (PySem.W.excInitIn K (hG K "InvalidSpans") SX.veL "ValueError.__new__" && (decide (PySem.W.ks_superIn K (hG K "InvalidSpans") (hG K "InvalidSpans") "__init__" = some (some (.builtin "ValueError.__init__"))) && (decide (PySem.W.mroIn K (hG K "InvalidSpans") (.ref (hG K "InvalidSpans")) = some true) && (hB2 K (hM K (hG K "InvalidSpans") "__init__") (hG K "InvalidSpans") "InvalidSpans.__init__" hdR.prog.main.file && (decide (PySem.W.findIn K (.ref (hG K "InvalidSpans")) "value" = some none) && (decide (PySem.W.nsIn K mainGlobals "InvalidStore" = some (some (.ref (hG K "InvalidStore")))) && (hEx K (hG K "InvalidStore"))))))))))))))
def hdB25 (K : PySem.W.Frag) : Bool := decide (PySem.W.findIn K (.ref (hG K "InvalidStore")) "__setattr__" = some (some (.builtin "object.__setattr__"))) && (decide (PySem.W.findIn K (.ref (hG K "InvalidStore")) "__getattribute__" = some (some (.builtin "BaseException.__getattribute__"))) && (decide (PySem.W.findIn K (.ref (hG K "InvalidStore")) "__getattr__" = some none) && (decide (PySem.W.findIn K (.ref (hG K "InvalidStore")) "__init__" = some (some (.ref (hM K (hG K "InvalidStore") "__init__")))) && (decide (PySem.W.typeIn K (.ref (hM K (hG K "InvalidStore") "__init__")) = some (.type "function")) && (PySem.W.keepIn K (.ref (hG K "InvalidStore")) && (decide (PySem.W.subIn K (.ref (hG K "InvalidStore")) (.type "BaseException") = some true) && (decide (PySem.W.typeIn K (.ref (hG K "InvalidStore")) = some (.type "type")) && (PySem.W.hasDictIn K (hG K "InvalidStore") && (decide (PySem.W.subIn K (.ref (hG K "InvalidStore")) (.type "ValueError") = some true) && (PySem.W.excInitIn K (hG K "InvalidStore") SX.veL "ValueError.__new__" && (decide (PySem.W.ks_superIn K (hG K "InvalidStore") (hG K "InvalidStore") "__init__" = some (some (.builtin "ValueError.__init__"))) && (decide (PySem.W.mroIn K (hG K "InvalidStore") (.ref (hG K "InvalidStore")) = some true) && (hB2 K (hM K (hG K "InvalidStore") "__init__") (hG K "InvalidStore") "InvalidStore.__init__" hdR.prog.main.file)))))))))))))
def hdB26 (K : PySem.W.Frag) : Bool := decide (PySem.W.findIn K (.ref (hG K "InvalidStore")) "value" = some none) && (decide (PySem.W.nsIn K mainGlobals "InvalidStrengths" = some (some (.ref (hG K "InvalidStrengths")))) && (hEx K (hG K "InvalidStrengths") && (decide (PySem.W.findIn K (.ref (hG K "InvalidStrengths")) "__setattr__" = some (some (.builtin "object.__setattr__"))) && (decide (PySem.W.findIn K (.ref (hG K "InvalidStrengths")) "__getattribute__" = some (some (.builtin "BaseException.__getattribute__"))) && (decide (PySem.W.findIn K (.ref (hG K "InvalidStrengths")) "__getattr__" = some none) && (decide (PySem.W.findIn K (.ref (hG K "InvalidStrengths")) "__init__" = some (some (.ref (hM K (hG K "InvalidStrengths") "__init__")))) && (decide (PySem.W.typeIn K (.ref (hM K (hG K "InvalidStrengths") "__init__")) = some (.type "function")) && (PySem.W.keepIn K (.ref (hG K "InvalidStrengths")) && (decide (PySem.W.subIn K (.ref (hG K "InvalidStrengths")) (.type "BaseException") = some true) && (decide (PySem.W.typeIn K (.ref (hG K "InvalidStrengths")) = some (.type "type")) && (PySem.W.hasDictIn K (hG K "InvalidStrengths") && (decide (PySem.W.subIn K (.ref (hG K "InvalidStrengths")) (.type "ValueError") = some true) && (PySem.W.excInitIn K (hG K "InvalidStrengths") SX.veL "ValueError.__new__")))))))))))))
def hdB27 (K : PySem.W.Frag) : Bool := decide (PySem.W.ks_superIn K (hG K "InvalidStrengths") (hG K "InvalidStrengths") "__init__" = some (some (.builtin "ValueError.__init__"))) && (decide (PySem.W.mroIn K (hG K "InvalidStrengths") (.ref (hG K "InvalidStrengths")) = some true) && (hB2 K (hM K (hG K "InvalidStrengths") "__init__") (hG K "InvalidStrengths") "InvalidStrengths.__init__" hdR.prog.main.file && (decide (PySem.W.findIn K (.ref (hG K "InvalidStrengths")) "value" = some none) && (decide (PySem.W.nsIn K mainGlobals "InvalidText" = some (some (.ref (hG K "InvalidText")))) && (hEx K (hG K "InvalidText") && (decide (PySem.W.findIn K (.ref (hG K "InvalidText")) "__setattr__" = some (some (.builtin "object.__setattr__"))) && (decide (PySem.W.findIn K (.ref (hG K "InvalidText")) "__getattribute__" = some (some (.builtin "BaseException.__getattribute__"))) && (decide (PySem.W.findIn K (.ref (hG K "InvalidText")) "__getattr__" = some none) && (decide (PySem.W.findIn K (.ref (hG K "InvalidText")) "__init__" = some (some (.ref (hM K (hG K "InvalidText") "__init__")))) && (decide (PySem.W.typeIn K (.ref (hM K (hG K "InvalidText") "__init__")) = some (.type "function")) && (PySem.W.keepIn K (.ref (hG K "InvalidText")) && (decide (PySem.W.subIn K (.ref (hG K "InvalidText")) (.type "BaseException") = some true) && (decide (PySem.W.typeIn K (.ref (hG K "InvalidText")) = some (.type "type")))))))))))))))
def hdB28 (K : PySem.W.Frag) : Bool := PySem.W.hasDictIn K (hG K "InvalidText") && (decide (PySem.W.subIn K (.ref (hG K "InvalidText")) (.type "ValueError") = some true) && (PySem.W.excInitIn K (hG K "InvalidText") SX.veL "ValueError.__new__" && (decide (PySem.W.ks_superIn K (hG K "InvalidText") (hG K "InvalidText") "__init__" = some (some (.builtin "ValueError.__init__"))) && (decide (PySem.W.mroIn K (hG K "InvalidText") (.ref (hG K "InvalidText")) = some true) && (hB2 K (hM K (hG K "InvalidText") "__init__") (hG K "InvalidText") "InvalidText.__init__" hdR.prog.main.file && (decide (PySem.W.findIn K (.ref (hG K "InvalidText")) "value" = some none) && (decide (PySem.W.nsIn K mainGlobals "InvalidWeaving" = some (some (.ref (hG K "InvalidWeaving")))) && (hEx K (hG K "InvalidWeaving") && (decide (PySem.W.findIn K (.ref (hG K "InvalidWeaving")) "__setattr__" = some (some (.builtin "object.__setattr__"))) && (decide (PySem.W.findIn K (.ref (hG K "InvalidWeaving")) "__getattribute__" = some (some (.builtin "BaseException.__getattribute__"))) && (decide (PySem.W.findIn K (.ref (hG K "InvalidWeaving")) "__getattr__" = some none) && (decide (PySem.W.findIn K (.ref (hG K "InvalidWeaving")) "__init__" = some (some (.ref (hM K (hG K "InvalidWeaving") "__init__")))) && (decide (PySem.W.typeIn K (.ref (hM K (hG K "InvalidWeaving") "__init__")) = some (.type "function")))))))))))))))
def hdB29 (K : PySem.W.Frag) : Bool := PySem.W.keepIn K (.ref (hG K "InvalidWeaving")) && (decide (PySem.W.subIn K (.ref (hG K "InvalidWeaving")) (.type "BaseException") = some true) && (decide (PySem.W.typeIn K (.ref (hG K "InvalidWeaving")) = some (.type "type")) && (PySem.W.hasDictIn K (hG K "InvalidWeaving") && (decide (PySem.W.subIn K (.ref (hG K "InvalidWeaving")) (.type "ValueError") = some true) && (PySem.W.excInitIn K (hG K "InvalidWeaving") SX.veL "ValueError.__new__" && (decide (PySem.W.ks_superIn K (hG K "InvalidWeaving") (hG K "InvalidWeaving") "__init__" = some (some (.builtin "ValueError.__init__"))) && (decide (PySem.W.mroIn K (hG K "InvalidWeaving") (.ref (hG K "InvalidWeaving")) = some true) && (hB2 K (hM K (hG K "InvalidWeaving") "__init__") (hG K "InvalidWeaving") "InvalidWeaving.__init__" hdR.prog.main.file && (decide (PySem.W.findIn K (.ref (hG K "InvalidWeaving")) "value" = some none) && (decide (PySem.W.nsIn K mainGlobals "NameTaken" = some (some (.ref (hG K "NameTaken")))) && (hEx K (hG K "NameTaken") && (decide (PySem.W.findIn K (.ref (hG K "NameTaken")) "__setattr__" = some (some (.builtin "object.__setattr__"))) && (decide (PySem.W.findIn K (.ref (hG K "NameTaken")) "__getattribute__" = some (some (.builtin "BaseException.__getattribute__"))))))))))))))))
def hdB30 (K : PySem.W.Frag) : Bool := decide (PySem.W.findIn K (.ref (hG K "NameTaken")) "__getattr__" = some none) && (decide (PySem.W.findIn K (.ref (hG K "NameTaken")) "__init__" = some (some (.ref (hM K (hG K "NameTaken") "__init__")))) && (decide (PySem.W.typeIn K (.ref (hM K (hG K "NameTaken") "__init__")) = some (.type "function")) && (PySem.W.keepIn K (.ref (hG K "NameTaken")) && (decide (PySem.W.subIn K (.ref (hG K "NameTaken")) (.type "BaseException") = some true) && (decide (PySem.W.typeIn K (.ref (hG K "NameTaken")) = some (.type "type")) && (PySem.W.hasDictIn K (hG K "NameTaken") && (decide (PySem.W.subIn K (.ref (hG K "NameTaken")) (.type "ValueError") = some true) && (PySem.W.excInitIn K (hG K "NameTaken") SX.veL "ValueError.__new__" && (decide (PySem.W.ks_superIn K (hG K "NameTaken") (hG K "NameTaken") "__init__" = some (some (.builtin "ValueError.__init__"))) && (decide (PySem.W.mroIn K (hG K "NameTaken") (.ref (hG K "NameTaken")) = some true) && (hB2 K (hM K (hG K "NameTaken") "__init__") (hG K "NameTaken") "NameTaken.__init__" hdR.prog.main.file && (decide (PySem.W.findIn K (.ref (hG K "NameTaken")) "name" = some none) && (decide (PySem.W.nsIn K mainGlobals "NoProgram" = some (some (.ref (hG K "NoProgram")))))))))))))))))
def hdB31 (K : PySem.W.Frag) : Bool := hEx K (hG K "NoProgram") && (decide (PySem.W.findIn K (.ref (hG K "NoProgram")) "__setattr__" = some (some (.builtin "object.__setattr__"))) && (decide (PySem.W.findIn K (.ref (hG K "NoProgram")) "__getattribute__" = some (some (.builtin "BaseException.__getattribute__"))) && (decide (PySem.W.findIn K (.ref (hG K "NoProgram")) "__getattr__" = some none) && (decide (PySem.W.findIn K (.ref (hG K "NoProgram")) "__init__" = some (some (.ref (hM K (hG K "NoProgram") "__init__")))) && (decide (PySem.W.typeIn K (.ref (hM K (hG K "NoProgram") "__init__")) = some (.type "function")) && (PySem.W.keepIn K (.ref (hG K "NoProgram")) && (decide (PySem.W.subIn K (.ref (hG K "NoProgram")) (.type "BaseException") = some true) && (decide (PySem.W.typeIn K (.ref (hG K "NoProgram")) = some (.type "type")) && (PySem.W.hasDictIn K (hG K "NoProgram") && (decide (PySem.W.subIn K (.ref (hG K "NoProgram")) (.type "ValueError") = some true) && (PySem.W.excInitIn K (hG K "NoProgram") SX.veL "ValueError.__new__" && (decide (PySem.W.ks_superIn K (hG K "NoProgram") (hG K "NoProgram") "__init__" = some (some (.builtin "ValueError.__init__"))) && (decide (PySem.W.mroIn K (hG K "NoProgram") (.ref (hG K "NoProgram")) = some true))))))))))))))
def hdB32 (K : PySem.W.Frag) : Bool := hB2 K (hM K (hG K "NoProgram") "__init__") (hG K "NoProgram") "NoProgram.__init__" hdR.prog.main.file && (decide (PySem.W.findIn K (.ref (hG K "NoProgram")) "kind" = some none) && (decide (PySem.W.nsIn K mainGlobals "NoStore" = some (some (.ref (hG K "NoStore")))) && (hEx K (hG K "NoStore") && (decide (PySem.W.findIn K (.ref (hG K "NoStore")) "__setattr__" = some (some (.builtin "object.__setattr__"))) && (decide (PySem.W.findIn K (.ref (hG K "NoStore")) "__getattribute__" = some (some (.builtin "BaseException.__getattribute__"))) && (decide (PySem.W.findIn K (.ref (hG K "NoStore")) "__getattr__" = some none) && (decide (PySem.W.findIn K (.ref (hG K "NoStore")) "__init__" = some (some (.ref (hM K (hG K "NoStore") "__init__")))) && (decide (PySem.W.typeIn K (.ref (hM K (hG K "NoStore") "__init__")) = some (.type "function")) && (PySem.W.keepIn K (.ref (hG K "NoStore")) && (decide (PySem.W.subIn K (.ref (hG K "NoStore")) (.type "BaseException") = some true) && (decide (PySem.W.typeIn K (.ref (hG K "NoStore")) = some (.type "type")) && (PySem.W.hasDictIn K (hG K "NoStore") && (decide (PySem.W.subIn K (.ref (hG K "NoStore")) (.type "ValueError") = some true))))))))))))))
def hdB33 (K : PySem.W.Frag) : Bool := PySem.W.excInitIn K (hG K "NoStore") SX.veL "ValueError.__new__" && (decide (PySem.W.ks_superIn K (hG K "NoStore") (hG K "NoStore") "__init__" = some (some (.builtin "ValueError.__init__"))) && (decide (PySem.W.mroIn K (hG K "NoStore") (.ref (hG K "NoStore")) = some true) && (hB2 K (hM K (hG K "NoStore") "__init__") (hG K "NoStore") "NoStore.__init__" hdR.prog.main.file && (decide (PySem.W.nsIn K mainGlobals "NotInside" = some (some (.ref (hG K "NotInside")))) && (hEx K (hG K "NotInside") && (decide (PySem.W.findIn K (.ref (hG K "NotInside")) "__setattr__" = some (some (.builtin "object.__setattr__"))) && (decide (PySem.W.findIn K (.ref (hG K "NotInside")) "__getattribute__" = some (some (.builtin "BaseException.__getattribute__"))) && (decide (PySem.W.findIn K (.ref (hG K "NotInside")) "__getattr__" = some none) && (decide (PySem.W.findIn K (.ref (hG K "NotInside")) "__init__" = some (some (.ref (hM K (hG K "NotInside") "__init__")))) && (decide (PySem.W.typeIn K (.ref (hM K (hG K "NotInside") "__init__")) = some (.type "function")) && (PySem.W.keepIn K (.ref (hG K "NotInside")) && (decide (PySem.W.subIn K (.ref (hG K "NotInside")) (.type "BaseException") = some true) && (decide (PySem.W.typeIn K (.ref (hG K "NotInside")) = some (.type "type")))))))))))))))
def hdB34 (K : PySem.W.Frag) : Bool := PySem.W.hasDictIn K (hG K "NotInside") && (decide (PySem.W.subIn K (.ref (hG K "NotInside")) (.type "ValueError") = some true) && (PySem.W.excInitIn K (hG K "NotInside") SX.veL "ValueError.__new__" && (decide (PySem.W.ks_superIn K (hG K "NotInside") (hG K "NotInside") "__init__" = some (some (.builtin "ValueError.__init__"))) && (decide (PySem.W.mroIn K (hG K "NotInside") (.ref (hG K "NotInside")) = some true) && (hB2 K (hM K (hG K "NotInside") "__init__") (hG K "NotInside") "NotInside.__init__" hdR.prog.main.file && (decide (PySem.W.findIn K (.ref (hG K "NotInside")) "at" = some none) && (decide (PySem.W.nsIn K mainGlobals "NotNeighbours" = some (some (.ref (hG K "NotNeighbours")))) && (hEx K (hG K "NotNeighbours") && (decide (PySem.W.findIn K (.ref (hG K "NotNeighbours")) "__setattr__" = some (some (.builtin "object.__setattr__"))) && (decide (PySem.W.findIn K (.ref (hG K "NotNeighbours")) "__getattribute__" = some (some (.builtin "BaseException.__getattribute__"))) && (decide (PySem.W.findIn K (.ref (hG K "NotNeighbours")) "__getattr__" = some none) && (decide (PySem.W.findIn K (.ref (hG K "NotNeighbours")) "__init__" = some (some (.ref (hM K (hG K "NotNeighbours") "__init__")))) && (decide (PySem.W.typeIn K (.ref (hM K (hG K "NotNeighbours") "__init__")) = some (.type "function")))))))))))))))
def hdB35 (K : PySem.W.Frag) : Bool := PySem.W.keepIn K (.ref (hG K "NotNeighbours")) && (decide (PySem.W.subIn K (.ref (hG K "NotNeighbours")) (.type "BaseException") = some true) && (decide (PySem.W.typeIn K (.ref (hG K "NotNeighbours")) = some (.type "type")) && (PySem.W.hasDictIn K (hG K "NotNeighbours") && (decide (PySem.W.subIn K (.ref (hG K "NotNeighbours")) (.type "ValueError") = some true) && (PySem.W.excInitIn K (hG K "NotNeighbours") SX.veL "ValueError.__new__" && (decide (PySem.W.ks_superIn K (hG K "NotNeighbours") (hG K "NotNeighbours") "__init__" = some (some (.builtin "ValueError.__init__"))) && (decide (PySem.W.mroIn K (hG K "NotNeighbours") (.ref (hG K "NotNeighbours")) = some true) && (hB2 K (hM K (hG K "NotNeighbours") "__init__") (hG K "NotNeighbours") "NotNeighbours.__init__" hdR.prog.main.file && (decide (PySem.W.findIn K (.ref (hG K "NotNeighbours")) "name" = some none) && (decide (PySem.W.nsIn K mainGlobals "NotRight" = some (some (.ref (hG K "NotRight")))) && (hEx K (hG K "NotRight") && (decide (PySem.W.findIn K (.ref (hG K "NotRight")) "__setattr__" = some (some (.builtin "object.__setattr__"))) && (decide (PySem.W.findIn K (.ref (hG K "NotRight")) "__getattribute__" = some (some (.builtin "BaseException.__getattribute__"))))))))))))))))
def hdB36 (K : PySem.W.Frag) : Bool := decide (PySem.W.findIn K (.ref (hG K "NotRight")) "__getattr__" = some none) && (decide (PySem.W.findIn K (.ref (hG K "NotRight")) "__init__" = some (some (.ref (hM K (hG K "NotRight") "__init__")))) && (decide (PySem.W.typeIn K (.ref (hM K (hG K "NotRight") "__init__")) = some (.type "function")) && (PySem.W.keepIn K (.ref (hG K "NotRight")) && (decide (PySem.W.subIn K (.ref (hG K "NotRight")) (.type "BaseException") = some true) && (decide (PySem.W.typeIn K (.ref (hG K "NotRight")) = some (.type "type")) && (PySem.W.hasDictIn K (hG K "NotRight") && (decide (PySem.W.subIn K (.ref (hG K "NotRight")) (.type "ValueError") = some true) && (PySem.W.excInitIn K (hG K "NotRight") SX.veL "ValueError.__new__" && (decide (PySem.W.ks_superIn K (hG K "NotRight") (hG K "NotRight") "__init__" = some (some (.builtin "ValueError.__init__"))) && (decide (PySem.W.mroIn K (hG K "NotRight") (.ref (hG K "NotRight")) = some true) && (hB2 K (hM K (hG K "NotRight") "__init__") (hG K "NotRight") "NotRight.__init__" hdR.prog.main.file && (decide (PySem.W.nsIn K mainGlobals "NothingBad" = some (some (.ref (hG K "NothingBad")))) && (hEx K (hG K "NothingBad"))))))))))))))
def hdB37 (K : PySem.W.Frag) : Bool := decide (PySem.W.findIn K (.ref (hG K "NothingBad")) "__setattr__" = some (some (.builtin "object.__setattr__"))) && (decide (PySem.W.findIn K (.ref (hG K "NothingBad")) "__getattribute__" = some (some (.builtin "BaseException.__getattribute__"))) && (decide (PySem.W.findIn K (.ref (hG K "NothingBad")) "__getattr__" = some none) && (decide (PySem.W.findIn K (.ref (hG K "NothingBad")) "__init__" = some (some (.ref (hM K (hG K "NothingBad") "__init__")))) && (decide (PySem.W.typeIn K (.ref (hM K (hG K "NothingBad") "__init__")) = some (.type "function")) && (PySem.W.keepIn K (.ref (hG K "NothingBad")) && (decide (PySem.W.subIn K (.ref (hG K "NothingBad")) (.type "BaseException") = some true) && (decide (PySem.W.typeIn K (.ref (hG K "NothingBad")) = some (.type "type")) && (PySem.W.hasDictIn K (hG K "NothingBad") && (decide (PySem.W.subIn K (.ref (hG K "NothingBad")) (.type "ValueError") = some true) && (PySem.W.excInitIn K (hG K "NothingBad") SX.veL "ValueError.__new__" && (decide (PySem.W.ks_superIn K (hG K "NothingBad") (hG K "NothingBad") "__init__" = some (some (.builtin "ValueError.__init__"))) && (decide (PySem.W.mroIn K (hG K "NothingBad") (.ref (hG K "NothingBad")) = some true) && (hB2 K (hM K (hG K "NothingBad") "__init__") (hG K "NothingBad") "NothingBad.__init__" hdR.prog.main.file)))))))))))))
def hdB38 (K : PySem.W.Frag) : Bool := decide (PySem.W.nsIn K mainGlobals "NothingToRedo" = some (some (.ref (hG K "NothingToRedo")))) && (hEx K (hG K "NothingToRedo") && (decide (PySem.W.findIn K (.ref (hG K "NothingToRedo")) "__setattr__" = some (some (.builtin "object.__setattr__"))) && (decide (PySem.W.findIn K (.ref (hG K "NothingToRedo")) "__getattribute__" = some (some (.builtin "BaseException.__getattribute__"))) && (decide (PySem.W.findIn K (.ref (hG K "NothingToRedo")) "__getattr__" = some none) && (decide (PySem.W.findIn K (.ref (hG K "NothingToRedo")) "__init__" = some (some (.ref (hM K (hG K "NothingToRedo") "__init__")))) && (decide (PySem.W.typeIn K (.ref (hM K (hG K "NothingToRedo") "__init__")) = some (.type "function")) && (PySem.W.keepIn K (.ref (hG K "NothingToRedo")) && (decide (PySem.W.subIn K (.ref (hG K "NothingToRedo")) (.type "BaseException") = some true) && (decide (PySem.W.typeIn K (.ref (hG K "NothingToRedo")) = some (.type "type")) && (PySem.W.hasDictIn K (hG K "NothingToRedo") && (decide (PySem.W.subIn K (.ref (hG K "NothingToRedo")) (.type "ValueError") = some true) && (PySem.W.excInitIn K (hG K "NothingToRedo") SX.veL "ValueError.__new__" && (decide (PySem.W.ks_superIn K (hG K "NothingToRedo") (hG K "NothingToRedo") "__init__" = some (some (.builtin "ValueError.__init__"))))))))))))))))
def hdB39 (K : PySem.W.Frag) : Bool := decide (PySem.W.mroIn K (hG K "NothingToRedo") (.ref (hG K "NothingToRedo")) = some true) && (hB2 K (hM K (hG K "NothingToRedo") "__init__") (hG K "NothingToRedo") "NothingToRedo.__init__" hdR.prog.main.file && (decide (PySem.W.nsIn K mainGlobals "NothingToUndo" = some (some (.ref (hG K "NothingToUndo")))) && (hEx K (hG K "NothingToUndo") && (decide (PySem.W.findIn K (.ref (hG K "NothingToUndo")) "__setattr__" = some (some (.builtin "object.__setattr__"))) && (decide (PySem.W.findIn K (.ref (hG K "NothingToUndo")) "__getattribute__" = some (some (.builtin "BaseException.__getattribute__"))) && (decide (PySem.W.findIn K (.ref (hG K "NothingToUndo")) "__getattr__" = some none) && (decide (PySem.W.findIn K (.ref (hG K "NothingToUndo")) "__init__" = some (some (.ref (hM K (hG K "NothingToUndo") "__init__")))) && (decide (PySem.W.typeIn K (.ref (hM K (hG K "NothingToUndo") "__init__")) = some (.type "function")) && (PySem.W.keepIn K (.ref (hG K "NothingToUndo")) && (decide (PySem.W.subIn K (.ref (hG K "NothingToUndo")) (.type "BaseException") = some true) && (decide (PySem.W.typeIn K (.ref (hG K "NothingToUndo")) = some (.type "type")) && (PySem.W.hasDictIn K (hG K "NothingToUndo") && (decide (PySem.W.subIn K (.ref (hG K "NothingToUndo")) (.type "ValueError") = some true))))))))))))))
def hdB40 (K : PySem.W.Frag) : Bool := PySem.W.excInitIn K (hG K "NothingToUndo") SX.veL "ValueError.__new__" && (decide (PySem.W.ks_superIn K (hG K "NothingToUndo") (hG K "NothingToUndo") "__init__" = some (some (.builtin "ValueError.__init__"))) && (decide (PySem.W.mroIn K (hG K "NothingToUndo") (.ref (hG K "NothingToUndo")) = some true) && (hB2 K (hM K (hG K "NothingToUndo") "__init__") (hG K "NothingToUndo") "NothingToUndo.__init__" hdR.prog.main.file && (decide (PySem.W.nsIn K mainGlobals "Overlap" = some (some (.ref (hG K "Overlap")))) && (hEx K (hG K "Overlap") && (decide (PySem.W.findIn K (.ref (hG K "Overlap")) "__setattr__" = some (some (.builtin "object.__setattr__"))) && (decide (PySem.W.findIn K (.ref (hG K "Overlap")) "__getattribute__" = some (some (.builtin "BaseException.__getattribute__"))) && (decide (PySem.W.findIn K (.ref (hG K "Overlap")) "__getattr__" = some none) && (decide (PySem.W.findIn K (.ref (hG K "Overlap")) "__init__" = some (some (.ref (hM K (hG K "Overlap") "__init__")))) && (decide (PySem.W.typeIn K (.ref (hM K (hG K "Overlap") "__init__")) = some (.type "function")) && (PySem.W.keepIn K (.ref (hG K "Overlap")) && (decide (PySem.W.subIn K (.ref (hG K "Overlap")) (.type "BaseException") = some true) && (decide (PySem.W.typeIn K (.ref (hG K "Overlap")) = some (.type "type")))))))))))))))
def hdB41 (K : PySem.W.Frag) : Bool := PySem.W.hasDictIn K (hG K "Overlap") && (decide (PySem.W.subIn K (.ref (hG K "Overlap")) (.type "ValueError") = some true) && (PySem.W.excInitIn K (hG K "Overlap") SX.veL "ValueError.__new__" && (decide (PySem.W.ks_superIn K (hG K "Overlap") (hG K "Overlap") "__init__" = some (some (.builtin "ValueError.__init__"))) && (decide (PySem.W.mroIn K (hG K "Overlap") (.ref (hG K "Overlap")) = some true) && (hB2 K (hM K (hG K "Overlap") "__init__") (hG K "Overlap") "Overlap.__init__" hdR.prog.main.file && (decide (PySem.W.findIn K (.ref (hG K "Overlap")) "name" = some none) && (decide (PySem.W.nsIn K mainGlobals "TooMany" = some (some (.ref (hG K "TooMany")))) && (hEx K (hG K "TooMany") && (decide (PySem.W.findIn K (.ref (hG K "TooMany")) "__setattr__" = some (some (.builtin "object.__setattr__"))) && (decide (PySem.W.findIn K (.ref (hG K "TooMany")) "__getattribute__" = some (some (.builtin "BaseException.__getattribute__"))) && (decide (PySem.W.findIn K (.ref (hG K "TooMany")) "__getattr__" = some none) && (decide (PySem.W.findIn K (.ref (hG K "TooMany")) "__init__" = some (some (.ref (hM K (hG K "TooMany") "__init__")))) && (decide (PySem.W.typeIn K (.ref (hM K (hG K "TooMany") "__init__")) = some (.type "function")))))))))))))))
def hdB42 (K : PySem.W.Frag) : Bool := PySem.W.keepIn K (.ref (hG K "TooMany")) && (decide (PySem.W.subIn K (.ref (hG K "TooMany")) (.type "BaseException") = some true) && (decide (PySem.W.typeIn K (.ref (hG K "TooMany")) = some (.type "type")) && (PySem.W.hasDictIn K (hG K "TooMany") && (decide (PySem.W.subIn K (.ref (hG K "TooMany")) (.type "ValueError") = some true) && (PySem.W.excInitIn K (hG K "TooMany") SX.veL "ValueError.__new__" && (decide (PySem.W.ks_superIn K (hG K "TooMany") (hG K "TooMany") "__init__" = some (some (.builtin "ValueError.__init__"))) && (decide (PySem.W.mroIn K (hG K "TooMany") (.ref (hG K "TooMany")) = some true) && (hB2 K (hM K (hG K "TooMany") "__init__") (hG K "TooMany") "TooMany.__init__" hdR.prog.main.file && (decide (PySem.W.findIn K (.ref (hG K "TooMany")) "bound" = some none) && (decide (PySem.W.nsIn K mainGlobals "UnknownEntry" = some (some (.ref (hG K "UnknownEntry")))) && (hEx K (hG K "UnknownEntry") && (decide (PySem.W.findIn K (.ref (hG K "UnknownEntry")) "__setattr__" = some (some (.builtin "object.__setattr__"))) && (decide (PySem.W.findIn K (.ref (hG K "UnknownEntry")) "__getattribute__" = some (some (.builtin "BaseException.__getattribute__"))))))))))))))))
def hdB43 (K : PySem.W.Frag) : Bool := decide (PySem.W.findIn K (.ref (hG K "UnknownEntry")) "__getattr__" = some none) && (decide (PySem.W.findIn K (.ref (hG K "UnknownEntry")) "__init__" = some (some (.ref (hM K (hG K "UnknownEntry") "__init__")))) && (decide (PySem.W.typeIn K (.ref (hM K (hG K "UnknownEntry") "__init__")) = some (.type "function")) && (PySem.W.keepIn K (.ref (hG K "UnknownEntry")) && (decide (PySem.W.subIn K (.ref (hG K "UnknownEntry")) (.type "BaseException") = some true) && (decide (PySem.W.typeIn K (.ref (hG K "UnknownEntry")) = some (.type "type")) && (PySem.W.hasDictIn K (hG K "UnknownEntry") && (decide (PySem.W.subIn K (.ref (hG K "UnknownEntry")) (.type "ValueError") = some true) && (PySem.W.excInitIn K (hG K "UnknownEntry") SX.veL "ValueError.__new__" && (decide (PySem.W.ks_superIn K (hG K "UnknownEntry") (hG K "UnknownEntry") "__init__" = some (some (.builtin "ValueError.__init__"))) && (decide (PySem.W.mroIn K (hG K "UnknownEntry") (.ref (hG K "UnknownEntry")) = some true) && (hB2 K (hM K (hG K "UnknownEntry") "__init__") (hG K "UnknownEntry") "UnknownEntry.__init__" hdR.prog.main.file && (decide (PySem.W.findIn K (.ref (hG K "UnknownEntry")) "name" = some none) && (decide (PySem.W.nsIn K mainGlobals "UnknownMode" = some (some (.ref (hG K "UnknownMode")))))))))))))))))
def hdB44 (K : PySem.W.Frag) : Bool := hEx K (hG K "UnknownMode") && (decide (PySem.W.findIn K (.ref (hG K "UnknownMode")) "__setattr__" = some (some (.builtin "object.__setattr__"))) && (decide (PySem.W.findIn K (.ref (hG K "UnknownMode")) "__getattribute__" = some (some (.builtin "BaseException.__getattribute__"))) && (decide (PySem.W.findIn K (.ref (hG K "UnknownMode")) "__getattr__" = some none) && (decide (PySem.W.findIn K (.ref (hG K "UnknownMode")) "__init__" = some (some (.ref (hM K (hG K "UnknownMode") "__init__")))) && (decide (PySem.W.typeIn K (.ref (hM K (hG K "UnknownMode") "__init__")) = some (.type "function")) && (PySem.W.keepIn K (.ref (hG K "UnknownMode")) && (decide (PySem.W.subIn K (.ref (hG K "UnknownMode")) (.type "BaseException") = some true) && (decide (PySem.W.typeIn K (.ref (hG K "UnknownMode")) = some (.type "type")) && (PySem.W.hasDictIn K (hG K "UnknownMode") && (decide (PySem.W.subIn K (.ref (hG K "UnknownMode")) (.type "ValueError") = some true) && (PySem.W.excInitIn K (hG K "UnknownMode") SX.veL "ValueError.__new__" && (decide (PySem.W.ks_superIn K (hG K "UnknownMode") (hG K "UnknownMode") "__init__" = some (some (.builtin "ValueError.__init__"))) && (decide (PySem.W.mroIn K (hG K "UnknownMode") (.ref (hG K "UnknownMode")) = some true))))))))))))))
def hdB45 (K : PySem.W.Frag) : Bool := hB2 K (hM K (hG K "UnknownMode") "__init__") (hG K "UnknownMode") "UnknownMode.__init__" hdR.prog.main.file && (decide (PySem.W.findIn K (.ref (hG K "UnknownMode")) "name" = some none) && (decide (PySem.W.nsIn K mainGlobals "UnknownPart" = some (some (.ref (hG K "UnknownPart")))) && (hEx K (hG K "UnknownPart") && (decide (PySem.W.findIn K (.ref (hG K "UnknownPart")) "__setattr__" = some (some (.builtin "object.__setattr__"))) && (decide (PySem.W.findIn K (.ref (hG K "UnknownPart")) "__getattribute__" = some (some (.builtin "BaseException.__getattribute__"))) && (decide (PySem.W.findIn K (.ref (hG K "UnknownPart")) "__getattr__" = some none) && (decide (PySem.W.findIn K (.ref (hG K "UnknownPart")) "__init__" = some (some (.ref (hM K (hG K "UnknownPart") "__init__")))) && (decide (PySem.W.typeIn K (.ref (hM K (hG K "UnknownPart") "__init__")) = some (.type "function")) && (PySem.W.keepIn K (.ref (hG K "UnknownPart")) && (decide (PySem.W.subIn K (.ref (hG K "UnknownPart")) (.type "BaseException") = some true) && (decide (PySem.W.typeIn K (.ref (hG K "UnknownPart")) = some (.type "type")) && (PySem.W.hasDictIn K (hG K "UnknownPart") && (decide (PySem.W.subIn K (.ref (hG K "UnknownPart")) (.type "ValueError") = some true))))))))))))))
def hdB46 (K : PySem.W.Frag) : Bool := PySem.W.excInitIn K (hG K "UnknownPart") SX.veL "ValueError.__new__" && (decide (PySem.W.ks_superIn K (hG K "UnknownPart") (hG K "UnknownPart") "__init__" = some (some (.builtin "ValueError.__init__"))) && (decide (PySem.W.mroIn K (hG K "UnknownPart") (.ref (hG K "UnknownPart")) = some true) && (hB2 K (hM K (hG K "UnknownPart") "__init__") (hG K "UnknownPart") "UnknownPart.__init__" hdR.prog.main.file && (decide (PySem.W.findIn K (.ref (hG K "UnknownPart")) "name" = some none) && (decide (PySem.W.nsIn K mainGlobals "Waiting" = some (some (.ref (hG K "Waiting")))) && (hEx K (hG K "Waiting") && (decide (PySem.W.findIn K (.ref (hG K "Waiting")) "__setattr__" = some (some (.builtin "object.__setattr__"))) && (decide (PySem.W.findIn K (.ref (hG K "Waiting")) "__getattribute__" = some (some (.builtin "BaseException.__getattribute__"))) && (decide (PySem.W.findIn K (.ref (hG K "Waiting")) "__getattr__" = some none) && (decide (PySem.W.findIn K (.ref (hG K "Waiting")) "__init__" = some (some (.ref (hM K (hG K "Waiting") "__init__")))) && (decide (PySem.W.typeIn K (.ref (hM K (hG K "Waiting") "__init__")) = some (.type "function")) && (PySem.W.keepIn K (.ref (hG K "Waiting")) && (decide (PySem.W.subIn K (.ref (hG K "Waiting")) (.type "BaseException") = some true))))))))))))))
def hdB47 (K : PySem.W.Frag) : Bool := decide (PySem.W.typeIn K (.ref (hG K "Waiting")) = some (.type "type")) && (PySem.W.hasDictIn K (hG K "Waiting") && (decide (PySem.W.subIn K (.ref (hG K "Waiting")) (.type "ValueError") = some true) && (PySem.W.excInitIn K (hG K "Waiting") SX.veL "ValueError.__new__" && (decide (PySem.W.ks_superIn K (hG K "Waiting") (hG K "Waiting") "__init__" = some (some (.builtin "ValueError.__init__"))) && (decide (PySem.W.mroIn K (hG K "Waiting") (.ref (hG K "Waiting")) = some true) && (hB2 K (hM K (hG K "Waiting") "__init__") (hG K "Waiting") "Waiting.__init__" hdR.prog.main.file && (decide (PySem.W.findIn K (.ref (hG K "Waiting")) "number" = some none) && (decide (PySem.W.nsIn K mainGlobals "PartsError" = some (some (.ref (hG K "PartsError")))) && (mkbB K "PartsError" (hG K "PartsError") && (isxB K [(("Duplicate" : Str), (hG K "Duplicate")), (("Ended" : Str), (hG K "Ended")), (("InvalidCatalog" : Str), (hG K "InvalidCatalog")), (("InvalidChange" : Str), (hG K "InvalidChange")), (("InvalidClash" : Str), (hG K "InvalidClash")), (("InvalidCommand" : Str), (hG K "InvalidCommand")), (("InvalidKey" : Str), (hG K "InvalidKey")), (("InvalidLog" : Str), (hG K "InvalidLog")), (("InvalidModes" : Str), (hG K "InvalidModes")), (("InvalidName" : Str), (hG K "InvalidName")), (("InvalidNumber" : Str), (hG K "InvalidNumber")), (("InvalidProgram" : Str), (hG K "InvalidProgram")), (("InvalidPrograms" : Str), (hG K "InvalidPrograms")), (("InvalidProtocol" : Str), (hG K "InvalidProtocol")), (("InvalidRows" : Str), (hG K "InvalidRows")), (("InvalidScene" : Str), (hG K "InvalidScene")), (("InvalidSession" : Str), (hG K "InvalidSession")), (("InvalidSpan" : Str), (hG K "InvalidSpan")), (("InvalidSpans" : Str), (hG K "InvalidSpans")), (("InvalidStore" : Str), (hG K "InvalidStore")), (("InvalidStrengths" : Str), (hG K "InvalidStrengths")), (("InvalidText" : Str), (hG K "InvalidText")), (("InvalidWeaving" : Str), (hG K "InvalidWeaving")), (("NameTaken" : Str), (hG K "NameTaken")), (("NoProgram" : Str), (hG K "NoProgram")), (("NoStore" : Str), (hG K "NoStore")), (("NotInside" : Str), (hG K "NotInside")), (("NotNeighbours" : Str), (hG K "NotNeighbours")), (("NotRight" : Str), (hG K "NotRight")), (("NothingBad" : Str), (hG K "NothingBad")), (("NothingToRedo" : Str), (hG K "NothingToRedo")), (("NothingToUndo" : Str), (hG K "NothingToUndo")), (("Overlap" : Str), (hG K "Overlap")), (("PartsError" : Str), (hG K "PartsError")), (("TooMany" : Str), (hG K "TooMany")), (("UnknownEntry" : Str), (hG K "UnknownEntry")), (("UnknownMode" : Str), (hG K "UnknownMode")), (("UnknownPart" : Str), (hG K "UnknownPart")), (("Waiting" : Str), (hG K "Waiting"))] "Duplicate" (.ref (hG K "Duplicate")) && (isxB K [(("Duplicate" : Str), (hG K "Duplicate")), (("Ended" : Str), (hG K "Ended")), (("InvalidCatalog" : Str), (hG K "InvalidCatalog")), (("InvalidChange" : Str), (hG K "InvalidChange")), (("InvalidClash" : Str), (hG K "InvalidClash")), (("InvalidCommand" : Str), (hG K "InvalidCommand")), (("InvalidKey" : Str), (hG K "InvalidKey")), (("InvalidLog" : Str), (hG K "InvalidLog")), (("InvalidModes" : Str), (hG K "InvalidModes")), (("InvalidName" : Str), (hG K "InvalidName")), (("InvalidNumber" : Str), (hG K "InvalidNumber")), (("InvalidProgram" : Str), (hG K "InvalidProgram")), (("InvalidPrograms" : Str), (hG K "InvalidPrograms")), (("InvalidProtocol" : Str), (hG K "InvalidProtocol")), (("InvalidRows" : Str), (hG K "InvalidRows")), (("InvalidScene" : Str), (hG K "InvalidScene")), (("InvalidSession" : Str), (hG K "InvalidSession")), (("InvalidSpan" : Str), (hG K "InvalidSpan")), (("InvalidSpans" : Str), (hG K "InvalidSpans")), (("InvalidStore" : Str), (hG K "InvalidStore")), (("InvalidStrengths" : Str), (hG K "InvalidStrengths")), (("InvalidText" : Str), (hG K "InvalidText")), (("InvalidWeaving" : Str), (hG K "InvalidWeaving")), (("NameTaken" : Str), (hG K "NameTaken")), (("NoProgram" : Str), (hG K "NoProgram")), (("NoStore" : Str), (hG K "NoStore")), (("NotInside" : Str), (hG K "NotInside")), (("NotNeighbours" : Str), (hG K "NotNeighbours")), (("NotRight" : Str), (hG K "NotRight")), (("NothingBad" : Str), (hG K "NothingBad")), (("NothingToRedo" : Str), (hG K "NothingToRedo")), (("NothingToUndo" : Str), (hG K "NothingToUndo")), (("Overlap" : Str), (hG K "Overlap")), (("PartsError" : Str), (hG K "PartsError")), (("TooMany" : Str), (hG K "TooMany")), (("UnknownEntry" : Str), (hG K "UnknownEntry")), (("UnknownMode" : Str), (hG K "UnknownMode")), (("UnknownPart" : Str), (hG K "UnknownPart")), (("Waiting" : Str), (hG K "Waiting"))] "Ended" (.ref (hG K "Ended")) && (isxB K [(("Duplicate" : Str), (hG K "Duplicate")), (("Ended" : Str), (hG K "Ended")), (("InvalidCatalog" : Str), (hG K "InvalidCatalog")), (("InvalidChange" : Str), (hG K "InvalidChange")), (("InvalidClash" : Str), (hG K "InvalidClash")), (("InvalidCommand" : Str), (hG K "InvalidCommand")), (("InvalidKey" : Str), (hG K "InvalidKey")), (("InvalidLog" : Str), (hG K "InvalidLog")), (("InvalidModes" : Str), (hG K "InvalidModes")), (("InvalidName" : Str), (hG K "InvalidName")), (("InvalidNumber" : Str), (hG K "InvalidNumber")), (("InvalidProgram" : Str), (hG K "InvalidProgram")), (("InvalidPrograms" : Str), (hG K "InvalidPrograms")), (("InvalidProtocol" : Str), (hG K "InvalidProtocol")), (("InvalidRows" : Str), (hG K "InvalidRows")), (("InvalidScene" : Str), (hG K "InvalidScene")), (("InvalidSession" : Str), (hG K "InvalidSession")), (("InvalidSpan" : Str), (hG K "InvalidSpan")), (("InvalidSpans" : Str), (hG K "InvalidSpans")), (("InvalidStore" : Str), (hG K "InvalidStore")), (("InvalidStrengths" : Str), (hG K "InvalidStrengths")), (("InvalidText" : Str), (hG K "InvalidText")), (("InvalidWeaving" : Str), (hG K "InvalidWeaving")), (("NameTaken" : Str), (hG K "NameTaken")), (("NoProgram" : Str), (hG K "NoProgram")), (("NoStore" : Str), (hG K "NoStore")), (("NotInside" : Str), (hG K "NotInside")), (("NotNeighbours" : Str), (hG K "NotNeighbours")), (("NotRight" : Str), (hG K "NotRight")), (("NothingBad" : Str), (hG K "NothingBad")), (("NothingToRedo" : Str), (hG K "NothingToRedo")), (("NothingToUndo" : Str), (hG K "NothingToUndo")), (("Overlap" : Str), (hG K "Overlap")), (("PartsError" : Str), (hG K "PartsError")), (("TooMany" : Str), (hG K "TooMany")), (("UnknownEntry" : Str), (hG K "UnknownEntry")), (("UnknownMode" : Str), (hG K "UnknownMode")), (("UnknownPart" : Str), (hG K "UnknownPart")), (("Waiting" : Str), (hG K "Waiting"))] "IndexError" (.type "IndexError") && (isxB K [(("Duplicate" : Str), (hG K "Duplicate")), (("Ended" : Str), (hG K "Ended")), (("InvalidCatalog" : Str), (hG K "InvalidCatalog")), (("InvalidChange" : Str), (hG K "InvalidChange")), (("InvalidClash" : Str), (hG K "InvalidClash")), (("InvalidCommand" : Str), (hG K "InvalidCommand")), (("InvalidKey" : Str), (hG K "InvalidKey")), (("InvalidLog" : Str), (hG K "InvalidLog")), (("InvalidModes" : Str), (hG K "InvalidModes")), (("InvalidName" : Str), (hG K "InvalidName")), (("InvalidNumber" : Str), (hG K "InvalidNumber")), (("InvalidProgram" : Str), (hG K "InvalidProgram")), (("InvalidPrograms" : Str), (hG K "InvalidPrograms")), (("InvalidProtocol" : Str), (hG K "InvalidProtocol")), (("InvalidRows" : Str), (hG K "InvalidRows")), (("InvalidScene" : Str), (hG K "InvalidScene")), (("InvalidSession" : Str), (hG K "InvalidSession")), (("InvalidSpan" : Str), (hG K "InvalidSpan")), (("InvalidSpans" : Str), (hG K "InvalidSpans")), (("InvalidStore" : Str), (hG K "InvalidStore")), (("InvalidStrengths" : Str), (hG K "InvalidStrengths")), (("InvalidText" : Str), (hG K "InvalidText")), (("InvalidWeaving" : Str), (hG K "InvalidWeaving")), (("NameTaken" : Str), (hG K "NameTaken")), (("NoProgram" : Str), (hG K "NoProgram")), (("NoStore" : Str), (hG K "NoStore")), (("NotInside" : Str), (hG K "NotInside")), (("NotNeighbours" : Str), (hG K "NotNeighbours")), (("NotRight" : Str), (hG K "NotRight")), (("NothingBad" : Str), (hG K "NothingBad")), (("NothingToRedo" : Str), (hG K "NothingToRedo")), (("NothingToUndo" : Str), (hG K "NothingToUndo")), (("Overlap" : Str), (hG K "Overlap")), (("PartsError" : Str), (hG K "PartsError")), (("TooMany" : Str), (hG K "TooMany")), (("UnknownEntry" : Str), (hG K "UnknownEntry")), (("UnknownMode" : Str), (hG K "UnknownMode")), (("UnknownPart" : Str), (hG K "UnknownPart")), (("Waiting" : Str), (hG K "Waiting"))] "InvalidCatalog" (.ref (hG K "InvalidCatalog")))))))))))))))
def hdB48 (K : PySem.W.Frag) : Bool := isxB K [(("Duplicate" : Str), (hG K "Duplicate")), (("Ended" : Str), (hG K "Ended")), (("InvalidCatalog" : Str), (hG K "InvalidCatalog")), (("InvalidChange" : Str), (hG K "InvalidChange")), (("InvalidClash" : Str), (hG K "InvalidClash")), (("InvalidCommand" : Str), (hG K "InvalidCommand")), (("InvalidKey" : Str), (hG K "InvalidKey")), (("InvalidLog" : Str), (hG K "InvalidLog")), (("InvalidModes" : Str), (hG K "InvalidModes")), (("InvalidName" : Str), (hG K "InvalidName")), (("InvalidNumber" : Str), (hG K "InvalidNumber")), (("InvalidProgram" : Str), (hG K "InvalidProgram")), (("InvalidPrograms" : Str), (hG K "InvalidPrograms")), (("InvalidProtocol" : Str), (hG K "InvalidProtocol")), (("InvalidRows" : Str), (hG K "InvalidRows")), (("InvalidScene" : Str), (hG K "InvalidScene")), (("InvalidSession" : Str), (hG K "InvalidSession")), (("InvalidSpan" : Str), (hG K "InvalidSpan")), (("InvalidSpans" : Str), (hG K "InvalidSpans")), (("InvalidStore" : Str), (hG K "InvalidStore")), (("InvalidStrengths" : Str), (hG K "InvalidStrengths")), (("InvalidText" : Str), (hG K "InvalidText")), (("InvalidWeaving" : Str), (hG K "InvalidWeaving")), (("NameTaken" : Str), (hG K "NameTaken")), (("NoProgram" : Str), (hG K "NoProgram")), (("NoStore" : Str), (hG K "NoStore")), (("NotInside" : Str), (hG K "NotInside")), (("NotNeighbours" : Str), (hG K "NotNeighbours")), (("NotRight" : Str), (hG K "NotRight")), (("NothingBad" : Str), (hG K "NothingBad")), (("NothingToRedo" : Str), (hG K "NothingToRedo")), (("NothingToUndo" : Str), (hG K "NothingToUndo")), (("Overlap" : Str), (hG K "Overlap")), (("PartsError" : Str), (hG K "PartsError")), (("TooMany" : Str), (hG K "TooMany")), (("UnknownEntry" : Str), (hG K "UnknownEntry")), (("UnknownMode" : Str), (hG K "UnknownMode")), (("UnknownPart" : Str), (hG K "UnknownPart")), (("Waiting" : Str), (hG K "Waiting"))] "InvalidChange" (.ref (hG K "InvalidChange")) && (isxB K [(("Duplicate" : Str), (hG K "Duplicate")), (("Ended" : Str), (hG K "Ended")), (("InvalidCatalog" : Str), (hG K "InvalidCatalog")), (("InvalidChange" : Str), (hG K "InvalidChange")), (("InvalidClash" : Str), (hG K "InvalidClash")), (("InvalidCommand" : Str), (hG K "InvalidCommand")), (("InvalidKey" : Str), (hG K "InvalidKey")), (("InvalidLog" : Str), (hG K "InvalidLog")), (("InvalidModes" : Str), (hG K "InvalidModes")), (("InvalidName" : Str), (hG K "InvalidName")), (("InvalidNumber" : Str), (hG K "InvalidNumber")), (("InvalidProgram" : Str), (hG K "InvalidProgram")), (("InvalidPrograms" : Str), (hG K "InvalidPrograms")), (("InvalidProtocol" : Str), (hG K "InvalidProtocol")), (("InvalidRows" : Str), (hG K "InvalidRows")), (("InvalidScene" : Str), (hG K "InvalidScene")), (("InvalidSession" : Str), (hG K "InvalidSession")), (("InvalidSpan" : Str), (hG K "InvalidSpan")), (("InvalidSpans" : Str), (hG K "InvalidSpans")), (("InvalidStore" : Str), (hG K "InvalidStore")), (("InvalidStrengths" : Str), (hG K "InvalidStrengths")), (("InvalidText" : Str), (hG K "InvalidText")), (("InvalidWeaving" : Str), (hG K "InvalidWeaving")), (("NameTaken" : Str), (hG K "NameTaken")), (("NoProgram" : Str), (hG K "NoProgram")), (("NoStore" : Str), (hG K "NoStore")), (("NotInside" : Str), (hG K "NotInside")), (("NotNeighbours" : Str), (hG K "NotNeighbours")), (("NotRight" : Str), (hG K "NotRight")), (("NothingBad" : Str), (hG K "NothingBad")), (("NothingToRedo" : Str), (hG K "NothingToRedo")), (("NothingToUndo" : Str), (hG K "NothingToUndo")), (("Overlap" : Str), (hG K "Overlap")), (("PartsError" : Str), (hG K "PartsError")), (("TooMany" : Str), (hG K "TooMany")), (("UnknownEntry" : Str), (hG K "UnknownEntry")), (("UnknownMode" : Str), (hG K "UnknownMode")), (("UnknownPart" : Str), (hG K "UnknownPart")), (("Waiting" : Str), (hG K "Waiting"))] "InvalidClash" (.ref (hG K "InvalidClash")) && (isxB K [(("Duplicate" : Str), (hG K "Duplicate")), (("Ended" : Str), (hG K "Ended")), (("InvalidCatalog" : Str), (hG K "InvalidCatalog")), (("InvalidChange" : Str), (hG K "InvalidChange")), (("InvalidClash" : Str), (hG K "InvalidClash")), (("InvalidCommand" : Str), (hG K "InvalidCommand")), (("InvalidKey" : Str), (hG K "InvalidKey")), (("InvalidLog" : Str), (hG K "InvalidLog")), (("InvalidModes" : Str), (hG K "InvalidModes")), (("InvalidName" : Str), (hG K "InvalidName")), (("InvalidNumber" : Str), (hG K "InvalidNumber")), (("InvalidProgram" : Str), (hG K "InvalidProgram")), (("InvalidPrograms" : Str), (hG K "InvalidPrograms")), (("InvalidProtocol" : Str), (hG K "InvalidProtocol")), (("InvalidRows" : Str), (hG K "InvalidRows")), (("InvalidScene" : Str), (hG K "InvalidScene")), (("InvalidSession" : Str), (hG K "InvalidSession")), (("InvalidSpan" : Str), (hG K "InvalidSpan")), (("InvalidSpans" : Str), (hG K "InvalidSpans")), (("InvalidStore" : Str), (hG K "InvalidStore")), (("InvalidStrengths" : Str), (hG K "InvalidStrengths")), (("InvalidText" : Str), (hG K "InvalidText")), (("InvalidWeaving" : Str), (hG K "InvalidWeaving")), (("NameTaken" : Str), (hG K "NameTaken")), (("NoProgram" : Str), (hG K "NoProgram")), (("NoStore" : Str), (hG K "NoStore")), (("NotInside" : Str), (hG K "NotInside")), (("NotNeighbours" : Str), (hG K "NotNeighbours")), (("NotRight" : Str), (hG K "NotRight")), (("NothingBad" : Str), (hG K "NothingBad")), (("NothingToRedo" : Str), (hG K "NothingToRedo")), (("NothingToUndo" : Str), (hG K "NothingToUndo")), (("Overlap" : Str), (hG K "Overlap")), (("PartsError" : Str), (hG K "PartsError")), (("TooMany" : Str), (hG K "TooMany")), (("UnknownEntry" : Str), (hG K "UnknownEntry")), (("UnknownMode" : Str), (hG K "UnknownMode")), (("UnknownPart" : Str), (hG K "UnknownPart")), (("Waiting" : Str), (hG K "Waiting"))] "InvalidCommand" (.ref (hG K "InvalidCommand")) && (isxB K [(("Duplicate" : Str), (hG K "Duplicate")), (("Ended" : Str), (hG K "Ended")), (("InvalidCatalog" : Str), (hG K "InvalidCatalog")), (("InvalidChange" : Str), (hG K "InvalidChange")), (("InvalidClash" : Str), (hG K "InvalidClash")), (("InvalidCommand" : Str), (hG K "InvalidCommand")), (("InvalidKey" : Str), (hG K "InvalidKey")), (("InvalidLog" : Str), (hG K "InvalidLog")), (("InvalidModes" : Str), (hG K "InvalidModes")), (("InvalidName" : Str), (hG K "InvalidName")), (("InvalidNumber" : Str), (hG K "InvalidNumber")), (("InvalidProgram" : Str), (hG K "InvalidProgram")), (("InvalidPrograms" : Str), (hG K "InvalidPrograms")), (("InvalidProtocol" : Str), (hG K "InvalidProtocol")), (("InvalidRows" : Str), (hG K "InvalidRows")), (("InvalidScene" : Str), (hG K "InvalidScene")), (("InvalidSession" : Str), (hG K "InvalidSession")), (("InvalidSpan" : Str), (hG K "InvalidSpan")), (("InvalidSpans" : Str), (hG K "InvalidSpans")), (("InvalidStore" : Str), (hG K "InvalidStore")), (("InvalidStrengths" : Str), (hG K "InvalidStrengths")), (("InvalidText" : Str), (hG K "InvalidText")), (("InvalidWeaving" : Str), (hG K "InvalidWeaving")), (("NameTaken" : Str), (hG K "NameTaken")), (("NoProgram" : Str), (hG K "NoProgram")), (("NoStore" : Str), (hG K "NoStore")), (("NotInside" : Str), (hG K "NotInside")), (("NotNeighbours" : Str), (hG K "NotNeighbours")), (("NotRight" : Str), (hG K "NotRight")), (("NothingBad" : Str), (hG K "NothingBad")), (("NothingToRedo" : Str), (hG K "NothingToRedo")), (("NothingToUndo" : Str), (hG K "NothingToUndo")), (("Overlap" : Str), (hG K "Overlap")), (("PartsError" : Str), (hG K "PartsError")), (("TooMany" : Str), (hG K "TooMany")), (("UnknownEntry" : Str), (hG K "UnknownEntry")), (("UnknownMode" : Str), (hG K "UnknownMode")), (("UnknownPart" : Str), (hG K "UnknownPart")), (("Waiting" : Str), (hG K "Waiting"))] "InvalidKey" (.ref (hG K "InvalidKey")) && (isxB K [(("Duplicate" : Str), (hG K "Duplicate")), (("Ended" : Str), (hG K "Ended")), (("InvalidCatalog" : Str), (hG K "InvalidCatalog")), (("InvalidChange" : Str), (hG K "InvalidChange")), (("InvalidClash" : Str), (hG K "InvalidClash")), (("InvalidCommand" : Str), (hG K "InvalidCommand")), (("InvalidKey" : Str), (hG K "InvalidKey")), (("InvalidLog" : Str), (hG K "InvalidLog")), (("InvalidModes" : Str), (hG K "InvalidModes")), (("InvalidName" : Str), (hG K "InvalidName")), (("InvalidNumber" : Str), (hG K "InvalidNumber")), (("InvalidProgram" : Str), (hG K "InvalidProgram")), (("InvalidPrograms" : Str), (hG K "InvalidPrograms")), (("InvalidProtocol" : Str), (hG K "InvalidProtocol")), (("InvalidRows" : Str), (hG K "InvalidRows")), (("InvalidScene" : Str), (hG K "InvalidScene")), (("InvalidSession" : Str), (hG K "InvalidSession")), (("InvalidSpan" : Str), (hG K "InvalidSpan")), (("InvalidSpans" : Str), (hG K "InvalidSpans")), (("InvalidStore" : Str), (hG K "InvalidStore")), (("InvalidStrengths" : Str), (hG K "InvalidStrengths")), (("InvalidText" : Str), (hG K "InvalidText")), (("InvalidWeaving" : Str), (hG K "InvalidWeaving")), (("NameTaken" : Str), (hG K "NameTaken")), (("NoProgram" : Str), (hG K "NoProgram")), (("NoStore" : Str), (hG K "NoStore")), (("NotInside" : Str), (hG K "NotInside")), (("NotNeighbours" : Str), (hG K "NotNeighbours")), (("NotRight" : Str), (hG K "NotRight")), (("NothingBad" : Str), (hG K "NothingBad")), (("NothingToRedo" : Str), (hG K "NothingToRedo")), (("NothingToUndo" : Str), (hG K "NothingToUndo")), (("Overlap" : Str), (hG K "Overlap")), (("PartsError" : Str), (hG K "PartsError")), (("TooMany" : Str), (hG K "TooMany")), (("UnknownEntry" : Str), (hG K "UnknownEntry")), (("UnknownMode" : Str), (hG K "UnknownMode")), (("UnknownPart" : Str), (hG K "UnknownPart")), (("Waiting" : Str), (hG K "Waiting"))] "InvalidLog" (.ref (hG K "InvalidLog")) && (isxB K [(("Duplicate" : Str), (hG K "Duplicate")), (("Ended" : Str), (hG K "Ended")), (("InvalidCatalog" : Str), (hG K "InvalidCatalog")), (("InvalidChange" : Str), (hG K "InvalidChange")), (("InvalidClash" : Str), (hG K "InvalidClash")), (("InvalidCommand" : Str), (hG K "InvalidCommand")), (("InvalidKey" : Str), (hG K "InvalidKey")), (("InvalidLog" : Str), (hG K "InvalidLog")), (("InvalidModes" : Str), (hG K "InvalidModes")), (("InvalidName" : Str), (hG K "InvalidName")), (("InvalidNumber" : Str), (hG K "InvalidNumber")), (("InvalidProgram" : Str), (hG K "InvalidProgram")), (("InvalidPrograms" : Str), (hG K "InvalidPrograms")), (("InvalidProtocol" : Str), (hG K "InvalidProtocol")), (("InvalidRows" : Str), (hG K "InvalidRows")), (("InvalidScene" : Str), (hG K "InvalidScene")), (("InvalidSession" : Str), (hG K "InvalidSession")), (("InvalidSpan" : Str), (hG K "InvalidSpan")), (("InvalidSpans" : Str), (hG K "InvalidSpans")), (("InvalidStore" : Str), (hG K "InvalidStore")), (("InvalidStrengths" : Str), (hG K "InvalidStrengths")), (("InvalidText" : Str), (hG K "InvalidText")), (("InvalidWeaving" : Str), (hG K "InvalidWeaving")), (("NameTaken" : Str), (hG K "NameTaken")), (("NoProgram" : Str), (hG K "NoProgram")), (("NoStore" : Str), (hG K "NoStore")), (("NotInside" : Str), (hG K "NotInside")), (("NotNeighbours" : Str), (hG K "NotNeighbours")), (("NotRight" : Str), (hG K "NotRight")), (("NothingBad" : Str), (hG K "NothingBad")), (("NothingToRedo" : Str), (hG K "NothingToRedo")), (("NothingToUndo" : Str), (hG K "NothingToUndo")), (("Overlap" : Str), (hG K "Overlap")), (("PartsError" : Str), (hG K "PartsError")), (("TooMany" : Str), (hG K "TooMany")), (("UnknownEntry" : Str), (hG K "UnknownEntry")), (("UnknownMode" : Str), (hG K "UnknownMode")), (("UnknownPart" : Str), (hG K "UnknownPart")), (("Waiting" : Str), (hG K "Waiting"))] "InvalidModes" (.ref (hG K "InvalidModes")) && (isxB K [(("Duplicate" : Str), (hG K "Duplicate")), (("Ended" : Str), (hG K "Ended")), (("InvalidCatalog" : Str), (hG K "InvalidCatalog")), (("InvalidChange" : Str), (hG K "InvalidChange")), (("InvalidClash" : Str), (hG K "InvalidClash")), (("InvalidCommand" : Str), (hG K "InvalidCommand")), (("InvalidKey" : Str), (hG K "InvalidKey")), (("InvalidLog" : Str), (hG K "InvalidLog")), (("InvalidModes" : Str), (hG K "InvalidModes")), (("InvalidName" : Str), (hG K "InvalidName")), (("InvalidNumber" : Str), (hG K "InvalidNumber")), (("InvalidProgram" : Str), (hG K "InvalidProgram")), (("InvalidPrograms" : Str), (hG K "InvalidPrograms")), (("InvalidProtocol" : Str), (hG K "InvalidProtocol")), (("InvalidRows" : Str), (hG K "InvalidRows")), (("InvalidScene" : Str), (hG K "InvalidScene")), (("InvalidSession" : Str), (hG K "InvalidSession")), (("InvalidSpan" : Str), (hG K "InvalidSpan")), (("InvalidSpans" : Str), (hG K "InvalidSpans")), (("InvalidStore" : Str), (hG K "InvalidStore")), (("InvalidStrengths" : Str), (hG K "InvalidStrengths")), (("InvalidText" : Str), (hG K "InvalidText")), (("InvalidWeaving" : Str), (hG K "InvalidWeaving")), (("NameTaken" : Str), (hG K "NameTaken")), (("NoProgram" : Str), (hG K "NoProgram")), (("NoStore" : Str), (hG K "NoStore")), (("NotInside" : Str), (hG K "NotInside")), (("NotNeighbours" : Str), (hG K "NotNeighbours")), (("NotRight" : Str), (hG K "NotRight")), (("NothingBad" : Str), (hG K "NothingBad")), (("NothingToRedo" : Str), (hG K "NothingToRedo")), (("NothingToUndo" : Str), (hG K "NothingToUndo")), (("Overlap" : Str), (hG K "Overlap")), (("PartsError" : Str), (hG K "PartsError")), (("TooMany" : Str), (hG K "TooMany")), (("UnknownEntry" : Str), (hG K "UnknownEntry")), (("UnknownMode" : Str), (hG K "UnknownMode")), (("UnknownPart" : Str), (hG K "UnknownPart")), (("Waiting" : Str), (hG K "Waiting"))] "InvalidName" (.ref (hG K "InvalidName")) && (isxB K [(("Duplicate" : Str), (hG K "Duplicate")), (("Ended" : Str), (hG K "Ended")), (("InvalidCatalog" : Str), (hG K "InvalidCatalog")), (("InvalidChange" : Str), (hG K "InvalidChange")), (("InvalidClash" : Str), (hG K "InvalidClash")), (("InvalidCommand" : Str), (hG K "InvalidCommand")), (("InvalidKey" : Str), (hG K "InvalidKey")), (("InvalidLog" : Str), (hG K "InvalidLog")), (("InvalidModes" : Str), (hG K "InvalidModes")), (("InvalidName" : Str), (hG K "InvalidName")), (("InvalidNumber" : Str), (hG K "InvalidNumber")), (("InvalidProgram" : Str), (hG K "InvalidProgram")), (("InvalidPrograms" : Str), (hG K "InvalidPrograms")), (("InvalidProtocol" : Str), (hG K "InvalidProtocol")), (("InvalidRows" : Str), (hG K "InvalidRows")), (("InvalidScene" : Str), (hG K "InvalidScene")), (("InvalidSession" : Str), (hG K "InvalidSession")), (("InvalidSpan" : Str), (hG K "InvalidSpan")), (("InvalidSpans" : Str), (hG K "InvalidSpans")), (("InvalidStore" : Str), (hG K "InvalidStore")), (("InvalidStrengths" : Str), (hG K "InvalidStrengths")), (("InvalidText" : Str), (hG K "InvalidText")), (("InvalidWeaving" : Str), (hG K "InvalidWeaving")), (("NameTaken" : Str), (hG K "NameTaken")), (("NoProgram" : Str), (hG K "NoProgram")), (("NoStore" : Str), (hG K "NoStore")), (("NotInside" : Str), (hG K "NotInside")), (("NotNeighbours" : Str), (hG K "NotNeighbours")), (("NotRight" : Str), (hG K "NotRight")), (("NothingBad" : Str), (hG K "NothingBad")), (("NothingToRedo" : Str), (hG K "NothingToRedo")), (("NothingToUndo" : Str), (hG K "NothingToUndo")), (("Overlap" : Str), (hG K "Overlap")), (("PartsError" : Str), (hG K "PartsError")), (("TooMany" : Str), (hG K "TooMany")), (("UnknownEntry" : Str), (hG K "UnknownEntry")), (("UnknownMode" : Str), (hG K "UnknownMode")), (("UnknownPart" : Str), (hG K "UnknownPart")), (("Waiting" : Str), (hG K "Waiting"))] "InvalidNumber" (.ref (hG K "InvalidNumber")) && (isxB K [(("Duplicate" : Str), (hG K "Duplicate")), (("Ended" : Str), (hG K "Ended")), (("InvalidCatalog" : Str), (hG K "InvalidCatalog")), (("InvalidChange" : Str), (hG K "InvalidChange")), (("InvalidClash" : Str), (hG K "InvalidClash")), (("InvalidCommand" : Str), (hG K "InvalidCommand")), (("InvalidKey" : Str), (hG K "InvalidKey")), (("InvalidLog" : Str), (hG K "InvalidLog")), (("InvalidModes" : Str), (hG K "InvalidModes")), (("InvalidName" : Str), (hG K "InvalidName")), (("InvalidNumber" : Str), (hG K "InvalidNumber")), (("InvalidProgram" : Str), (hG K "InvalidProgram")), (("InvalidPrograms" : Str), (hG K "InvalidPrograms")), (("InvalidProtocol" : Str), (hG K "InvalidProtocol")), (("InvalidRows" : Str), (hG K "InvalidRows")), (("InvalidScene" : Str), (hG K "InvalidScene")), (("InvalidSession" : Str), (hG K "InvalidSession")), (("InvalidSpan" : Str), (hG K "InvalidSpan")), (("InvalidSpans" : Str), (hG K "InvalidSpans")), (("InvalidStore" : Str), (hG K "InvalidStore")), (("InvalidStrengths" : Str), (hG K "InvalidStrengths")), (("InvalidText" : Str), (hG K "InvalidText")), (("InvalidWeaving" : Str), (hG K "InvalidWeaving")), (("NameTaken" : Str), (hG K "NameTaken")), (("NoProgram" : Str), (hG K "NoProgram")), (("NoStore" : Str), (hG K "NoStore")), (("NotInside" : Str), (hG K "NotInside")), (("NotNeighbours" : Str), (hG K "NotNeighbours")), (("NotRight" : Str), (hG K "NotRight")), (("NothingBad" : Str), (hG K "NothingBad")), (("NothingToRedo" : Str), (hG K "NothingToRedo")), (("NothingToUndo" : Str), (hG K "NothingToUndo")), (("Overlap" : Str), (hG K "Overlap")), (("PartsError" : Str), (hG K "PartsError")), (("TooMany" : Str), (hG K "TooMany")), (("UnknownEntry" : Str), (hG K "UnknownEntry")), (("UnknownMode" : Str), (hG K "UnknownMode")), (("UnknownPart" : Str), (hG K "UnknownPart")), (("Waiting" : Str), (hG K "Waiting"))] "InvalidProgram" (.ref (hG K "InvalidProgram")) && (isxB K [(("Duplicate" : Str), (hG K "Duplicate")), (("Ended" : Str), (hG K "Ended")), (("InvalidCatalog" : Str), (hG K "InvalidCatalog")), (("InvalidChange" : Str), (hG K "InvalidChange")), (("InvalidClash" : Str), (hG K "InvalidClash")), (("InvalidCommand" : Str), (hG K "InvalidCommand")), (("InvalidKey" : Str), (hG K "InvalidKey")), (("InvalidLog" : Str), (hG K "InvalidLog")), (("InvalidModes" : Str), (hG K "InvalidModes")), (("InvalidName" : Str), (hG K "InvalidName")), (("InvalidNumber" : Str), (hG K "InvalidNumber")), (("InvalidProgram" : Str), (hG K "InvalidProgram")), (("InvalidPrograms" : Str), (hG K "InvalidPrograms")), (("InvalidProtocol" : Str), (hG K "InvalidProtocol")), (("InvalidRows" : Str), (hG K "InvalidRows")), (("InvalidScene" : Str), (hG K "InvalidScene")), (("InvalidSession" : Str), (hG K "InvalidSession")), (("InvalidSpan" : Str), (hG K "InvalidSpan")), (("InvalidSpans" : Str), (hG K "InvalidSpans")), (("InvalidStore" : Str), (hG K "InvalidStore")), (("InvalidStrengths" : Str), (hG K "InvalidStrengths")), (("InvalidText" : Str), (hG K "InvalidText")), (("InvalidWeaving" : Str), (hG K "InvalidWeaving")), (("NameTaken" : Str), (hG K "NameTaken")), (("NoProgram" : Str), (hG K "NoProgram")), (("NoStore" : Str), (hG K "NoStore")), (("NotInside" : Str), (hG K "NotInside")), (("NotNeighbours" : Str), (hG K "NotNeighbours")), (("NotRight" : Str), (hG K "NotRight")), (("NothingBad" : Str), (hG K "NothingBad")), (("NothingToRedo" : Str), (hG K "NothingToRedo")), (("NothingToUndo" : Str), (hG K "NothingToUndo")), (("Overlap" : Str), (hG K "Overlap")), (("PartsError" : Str), (hG K "PartsError")), (("TooMany" : Str), (hG K "TooMany")), (("UnknownEntry" : Str), (hG K "UnknownEntry")), (("UnknownMode" : Str), (hG K "UnknownMode")), (("UnknownPart" : Str), (hG K "UnknownPart")), (("Waiting" : Str), (hG K "Waiting"))] "InvalidPrograms" (.ref (hG K "InvalidPrograms")) && (isxB K [(("Duplicate" : Str), (hG K "Duplicate")), (("Ended" : Str), (hG K "Ended")), (("InvalidCatalog" : Str), (hG K "InvalidCatalog")), (("InvalidChange" : Str), (hG K "InvalidChange")), (("InvalidClash" : Str), (hG K "InvalidClash")), (("InvalidCommand" : Str), (hG K "InvalidCommand")), (("InvalidKey" : Str), (hG K "InvalidKey")), (("InvalidLog" : Str), (hG K "InvalidLog")), (("InvalidModes" : Str), (hG K "InvalidModes")), (("InvalidName" : Str), (hG K "InvalidName")), (("InvalidNumber" : Str), (hG K "InvalidNumber")), (("InvalidProgram" : Str), (hG K "InvalidProgram")), (("InvalidPrograms" : Str), (hG K "InvalidPrograms")), (("InvalidProtocol" : Str), (hG K "InvalidProtocol")), (("InvalidRows" : Str), (hG K "InvalidRows")), (("InvalidScene" : Str), (hG K "InvalidScene")), (("InvalidSession" : Str), (hG K "InvalidSession")), (("InvalidSpan" : Str), (hG K "InvalidSpan")), (("InvalidSpans" : Str), (hG K "InvalidSpans")), (("InvalidStore" : Str), (hG K "InvalidStore")), (("InvalidStrengths" : Str), (hG K "InvalidStrengths")), (("InvalidText" : Str), (hG K "InvalidText")), (("InvalidWeaving" : Str), (hG K "InvalidWeaving")), (("NameTaken" : Str), (hG K "NameTaken")), (("NoProgram" : Str), (hG K "NoProgram")), (("NoStore" : Str), (hG K "NoStore")), (("NotInside" : Str), (hG K "NotInside")), (("NotNeighbours" : Str), (hG K "NotNeighbours")), (("NotRight" : Str), (hG K "NotRight")), (("NothingBad" : Str), (hG K "NothingBad")), (("NothingToRedo" : Str), (hG K "NothingToRedo")), (("NothingToUndo" : Str), (hG K "NothingToUndo")), (("Overlap" : Str), (hG K "Overlap")), (("PartsError" : Str), (hG K "PartsError")), (("TooMany" : Str), (hG K "TooMany")), (("UnknownEntry" : Str), (hG K "UnknownEntry")), (("UnknownMode" : Str), (hG K "UnknownMode")), (("UnknownPart" : Str), (hG K "UnknownPart")), (("Waiting" : Str), (hG K "Waiting"))] "InvalidProtocol" (.ref (hG K "InvalidProtocol")) && (isxB K [(("Duplicate" : Str), (hG K "Duplicate")), (("Ended" : Str), (hG K "Ended")), (("InvalidCatalog" : Str), (hG K "InvalidCatalog")), (("InvalidChange" : Str), (hG K "InvalidChange")), (("InvalidClash" : Str), (hG K "InvalidClash")), (("InvalidCommand" : Str), (hG K "InvalidCommand")), (("InvalidKey" : Str), (hG K "InvalidKey")), (("InvalidLog" : Str), (hG K "InvalidLog")), (("InvalidModes" : Str), (hG K "InvalidModes")), (("InvalidName" : Str), (hG K "InvalidName")), (("InvalidNumber" : Str), (hG K "InvalidNumber")), (("InvalidProgram" : Str), (hG K "InvalidProgram")), (("InvalidPrograms" : Str), (hG K "InvalidPrograms")), (("InvalidProtocol" : Str), (hG K "InvalidProtocol")), (("InvalidRows" : Str), (hG K "InvalidRows")), (("InvalidScene" : Str), (hG K "InvalidScene")), (("InvalidSession" : Str), (hG K "InvalidSession")), (("InvalidSpan" : Str), (hG K "InvalidSpan")), (("InvalidSpans" : Str), (hG K "InvalidSpans")), (("InvalidStore" : Str), (hG K "InvalidStore")), (("InvalidStrengths" : Str), (hG K "InvalidStrengths")), (("InvalidText" : Str), (hG K "InvalidText")), (("InvalidWeaving" : Str), (hG K "InvalidWeaving")), (("NameTaken" : Str), (hG K "NameTaken")), (("NoProgram" : Str), (hG K "NoProgram")), (("NoStore" : Str), (hG K "NoStore")), (("NotInside" : Str), (hG K "NotInside")), (("NotNeighbours" : Str), (hG K "NotNeighbours")), (("NotRight" : Str), (hG K "NotRight")), (("NothingBad" : Str), (hG K "NothingBad")), (("NothingToRedo" : Str), (hG K "NothingToRedo")), (("NothingToUndo" : Str), (hG K "NothingToUndo")), (("Overlap" : Str), (hG K "Overlap")), (("PartsError" : Str), (hG K "PartsError")), (("TooMany" : Str), (hG K "TooMany")), (("UnknownEntry" : Str), (hG K "UnknownEntry")), (("UnknownMode" : Str), (hG K "UnknownMode")), (("UnknownPart" : Str), (hG K "UnknownPart")), (("Waiting" : Str), (hG K "Waiting"))] "InvalidRows" (.ref (hG K "InvalidRows")) && (isxB K [(("Duplicate" : Str), (hG K "Duplicate")), (("Ended" : Str), (hG K "Ended")), (("InvalidCatalog" : Str), (hG K "InvalidCatalog")), (("InvalidChange" : Str), (hG K "InvalidChange")), (("InvalidClash" : Str), (hG K "InvalidClash")), (("InvalidCommand" : Str), (hG K "InvalidCommand")), (("InvalidKey" : Str), (hG K "InvalidKey")), (("InvalidLog" : Str), (hG K "InvalidLog")), (("InvalidModes" : Str), (hG K "InvalidModes")), (("InvalidName" : Str), (hG K "InvalidName")), (("InvalidNumber" : Str), (hG K "InvalidNumber")), (("InvalidProgram" : Str), (hG K "InvalidProgram")), (("InvalidPrograms" : Str), (hG K "InvalidPrograms")), (("InvalidProtocol" : Str), (hG K "InvalidProtocol")), (("InvalidRows" : Str), (hG K "InvalidRows")), (("InvalidScene" : Str), (hG K "InvalidScene")), (("InvalidSession" : Str), (hG K "InvalidSession")), (("InvalidSpan" : Str), (hG K "InvalidSpan")), (("InvalidSpans" : Str), (hG K "InvalidSpans")), (("InvalidStore" : Str), (hG K "InvalidStore")), (("InvalidStrengths" : Str), (hG K "InvalidStrengths")), (("InvalidText" : Str), (hG K "InvalidText")), (("InvalidWeaving" : Str), (hG K "InvalidWeaving")), (("NameTaken" : Str), (hG K "NameTaken")), (("NoProgram" : Str), (hG K "NoProgram")), (("NoStore" : Str), (hG K "NoStore")), (("NotInside" : Str), (hG K "NotInside")), (("NotNeighbours" : Str), (hG K "NotNeighbours")), (("NotRight" : Str), (hG K "NotRight")), (("NothingBad" : Str), (hG K "NothingBad")), (("NothingToRedo" : Str), (hG K "NothingToRedo")), (("NothingToUndo" : Str), (hG K "NothingToUndo")), (("Overlap" : Str), (hG K "Overlap")), (("PartsError" : Str), (hG K "PartsError")), (("TooMany" : Str), (hG K "TooMany")), (("UnknownEntry" : Str), (hG K "UnknownEntry")), (("UnknownMode" : Str), (hG K "UnknownMode")), (("UnknownPart" : Str), (hG K "UnknownPart")), (("Waiting" : Str), (hG K "Waiting"))] "InvalidScene" (.ref (hG K "InvalidScene")) && (isxB K [(("Duplicate" : Str), (hG K "Duplicate")), (("Ended" : Str), (hG K "Ended")), (("InvalidCatalog" : Str), (hG K "InvalidCatalog")), (("InvalidChange" : Str), (hG K "InvalidChange")), (("InvalidClash" : Str), (hG K "InvalidClash")), (("InvalidCommand" : Str), (hG K "InvalidCommand")), (("InvalidKey" : Str), (hG K "InvalidKey")), (("InvalidLog" : Str), (hG K "InvalidLog")), (("InvalidModes" : Str), (hG K "InvalidModes")), (("InvalidName" : Str), (hG K "InvalidName")), (("InvalidNumber" : Str), (hG K "InvalidNumber")), (("InvalidProgram" : Str), (hG K "InvalidProgram")), (("InvalidPrograms" : Str), (hG K "InvalidPrograms")), (("InvalidProtocol" : Str), (hG K "InvalidProtocol")), (("InvalidRows" : Str), (hG K "InvalidRows")), (("InvalidScene" : Str), (hG K "InvalidScene")), (("InvalidSession" : Str), (hG K "InvalidSession")), (("InvalidSpan" : Str), (hG K "InvalidSpan")), (("InvalidSpans" : Str), (hG K "InvalidSpans")), (("InvalidStore" : Str), (hG K "InvalidStore")), (("InvalidStrengths" : Str), (hG K "InvalidStrengths")), (("InvalidText" : Str), (hG K "InvalidText")), (("InvalidWeaving" : Str), (hG K "InvalidWeaving")), (("NameTaken" : Str), (hG K "NameTaken")), (("NoProgram" : Str), (hG K "NoProgram")), (("NoStore" : Str), (hG K "NoStore")), (("NotInside" : Str), (hG K "NotInside")), (("NotNeighbours" : Str), (hG K "NotNeighbours")), (("NotRight" : Str), (hG K "NotRight")), (("NothingBad" : Str), (hG K "NothingBad")), (("NothingToRedo" : Str), (hG K "NothingToRedo")), (("NothingToUndo" : Str), (hG K "NothingToUndo")), (("Overlap" : Str), (hG K "Overlap")), (("PartsError" : Str), (hG K "PartsError")), (("TooMany" : Str), (hG K "TooMany")), (("UnknownEntry" : Str), (hG K "UnknownEntry")), (("UnknownMode" : Str), (hG K "UnknownMode")), (("UnknownPart" : Str), (hG K "UnknownPart")), (("Waiting" : Str), (hG K "Waiting"))] "InvalidSession" (.ref (hG K "InvalidSession")))))))))))))))
def hdB49 (K : PySem.W.Frag) : Bool := isxB K [(("Duplicate" : Str), (hG K "Duplicate")), (("Ended" : Str), (hG K "Ended")), (("InvalidCatalog" : Str), (hG K "InvalidCatalog")), (("InvalidChange" : Str), (hG K "InvalidChange")), (("InvalidClash" : Str), (hG K "InvalidClash")), (("InvalidCommand" : Str), (hG K "InvalidCommand")), (("InvalidKey" : Str), (hG K "InvalidKey")), (("InvalidLog" : Str), (hG K "InvalidLog")), (("InvalidModes" : Str), (hG K "InvalidModes")), (("InvalidName" : Str), (hG K "InvalidName")), (("InvalidNumber" : Str), (hG K "InvalidNumber")), (("InvalidProgram" : Str), (hG K "InvalidProgram")), (("InvalidPrograms" : Str), (hG K "InvalidPrograms")), (("InvalidProtocol" : Str), (hG K "InvalidProtocol")), (("InvalidRows" : Str), (hG K "InvalidRows")), (("InvalidScene" : Str), (hG K "InvalidScene")), (("InvalidSession" : Str), (hG K "InvalidSession")), (("InvalidSpan" : Str), (hG K "InvalidSpan")), (("InvalidSpans" : Str), (hG K "InvalidSpans")), (("InvalidStore" : Str), (hG K "InvalidStore")), (("InvalidStrengths" : Str), (hG K "InvalidStrengths")), (("InvalidText" : Str), (hG K "InvalidText")), (("InvalidWeaving" : Str), (hG K "InvalidWeaving")), (("NameTaken" : Str), (hG K "NameTaken")), (("NoProgram" : Str), (hG K "NoProgram")), (("NoStore" : Str), (hG K "NoStore")), (("NotInside" : Str), (hG K "NotInside")), (("NotNeighbours" : Str), (hG K "NotNeighbours")), (("NotRight" : Str), (hG K "NotRight")), (("NothingBad" : Str), (hG K "NothingBad")), (("NothingToRedo" : Str), (hG K "NothingToRedo")), (("NothingToUndo" : Str), (hG K "NothingToUndo")), (("Overlap" : Str), (hG K "Overlap")), (("PartsError" : Str), (hG K "PartsError")), (("TooMany" : Str), (hG K "TooMany")), (("UnknownEntry" : Str), (hG K "UnknownEntry")), (("UnknownMode" : Str), (hG K "UnknownMode")), (("UnknownPart" : Str), (hG K "UnknownPart")), (("Waiting" : Str), (hG K "Waiting"))] "InvalidSpan" (.ref (hG K "InvalidSpan")) && (isxB K [(("Duplicate" : Str), (hG K "Duplicate")), (("Ended" : Str), (hG K "Ended")), (("InvalidCatalog" : Str), (hG K "InvalidCatalog")), (("InvalidChange" : Str), (hG K "InvalidChange")), (("InvalidClash" : Str), (hG K "InvalidClash")), (("InvalidCommand" : Str), (hG K "InvalidCommand")), (("InvalidKey" : Str), (hG K "InvalidKey")), (("InvalidLog" : Str), (hG K "InvalidLog")), (("InvalidModes" : Str), (hG K "InvalidModes")), (("InvalidName" : Str), (hG K "InvalidName")), (("InvalidNumber" : Str), (hG K "InvalidNumber")), (("InvalidProgram" : Str), (hG K "InvalidProgram")), (("InvalidPrograms" : Str), (hG K "InvalidPrograms")), (("InvalidProtocol" : Str), (hG K "InvalidProtocol")), (("InvalidRows" : Str), (hG K "InvalidRows")), (("InvalidScene" : Str), (hG K "InvalidScene")), (("InvalidSession" : Str), (hG K "InvalidSession")), (("InvalidSpan" : Str), (hG K "InvalidSpan")), (("InvalidSpans" : Str), (hG K "InvalidSpans")), (("InvalidStore" : Str), (hG K "InvalidStore")), (("InvalidStrengths" : Str), (hG K "InvalidStrengths")), (("InvalidText" : Str), (hG K "InvalidText")), (("InvalidWeaving" : Str), (hG K "InvalidWeaving")), (("NameTaken" : Str), (hG K "NameTaken")), (("NoProgram" : Str), (hG K "NoProgram")), (("NoStore" : Str), (hG K "NoStore")), (("NotInside" : Str), (hG K "NotInside")), (("NotNeighbours" : Str), (hG K "NotNeighbours")), (("NotRight" : Str), (hG K "NotRight")), (("NothingBad" : Str), (hG K "NothingBad")), (("NothingToRedo" : Str), (hG K "NothingToRedo")), (("NothingToUndo" : Str), (hG K "NothingToUndo")), (("Overlap" : Str), (hG K "Overlap")), (("PartsError" : Str), (hG K "PartsError")), (("TooMany" : Str), (hG K "TooMany")), (("UnknownEntry" : Str), (hG K "UnknownEntry")), (("UnknownMode" : Str), (hG K "UnknownMode")), (("UnknownPart" : Str), (hG K "UnknownPart")), (("Waiting" : Str), (hG K "Waiting"))] "InvalidSpans" (.ref (hG K "InvalidSpans")) && (isxB K [(("Duplicate" : Str), (hG K "Duplicate")), (("Ended" : Str), (hG K "Ended")), (("InvalidCatalog" : Str), (hG K "InvalidCatalog")), (("InvalidChange" : Str), (hG K "InvalidChange")), (("InvalidClash" : Str), (hG K "InvalidClash")), (("InvalidCommand" : Str), (hG K "InvalidCommand")), (("InvalidKey" : Str), (hG K "InvalidKey")), (("InvalidLog" : Str), (hG K "InvalidLog")), (("InvalidModes" : Str), (hG K "InvalidModes")), (("InvalidName" : Str), (hG K "InvalidName")), (("InvalidNumber" : Str), (hG K "InvalidNumber")), (("InvalidProgram" : Str), (hG K "InvalidProgram")), (("InvalidPrograms" : Str), (hG K "InvalidPrograms")), (("InvalidProtocol" : Str), (hG K "InvalidProtocol")), (("InvalidRows" : Str), (hG K "InvalidRows")), (("InvalidScene" : Str), (hG K "InvalidScene")), (("InvalidSession" : Str), (hG K "InvalidSession")), (("InvalidSpan" : Str), (hG K "InvalidSpan")), (("InvalidSpans" : Str), (hG K "InvalidSpans")), (("InvalidStore" : Str), (hG K "InvalidStore")), (("InvalidStrengths" : Str), (hG K "InvalidStrengths")), (("InvalidText" : Str), (hG K "InvalidText")), (("InvalidWeaving" : Str), (hG K "InvalidWeaving")), (("NameTaken" : Str), (hG K "NameTaken")), (("NoProgram" : Str), (hG K "NoProgram")), (("NoStore" : Str), (hG K "NoStore")), (("NotInside" : Str), (hG K "NotInside")), (("NotNeighbours" : Str), (hG K "NotNeighbours")), (("NotRight" : Str), (hG K "NotRight")), (("NothingBad" : Str), (hG K "NothingBad")), (("NothingToRedo" : Str), (hG K "NothingToRedo")), (("NothingToUndo" : Str), (hG K "NothingToUndo")), (("Overlap" : Str), (hG K "Overlap")), (("PartsError" : Str), (hG K "PartsError")), (("TooMany" : Str), (hG K "TooMany")), (("UnknownEntry" : Str), (hG K "UnknownEntry")), (("UnknownMode" : Str), (hG K "UnknownMode")), (("UnknownPart" : Str), (hG K "UnknownPart")), (("Waiting" : Str), (hG K "Waiting"))] "InvalidStore" (.ref (hG K "InvalidStore")) && (isxB K [(("Duplicate" : Str), (hG K "Duplicate")), (("Ended" : Str), (hG K "Ended")), (("InvalidCatalog" : Str), (hG K "InvalidCatalog")), (("InvalidChange" : Str), (hG K "InvalidChange")), (("InvalidClash" : Str), (hG K "InvalidClash")), (("InvalidCommand" : Str), (hG K "InvalidCommand")), (("InvalidKey" : Str), (hG K "InvalidKey")), (("InvalidLog" : Str), (hG K "InvalidLog")), (("InvalidModes" : Str), (hG K "InvalidModes")), (("InvalidName" : Str), (hG K "InvalidName")), (("InvalidNumber" : Str), (hG K "InvalidNumber")), (("InvalidProgram" : Str), (hG K "InvalidProgram")), (("InvalidPrograms" : Str), (hG K "InvalidPrograms")), (("InvalidProtocol" : Str), (hG K "InvalidProtocol")), (("InvalidRows" : Str), (hG K "InvalidRows")), (("InvalidScene" : Str), (hG K "InvalidScene")), (("InvalidSession" : Str), (hG K "InvalidSession")), (("InvalidSpan" : Str), (hG K "InvalidSpan")), (("InvalidSpans" : Str), (hG K "InvalidSpans")), (("InvalidStore" : Str), (hG K "InvalidStore")), (("InvalidStrengths" : Str), (hG K "InvalidStrengths")), (("InvalidText" : Str), (hG K "InvalidText")), (("InvalidWeaving" : Str), (hG K "InvalidWeaving")), (("NameTaken" : Str), (hG K "NameTaken")), (("NoProgram" : Str), (hG K "NoProgram")), (("NoStore" : Str), (hG K "NoStore")), (("NotInside" : Str), (hG K "NotInside")), (("NotNeighbours" : Str), (hG K "NotNeighbours")), (("NotRight" : Str), (hG K "NotRight")), (("NothingBad" : Str), (hG K "NothingBad")), (("NothingToRedo" : Str), (hG K "NothingToRedo")), (("NothingToUndo" : Str), (hG K "NothingToUndo")), (("Overlap" : Str), (hG K "Overlap")), (("PartsError" : Str), (hG K "PartsError")), (("TooMany" : Str), (hG K "TooMany")), (("UnknownEntry" : Str), (hG K "UnknownEntry")), (("UnknownMode" : Str), (hG K "UnknownMode")), (("UnknownPart" : Str), (hG K "UnknownPart")), (("Waiting" : Str), (hG K "Waiting"))] "InvalidStrengths" (.ref (hG K "InvalidStrengths")) && (isxB K [(("Duplicate" : Str), (hG K "Duplicate")), (("Ended" : Str), (hG K "Ended")), (("InvalidCatalog" : Str), (hG K "InvalidCatalog")), (("InvalidChange" : Str), (hG K "InvalidChange")), (("InvalidClash" : Str), (hG K "InvalidClash")), (("InvalidCommand" : Str), (hG K "InvalidCommand")), (("InvalidKey" : Str), (hG K "InvalidKey")), (("InvalidLog" : Str), (hG K "InvalidLog")), (("InvalidModes" : Str), (hG K "InvalidModes")), (("InvalidName" : Str), (hG K "InvalidName")), (("InvalidNumber" : Str), (hG K "InvalidNumber")), (("InvalidProgram" : Str), (hG K "InvalidProgram")), (("InvalidPrograms" : Str), (hG K "InvalidPrograms")), (("InvalidProtocol" : Str), (hG K "InvalidProtocol")), (("InvalidRows" : Str), (hG K "InvalidRows")), (("InvalidScene" : Str), (hG K "InvalidScene")), (("InvalidSession" : Str), (hG K "InvalidSession")), (("InvalidSpan" : Str), (hG K "InvalidSpan")), (("InvalidSpans" : Str), (hG K "InvalidSpans")), (("InvalidStore" : Str), (hG K "InvalidStore")), (("InvalidStrengths" : Str), (hG K "InvalidStrengths")), (("InvalidText" : Str), (hG K "InvalidText")), (("InvalidWeaving" : Str), (hG K "InvalidWeaving")), (("NameTaken" : Str), (hG K "NameTaken")), (("NoProgram" : Str), (hG K "NoProgram")), (("NoStore" : Str), (hG K "NoStore")), (("NotInside" : Str), (hG K "NotInside")), (("NotNeighbours" : Str), (hG K "NotNeighbours")), (("NotRight" : Str), (hG K "NotRight")), (("NothingBad" : Str), (hG K "NothingBad")), (("NothingToRedo" : Str), (hG K "NothingToRedo")), (("NothingToUndo" : Str), (hG K "NothingToUndo")), (("Overlap" : Str), (hG K "Overlap")), (("PartsError" : Str), (hG K "PartsError")), (("TooMany" : Str), (hG K "TooMany")), (("UnknownEntry" : Str), (hG K "UnknownEntry")), (("UnknownMode" : Str), (hG K "UnknownMode")), (("UnknownPart" : Str), (hG K "UnknownPart")), (("Waiting" : Str), (hG K "Waiting"))] "InvalidText" (.ref (hG K "InvalidText")) && (isxB K [(("Duplicate" : Str), (hG K "Duplicate")), (("Ended" : Str), (hG K "Ended")), (("InvalidCatalog" : Str), (hG K "InvalidCatalog")), (("InvalidChange" : Str), (hG K "InvalidChange")), (("InvalidClash" : Str), (hG K "InvalidClash")), (("InvalidCommand" : Str), (hG K "InvalidCommand")), (("InvalidKey" : Str), (hG K "InvalidKey")), (("InvalidLog" : Str), (hG K "InvalidLog")), (("InvalidModes" : Str), (hG K "InvalidModes")), (("InvalidName" : Str), (hG K "InvalidName")), (("InvalidNumber" : Str), (hG K "InvalidNumber")), (("InvalidProgram" : Str), (hG K "InvalidProgram")), (("InvalidPrograms" : Str), (hG K "InvalidPrograms")), (("InvalidProtocol" : Str), (hG K "InvalidProtocol")), (("InvalidRows" : Str), (hG K "InvalidRows")), (("InvalidScene" : Str), (hG K "InvalidScene")), (("InvalidSession" : Str), (hG K "InvalidSession")), (("InvalidSpan" : Str), (hG K "InvalidSpan")), (("InvalidSpans" : Str), (hG K "InvalidSpans")), (("InvalidStore" : Str), (hG K "InvalidStore")), (("InvalidStrengths" : Str), (hG K "InvalidStrengths")), (("InvalidText" : Str), (hG K "InvalidText")), (("InvalidWeaving" : Str), (hG K "InvalidWeaving")), (("NameTaken" : Str), (hG K "NameTaken")), (("NoProgram" : Str), (hG K "NoProgram")), (("NoStore" : Str), (hG K "NoStore")), (("NotInside" : Str), (hG K "NotInside")), (("NotNeighbours" : Str), (hG K "NotNeighbours")), (("NotRight" : Str), (hG K "NotRight")), (("NothingBad" : Str), (hG K "NothingBad")), (("NothingToRedo" : Str), (hG K "NothingToRedo")), (("NothingToUndo" : Str), (hG K "NothingToUndo")), (("Overlap" : Str), (hG K "Overlap")), (("PartsError" : Str), (hG K "PartsError")), (("TooMany" : Str), (hG K "TooMany")), (("UnknownEntry" : Str), (hG K "UnknownEntry")), (("UnknownMode" : Str), (hG K "UnknownMode")), (("UnknownPart" : Str), (hG K "UnknownPart")), (("Waiting" : Str), (hG K "Waiting"))] "InvalidWeaving" (.ref (hG K "InvalidWeaving")) && (isxB K [(("Duplicate" : Str), (hG K "Duplicate")), (("Ended" : Str), (hG K "Ended")), (("InvalidCatalog" : Str), (hG K "InvalidCatalog")), (("InvalidChange" : Str), (hG K "InvalidChange")), (("InvalidClash" : Str), (hG K "InvalidClash")), (("InvalidCommand" : Str), (hG K "InvalidCommand")), (("InvalidKey" : Str), (hG K "InvalidKey")), (("InvalidLog" : Str), (hG K "InvalidLog")), (("InvalidModes" : Str), (hG K "InvalidModes")), (("InvalidName" : Str), (hG K "InvalidName")), (("InvalidNumber" : Str), (hG K "InvalidNumber")), (("InvalidProgram" : Str), (hG K "InvalidProgram")), (("InvalidPrograms" : Str), (hG K "InvalidPrograms")), (("InvalidProtocol" : Str), (hG K "InvalidProtocol")), (("InvalidRows" : Str), (hG K "InvalidRows")), (("InvalidScene" : Str), (hG K "InvalidScene")), (("InvalidSession" : Str), (hG K "InvalidSession")), (("InvalidSpan" : Str), (hG K "InvalidSpan")), (("InvalidSpans" : Str), (hG K "InvalidSpans")), (("InvalidStore" : Str), (hG K "InvalidStore")), (("InvalidStrengths" : Str), (hG K "InvalidStrengths")), (("InvalidText" : Str), (hG K "InvalidText")), (("InvalidWeaving" : Str), (hG K "InvalidWeaving")), (("NameTaken" : Str), (hG K "NameTaken")), (("NoProgram" : Str), (hG K "NoProgram")), (("NoStore" : Str), (hG K "NoStore")), (("NotInside" : Str), (hG K "NotInside")), (("NotNeighbours" : Str), (hG K "NotNeighbours")), (("NotRight" : Str), (hG K "NotRight")), (("NothingBad" : Str), (hG K "NothingBad")), (("NothingToRedo" : Str), (hG K "NothingToRedo")), (("NothingToUndo" : Str), (hG K "NothingToUndo")), (("Overlap" : Str), (hG K "Overlap")), (("PartsError" : Str), (hG K "PartsError")), (("TooMany" : Str), (hG K "TooMany")), (("UnknownEntry" : Str), (hG K "UnknownEntry")), (("UnknownMode" : Str), (hG K "UnknownMode")), (("UnknownPart" : Str), (hG K "UnknownPart")), (("Waiting" : Str), (hG K "Waiting"))] "KeyError" (.type "KeyError") && (isxB K [(("Duplicate" : Str), (hG K "Duplicate")), (("Ended" : Str), (hG K "Ended")), (("InvalidCatalog" : Str), (hG K "InvalidCatalog")), (("InvalidChange" : Str), (hG K "InvalidChange")), (("InvalidClash" : Str), (hG K "InvalidClash")), (("InvalidCommand" : Str), (hG K "InvalidCommand")), (("InvalidKey" : Str), (hG K "InvalidKey")), (("InvalidLog" : Str), (hG K "InvalidLog")), (("InvalidModes" : Str), (hG K "InvalidModes")), (("InvalidName" : Str), (hG K "InvalidName")), (("InvalidNumber" : Str), (hG K "InvalidNumber")), (("InvalidProgram" : Str), (hG K "InvalidProgram")), (("InvalidPrograms" : Str), (hG K "InvalidPrograms")), (("InvalidProtocol" : Str), (hG K "InvalidProtocol")), (("InvalidRows" : Str), (hG K "InvalidRows")), (("InvalidScene" : Str), (hG K "InvalidScene")), (("InvalidSession" : Str), (hG K "InvalidSession")), (("InvalidSpan" : Str), (hG K "InvalidSpan")), (("InvalidSpans" : Str), (hG K "InvalidSpans")), (("InvalidStore" : Str), (hG K "InvalidStore")), (("InvalidStrengths" : Str), (hG K "InvalidStrengths")), (("InvalidText" : Str), (hG K "InvalidText")), (("InvalidWeaving" : Str), (hG K "InvalidWeaving")), (("NameTaken" : Str), (hG K "NameTaken")), (("NoProgram" : Str), (hG K "NoProgram")), (("NoStore" : Str), (hG K "NoStore")), (("NotInside" : Str), (hG K "NotInside")), (("NotNeighbours" : Str), (hG K "NotNeighbours")), (("NotRight" : Str), (hG K "NotRight")), (("NothingBad" : Str), (hG K "NothingBad")), (("NothingToRedo" : Str), (hG K "NothingToRedo")), (("NothingToUndo" : Str), (hG K "NothingToUndo")), (("Overlap" : Str), (hG K "Overlap")), (("PartsError" : Str), (hG K "PartsError")), (("TooMany" : Str), (hG K "TooMany")), (("UnknownEntry" : Str), (hG K "UnknownEntry")), (("UnknownMode" : Str), (hG K "UnknownMode")), (("UnknownPart" : Str), (hG K "UnknownPart")), (("Waiting" : Str), (hG K "Waiting"))] "NameTaken" (.ref (hG K "NameTaken")) && (isxB K [(("Duplicate" : Str), (hG K "Duplicate")), (("Ended" : Str), (hG K "Ended")), (("InvalidCatalog" : Str), (hG K "InvalidCatalog")), (("InvalidChange" : Str), (hG K "InvalidChange")), (("InvalidClash" : Str), (hG K "InvalidClash")), (("InvalidCommand" : Str), (hG K "InvalidCommand")), (("InvalidKey" : Str), (hG K "InvalidKey")), (("InvalidLog" : Str), (hG K "InvalidLog")), (("InvalidModes" : Str), (hG K "InvalidModes")), (("InvalidName" : Str), (hG K "InvalidName")), (("InvalidNumber" : Str), (hG K "InvalidNumber")), (("InvalidProgram" : Str), (hG K "InvalidProgram")), (("InvalidPrograms" : Str), (hG K "InvalidPrograms")), (("InvalidProtocol" : Str), (hG K "InvalidProtocol")), (("InvalidRows" : Str), (hG K "InvalidRows")), (("InvalidScene" : Str), (hG K "InvalidScene")), (("InvalidSession" : Str), (hG K "InvalidSession")), (("InvalidSpan" : Str), (hG K "InvalidSpan")), (("InvalidSpans" : Str), (hG K "InvalidSpans")), (("InvalidStore" : Str), (hG K "InvalidStore")), (("InvalidStrengths" : Str), (hG K "InvalidStrengths")), (("InvalidText" : Str), (hG K "InvalidText")), (("InvalidWeaving" : Str), (hG K "InvalidWeaving")), (("NameTaken" : Str), (hG K "NameTaken")), (("NoProgram" : Str), (hG K "NoProgram")), (("NoStore" : Str), (hG K "NoStore")), (("NotInside" : Str), (hG K "NotInside")), (("NotNeighbours" : Str), (hG K "NotNeighbours")), (("NotRight" : Str), (hG K "NotRight")), (("NothingBad" : Str), (hG K "NothingBad")), (("NothingToRedo" : Str), (hG K "NothingToRedo")), (("NothingToUndo" : Str), (hG K "NothingToUndo")), (("Overlap" : Str), (hG K "Overlap")), (("PartsError" : Str), (hG K "PartsError")), (("TooMany" : Str), (hG K "TooMany")), (("UnknownEntry" : Str), (hG K "UnknownEntry")), (("UnknownMode" : Str), (hG K "UnknownMode")), (("UnknownPart" : Str), (hG K "UnknownPart")), (("Waiting" : Str), (hG K "Waiting"))] "NoProgram" (.ref (hG K "NoProgram")) && (isxB K [(("Duplicate" : Str), (hG K "Duplicate")), (("Ended" : Str), (hG K "Ended")), (("InvalidCatalog" : Str), (hG K "InvalidCatalog")), (("InvalidChange" : Str), (hG K "InvalidChange")), (("InvalidClash" : Str), (hG K "InvalidClash")), (("InvalidCommand" : Str), (hG K "InvalidCommand")), (("InvalidKey" : Str), (hG K "InvalidKey")), (("InvalidLog" : Str), (hG K "InvalidLog")), (("InvalidModes" : Str), (hG K "InvalidModes")), (("InvalidName" : Str), (hG K "InvalidName")), (("InvalidNumber" : Str), (hG K "InvalidNumber")), (("InvalidProgram" : Str), (hG K "InvalidProgram")), (("InvalidPrograms" : Str), (hG K "InvalidPrograms")), (("InvalidProtocol" : Str), (hG K "InvalidProtocol")), (("InvalidRows" : Str), (hG K "InvalidRows")), (("InvalidScene" : Str), (hG K "InvalidScene")), (("InvalidSession" : Str), (hG K "InvalidSession")), (("InvalidSpan" : Str), (hG K "InvalidSpan")), (("InvalidSpans" : Str), (hG K "InvalidSpans")), (("InvalidStore" : Str), (hG K "InvalidStore")), (("InvalidStrengths" : Str), (hG K "InvalidStrengths")), (("InvalidText" : Str), (hG K "InvalidText")), (("InvalidWeaving" : Str), (hG K "InvalidWeaving")), (("NameTaken" : Str), (hG K "NameTaken")), (("NoProgram" : Str), (hG K "NoProgram")), (("NoStore" : Str), (hG K "NoStore")), (("NotInside" : Str), (hG K "NotInside")), (("NotNeighbours" : Str), (hG K "NotNeighbours")), (("NotRight" : Str), (hG K "NotRight")), (("NothingBad" : Str), (hG K "NothingBad")), (("NothingToRedo" : Str), (hG K "NothingToRedo")), (("NothingToUndo" : Str), (hG K "NothingToUndo")), (("Overlap" : Str), (hG K "Overlap")), (("PartsError" : Str), (hG K "PartsError")), (("TooMany" : Str), (hG K "TooMany")), (("UnknownEntry" : Str), (hG K "UnknownEntry")), (("UnknownMode" : Str), (hG K "UnknownMode")), (("UnknownPart" : Str), (hG K "UnknownPart")), (("Waiting" : Str), (hG K "Waiting"))] "NoStore" (.ref (hG K "NoStore")) && (isxB K [(("Duplicate" : Str), (hG K "Duplicate")), (("Ended" : Str), (hG K "Ended")), (("InvalidCatalog" : Str), (hG K "InvalidCatalog")), (("InvalidChange" : Str), (hG K "InvalidChange")), (("InvalidClash" : Str), (hG K "InvalidClash")), (("InvalidCommand" : Str), (hG K "InvalidCommand")), (("InvalidKey" : Str), (hG K "InvalidKey")), (("InvalidLog" : Str), (hG K "InvalidLog")), (("InvalidModes" : Str), (hG K "InvalidModes")), (("InvalidName" : Str), (hG K "InvalidName")), (("InvalidNumber" : Str), (hG K "InvalidNumber")), (("InvalidProgram" : Str), (hG K "InvalidProgram")), (("InvalidPrograms" : Str), (hG K "InvalidPrograms")), (("InvalidProtocol" : Str), (hG K "InvalidProtocol")), (("InvalidRows" : Str), (hG K "InvalidRows")), (("InvalidScene" : Str), (hG K "InvalidScene")), (("InvalidSession" : Str), (hG K "InvalidSession")), (("InvalidSpan" : Str), (hG K "InvalidSpan")), (("InvalidSpans" : Str), (hG K "InvalidSpans")), (("InvalidStore" : Str), (hG K "InvalidStore")), (("InvalidStrengths" : Str), (hG K "InvalidStrengths")), (("InvalidText" : Str), (hG K "InvalidText")), (("InvalidWeaving" : Str), (hG K "InvalidWeaving")), (("NameTaken" : Str), (hG K "NameTaken")), (("NoProgram" : Str), (hG K "NoProgram")), (("NoStore" : Str), (hG K "NoStore")), (("NotInside" : Str), (hG K "NotInside")), (("NotNeighbours" : Str), (hG K "NotNeighbours")), (("NotRight" : Str), (hG K "NotRight")), (("NothingBad" : Str), (hG K "NothingBad")), (("NothingToRedo" : Str), (hG K "NothingToRedo")), (("NothingToUndo" : Str), (hG K "NothingToUndo")), (("Overlap" : Str), (hG K "Overlap")), (("PartsError" : Str), (hG K "PartsError")), (("TooMany" : Str), (hG K "TooMany")), (("UnknownEntry" : Str), (hG K "UnknownEntry")), (("UnknownMode" : Str), (hG K "UnknownMode")), (("UnknownPart" : Str), (hG K "UnknownPart")), (("Waiting" : Str), (hG K "Waiting"))] "NotInside" (.ref (hG K "NotInside")) && (isxB K [(("Duplicate" : Str), (hG K "Duplicate")), (("Ended" : Str), (hG K "Ended")), (("InvalidCatalog" : Str), (hG K "InvalidCatalog")), (("InvalidChange" : Str), (hG K "InvalidChange")), (("InvalidClash" : Str), (hG K "InvalidClash")), (("InvalidCommand" : Str), (hG K "InvalidCommand")), (("InvalidKey" : Str), (hG K "InvalidKey")), (("InvalidLog" : Str), (hG K "InvalidLog")), (("InvalidModes" : Str), (hG K "InvalidModes")), (("InvalidName" : Str), (hG K "InvalidName")), (("InvalidNumber" : Str), (hG K "InvalidNumber")), (("InvalidProgram" : Str), (hG K "InvalidProgram")), (("InvalidPrograms" : Str), (hG K "InvalidPrograms")), (("InvalidProtocol" : Str), (hG K "InvalidProtocol")), (("InvalidRows" : Str), (hG K "InvalidRows")), (("InvalidScene" : Str), (hG K "InvalidScene")), (("InvalidSession" : Str), (hG K "InvalidSession")), (("InvalidSpan" : Str), (hG K "InvalidSpan")), (("InvalidSpans" : Str), (hG K "InvalidSpans")), (("InvalidStore" : Str), (hG K "InvalidStore")), (("InvalidStrengths" : Str), (hG K "InvalidStrengths")), (("InvalidText" : Str), (hG K "InvalidText")), (("InvalidWeaving" : Str), (hG K "InvalidWeaving")), (("NameTaken" : Str), (hG K "NameTaken")), (("NoProgram" : Str), (hG K "NoProgram")), (("NoStore" : Str), (hG K "NoStore")), (("NotInside" : Str), (hG K "NotInside")), (("NotNeighbours" : Str), (hG K "NotNeighbours")), (("NotRight" : Str), (hG K "NotRight")), (("NothingBad" : Str), (hG K "NothingBad")), (("NothingToRedo" : Str), (hG K "NothingToRedo")), (("NothingToUndo" : Str), (hG K "NothingToUndo")), (("Overlap" : Str), (hG K "Overlap")), (("PartsError" : Str), (hG K "PartsError")), (("TooMany" : Str), (hG K "TooMany")), (("UnknownEntry" : Str), (hG K "UnknownEntry")), (("UnknownMode" : Str), (hG K "UnknownMode")), (("UnknownPart" : Str), (hG K "UnknownPart")), (("Waiting" : Str), (hG K "Waiting"))] "NotNeighbours" (.ref (hG K "NotNeighbours")) && (isxB K [(("Duplicate" : Str), (hG K "Duplicate")), (("Ended" : Str), (hG K "Ended")), (("InvalidCatalog" : Str), (hG K "InvalidCatalog")), (("InvalidChange" : Str), (hG K "InvalidChange")), (("InvalidClash" : Str), (hG K "InvalidClash")), (("InvalidCommand" : Str), (hG K "InvalidCommand")), (("InvalidKey" : Str), (hG K "InvalidKey")), (("InvalidLog" : Str), (hG K "InvalidLog")), (("InvalidModes" : Str), (hG K "InvalidModes")), (("InvalidName" : Str), (hG K "InvalidName")), (("InvalidNumber" : Str), (hG K "InvalidNumber")), (("InvalidProgram" : Str), (hG K "InvalidProgram")), (("InvalidPrograms" : Str), (hG K "InvalidPrograms")), (("InvalidProtocol" : Str), (hG K "InvalidProtocol")), (("InvalidRows" : Str), (hG K "InvalidRows")), (("InvalidScene" : Str), (hG K "InvalidScene")), (("InvalidSession" : Str), (hG K "InvalidSession")), (("InvalidSpan" : Str), (hG K "InvalidSpan")), (("InvalidSpans" : Str), (hG K "InvalidSpans")), (("InvalidStore" : Str), (hG K "InvalidStore")), (("InvalidStrengths" : Str), (hG K "InvalidStrengths")), (("InvalidText" : Str), (hG K "InvalidText")), (("InvalidWeaving" : Str), (hG K "InvalidWeaving")), (("NameTaken" : Str), (hG K "NameTaken")), (("NoProgram" : Str), (hG K "NoProgram")), (("NoStore" : Str), (hG K "NoStore")), (("NotInside" : Str), (hG K "NotInside")), (("NotNeighbours" : Str), (hG K "NotNeighbours")), (("NotRight" : Str), (hG K "NotRight")), (("NothingBad" : Str), (hG K "NothingBad")), (("NothingToRedo" : Str), (hG K "NothingToRedo")), (("NothingToUndo" : Str), (hG K "NothingToUndo")), (("Overlap" : Str), (hG K "Overlap")), (("PartsError" : Str), (hG K "PartsError")), (("TooMany" : Str), (hG K "TooMany")), (("UnknownEntry" : Str), (hG K "UnknownEntry")), (("UnknownMode" : Str), (hG K "UnknownMode")), (("UnknownPart" : Str), (hG K "UnknownPart")), (("Waiting" : Str), (hG K "Waiting"))] "NotRight" (.ref (hG K "NotRight")) && (isxB K [(("Duplicate" : Str), (hG K "Duplicate")), (("Ended" : Str), (hG K "Ended")), (("InvalidCatalog" : Str), (hG K "InvalidCatalog")), (("InvalidChange" : Str), (hG K "InvalidChange")), (("InvalidClash" : Str), (hG K "InvalidClash")), (("InvalidCommand" : Str), (hG K "InvalidCommand")), (("InvalidKey" : Str), (hG K "InvalidKey")), (("InvalidLog" : Str), (hG K "InvalidLog")), (("InvalidModes" : Str), (hG K "InvalidModes")), (("InvalidName" : Str), (hG K "InvalidName")), (("InvalidNumber" : Str), (hG K "InvalidNumber")), (("InvalidProgram" : Str), (hG K "InvalidProgram")), (("InvalidPrograms" : Str), (hG K "InvalidPrograms")), (("InvalidProtocol" : Str), (hG K "InvalidProtocol")), (("InvalidRows" : Str), (hG K "InvalidRows")), (("InvalidScene" : Str), (hG K "InvalidScene")), (("InvalidSession" : Str), (hG K "InvalidSession")), (("InvalidSpan" : Str), (hG K "InvalidSpan")), (("InvalidSpans" : Str), (hG K "InvalidSpans")), (("InvalidStore" : Str), (hG K "InvalidStore")), (("InvalidStrengths" : Str), (hG K "InvalidStrengths")), (("InvalidText" : Str), (hG K "InvalidText")), (("InvalidWeaving" : Str), (hG K "InvalidWeaving")), (("NameTaken" : Str), (hG K "NameTaken")), (("NoProgram" : Str), (hG K "NoProgram")), (("NoStore" : Str), (hG K "NoStore")), (("NotInside" : Str), (hG K "NotInside")), (("NotNeighbours" : Str), (hG K "NotNeighbours")), (("NotRight" : Str), (hG K "NotRight")), (("NothingBad" : Str), (hG K "NothingBad")), (("NothingToRedo" : Str), (hG K "NothingToRedo")), (("NothingToUndo" : Str), (hG K "NothingToUndo")), (("Overlap" : Str), (hG K "Overlap")), (("PartsError" : Str), (hG K "PartsError")), (("TooMany" : Str), (hG K "TooMany")), (("UnknownEntry" : Str), (hG K "UnknownEntry")), (("UnknownMode" : Str), (hG K "UnknownMode")), (("UnknownPart" : Str), (hG K "UnknownPart")), (("Waiting" : Str), (hG K "Waiting"))] "NothingBad" (.ref (hG K "NothingBad")))))))))))))))
def hdB50 (K : PySem.W.Frag) : Bool := isxB K [(("Duplicate" : Str), (hG K "Duplicate")), (("Ended" : Str), (hG K "Ended")), (("InvalidCatalog" : Str), (hG K "InvalidCatalog")), (("InvalidChange" : Str), (hG K "InvalidChange")), (("InvalidClash" : Str), (hG K "InvalidClash")), (("InvalidCommand" : Str), (hG K "InvalidCommand")), (("InvalidKey" : Str), (hG K "InvalidKey")), (("InvalidLog" : Str), (hG K "InvalidLog")), (("InvalidModes" : Str), (hG K "InvalidModes")), (("InvalidName" : Str), (hG K "InvalidName")), (("InvalidNumber" : Str), (hG K "InvalidNumber")), (("InvalidProgram" : Str), (hG K "InvalidProgram")), (("InvalidPrograms" : Str), (hG K "InvalidPrograms")), (("InvalidProtocol" : Str), (hG K "InvalidProtocol")), (("InvalidRows" : Str), (hG K "InvalidRows")), (("InvalidScene" : Str), (hG K "InvalidScene")), (("InvalidSession" : Str), (hG K "InvalidSession")), (("InvalidSpan" : Str), (hG K "InvalidSpan")), (("InvalidSpans" : Str), (hG K "InvalidSpans")), (("InvalidStore" : Str), (hG K "InvalidStore")), (("InvalidStrengths" : Str), (hG K "InvalidStrengths")), (("InvalidText" : Str), (hG K "InvalidText")), (("InvalidWeaving" : Str), (hG K "InvalidWeaving")), (("NameTaken" : Str), (hG K "NameTaken")), (("NoProgram" : Str), (hG K "NoProgram")), (("NoStore" : Str), (hG K "NoStore")), (("NotInside" : Str), (hG K "NotInside")), (("NotNeighbours" : Str), (hG K "NotNeighbours")), (("NotRight" : Str), (hG K "NotRight")), (("NothingBad" : Str), (hG K "NothingBad")), (("NothingToRedo" : Str), (hG K "NothingToRedo")), (("NothingToUndo" : Str), (hG K "NothingToUndo")), (("Overlap" : Str), (hG K "Overlap")), (("PartsError" : Str), (hG K "PartsError")), (("TooMany" : Str), (hG K "TooMany")), (("UnknownEntry" : Str), (hG K "UnknownEntry")), (("UnknownMode" : Str), (hG K "UnknownMode")), (("UnknownPart" : Str), (hG K "UnknownPart")), (("Waiting" : Str), (hG K "Waiting"))] "NothingToRedo" (.ref (hG K "NothingToRedo")) && (isxB K [(("Duplicate" : Str), (hG K "Duplicate")), (("Ended" : Str), (hG K "Ended")), (("InvalidCatalog" : Str), (hG K "InvalidCatalog")), (("InvalidChange" : Str), (hG K "InvalidChange")), (("InvalidClash" : Str), (hG K "InvalidClash")), (("InvalidCommand" : Str), (hG K "InvalidCommand")), (("InvalidKey" : Str), (hG K "InvalidKey")), (("InvalidLog" : Str), (hG K "InvalidLog")), (("InvalidModes" : Str), (hG K "InvalidModes")), (("InvalidName" : Str), (hG K "InvalidName")), (("InvalidNumber" : Str), (hG K "InvalidNumber")), (("InvalidProgram" : Str), (hG K "InvalidProgram")), (("InvalidPrograms" : Str), (hG K "InvalidPrograms")), (("InvalidProtocol" : Str), (hG K "InvalidProtocol")), (("InvalidRows" : Str), (hG K "InvalidRows")), (("InvalidScene" : Str), (hG K "InvalidScene")), (("InvalidSession" : Str), (hG K "InvalidSession")), (("InvalidSpan" : Str), (hG K "InvalidSpan")), (("InvalidSpans" : Str), (hG K "InvalidSpans")), (("InvalidStore" : Str), (hG K "InvalidStore")), (("InvalidStrengths" : Str), (hG K "InvalidStrengths")), (("InvalidText" : Str), (hG K "InvalidText")), (("InvalidWeaving" : Str), (hG K "InvalidWeaving")), (("NameTaken" : Str), (hG K "NameTaken")), (("NoProgram" : Str), (hG K "NoProgram")), (("NoStore" : Str), (hG K "NoStore")), (("NotInside" : Str), (hG K "NotInside")), (("NotNeighbours" : Str), (hG K "NotNeighbours")), (("NotRight" : Str), (hG K "NotRight")), (("NothingBad" : Str), (hG K "NothingBad")), (("NothingToRedo" : Str), (hG K "NothingToRedo")), (("NothingToUndo" : Str), (hG K "NothingToUndo")), (("Overlap" : Str), (hG K "Overlap")), (("PartsError" : Str), (hG K "PartsError")), (("TooMany" : Str), (hG K "TooMany")), (("UnknownEntry" : Str), (hG K "UnknownEntry")), (("UnknownMode" : Str), (hG K "UnknownMode")), (("UnknownPart" : Str), (hG K "UnknownPart")), (("Waiting" : Str), (hG K "Waiting"))] "NothingToUndo" (.ref (hG K "NothingToUndo")) && (isxB K [(("Duplicate" : Str), (hG K "Duplicate")), (("Ended" : Str), (hG K "Ended")), (("InvalidCatalog" : Str), (hG K "InvalidCatalog")), (("InvalidChange" : Str), (hG K "InvalidChange")), (("InvalidClash" : Str), (hG K "InvalidClash")), (("InvalidCommand" : Str), (hG K "InvalidCommand")), (("InvalidKey" : Str), (hG K "InvalidKey")), (("InvalidLog" : Str), (hG K "InvalidLog")), (("InvalidModes" : Str), (hG K "InvalidModes")), (("InvalidName" : Str), (hG K "InvalidName")), (("InvalidNumber" : Str), (hG K "InvalidNumber")), (("InvalidProgram" : Str), (hG K "InvalidProgram")), (("InvalidPrograms" : Str), (hG K "InvalidPrograms")), (("InvalidProtocol" : Str), (hG K "InvalidProtocol")), (("InvalidRows" : Str), (hG K "InvalidRows")), (("InvalidScene" : Str), (hG K "InvalidScene")), (("InvalidSession" : Str), (hG K "InvalidSession")), (("InvalidSpan" : Str), (hG K "InvalidSpan")), (("InvalidSpans" : Str), (hG K "InvalidSpans")), (("InvalidStore" : Str), (hG K "InvalidStore")), (("InvalidStrengths" : Str), (hG K "InvalidStrengths")), (("InvalidText" : Str), (hG K "InvalidText")), (("InvalidWeaving" : Str), (hG K "InvalidWeaving")), (("NameTaken" : Str), (hG K "NameTaken")), (("NoProgram" : Str), (hG K "NoProgram")), (("NoStore" : Str), (hG K "NoStore")), (("NotInside" : Str), (hG K "NotInside")), (("NotNeighbours" : Str), (hG K "NotNeighbours")), (("NotRight" : Str), (hG K "NotRight")), (("NothingBad" : Str), (hG K "NothingBad")), (("NothingToRedo" : Str), (hG K "NothingToRedo")), (("NothingToUndo" : Str), (hG K "NothingToUndo")), (("Overlap" : Str), (hG K "Overlap")), (("PartsError" : Str), (hG K "PartsError")), (("TooMany" : Str), (hG K "TooMany")), (("UnknownEntry" : Str), (hG K "UnknownEntry")), (("UnknownMode" : Str), (hG K "UnknownMode")), (("UnknownPart" : Str), (hG K "UnknownPart")), (("Waiting" : Str), (hG K "Waiting"))] "Overlap" (.ref (hG K "Overlap")) && (isxB K [(("Duplicate" : Str), (hG K "Duplicate")), (("Ended" : Str), (hG K "Ended")), (("InvalidCatalog" : Str), (hG K "InvalidCatalog")), (("InvalidChange" : Str), (hG K "InvalidChange")), (("InvalidClash" : Str), (hG K "InvalidClash")), (("InvalidCommand" : Str), (hG K "InvalidCommand")), (("InvalidKey" : Str), (hG K "InvalidKey")), (("InvalidLog" : Str), (hG K "InvalidLog")), (("InvalidModes" : Str), (hG K "InvalidModes")), (("InvalidName" : Str), (hG K "InvalidName")), (("InvalidNumber" : Str), (hG K "InvalidNumber")), (("InvalidProgram" : Str), (hG K "InvalidProgram")), (("InvalidPrograms" : Str), (hG K "InvalidPrograms")), (("InvalidProtocol" : Str), (hG K "InvalidProtocol")), (("InvalidRows" : Str), (hG K "InvalidRows")), (("InvalidScene" : Str), (hG K "InvalidScene")), (("InvalidSession" : Str), (hG K "InvalidSession")), (("InvalidSpan" : Str), (hG K "InvalidSpan")), (("InvalidSpans" : Str), (hG K "InvalidSpans")), (("InvalidStore" : Str), (hG K "InvalidStore")), (("InvalidStrengths" : Str), (hG K "InvalidStrengths")), (("InvalidText" : Str), (hG K "InvalidText")), (("InvalidWeaving" : Str), (hG K "InvalidWeaving")), (("NameTaken" : Str), (hG K "NameTaken")), (("NoProgram" : Str), (hG K "NoProgram")), (("NoStore" : Str), (hG K "NoStore")), (("NotInside" : Str), (hG K "NotInside")), (("NotNeighbours" : Str), (hG K "NotNeighbours")), (("NotRight" : Str), (hG K "NotRight")), (("NothingBad" : Str), (hG K "NothingBad")), (("NothingToRedo" : Str), (hG K "NothingToRedo")), (("NothingToUndo" : Str), (hG K "NothingToUndo")), (("Overlap" : Str), (hG K "Overlap")), (("PartsError" : Str), (hG K "PartsError")), (("TooMany" : Str), (hG K "TooMany")), (("UnknownEntry" : Str), (hG K "UnknownEntry")), (("UnknownMode" : Str), (hG K "UnknownMode")), (("UnknownPart" : Str), (hG K "UnknownPart")), (("Waiting" : Str), (hG K "Waiting"))] "PartsError" (.ref (hG K "PartsError")) && (isxB K [(("Duplicate" : Str), (hG K "Duplicate")), (("Ended" : Str), (hG K "Ended")), (("InvalidCatalog" : Str), (hG K "InvalidCatalog")), (("InvalidChange" : Str), (hG K "InvalidChange")), (("InvalidClash" : Str), (hG K "InvalidClash")), (("InvalidCommand" : Str), (hG K "InvalidCommand")), (("InvalidKey" : Str), (hG K "InvalidKey")), (("InvalidLog" : Str), (hG K "InvalidLog")), (("InvalidModes" : Str), (hG K "InvalidModes")), (("InvalidName" : Str), (hG K "InvalidName")), (("InvalidNumber" : Str), (hG K "InvalidNumber")), (("InvalidProgram" : Str), (hG K "InvalidProgram")), (("InvalidPrograms" : Str), (hG K "InvalidPrograms")), (("InvalidProtocol" : Str), (hG K "InvalidProtocol")), (("InvalidRows" : Str), (hG K "InvalidRows")), (("InvalidScene" : Str), (hG K "InvalidScene")), (("InvalidSession" : Str), (hG K "InvalidSession")), (("InvalidSpan" : Str), (hG K "InvalidSpan")), (("InvalidSpans" : Str), (hG K "InvalidSpans")), (("InvalidStore" : Str), (hG K "InvalidStore")), (("InvalidStrengths" : Str), (hG K "InvalidStrengths")), (("InvalidText" : Str), (hG K "InvalidText")), (("InvalidWeaving" : Str), (hG K "InvalidWeaving")), (("NameTaken" : Str), (hG K "NameTaken")), (("NoProgram" : Str), (hG K "NoProgram")), (("NoStore" : Str), (hG K "NoStore")), (("NotInside" : Str), (hG K "NotInside")), (("NotNeighbours" : Str), (hG K "NotNeighbours")), (("NotRight" : Str), (hG K "NotRight")), (("NothingBad" : Str), (hG K "NothingBad")), (("NothingToRedo" : Str), (hG K "NothingToRedo")), (("NothingToUndo" : Str), (hG K "NothingToUndo")), (("Overlap" : Str), (hG K "Overlap")), (("PartsError" : Str), (hG K "PartsError")), (("TooMany" : Str), (hG K "TooMany")), (("UnknownEntry" : Str), (hG K "UnknownEntry")), (("UnknownMode" : Str), (hG K "UnknownMode")), (("UnknownPart" : Str), (hG K "UnknownPart")), (("Waiting" : Str), (hG K "Waiting"))] "TooMany" (.ref (hG K "TooMany")) && (isxB K [(("Duplicate" : Str), (hG K "Duplicate")), (("Ended" : Str), (hG K "Ended")), (("InvalidCatalog" : Str), (hG K "InvalidCatalog")), (("InvalidChange" : Str), (hG K "InvalidChange")), (("InvalidClash" : Str), (hG K "InvalidClash")), (("InvalidCommand" : Str), (hG K "InvalidCommand")), (("InvalidKey" : Str), (hG K "InvalidKey")), (("InvalidLog" : Str), (hG K "InvalidLog")), (("InvalidModes" : Str), (hG K "InvalidModes")), (("InvalidName" : Str), (hG K "InvalidName")), (("InvalidNumber" : Str), (hG K "InvalidNumber")), (("InvalidProgram" : Str), (hG K "InvalidProgram")), (("InvalidPrograms" : Str), (hG K "InvalidPrograms")), (("InvalidProtocol" : Str), (hG K "InvalidProtocol")), (("InvalidRows" : Str), (hG K "InvalidRows")), (("InvalidScene" : Str), (hG K "InvalidScene")), (("InvalidSession" : Str), (hG K "InvalidSession")), (("InvalidSpan" : Str), (hG K "InvalidSpan")), (("InvalidSpans" : Str), (hG K "InvalidSpans")), (("InvalidStore" : Str), (hG K "InvalidStore")), (("InvalidStrengths" : Str), (hG K "InvalidStrengths")), (("InvalidText" : Str), (hG K "InvalidText")), (("InvalidWeaving" : Str), (hG K "InvalidWeaving")), (("NameTaken" : Str), (hG K "NameTaken")), (("NoProgram" : Str), (hG K "NoProgram")), (("NoStore" : Str), (hG K "NoStore")), (("NotInside" : Str), (hG K "NotInside")), (("NotNeighbours" : Str), (hG K "NotNeighbours")), (("NotRight" : Str), (hG K "NotRight")), (("NothingBad" : Str), (hG K "NothingBad")), (("NothingToRedo" : Str), (hG K "NothingToRedo")), (("NothingToUndo" : Str), (hG K "NothingToUndo")), (("Overlap" : Str), (hG K "Overlap")), (("PartsError" : Str), (hG K "PartsError")), (("TooMany" : Str), (hG K "TooMany")), (("UnknownEntry" : Str), (hG K "UnknownEntry")), (("UnknownMode" : Str), (hG K "UnknownMode")), (("UnknownPart" : Str), (hG K "UnknownPart")), (("Waiting" : Str), (hG K "Waiting"))] "TypeError" (.type "TypeError") && (isxB K [(("Duplicate" : Str), (hG K "Duplicate")), (("Ended" : Str), (hG K "Ended")), (("InvalidCatalog" : Str), (hG K "InvalidCatalog")), (("InvalidChange" : Str), (hG K "InvalidChange")), (("InvalidClash" : Str), (hG K "InvalidClash")), (("InvalidCommand" : Str), (hG K "InvalidCommand")), (("InvalidKey" : Str), (hG K "InvalidKey")), (("InvalidLog" : Str), (hG K "InvalidLog")), (("InvalidModes" : Str), (hG K "InvalidModes")), (("InvalidName" : Str), (hG K "InvalidName")), (("InvalidNumber" : Str), (hG K "InvalidNumber")), (("InvalidProgram" : Str), (hG K "InvalidProgram")), (("InvalidPrograms" : Str), (hG K "InvalidPrograms")), (("InvalidProtocol" : Str), (hG K "InvalidProtocol")), (("InvalidRows" : Str), (hG K "InvalidRows")), (("InvalidScene" : Str), (hG K "InvalidScene")), (("InvalidSession" : Str), (hG K "InvalidSession")), (("InvalidSpan" : Str), (hG K "InvalidSpan")), (("InvalidSpans" : Str), (hG K "InvalidSpans")), (("InvalidStore" : Str), (hG K "InvalidStore")), (("InvalidStrengths" : Str), (hG K "InvalidStrengths")), (("InvalidText" : Str), (hG K "InvalidText")), (("InvalidWeaving" : Str), (hG K "InvalidWeaving")), (("NameTaken" : Str), (hG K "NameTaken")), (("NoProgram" : Str), (hG K "NoProgram")), (("NoStore" : Str), (hG K "NoStore")), (("NotInside" : Str), (hG K "NotInside")), (("NotNeighbours" : Str), (hG K "NotNeighbours")), (("NotRight" : Str), (hG K "NotRight")), (("NothingBad" : Str), (hG K "NothingBad")), (("NothingToRedo" : Str), (hG K "NothingToRedo")), (("NothingToUndo" : Str), (hG K "NothingToUndo")), (("Overlap" : Str), (hG K "Overlap")), (("PartsError" : Str), (hG K "PartsError")), (("TooMany" : Str), (hG K "TooMany")), (("UnknownEntry" : Str), (hG K "UnknownEntry")), (("UnknownMode" : Str), (hG K "UnknownMode")), (("UnknownPart" : Str), (hG K "UnknownPart")), (("Waiting" : Str), (hG K "Waiting"))] "UnknownEntry" (.ref (hG K "UnknownEntry")) && (isxB K [(("Duplicate" : Str), (hG K "Duplicate")), (("Ended" : Str), (hG K "Ended")), (("InvalidCatalog" : Str), (hG K "InvalidCatalog")), (("InvalidChange" : Str), (hG K "InvalidChange")), (("InvalidClash" : Str), (hG K "InvalidClash")), (("InvalidCommand" : Str), (hG K "InvalidCommand")), (("InvalidKey" : Str), (hG K "InvalidKey")), (("InvalidLog" : Str), (hG K "InvalidLog")), (("InvalidModes" : Str), (hG K "InvalidModes")), (("InvalidName" : Str), (hG K "InvalidName")), (("InvalidNumber" : Str), (hG K "InvalidNumber")), (("InvalidProgram" : Str), (hG K "InvalidProgram")), (("InvalidPrograms" : Str), (hG K "InvalidPrograms")), (("InvalidProtocol" : Str), (hG K "InvalidProtocol")), (("InvalidRows" : Str), (hG K "InvalidRows")), (("InvalidScene" : Str), (hG K "InvalidScene")), (("InvalidSession" : Str), (hG K "InvalidSession")), (("InvalidSpan" : Str), (hG K "InvalidSpan")), (("InvalidSpans" : Str), (hG K "InvalidSpans")), (("InvalidStore" : Str), (hG K "InvalidStore")), (("InvalidStrengths" : Str), (hG K "InvalidStrengths")), (("InvalidText" : Str), (hG K "InvalidText")), (("InvalidWeaving" : Str), (hG K "InvalidWeaving")), (("NameTaken" : Str), (hG K "NameTaken")), (("NoProgram" : Str), (hG K "NoProgram")), (("NoStore" : Str), (hG K "NoStore")), (("NotInside" : Str), (hG K "NotInside")), (("NotNeighbours" : Str), (hG K "NotNeighbours")), (("NotRight" : Str), (hG K "NotRight")), (("NothingBad" : Str), (hG K "NothingBad")), (("NothingToRedo" : Str), (hG K "NothingToRedo")), (("NothingToUndo" : Str), (hG K "NothingToUndo")), (("Overlap" : Str), (hG K "Overlap")), (("PartsError" : Str), (hG K "PartsError")), (("TooMany" : Str), (hG K "TooMany")), (("UnknownEntry" : Str), (hG K "UnknownEntry")), (("UnknownMode" : Str), (hG K "UnknownMode")), (("UnknownPart" : Str), (hG K "UnknownPart")), (("Waiting" : Str), (hG K "Waiting"))] "UnknownMode" (.ref (hG K "UnknownMode")) && (isxB K [(("Duplicate" : Str), (hG K "Duplicate")), (("Ended" : Str), (hG K "Ended")), (("InvalidCatalog" : Str), (hG K "InvalidCatalog")), (("InvalidChange" : Str), (hG K "InvalidChange")), (("InvalidClash" : Str), (hG K "InvalidClash")), (("InvalidCommand" : Str), (hG K "InvalidCommand")), (("InvalidKey" : Str), (hG K "InvalidKey")), (("InvalidLog" : Str), (hG K "InvalidLog")), (("InvalidModes" : Str), (hG K "InvalidModes")), (("InvalidName" : Str), (hG K "InvalidName")), (("InvalidNumber" : Str), (hG K "InvalidNumber")), (("InvalidProgram" : Str), (hG K "InvalidProgram")), (("InvalidPrograms" : Str), (hG K "InvalidPrograms")), (("InvalidProtocol" : Str), (hG K "InvalidProtocol")), (("InvalidRows" : Str), (hG K "InvalidRows")), (("InvalidScene" : Str), (hG K "InvalidScene")), (("InvalidSession" : Str), (hG K "InvalidSession")), (("InvalidSpan" : Str), (hG K "InvalidSpan")), (("InvalidSpans" : Str), (hG K "InvalidSpans")), (("InvalidStore" : Str), (hG K "InvalidStore")), (("InvalidStrengths" : Str), (hG K "InvalidStrengths")), (("InvalidText" : Str), (hG K "InvalidText")), (("InvalidWeaving" : Str), (hG K "InvalidWeaving")), (("NameTaken" : Str), (hG K "NameTaken")), (("NoProgram" : Str), (hG K "NoProgram")), (("NoStore" : Str), (hG K "NoStore")), (("NotInside" : Str), (hG K "NotInside")), (("NotNeighbours" : Str), (hG K "NotNeighbours")), (("NotRight" : Str), (hG K "NotRight")), (("NothingBad" : Str), (hG K "NothingBad")), (("NothingToRedo" : Str), (hG K "NothingToRedo")), (("NothingToUndo" : Str), (hG K "NothingToUndo")), (("Overlap" : Str), (hG K "Overlap")), (("PartsError" : Str), (hG K "PartsError")), (("TooMany" : Str), (hG K "TooMany")), (("UnknownEntry" : Str), (hG K "UnknownEntry")), (("UnknownMode" : Str), (hG K "UnknownMode")), (("UnknownPart" : Str), (hG K "UnknownPart")), (("Waiting" : Str), (hG K "Waiting"))] "UnknownPart" (.ref (hG K "UnknownPart")) && (isxB K [(("Duplicate" : Str), (hG K "Duplicate")), (("Ended" : Str), (hG K "Ended")), (("InvalidCatalog" : Str), (hG K "InvalidCatalog")), (("InvalidChange" : Str), (hG K "InvalidChange")), (("InvalidClash" : Str), (hG K "InvalidClash")), (("InvalidCommand" : Str), (hG K "InvalidCommand")), (("InvalidKey" : Str), (hG K "InvalidKey")), (("InvalidLog" : Str), (hG K "InvalidLog")), (("InvalidModes" : Str), (hG K "InvalidModes")), (("InvalidName" : Str), (hG K "InvalidName")), (("InvalidNumber" : Str), (hG K "InvalidNumber")), (("InvalidProgram" : Str), (hG K "InvalidProgram")), (("InvalidPrograms" : Str), (hG K "InvalidPrograms")), (("InvalidProtocol" : Str), (hG K "InvalidProtocol")), (("InvalidRows" : Str), (hG K "InvalidRows")), (("InvalidScene" : Str), (hG K "InvalidScene")), (("InvalidSession" : Str), (hG K "InvalidSession")), (("InvalidSpan" : Str), (hG K "InvalidSpan")), (("InvalidSpans" : Str), (hG K "InvalidSpans")), (("InvalidStore" : Str), (hG K "InvalidStore")), (("InvalidStrengths" : Str), (hG K "InvalidStrengths")), (("InvalidText" : Str), (hG K "InvalidText")), (("InvalidWeaving" : Str), (hG K "InvalidWeaving")), (("NameTaken" : Str), (hG K "NameTaken")), (("NoProgram" : Str), (hG K "NoProgram")), (("NoStore" : Str), (hG K "NoStore")), (("NotInside" : Str), (hG K "NotInside")), (("NotNeighbours" : Str), (hG K "NotNeighbours")), (("NotRight" : Str), (hG K "NotRight")), (("NothingBad" : Str), (hG K "NothingBad")), (("NothingToRedo" : Str), (hG K "NothingToRedo")), (("NothingToUndo" : Str), (hG K "NothingToUndo")), (("Overlap" : Str), (hG K "Overlap")), (("PartsError" : Str), (hG K "PartsError")), (("TooMany" : Str), (hG K "TooMany")), (("UnknownEntry" : Str), (hG K "UnknownEntry")), (("UnknownMode" : Str), (hG K "UnknownMode")), (("UnknownPart" : Str), (hG K "UnknownPart")), (("Waiting" : Str), (hG K "Waiting"))] "ValueError" (.type "ValueError") && (isxB K [(("Duplicate" : Str), (hG K "Duplicate")), (("Ended" : Str), (hG K "Ended")), (("InvalidCatalog" : Str), (hG K "InvalidCatalog")), (("InvalidChange" : Str), (hG K "InvalidChange")), (("InvalidClash" : Str), (hG K "InvalidClash")), (("InvalidCommand" : Str), (hG K "InvalidCommand")), (("InvalidKey" : Str), (hG K "InvalidKey")), (("InvalidLog" : Str), (hG K "InvalidLog")), (("InvalidModes" : Str), (hG K "InvalidModes")), (("InvalidName" : Str), (hG K "InvalidName")), (("InvalidNumber" : Str), (hG K "InvalidNumber")), (("InvalidProgram" : Str), (hG K "InvalidProgram")), (("InvalidPrograms" : Str), (hG K "InvalidPrograms")), (("InvalidProtocol" : Str), (hG K "InvalidProtocol")), (("InvalidRows" : Str), (hG K "InvalidRows")), (("InvalidScene" : Str), (hG K "InvalidScene")), (("InvalidSession" : Str), (hG K "InvalidSession")), (("InvalidSpan" : Str), (hG K "InvalidSpan")), (("InvalidSpans" : Str), (hG K "InvalidSpans")), (("InvalidStore" : Str), (hG K "InvalidStore")), (("InvalidStrengths" : Str), (hG K "InvalidStrengths")), (("InvalidText" : Str), (hG K "InvalidText")), (("InvalidWeaving" : Str), (hG K "InvalidWeaving")), (("NameTaken" : Str), (hG K "NameTaken")), (("NoProgram" : Str), (hG K "NoProgram")), (("NoStore" : Str), (hG K "NoStore")), (("NotInside" : Str), (hG K "NotInside")), (("NotNeighbours" : Str), (hG K "NotNeighbours")), (("NotRight" : Str), (hG K "NotRight")), (("NothingBad" : Str), (hG K "NothingBad")), (("NothingToRedo" : Str), (hG K "NothingToRedo")), (("NothingToUndo" : Str), (hG K "NothingToUndo")), (("Overlap" : Str), (hG K "Overlap")), (("PartsError" : Str), (hG K "PartsError")), (("TooMany" : Str), (hG K "TooMany")), (("UnknownEntry" : Str), (hG K "UnknownEntry")), (("UnknownMode" : Str), (hG K "UnknownMode")), (("UnknownPart" : Str), (hG K "UnknownPart")), (("Waiting" : Str), (hG K "Waiting"))] "Waiting" (.ref (hG K "Waiting")) && (decide (PySem.W.nsIn K mainGlobals "IndexError" = some none) && (decide (PySem.W.nsIn K mainGlobals "KeyError" = some none) && (decide (PySem.W.nsIn K mainGlobals "TypeError" = some none))))))))))))))
def hdB51 (K : PySem.W.Frag) : Bool := decide (PySem.W.nsIn K mainGlobals "ValueError" = some none) && (decide (PySem.W.nsIn K mainGlobals "bool" = some none) && (decide (PySem.W.nsIn K mainGlobals "isinstance" = some none) && (decide (PySem.W.nsIn K mainGlobals "len" = some none) && (decide (PySem.W.nsIn K mainGlobals "max" = some none) && (decide (PySem.W.nsIn K mainGlobals "min" = some none) && (decide (PySem.W.nsIn K mainGlobals "range" = some none) && (decide (PySem.W.nsIn K mainGlobals "super" = some none))))))))
def hdF0 : (PySem.W.Frag → Addr) × HFn := (fun K => (hG K "_law_box"), hFv "_law_box" "_law_box" st__law_box)
def hdF1 : (PySem.W.Frag → Addr) × HFn := (fun K => (hG K "_law_made"), hFv "_law_made" "_law_made" st__law_made)
def hdF2 : (PySem.W.Frag → Addr) × HFn := (fun K => (hG K "_law_fields"), hFv "_law_fields" "_law_fields" st__law_fields)
def hdF3 : (PySem.W.Frag → Addr) × HFn := (fun K => (hG K "_law_cell"), hFv "_law_cell" "_law_cell" st__law_cell)
def hdF4 : (PySem.W.Frag → Addr) × HFn := (fun K => (hG K "_law_take"), hFv "_law_take" "_law_take" st__law_take)
def hdF5 : (PySem.W.Frag → Addr) × HFn := (fun K => (hG K "_law_classes"), hFv "_law_classes" "_law_classes" st__law_classes)
def hdF6 : (PySem.W.Frag → Addr) × HFn := (fun K => (hG K "_law_under"), hFv "_law_under" "_law_under" st__law_under)
def hdF7 : (PySem.W.Frag → Addr) × HFn := (fun K => (hG K "law"), hFv "law" "law" st_law)
def hdF8 : (PySem.W.Frag → Addr) × HFn := (fun K => (hM K (hG K "Duplicate") "__init__"), hFv "__init__" "Duplicate.__init__" (clsInit (topS 23)) ["__class__"])
def hdF9 : (PySem.W.Frag → Addr) × HFn := (fun K => (hM K (hG K "Ended") "__init__"), hFv "__init__" "Ended.__init__" (clsInit (topS 33)) ["__class__"])
def hdF10 : (PySem.W.Frag → Addr) × HFn := (fun K => (hM K (hG K "InvalidCatalog") "__init__"), hFv "__init__" "InvalidCatalog.__init__" (clsInit (topS 6)) ["__class__"])
def hdF11 : (PySem.W.Frag → Addr) × HFn := (fun K => (hM K (hG K "InvalidChange") "__init__"), hFv "__init__" "InvalidChange.__init__" (clsInit (topS 7)) ["__class__"])
def hdF12 : (PySem.W.Frag → Addr) × HFn := (fun K => (hM K (hG K "InvalidClash") "__init__"), hFv "__init__" "InvalidClash.__init__" (clsInit (topS 9)) ["__class__"])
def hdF13 : (PySem.W.Frag → Addr) × HFn := (fun K => (hM K (hG K "InvalidCommand") "__init__"), hFv "__init__" "InvalidCommand.__init__" (clsInit (topS 22)) ["__class__"])
def hdF14 : (PySem.W.Frag → Addr) × HFn := (fun K => (hM K (hG K "InvalidKey") "__init__"), hFv "__init__" "InvalidKey.__init__" (clsInit (topS 3)) ["__class__"])
def hdF15 : (PySem.W.Frag → Addr) × HFn := (fun K => (hM K (hG K "InvalidLog") "__init__"), hFv "__init__" "InvalidLog.__init__" (clsInit (topS 20)) ["__class__"])
def hdF16 : (PySem.W.Frag → Addr) × HFn := (fun K => (hM K (hG K "InvalidModes") "__init__"), hFv "__init__" "InvalidModes.__init__" (clsInit (topS 8)) ["__class__"])
def hdF17 : (PySem.W.Frag → Addr) × HFn := (fun K => (hM K (hG K "InvalidName") "__init__"), hFv "__init__" "InvalidName.__init__" (clsInit (topS 2)) ["__class__"])
def hdF18 : (PySem.W.Frag → Addr) × HFn := (fun K => (hM K (hG K "InvalidNumber") "__init__"), hFv "__init__" "InvalidNumber.__init__" (clsInit (topS 16)) ["__class__"])
def hdF19 : (PySem.W.Frag → Addr) × HFn := (fun K => (hM K (hG K "InvalidProgram") "__init__"), hFv "__init__" "InvalidProgram.__init__" (clsInit (topS 11)) ["__class__"])
def hdF20 : (PySem.W.Frag → Addr) × HFn := (fun K => (hM K (hG K "InvalidPrograms") "__init__"), hFv "__init__" "InvalidPrograms.__init__" (clsInit (topS 12)) ["__class__"])
def hdF21 : (PySem.W.Frag → Addr) × HFn := (fun K => (hM K (hG K "InvalidProtocol") "__init__"), hFv "__init__" "InvalidProtocol.__init__" (clsInit (topS 13)) ["__class__"])
def hdF22 : (PySem.W.Frag → Addr) × HFn := (fun K => (hM K (hG K "InvalidRows") "__init__"), hFv "__init__" "InvalidRows.__init__" (clsInit (topS 14)) ["__class__"])
def hdF23 : (PySem.W.Frag → Addr) × HFn := (fun K => (hM K (hG K "InvalidScene") "__init__"), hFv "__init__" "InvalidScene.__init__" (clsInit (topS 19)) ["__class__"])
def hdF24 : (PySem.W.Frag → Addr) × HFn := (fun K => (hM K (hG K "InvalidSession") "__init__"), hFv "__init__" "InvalidSession.__init__" (clsInit (topS 15)) ["__class__"])
def hdF25 : (PySem.W.Frag → Addr) × HFn := (fun K => (hM K (hG K "InvalidSpan") "__init__"), hFv "__init__" "InvalidSpan.__init__" (clsInit (topS 4)) ["__class__"])
def hdF26 : (PySem.W.Frag → Addr) × HFn := (fun K => (hM K (hG K "InvalidSpans") "__init__"), hFv "__init__" "InvalidSpans.__init__" (clsInit (topS 5)) ["__class__"])
def hdF27 : (PySem.W.Frag → Addr) × HFn := (fun K => (hM K (hG K "InvalidStore") "__init__"), hFv "__init__" "InvalidStore.__init__" (clsInit (topS 18)) ["__class__"])
def hdF28 : (PySem.W.Frag → Addr) × HFn := (fun K => (hM K (hG K "InvalidStrengths") "__init__"), hFv "__init__" "InvalidStrengths.__init__" (clsInit (topS 10)) ["__class__"])
def hdF29 : (PySem.W.Frag → Addr) × HFn := (fun K => (hM K (hG K "InvalidText") "__init__"), hFv "__init__" "InvalidText.__init__" (clsInit (topS 21)) ["__class__"])
def hdF30 : (PySem.W.Frag → Addr) × HFn := (fun K => (hM K (hG K "InvalidWeaving") "__init__"), hFv "__init__" "InvalidWeaving.__init__" (clsInit (topS 17)) ["__class__"])
def hdF31 : (PySem.W.Frag → Addr) × HFn := (fun K => (hM K (hG K "NameTaken") "__init__"), hFv "__init__" "NameTaken.__init__" (clsInit (topS 27)) ["__class__"])
def hdF32 : (PySem.W.Frag → Addr) × HFn := (fun K => (hM K (hG K "NoProgram") "__init__"), hFv "__init__" "NoProgram.__init__" (clsInit (topS 31)) ["__class__"])
def hdF33 : (PySem.W.Frag → Addr) × HFn := (fun K => (hM K (hG K "NoStore") "__init__"), hFv "__init__" "NoStore.__init__" (clsInit (topS 37)) ["__class__"])
def hdF34 : (PySem.W.Frag → Addr) × HFn := (fun K => (hM K (hG K "NotInside") "__init__"), hFv "__init__" "NotInside.__init__" (clsInit (topS 29)) ["__class__"])
def hdF35 : (PySem.W.Frag → Addr) × HFn := (fun K => (hM K (hG K "NotNeighbours") "__init__"), hFv "__init__" "NotNeighbours.__init__" (clsInit (topS 30)) ["__class__"])
def hdF36 : (PySem.W.Frag → Addr) × HFn := (fun K => (hM K (hG K "NotRight") "__init__"), hFv "__init__" "NotRight.__init__" (clsInit (topS 36)) ["__class__"])
def hdF37 : (PySem.W.Frag → Addr) × HFn := (fun K => (hM K (hG K "NothingBad") "__init__"), hFv "__init__" "NothingBad.__init__" (clsInit (topS 35)) ["__class__"])
def hdF38 : (PySem.W.Frag → Addr) × HFn := (fun K => (hM K (hG K "NothingToRedo") "__init__"), hFv "__init__" "NothingToRedo.__init__" (clsInit (topS 39)) ["__class__"])
def hdF39 : (PySem.W.Frag → Addr) × HFn := (fun K => (hM K (hG K "NothingToUndo") "__init__"), hFv "__init__" "NothingToUndo.__init__" (clsInit (topS 38)) ["__class__"])
def hdF40 : (PySem.W.Frag → Addr) × HFn := (fun K => (hM K (hG K "Overlap") "__init__"), hFv "__init__" "Overlap.__init__" (clsInit (topS 28)) ["__class__"])
def hdF41 : (PySem.W.Frag → Addr) × HFn := (fun K => (hM K (hG K "TooMany") "__init__"), hFv "__init__" "TooMany.__init__" (clsInit (topS 32)) ["__class__"])
def hdF42 : (PySem.W.Frag → Addr) × HFn := (fun K => (hM K (hG K "UnknownEntry") "__init__"), hFv "__init__" "UnknownEntry.__init__" (clsInit (topS 26)) ["__class__"])
def hdF43 : (PySem.W.Frag → Addr) × HFn := (fun K => (hM K (hG K "UnknownMode") "__init__"), hFv "__init__" "UnknownMode.__init__" (clsInit (topS 25)) ["__class__"])
def hdF44 : (PySem.W.Frag → Addr) × HFn := (fun K => (hM K (hG K "UnknownPart") "__init__"), hFv "__init__" "UnknownPart.__init__" (clsInit (topS 24)) ["__class__"])
def hdF45 : (PySem.W.Frag → Addr) × HFn := (fun K => (hM K (hG K "Waiting") "__init__"), hFv "__init__" "Waiting.__init__" (clsInit (topS 34)) ["__class__"])
def hdBL0 : List (PySem.W.Frag → Bool) := [hdB0, hdB1, hdB2, hdB3, hdB4, hdB5, hdB6, hdB7, hdB8, hdB9, hdB10, hdB11, hdB12, hdB13, hdB14, hdB15]
def hdBL1 : List (PySem.W.Frag → Bool) := [hdB16, hdB17, hdB18, hdB19, hdB20, hdB21, hdB22, hdB23, hdB24, hdB25, hdB26, hdB27, hdB28, hdB29, hdB30, hdB31]
def hdBL2 : List (PySem.W.Frag → Bool) := [hdB32, hdB33, hdB34, hdB35, hdB36, hdB37, hdB38, hdB39, hdB40, hdB41, hdB42, hdB43, hdB44, hdB45, hdB46, hdB47]
def hdBL3 : List (PySem.W.Frag → Bool) := [hdB48, hdB49, hdB50, hdB51]
def hdFL0 : List ((PySem.W.Frag → Addr) × HFn) := [hdF0, hdF1, hdF2, hdF3, hdF4, hdF5, hdF6, hdF7, hdF8, hdF9, hdF10, hdF11, hdF12, hdF13, hdF14, hdF15]
def hdFL1 : List ((PySem.W.Frag → Addr) × HFn) := [hdF16, hdF17, hdF18, hdF19, hdF20, hdF21, hdF22, hdF23, hdF24, hdF25, hdF26, hdF27, hdF28, hdF29, hdF30, hdF31]
def hdFL2 : List ((PySem.W.Frag → Addr) × HFn) := [hdF32, hdF33, hdF34, hdF35, hdF36, hdF37, hdF38, hdF39, hdF40, hdF41, hdF42, hdF43, hdF44, hdF45]
def hdD : HD := ⟨hdBL0 ++ hdBL1 ++ hdBL2 ++ hdBL3, hdFL0 ++ hdFL1 ++ hdFL2, []⟩
def hdL0 : List PySem.Str := ["__name__", "PartsError", "InvalidName", "InvalidKey", "InvalidSpan", "InvalidSpans", "InvalidCatalog", "InvalidChange", "InvalidModes", "InvalidClash", "InvalidStrengths", "InvalidProgram", "InvalidPrograms", "InvalidProtocol", "InvalidRows", "InvalidSession"]
def hdL1 : List PySem.Str := ["InvalidNumber", "InvalidWeaving", "InvalidStore", "InvalidScene", "InvalidLog", "InvalidText", "InvalidCommand", "Duplicate", "UnknownPart", "UnknownMode", "UnknownEntry", "NameTaken", "Overlap", "NotInside", "NotNeighbours", "NoProgram"]
def hdL2 : List PySem.Str := ["TooMany", "Ended", "Waiting", "NothingBad", "NotRight", "NoStore", "NothingToUndo", "NothingToRedo", "_law_cell", "_law_box", "_law_take", "_law_made", "_law_classes", "_law_fields", "_law_under"]
def hdC0 : List (PySem.Str) := ["Duplicate", "Ended", "InvalidCatalog", "InvalidChange", "InvalidClash", "InvalidCommand", "InvalidKey", "InvalidLog", "InvalidModes", "InvalidName", "InvalidNumber", "InvalidProgram", "InvalidPrograms", "InvalidProtocol", "InvalidRows", "InvalidScene"]
def hdC1 : List (PySem.Str) := ["InvalidSession", "InvalidSpan", "InvalidSpans", "InvalidStore", "InvalidStrengths", "InvalidText", "InvalidWeaving", "NameTaken", "NoProgram", "NoStore", "NotInside", "NotNeighbours", "NotRight", "NothingBad", "NothingToRedo", "NothingToUndo"]
def hdC2 : List (PySem.Str) := ["Overlap", "TooMany", "UnknownEntry", "UnknownMode", "UnknownPart", "Waiting", "PartsError"]
def hdM0 : List (PySem.Str × PySem.Str) := [("Duplicate", "__init__"), ("Ended", "__init__"), ("InvalidCatalog", "__init__"), ("InvalidChange", "__init__"), ("InvalidClash", "__init__"), ("InvalidCommand", "__init__"), ("InvalidKey", "__init__"), ("InvalidLog", "__init__"), ("InvalidModes", "__init__"), ("InvalidName", "__init__"), ("InvalidNumber", "__init__"), ("InvalidProgram", "__init__"), ("InvalidPrograms", "__init__"), ("InvalidProtocol", "__init__"), ("InvalidRows", "__init__"), ("InvalidScene", "__init__")]
def hdM1 : List (PySem.Str × PySem.Str) := [("InvalidSession", "__init__"), ("InvalidSpan", "__init__"), ("InvalidSpans", "__init__"), ("InvalidStore", "__init__"), ("InvalidStrengths", "__init__"), ("InvalidText", "__init__"), ("InvalidWeaving", "__init__"), ("NameTaken", "__init__"), ("NoProgram", "__init__"), ("NoStore", "__init__"), ("NotInside", "__init__"), ("NotNeighbours", "__init__"), ("NotRight", "__init__"), ("NothingBad", "__init__"), ("NothingToRedo", "__init__"), ("NothingToUndo", "__init__")]
def hdM2 : List (PySem.Str × PySem.Str) := [("Overlap", "__init__"), ("TooMany", "__init__"), ("UnknownEntry", "__init__"), ("UnknownMode", "__init__"), ("UnknownPart", "__init__"), ("Waiting", "__init__")]
def hdG0 : List (PySem.Str) := ["_law_box", "_law_made", "_law_fields", "_law_cell", "_law_take", "_law_classes", "_law_under", "law"]
def hdN : HN := ⟨(hdC0 ++ hdC1 ++ hdC2), (hdM0 ++ hdM1 ++ hdM2), (hdG0), ([])⟩
theorem hdRun (w : World) : HandSHeadRun.RunEq hdR (PySem.W.view hdR.prog [48]) (hHook hdN hdD) (fun s => hOb hdN hdD (HandSHeadRun.getT s)) 20000 (hdL0 ++ hdL1 ++ hdL2) w := by
  intro os
  kernel_rfl
end K04
set_option Elab.async false
set_option linter.all false
set_option maxRecDepth 100000
set_option maxHeartbeats 4000000
namespace SD
open PySem PySem.Spec PyProof.Rows L2
/-! ### a, b, c = x, y, z -/
def sPar3 (i j l : Nat) (f : Av) : Sv := fun ρ M => SOut.ofE ρ (f ρ M) fun us M1 => match us with
  | [u, w, v] => .nx (((ρ.set i (some u)).set j (some w)).set l (some v)) M1
  | _ => .bad
instance {i j l : Nat} {q : Av} [k : FE q] : FS (sPar3 i j l q) := ⟨fun ρ M => FlS.ofE (k.h _ _) fun u M1 => by (repeat' (first | exact trivial | exact Fl.refl | exact Fl.app | exact fl_newL | exact fl_newD | exact Fl.set rfl | split))⟩
/-! ### a call without arguments -/
end SD
set_option Elab.async false
set_option linter.all false
set_option maxRecDepth 100000
set_option maxHeartbeats 4000000
namespace SD
open PySem PySem.Spec PyProof.Rows L2
/-! ### what a reckoning reaches (no program in sight) -/
abbrev XP := Str → List (Str × D) → Mem → Prop
abbrev XS := Str → List (Str × D) → En → Mem → Prop
/-- an exception of an expression, at the slots ρ -/
def xE (Y : XS) (ρ : En) : XP := fun c fs M => Y c fs ρ M
/-- so that a rewriting leaves alone what comes behind -/
inductive Tok {α : Type} (a : α) : Type where
  | mk
def Wp {α : Type} (o : Out α) (Q : α → Mem → Prop) (X : XP) (_ : Tok Q := .mk) (_ : Tok X := .mk) : Prop := match o with
  | .ok a M => Q a M
  | .exc c fs M => X c fs M
  | .bad => False
def WS (o : SOut) (nx : En → Mem → Prop) (rt : U → Mem → Prop) (bk ct : En → Mem → Prop) (X : XS) (_ : Tok nx := .mk) (_ : Tok rt := .mk) (_ : Tok bk := .mk) (_ : Tok ct := .mk) (_ : Tok X := .mk) : Prop := match o with
  | .nx ρ M => nx ρ M
  | .rt u M => rt u M
  | .bk ρ M => bk ρ M
  | .ct ρ M => ct ρ M
  | .exc c fs ρ M => X c fs ρ M
  | .bad => False
def WO {α : Type} (o : Option α) (k : α → Prop) (_ : Tok k := .mk) : Prop := match o with
  | some a => k a
  | none => False
def uB : U → Option Bool
  | .dat (.bl b) => some b
  | _ => none
def uI : U → Option Int
  | .dat (.int i) => some i
  | _ => none
def uI1 : List U → Option Int
  | [.dat (.int j)] => some j
  | _ => none
def uI2 : List U → Option (Int × Int)
  | [.dat (.int i), .dat (.int j)] => some (i, j)
  | _ => none
def uD : U → Option D
  | .dat d => some d
  | _ => none
def uSet : U → U → U → Option (Nat × Int × D)
  | .cell k, .dat (.int j), .dat d => some (k, j, d)
  | _, _, _ => none
def oL : Option O → Option (List D)
  | some (.lst ds) => some ds
  | _ => none
def x0 : XP := fun _ _ _ => False
theorem Wp.q {α : Type} {o : Out α} {Q Q' : α → Mem → Prop} {X : XP} (h : ∀ a M, Q a M = Q' a M) : Wp o Q X = Wp o Q' X := by
  have : Q = Q' := funext fun a => funext fun M => h a M
  subst this; rfl
theorem Wp.mono {α : Type} {o : Out α} {Q Q' : α → Mem → Prop} {X X' : XP} (h : Wp o Q X) (hq : ∀ a M, Q a M → Q' a M) (hx : ∀ c fs M, X c fs M → X' c fs M) : Wp o Q' X' := by
  cases o with
  | ok a M => exact hq a M h
  | exc c fs M => exact hx c fs M h
  | bad => exact h
theorem Wp.ok {α : Type} {o : Out α} {Q : α → Mem → Prop} (h : Wp o Q x0) : ∃ a M, o = .ok a M ∧ Q a M := by
  cases o with
  | ok a M => exact ⟨a, M, rfl, h⟩
  | exc c fs M => exact h.elim
  | bad => exact h.elim
theorem WS.mono {o : SOut} {nx nx' : En → Mem → Prop} {rt rt' : U → Mem → Prop} {bk bk' ct ct' : En → Mem → Prop} {X X' : XS} (h : WS o nx rt bk ct X) (h1 : ∀ ρ M, nx ρ M → nx' ρ M) (h2 : ∀ u M, rt u M → rt' u M) (h3 : ∀ ρ M, bk ρ M → bk' ρ M) (h4 : ∀ ρ M, ct ρ M → ct' ρ M)
    (h5 : ∀ c fs ρ M, X c fs ρ M → X' c fs ρ M) : WS o nx' rt' bk' ct' X' := by
  cases o with
  | nx ρ M => exact h1 ρ M h
  | rt ρ M => exact h2 ρ M h
  | bk ρ M => exact h3 ρ M h
  | ct ρ M => exact h4 ρ M h
  | exc c fs ρ M => exact h5 c fs ρ M h
  | bad => exact h
section
variable {α β : Type} {Q : α → Mem → Prop} {Q' : U → Mem → Prop} {X : XP} {Y : XS} {ρ : En} {M : Mem} {nx bk ct : En → Mem → Prop} {rt : U → Mem → Prop}
theorem wp_ok {a : α} : Wp (.ok a M) Q X = Q a M := Eq.trans rfl rfl
theorem wp_bad : Wp (.bad : Out α) Q X = False := Eq.trans rfl rfl
theorem wp_exc {c : Str} {fs : List (Str × D)} : Wp (.exc c fs M : Out α) Q X = X c fs M := Eq.trans rfl rfl
theorem wp_bind {o : Out β} {k : β → Mem → Out α} : Wp (o.bind k) Q X = Wp o (fun a M => Wp (k a M) Q X) X := by cases o <;> rfl
theorem wp_ite {p : Prop} [Decidable p] {a b : Out α} : Wp (if p then a else b) Q X = if p then Wp a Q X else Wp b Q X := by split <;> rfl
theorem wo_some {a : β} {k : β → Prop} : WO (some a) k = k a := Eq.trans rfl rfl
theorem wo_none {k : β → Prop} : WO none k = False := Eq.trans rfl rfl
theorem wo_map {γ : Type} {o : Option γ} {f : γ → β} {k : β → Prop} : WO (o.map f) k = WO o fun a => k (f a) := by cases o <;> rfl
theorem wo_ite {p : Prop} [Decidable p] {o : Option β} {k : β → Prop} : WO (if p then o else none) k = (p ∧ WO o k) := by
  split
  · rename_i h; simp [h]
  · rename_i h; simp [h, WO]
/-! expressions -/
theorem wp_var {i : Nat} : Wp (eVar i ρ M) Q' X = WO (ρ[i]?.join) (fun u => Q' u M) := by
  unfold eVar
  cases ρ[i]? with
  | none => rfl
  | some o => cases o <;> rfl
theorem wp_c {d : D} : Wp (eC d ρ M) Q' X = Q' (.dat d) M := Eq.trans rfl rfl
theorem wp_e2 {p : P2} {f g : Ev} : Wp (e2 p f g ρ M) Q' X = Wp (f ρ M) (fun u M1 => Wp (g ρ M1) (fun w M2 => Wp (p u w M2) Q' X) X) X := by
  unfold e2; rw [wp_bind]; refine Wp.q fun u M1 => ?_; rw [wp_bind]
theorem wp_lift2 {g : D → D → Option D} {a b : D} : Wp (lift2 g (.dat a) (.dat b) M) Q' X = WO (g a b) (fun c => Q' (.dat c) M) := by
  unfold lift2 view; cases h : g a b <;> simp [h, Wp, WO]
theorem wp_lift2v {g : D → D → Option D} {u w : U} : Wp (lift2 g u w M) Q' X = WO (view u M) fun a => WO (view w M) fun b => WO (g a b) (fun c => Q' (.dat c) M) := by
  unfold lift2
  cases view u M with
  | none => rfl
  | some a =>
    cases view w M with
    | none => rfl
    | some b =>
      show Wp (match g a b with | some c => Out.ok (U.dat c) M | none => Out.bad) Q' X = WO (g a b) (fun c => Q' (.dat c) M)
      cases g a b <;> rfl
theorem wp_add {c : Bool} {a b : D} (h : ∀ ds es, ¬ (a = .lst ds ∧ b = .lst es)) : Wp (pAdd c (.dat a) (.dat b) M) Q' X = WO (addD a b) (fun d => Q' (.dat d) M) := by
  have e : pAdd c (.dat a) (.dat b) M = lift2 addD (.dat a) (.dat b) M := by
    unfold pAdd view
    split
    · rename_i ds es h1 h2
      cases h1; cases h2
      exact (h ds es ⟨rfl, rfl⟩).elim
    · rfl
  rw [e, wp_lift2]
theorem wp_addI {c : Bool} {i j : Int} : Wp (pAdd c (.dat (.int i)) (.dat (.int j)) M) Q' X = Q' (.dat (.int (i + j))) M := Eq.trans rfl rfl
theorem wp_addS {c : Bool} {s t : Cs} : Wp (pAdd c (.dat (.str s)) (.dat (.str t)) M) Q' X = (s.length + t.length ≤ 16777216 ∧ Q' (.dat (.str (s ++ t))) M) := by
  rw [wp_add (by intro ds es h; cases h.1)]; unfold addD; rw [wo_ite, wo_some]
theorem wp_addT {c : Bool} {ds es : List D} : Wp (pAdd c (.dat (.tup ds)) (.dat (.tup es)) M) Q' X = (ds.length + es.length ≤ 16777216 ∧ Q' (.dat (.tup (ds ++ es))) M) := by
  rw [wp_add (by intro ds es h; cases h.1)]; unfold addD; rw [wo_ite, wo_some]
theorem wp_addL {ds es : List D} : Wp (pAdd false (.dat (.lst ds)) (.dat (.lst es)) M) Q' X = (ds.length + es.length ≤ 16777216 ∧ Q' (.dat (.lst (ds ++ es))) M) := by
  unfold pAdd view newL
  show Wp (if ds.length + es.length ≤ 16777216 then _ else _) Q' X = _
  split
  · rename_i h; simp [h, Wp]
  · rename_i h; simp [h, Wp]
theorem wp_tOf {f : Ev} {Q : Bool → Mem → Prop} : Wp (tOf f ρ M) Q X = Wp (f ρ M) (fun u M1 => WO (uB u) fun b => Q b M1) X := by
  unfold tOf; rw [wp_bind]; refine Wp.q fun u M1 => ?_
  cases u with
  | cell k => rfl
  | exn => rfl
  | tup => rfl
  | dat d => cases d <;> rfl
theorem wp_not {f : Tv} {Q : Bool → Mem → Prop} : Wp (bNot f ρ M) Q X = Wp (f ρ M) (fun b M1 => Q (!b) M1) X := by unfold bNot; rw [wp_bind]; rfl
theorem wp_and {f g : Tv} {Q : Bool → Mem → Prop} : Wp (bAnd f g ρ M) Q X = Wp (f ρ M) (fun b M1 => if b then Wp (g ρ M1) Q X else Q false M1) X := by unfold bAnd; rw [wp_bind]; refine Wp.q fun b M1 => ?_; cases b <;> rfl
theorem wp_or {f g : Tv} {Q : Bool → Mem → Prop} : Wp (bOr f g ρ M) Q X = Wp (f ρ M) (fun b M1 => if b then Q true M1 else Wp (g ρ M1) Q X) X := by unfold bOr; rw [wp_bind]; refine Wp.q fun b M1 => ?_; cases b <;> rfl
theorem wp_vand {f g : Ev} : Wp (vAnd f g ρ M) Q' X = Wp (tOf f ρ M) (fun b M1 => if b then Wp (g ρ M1) Q' X else Q' (.dat (.bl false)) M1) X := by unfold vAnd; rw [wp_bind]; refine Wp.q fun b M1 => ?_; cases b <;> rfl
theorem wp_vor {f g : Ev} : Wp (vOr f g ρ M) Q' X = Wp (tOf f ρ M) (fun b M1 => if b then Q' (.dat (.bl true)) M1 else Wp (g ρ M1) Q' X) X := by unfold vOr; rw [wp_bind]; refine Wp.q fun b M1 => ?_; cases b <;> rfl
theorem wp_eB {f : Tv} : Wp (eB f ρ M) Q' X = Wp (f ρ M) (fun b M1 => Q' (.dat (.bl b)) M1) X := by unfold eB; rw [wp_bind]; rfl
theorem wp_eIf {c : Tv} {f g : Ev} : Wp (eIf c f g ρ M) Q' X = Wp (c ρ M) (fun b M1 => if b then Wp (f ρ M1) Q' X else Wp (g ρ M1) Q' X) X := by unfold eIf; rw [wp_bind]; refine Wp.q fun b M1 => ?_; cases b <;> rfl
theorem wp_neg {f : Ev} : Wp (eNeg f ρ M) Q' X = Wp (f ρ M) (fun u M1 => WO (uI u) fun i => Q' (.dat (.int (-i))) M1) X := by
  unfold eNeg; rw [wp_bind]; refine Wp.q fun u M1 => ?_
  cases u with
  | cell k => rfl
  | exn => rfl
  | tup => rfl
  | dat d => cases d <;> rfl
theorem wp_chain {p p' : P2} {f g h : Ev} : Wp (eChain p p' f g h ρ M) Q' X = Wp (f ρ M) (fun u M1 => Wp (g ρ M1) (fun w M2 => Wp (p u w M2) (fun t M3 => WO (uB t) fun b =>
    if b then Wp (h ρ M3) (fun v M4 => Wp (p' w v M4) Q' X) X else Q' (.dat (.bl false)) M3) X) X) X := by
  unfold eChain; rw [wp_bind]; refine Wp.q fun u M1 => ?_; rw [wp_bind]; refine Wp.q fun w M2 => ?_; rw [wp_bind]; refine Wp.q fun t M3 => ?_
  cases t with
  | cell k => rfl
  | exn => rfl
  | tup => rfl
  | dat d =>
    cases d with
    | bl b =>
      cases b
      · rfl
      · show Wp ((h ρ M3).bind fun v M4 => p' w v M4) Q' X = _
        rw [wp_bind]; rfl
    | _ => rfl
theorem wp_aNil {Q : List U → Mem → Prop} : Wp (aNil ρ M) Q X = Q [] M := Eq.trans rfl rfl
theorem wp_aCons {f : Ev} {g : Av} {Q : List U → Mem → Prop} : Wp (aCons f g ρ M) Q X = Wp (f ρ M) (fun u M1 => Wp (g ρ M1) (fun us M2 => Q (u :: us) M2) X) X := by
  unfold aCons; rw [wp_bind]; refine Wp.q fun u M1 => ?_; rw [wp_bind]; rfl
theorem wp_newF {ds : List D} : Wp (newL false ds M) Q' X = Q' (.dat (.lst ds)) M := Eq.trans rfl rfl
theorem wp_newT {ds : List D} : Wp (newL true ds M) Q' X = Q' (.cell M.length) (M ++ [.lst ds]) := Eq.trans rfl rfl
theorem wp_lst {c : Bool} {f : Av} : Wp (eLst c f ρ M) Q' X = Wp (f ρ M) (fun us M1 => WO (toDs us) fun ds => ds.length ≤ 16777216 ∧ Wp (newL c ds M1) Q' X) X := by
  unfold eLst; rw [wp_bind]; refine Wp.q fun us M1 => ?_
  cases toDs us with
  | none => rfl
  | some ds =>
    show Wp (if ds.length ≤ 16777216 then newL c ds M1 else .bad) Q' X = (ds.length ≤ 16777216 ∧ Wp (newL c ds M1) Q' X)
    split
    · rename_i h; simp [h]
    · rename_i h; simp [h, Wp]
theorem wp_tup {f : Av} : Wp (eTup f ρ M) Q' X = Wp (f ρ M) (fun us M1 => WO (toDs us) fun ds => ds.length ≤ 16777216 ∧ Q' (.dat (.tup ds)) M1) X := by
  unfold eTup; rw [wp_bind]; refine Wp.q fun us M1 => ?_
  cases toDs us with
  | none => rfl
  | some ds =>
    show Wp (if ds.length ≤ 16777216 then _ else .bad) Q' X = (ds.length ≤ 16777216 ∧ Q' (.dat (.tup ds)) M1)
    split
    · rename_i h; simp [h, Wp]
    · rename_i h; simp [h, Wp]
theorem td_nil : toDs [] = some [] := Eq.trans rfl rfl
theorem td_cons {d : D} {us : List U} : toDs (.dat d :: us) = (toDs us).map (d :: ·) := Eq.trans rfl rfl
theorem wp_call {p : Pf} {f : Av} : Wp (eCall p f ρ M) Q' X = Wp (f ρ M) (fun us M1 => Wp (p us M1) Q' X) X := by unfold eCall; rw [wp_bind]
theorem wp_pf1 {g : D → Option D} {u : U} : Wp (pf1 g [u] M) Q' X = WO (view u M) fun d => WO (g d) fun c => Q' (.dat c) M := by
  unfold pf1
  show Wp (match view u M with | some d => (match g d with | some c => Out.ok (U.dat c) M | none => .bad) | none => .bad) Q' X = _
  cases view u M with
  | none => rfl
  | some d =>
    show Wp (match g d with | some c => Out.ok (U.dat c) M | none => .bad) Q' X = WO (g d) fun c => Q' (.dat c) M
    cases g d <;> rfl
theorem wp_pf2 {g : D → D → Option D} {u w : U} : Wp (pf2 g [u, w] M) Q' X = WO (view u M) fun d => WO (view w M) fun e => WO (g d e) fun c => Q' (.dat c) M := by
  unfold pf2
  show Wp (match view u M, view w M with | some d, some e => (match g d e with | some c => Out.ok (U.dat c) M | none => .bad) | _, _ => .bad) Q' X = _
  cases view u M with
  | none => rfl
  | some d =>
    cases view w M with
    | none => rfl
    | some e =>
      show Wp (match g d e with | some c => Out.ok (U.dat c) M | none => .bad) Q' X = WO (g d e) fun c => Q' (.dat c) M
      cases g d e <;> rfl
theorem wp_pfL {c : Bool} {g : D → Option (List D)} {u : U} : Wp (pfL c g [u] M) Q' X = WO (view u M) fun d => WO (g d) fun ds => Wp (newL c ds M) Q' X := by
  unfold pfL
  show Wp (match view u M with | some d => (match g d with | some ds => newL c ds M | none => .bad) | none => .bad) Q' X = _
  cases view u M with
  | none => rfl
  | some d =>
    show Wp (match g d with | some ds => newL c ds M | none => .bad) Q' X = WO (g d) fun ds => Wp (newL c ds M) Q' X
    cases g d <;> rfl
theorem view_dat {d : D} : view (.dat d) M = some d := Eq.trans rfl rfl
theorem wp_isi {T : String} {f : Ev} : Wp (eIsi T f ρ M) Q' X = Wp (f ρ M) (fun u M1 => WO (view u M1) fun d => noEx d = true ∧ Q' (.dat (.bl (isiB T d))) M1) X := by
  unfold eIsi; rw [wp_bind]; refine Wp.q fun u M1 => ?_
  cases view u M1 with
  | none => rfl
  | some d => cases h : noEx d <;> simp [WO, Wp, h]
theorem wp_fn {n : Nat} {dus : List U} {F : Fn} {g : Av} : Wp (eFn n dus F g ρ M) Q' X = Wp (g ρ M) (fun us M1 => (us ++ dus).length = n ∧ Wp (F (us ++ dus) M1) Q' X) X := by
  unfold eFn; rw [wp_bind]; refine Wp.q fun us M1 => ?_
  rw [wp_ite]
  split
  · rename_i h; simp only [h, true_and]
  · rename_i h; simp only [h, false_and]; rfl
theorem wp_bm {T : String} {p : Pm} {f : Ev} {g : Av} : Wp (eBm T p f g ρ M) Q' X = Wp (f ρ M) (fun u M1 => tyU T u M1 = true ∧ Wp (g ρ M1) (fun us M2 => Wp (p u us M2) Q' X) X) X := by
  unfold eBm; rw [wp_bind]; refine Wp.q fun u M1 => ?_
  rw [wp_ite]
  split
  · rename_i h; simp [h, wp_bind]
  · rename_i h; simp [h, Wp]
theorem wp_sl {c : Bool} {f : Ev} {lo hi : Pv} : Wp (eSl c f lo hi ρ M) Q' X = Wp (f ρ M) (fun u M1 => Wp (lo ρ M1) (fun l M2 => Wp (hi ρ M2) (fun h M3 => Wp (pSl c u l h M3) Q' X) X) X) X := by
  unfold eSl; rw [wp_bind]; refine Wp.q fun u M1 => ?_; rw [wp_bind]; refine Wp.q fun l M2 => ?_; rw [wp_bind]
theorem wp_pNone {Q : Option Int → Mem → Prop} : Wp (pNone ρ M) Q X = Q none M := Eq.trans rfl rfl
theorem wp_pSome {f : Ev} {Q : Option Int → Mem → Prop} : Wp (pSome f ρ M) Q X = Wp (f ρ M) (fun u M1 => WO (uI u) fun i => Q (some i) M1) X := by
  unfold pSome; rw [wp_bind]; refine Wp.q fun u M1 => ?_
  cases u with
  | cell k => rfl
  | exn => rfl
  | tup => rfl
  | dat d => cases d <;> rfl
theorem wp_slS {c : Bool} {s : Cs} {lo hi : Option Int} : Wp (pSl c (.dat (.str s)) lo hi M) Q' X = (s.length ≤ 16777216 ∧ Q' (.dat (.str (cutL s lo hi))) M) := by
  show Wp (if s.length ≤ 16777216 then _ else _) Q' X = _
  split
  · rename_i h; simp [h, Wp]
  · rename_i h; simp [h, Wp]
theorem wp_slL {c : Bool} {ds : List D} {lo hi : Option Int} : Wp (pSl c (.dat (.lst ds)) lo hi M) Q' X = Wp (newL c (cutL ds lo hi) M) Q' X := Eq.trans rfl rfl
theorem wp_disp {c : Bool} {fs : List (Ev × Ev)} : Wp (eDisp c fs ρ M) Q' X = Wp (pairsE fs ρ M) (fun kvs M1 => kvs.length ≤ 15 ∧ Wp (newD c (mergeD [] kvs) M1) Q' X) X := by
  unfold eDisp; rw [wp_bind]; refine Wp.q fun kvs M1 => ?_
  rw [wp_ite]
  split
  · rename_i h; simp [h]
  · rename_i h; simp [h, Wp]
theorem wp_newDF {ds : List (Key × D)} : Wp (newD false ds M) Q' X = Q' (.dat (.dct ds)) M := Eq.trans rfl rfl
theorem wp_newDT {ds : List (Key × D)} : Wp (newD true ds M) Q' X = Q' (.cell M.length) (M ++ [.dct ds]) := Eq.trans rfl rfl
theorem wp_prNil {Q : List (Key × D) → Mem → Prop} : Wp (pairsE [] ρ M) Q X = Q [] M := Eq.trans rfl rfl
theorem wp_prCons {f g : Ev} {r : List (Ev × Ev)} {Q : List (Key × D) → Mem → Prop} : Wp (pairsE ((f, g) :: r) ρ M) Q X = Wp (f ρ M) (fun k M1 => Wp (g ρ M1) (fun v M2 => Wp (pairsE r ρ M2) (fun kvs M3 =>
    WO (toKey k) fun k => WO (uD v) fun d => Q ((k, d) :: kvs) M3) X) X) X := by
  unfold pairsE; rw [wp_bind]; refine Wp.q fun u M1 => ?_; rw [wp_bind]; refine Wp.q fun v M2 => ?_; rw [wp_bind]; refine Wp.q fun kvs M3 => ?_
  cases toKey u with
  | none => rfl
  | some k => cases v <;> rfl
theorem wp_dnew {c : Bool} : Wp (eDnew c ρ M) Q' X = Wp (newD c [] M) Q' X := Eq.trans rfl rfl
/-! statements -/
theorem ws_nil : WS (sNil ρ M) nx rt bk ct Y = nx ρ M := Eq.trans rfl rfl
theorem ws_cons {f g : Sv} : WS (sCons f g ρ M) nx rt bk ct Y = WS (f ρ M) (fun ρ1 M1 => WS (g ρ1 M1) nx rt bk ct Y) rt bk ct Y := by
  unfold sCons; cases f ρ M <;> rfl
theorem ws_ofE {o : Out α} {k : α → Mem → SOut} : WS (SOut.ofE ρ o k) nx rt bk ct Y = Wp o (fun a M1 => WS (k a M1) nx rt bk ct Y) (xE Y ρ) := by cases o <;> rfl
theorem ws_ret {f : Ev} : WS (sRet f ρ M) nx rt bk ct Y = Wp (f ρ M) rt (xE Y ρ) := by unfold sRet; rw [ws_ofE]; rfl
theorem ws_retN : WS (sRetN ρ M) nx rt bk ct Y = rt (.dat .non) M := Eq.trans rfl rfl
theorem ws_brk : WS (sBrk ρ M) nx rt bk ct Y = bk ρ M := Eq.trans rfl rfl
theorem ws_cnt : WS (sCnt ρ M) nx rt bk ct Y = ct ρ M := Eq.trans rfl rfl
theorem ws_if {c : Tv} {f g : Sv} : WS (sIf c f g ρ M) nx rt bk ct Y = Wp (c ρ M) (fun b M1 => if b then WS (f ρ M1) nx rt bk ct Y else WS (g ρ M1) nx rt bk ct Y) (xE Y ρ) := by
  unfold sIf; rw [ws_ofE]; refine Wp.q fun b M1 => ?_; cases b <;> rfl
theorem ws_drop {f : Ev} : WS (sDrop f ρ M) nx rt bk ct Y = Wp (f ρ M) (fun _ M1 => nx ρ M1) (xE Y ρ) := by unfold sDrop; rw [ws_ofE]; rfl
theorem ws_asg {t : Tgt} {f : Ev} : WS (sAsg t f ρ M) nx rt bk ct Y = Wp (f ρ M) (fun u M1 => WO (t.bind u ρ) fun ρ' => nx ρ' M1) (xE Y ρ) := by
  unfold sAsg; rw [ws_ofE]; refine Wp.q fun u M1 => ?_
  cases t.bind u ρ <;> rfl
theorem bind_name {i : Nat} {u : U} : (Tgt.name i).bind u ρ = some (ρ.set i (some u)) := Eq.trans rfl rfl
theorem bind_lst {is : List Nat} {ds : List D} : (Tgt.tup is).bind (.dat (.lst ds)) ρ = if ds.length = is.length then some (setAll is ds ρ) else none := Eq.trans rfl rfl
theorem bind_tup {is : List Nat} {ds : List D} : (Tgt.tup is).bind (.dat (.tup ds)) ρ = if ds.length = is.length then some (setAll is ds ρ) else none := Eq.trans rfl rfl
theorem sa_c {i : Nat} {is : List Nat} {d : D} {ds : List D} : setAll (i :: is) (d :: ds) ρ = setAll is ds (ρ.set i (some (.dat d))) := Eq.trans rfl rfl
theorem sa_n : setAll [] [] ρ = ρ := Eq.trans rfl rfl
/-- a loop over data: J after the items seen so far -/
theorem ws_forL {t : Tgt} {body : Sv} (J : List D → En → Mem → Prop) : ∀ (ds seen : List D) (ρ : En) (M : Mem), J seen ρ M → (∀ (pre : List D) (d : D) (post : List D) (ρ : En) (M : Mem), seen ++ ds = pre ++ d :: post → J pre ρ M → WO (t.bind (.dat d) ρ) fun ρ1 =>
    WS (body ρ1 M) (J (pre ++ [d])) rt nx (J (pre ++ [d])) Y) → (∀ ρ M, J (seen ++ ds) ρ M → nx ρ M) → WS (forL t body ds ρ M) nx rt bk ct Y
  | [], seen, ρ, M, hJ, _, he => he ρ M (by simpa using hJ)
  | d :: ds, seen, ρ, M, hJ, hs, he => by
    have h := hs seen d ds ρ M rfl hJ
    unfold forL
    cases hb : t.bind (.dat d) ρ with
    | none => rw [hb] at h; exact h.elim
    | some ρ1 =>
      rw [hb] at h
      have go : ∀ ρ2 M2, J (seen ++ [d]) ρ2 M2 → WS (forL t body ds ρ2 M2) nx rt bk ct Y := fun ρ2 M2 hJ2 =>
        ws_forL J ds (seen ++ [d]) ρ2 M2 hJ2 (fun pre e post ρ M e1 => hs pre e post ρ M (by simpa using e1)) (fun ρ M q => he ρ M (by simpa using q))
      simp only
      cases hbd : body ρ1 M with
      | nx ρ2 M2 => simp only [WO, hbd] at h; exact go ρ2 M2 h
      | ct ρ2 M2 => simp only [WO, hbd] at h; exact go ρ2 M2 h
      | bk ρ2 M2 => simp only [WO, hbd] at h; exact h
      | rt u M2 => simp only [WO, hbd] at h; exact h
      | exc c fs ρ2 M2 => simp only [WO, hbd] at h; exact h
      | bad => simp only [WO, hbd] at h; exact h
theorem ws_for {t : Tgt} {src : Lv} {body : Sv} : WS (sFor t src body ρ M) nx rt bk ct Y = Wp (src ρ M) (fun ds M1 => WS (forL t body ds ρ M1) nx rt bk ct Y) (xE Y ρ) := by unfold sFor; rw [ws_ofE]
theorem wp_iVal {f : Ev} {Q : List D → Mem → Prop} : Wp (iVal f ρ M) Q X = Wp (f ρ M) (fun u M1 => WO (match u with | .dat d => itD d | _ => none) fun ds => Q ds M1) X := by
  unfold iVal; rw [wp_bind]; refine Wp.q fun u M1 => ?_
  cases u with
  | cell k => rfl
  | exn => rfl
  | tup => rfl
  | dat d =>
    show Wp (match itD d with | some ds => Out.ok ds M1 | none => .bad) Q X = WO (itD d) fun ds => Q ds M1
    cases itD d <;> rfl
theorem wp_rng1 {f : Av} {Q : List D → Mem → Prop} : Wp (iRng1 f ρ M) Q X = Wp (f ρ M) (fun us M1 => WO (uI1 us) fun j => (-(2 ^ 62) ≤ j ∧ j < 2 ^ 62) ∧ Q (intsUp 0 j.toNat) M1) X := by
  unfold iRng1; rw [wp_bind]; refine Wp.q fun us M1 => ?_
  split
  · rename_i j
    show Wp (if -(2 ^ 62) ≤ j ∧ j < 2 ^ 62 then _ else _) Q X = ((-(2 ^ 62) ≤ j ∧ j < 2 ^ 62) ∧ Q (intsUp 0 j.toNat) M1)
    split
    · rename_i h; simp only [h, and_true, true_and, and_self]; rfl
    · rename_i h; simp only [h, false_and]; rfl
  · rename_i h
    have : uI1 us = none := by
      unfold uI1
      split
      · exact (h _ rfl).elim
      · rfl
    rw [this]; rfl
theorem wp_rng2 {f : Av} {Q : List D → Mem → Prop} : Wp (iRng2 f ρ M) Q X = Wp (f ρ M) (fun us M1 => WO (uI2 us) fun p => (-(2 ^ 62) ≤ p.1 ∧ p.1 < 2 ^ 62 ∧ -(2 ^ 62) ≤ p.2 ∧ p.2 < 2 ^ 62) ∧ Q (intsUp p.1 (p.2 - p.1).toNat) M1) X := by
  unfold iRng2; rw [wp_bind]; refine Wp.q fun us M1 => ?_
  split
  · rename_i i j
    show Wp (if -(2 ^ 62) ≤ i ∧ i < 2 ^ 62 ∧ -(2 ^ 62) ≤ j ∧ j < 2 ^ 62 then _ else _) Q X = ((-(2 ^ 62) ≤ i ∧ i < 2 ^ 62 ∧ -(2 ^ 62) ≤ j ∧ j < 2 ^ 62) ∧ Q (intsUp i (j - i).toNat) M1)
    split
    · rename_i h; simp only [h, and_true, true_and, and_self]; rfl
    · rename_i h; simp only [h, false_and]; rfl
  · rename_i h
    have : uI2 us = none := by
      unfold uI2
      split
      · exact (h _ _ rfl).elim
      · rfl
    rw [this]; rfl
/-! comprehensions -/
theorem wp_lc {c : Bool} {src : Lv} {t : Tgt} {test : Tv} {elt : Ev} {vs : List Nat} : Wp (eLc c src t test elt vs ρ M) Q' X = Wp (src ρ M) (fun ds M1 => ds.length ≤ 16777216 ∧ Wp (lcL t test elt (wipeE ρ vs) ds M1) (fun es M2 => Wp (newL c es M2) Q' X) x0) X := by
  unfold eLc; rw [wp_bind]; refine Wp.q fun ds M1 => ?_
  rw [wp_ite]
  split
  · rename_i h
    simp only [h, true_and]
    cases lcL t test elt (wipeE ρ vs) ds M1 <;> rfl
  · rename_i h; simp only [h, false_and]; rfl
/-- .. that touches nothing -/
theorem wp_lcP {t : Tgt} {test : Tv} {elt : Ev} (p : D → Bool) (g : D → D) {Q : List D → Mem → Prop} : ∀ (ds : List D), (∀ d ∈ ds, WO (t.bind (.dat d) ρ) fun ρ1 => Wp (test ρ1 M) (fun b M1 => b = p d ∧ M1 = M) x0 ∧ (p d = true → Wp (elt ρ1 M) (fun u M1 => u = .dat (g d) ∧ M1 = M) x0)) →
    Q ((ds.filter p).map g) M → Wp (lcL t test elt ρ ds M) Q x0 := by
  intro ds h q
  suffices hs : lcL t test elt ρ ds M = .ok ((ds.filter p).map g) M by rw [hs]; exact q
  clear q
  induction ds with
  | nil => rfl
  | cons d ds ih =>
    have h1 := h d List.mem_cons_self
    have ih' := ih fun e he => h e (List.mem_cons_of_mem _ he)
    unfold lcL
    cases hb : t.bind (.dat d) ρ with
    | none => rw [hb] at h1; exact h1.elim
    | some ρ1 =>
      rw [hb] at h1
      obtain ⟨h2, h3⟩ := h1
      obtain ⟨b, M1, e1, rfl, rfl⟩ := h2.ok
      simp only [e1, Out.bind]
      by_cases hp : p d = true
      · obtain ⟨u, M2, e2, rfl, rfl⟩ := (h3 hp).ok
        simp only [hp, if_true, e2, ih', List.filter_cons_of_pos, List.map_cons]
      · simp only [hp, List.filter_cons, ih']
        simp
/-! defs -/
/-- what is returned: own cells are dropped, one that is returned stays -/
def rQ (M : Mem) (Q : U → Mem → Prop) (u : U) (M1 : Mem) (_ : Tok Q := .mk) : Prop := match u with
  | .dat d => Q (.dat d) (M1.take M.length)
  | .cell k => if k < M.length then Q (.cell k) (M1.take M.length) else WO M1[k]? fun o => o.refs = [] ∧ Q (.cell M.length) (M1.take M.length ++ [o])
  | _ => False
theorem rQ_dat {M M1 : Mem} {d : D} : rQ M Q' (.dat d) M1 = Q' (.dat d) (M1.take M.length) := Eq.trans rfl rfl
theorem rQ_cell {M M1 : Mem} {k : Nat} : rQ M Q' (.cell k) M1 = if k < M.length then Q' (.cell k) (M1.take M.length) else WO M1[k]? fun o => o.refs = [] ∧ Q' (.cell M.length) (M1.take M.length ++ [o]) := Eq.trans rfl rfl
theorem wp_run {m : Nat} {body : Sv} {us : List U} : Wp (fnRun m body us M) Q' X = WS (body (us.map some ++ List.replicate (m - us.length) none) M) (fun _ M1 => Q' (.dat .non) (M1.take M.length))
    (fun u M1 => rQ M Q' u M1) (fun _ _ => False) (fun _ _ => False) (fun c fs _ M1 => X c fs (M1.take M.length)) := by
  unfold fnRun finish
  cases body (us.map some ++ List.replicate (m - us.length) none) M with
  | nx ρ M1 => rfl
  | rt u M1 =>
    cases u with
    | dat d => rfl
    | exn => rfl
    | tup => rfl
    | cell k =>
      show Wp (if k < M.length then _ else _) Q' X = if k < M.length then _ else _
      split
      · rfl
      · show Wp (match M1[k]? with | some o => _ | none => _) Q' X = WO M1[k]? _
        cases M1[k]? with
        | none => rfl
        | some o =>
          show Wp (if o.refs = [] then _ else _) Q' X = (o.refs = [] ∧ _)
          split
          · rename_i h; exact (propext (and_iff_right h)).symm
          · rename_i h; exact (eq_false (fun z : _ ∧ _ => h z.1)).symm
  | bk => rfl
  | ct => rfl
  | exc => rfl
  | bad => rfl
theorem ws_setIx {fo fi fe : Ev} : WS (sSetIx fo fi fe ρ M) nx rt bk ct Y = Wp (fe ρ M) (fun u M1 => Wp (fo ρ M1) (fun o M2 => Wp (fi ρ M2) (fun i M3 => WO (uSet o i u) fun p =>
    WO (oL M3[p.1]?) fun ds => WO (ixN ds.length p.2.1) fun n => nx ρ (M3.set p.1 (.lst (ds.set n p.2.2)))) (xE Y ρ)) (xE Y ρ)) (xE Y ρ) := by
  unfold sSetIx; rw [ws_ofE]; refine Wp.q fun u M1 => ?_; rw [ws_ofE]; refine Wp.q fun o M2 => ?_; rw [ws_ofE]; refine Wp.q fun i M3 => ?_
  cases o with
  | dat d => rfl
  | exn => rfl
  | tup => rfl
  | cell k =>
    cases i with
    | cell k => rfl
    | exn => rfl
    | tup => rfl
    | dat di =>
      cases di with
      | int j =>
        cases u with
        | cell k => rfl
        | exn => rfl
        | tup => rfl
        | dat d =>
          show WS (match M3[k]? with | some (.lst ds) => (match ixN ds.length j with | some n => _ | none => _) | _ => _) nx rt bk ct Y = WO (oL M3[k]?) _
          cases M3[k]? with
          | none => rfl
          | some o =>
            cases o with
            | lst ds =>
              show WS (match ixN ds.length j with | some n => _ | none => _) nx rt bk ct Y = WO (ixN ds.length j) _
              cases ixN ds.length j <;> rfl
            | dct => rfl
            | obj => rfl
            | lsu => rfl
            | dcf => rfl
      | _ => rfl
end
section
variable {α : Type} {Q' : U → Mem → Prop} {X : XP} {Y : XS} {ρ : En} {M : Mem} {nx bk ct : En → Mem → Prop} {rt : U → Mem → Prop}
theorem ws_raise1 {c f : Str} {g : Ev} : WS (sRaise1 c f g ρ M) nx rt bk ct Y = Wp (g ρ M) (fun u M1 => WO (uD u) fun d => Y c [(f, d)] ρ M1) (xE Y ρ) := by
  unfold sRaise1; rw [ws_ofE]; refine Wp.q fun u M1 => ?_
  cases u <;> rfl
theorem ws_raise0 {c : Str} : WS (sRaise0 c ρ M) nx rt bk ct Y = Y c [] ρ M := Eq.trans rfl rfl
theorem ws_par {i j : Nat} {f : Av} : WS (sPar i j f ρ M) nx rt bk ct Y = Wp (f ρ M) (fun us M1 => WO (match us with | [u, w] => some (u, w) | _ => none) fun p => nx ((ρ.set i (some p.1)).set j (some p.2)) M1) (xE Y ρ) := by
  unfold sPar; rw [ws_ofE]; refine Wp.q fun us M1 => ?_
  match us with
  | [] => rfl
  | [_] => rfl
  | [_, _] => rfl
  | _ :: _ :: _ :: _ => rfl
theorem wp_fnK {n m : Nat} {perm : List Nat} {F : Fn} {g h : Av} : Wp (eFnK n m perm F g h ρ M) Q' X = Wp (g ρ M) (fun us M1 => Wp (h ρ M1) (fun ws M2 => (us.length = n ∧ ws.length = m) ∧ Wp (F (gP perm us ws) M2) Q' X) X) X := by
  unfold eFnK; rw [wp_bind]; refine Wp.q fun us M1 => ?_; rw [wp_bind]; refine Wp.q fun ws M2 => ?_
  rw [wp_ite]
  split
  · rename_i h; simp only [h, and_self, true_and]
  · rename_i h; simp only [h, false_and]; rfl
theorem gP_nil {α : Type} {us ws : List α} : gP [] us ws = [] := Eq.trans rfl rfl
theorem gP_cons {α : Type} {us ws : List α} {i : Nat} {perm : List Nat} : gP (i :: perm) us ws = ((us ++ ws)[i]?).toList ++ gP perm us ws := by
  unfold gP
  rw [List.filterMap_cons]
  cases (us ++ ws)[i]? <;> rfl
/-- a try: the body's own ends, and each exception as its clause says -/
theorem ws_try {own : List Str} {f : Sv} {hs : List Hd} : WS (sTry own f hs ρ M) nx rt bk ct Y = WS (f ρ M) nx rt bk ct (fun c fs ρ1 M1 => WS (handle own hs c fs ρ1 M1) nx rt bk ct Y) := by
  unfold sTry
  cases f ρ M <;> rfl
theorem ws_hdN {own : List Str} {c : Str} {fs : List (Str × D)} : WS (handle own [] c fs ρ M) nx rt bk ct Y = Y c fs ρ M := Eq.trans rfl rfl
theorem ws_hdC {own : List Str} {h : Hd} {hs : List Hd} {c : Str} {fs : List (Str × D)} : WS (handle own (h :: hs) c fs ρ M) nx rt bk ct Y = WO (subX own c h.cls) fun b => if b then WS (suite h fs ρ M) nx rt bk ct Y else WS (handle own hs c fs ρ M) nx rt bk ct Y := by
  rw [handle]
  cases subX own c h.cls with
  | none => rfl
  | some b => cases b <;> rfl
theorem ws_suiteN {x : Str} {r : Addr → Addr → Sv} {fs : List (Str × D)} : WS (suite ⟨x, none, r⟩ fs ρ M) nx rt bk ct Y = WS (r 0 0 ρ M) nx rt bk ct (fun _ _ _ _ => False) := by
  unfold suite
  show WS (noExc (r 0 0 ρ M)) nx rt bk ct Y = _
  cases r 0 0 ρ M <;> rfl
theorem ws_suiteS {x : Str} {i : Nat} {r : Addr → Addr → Sv} {p : Str × D} {fs : List (Str × D)} : WS (suite ⟨x, some i, r⟩ (p :: fs) ρ M) nx rt bk ct Y = WS (r 0 0 (ρ.set i (some (.exn 0 0 (p :: fs)))) M) (fun ρ1 M1 => nx (ρ1.set i none) M1) rt (fun ρ1 M1 => bk (ρ1.set i none) M1) (fun ρ1 M1 => ct (ρ1.set i none) M1) (fun _ _ _ _ => False) := by
  unfold suite
  show WS (unslot i (noExc (r 0 0 (ρ.set i (some (.exn 0 0 (p :: fs)))) M))) nx rt bk ct Y = _
  cases r 0 0 (ρ.set i (some (.exn 0 0 (p :: fs)))) M <;> rfl
theorem wp_fld {a dd i : Nat} {f : Str} : Wp (eFld a dd i f ρ M) Q' X = WO (ρ[i]?.join) fun u => WO (match u with | .exn a' dd' fs => if a' = a ∧ dd' = dd then fs.lookup f else none | _ => none) fun d => Q' (.dat d) M := by
  unfold eFld
  cases ρ[i]? with
  | none => rfl
  | some o =>
    cases o with
    | none => rfl
    | some u =>
      cases u with
      | dat => rfl
      | cell => rfl
      | tup => rfl
      | exn a' dd' fs =>
        show Wp (if a' = a ∧ dd' = dd then _ else _) Q' X = WO (if a' = a ∧ dd' = dd then fs.lookup f else none) _
        split
        · show Wp (match fs.lookup f with | some d => _ | none => _) Q' X = _
          cases fs.lookup f <;> rfl
        · rfl
end
/-! data -/
theorem eqD_ii {i j : Int} : eqD (.int i) (.int j) = some (.bl (i == j)) := rfl
theorem neD_ii {i j : Int} : neD (.int i) (.int j) = some (.bl (!(i == j))) := rfl
theorem eqD_ss {i j : Cs} : eqD (.str i) (.str j) = some (.bl (i == j)) := rfl
theorem neD_ss {i j : Cs} : neD (.str i) (.str j) = some (.bl (!(i == j))) := rfl
theorem eqO_nil {n : Nat} {ds : List D} : eqO (n + 1) (.lst ds) (.lst []) = some ds.isEmpty := by
  unfold eqO
  cases ds <;> rfl
theorem eqD_nil {ds : List D} : eqD (.lst ds) (.lst []) = some (.bl ds.isEmpty) := by unfold eqD; rw [show eqN = 23 + 1 from rfl, eqO_nil]; rfl
theorem neD_nil {ds : List D} : neD (.lst ds) (.lst []) = some (.bl (!ds.isEmpty)) := by unfold neD; rw [show eqN = 23 + 1 from rfl, eqO_nil]; rfl
theorem atI_in {α : Type} {xs : List α} {i : Int} (h0 : 0 ≤ i) (h1 : i < xs.length) : ∃ x, atI xs i = some x ∧ x ∈ xs := by
  unfold atI ixN
  have h2 : i.toNat < xs.length := by omega
  rw [if_pos h0, if_pos h1]
  exact ⟨xs[i.toNat], List.getElem?_eq_getElem h2, List.getElem_mem h2⟩
theorem ix_l {ds : List D} {i : Int} {k : D → Prop} (h0 : 0 ≤ i) (h1 : i < ds.length) (h : ∀ d ∈ ds, k d) : WO (ixD (.lst ds) (.int i)) k := by
  obtain ⟨x, e, m⟩ := atI_in h0 h1
  show WO (atI ds i) k
  rw [e]; exact h x m
theorem rf_l {ds : List D} : ((O.lst ds).refs = []) = True := eq_true rfl
theorem rf_d {ds : List (Key × D)} : ((O.dct ds).refs = []) = True := eq_true rfl
section
variable {X : XP} {Y : XS} {ρ : En} {M : Mem} {nx bk ct : En → Mem → Prop} {rt : U → Mem → Prop} {Q' : U → Mem → Prop}
def uPar3 : List U → Option (U × U × U)
  | [u, w, v] => some (u, w, v)
  | _ => none
theorem uPar3_ok {u w v : U} : uPar3 [u, w, v] = some (u, w, v) := Eq.trans rfl rfl
theorem ws_par3 {i j l : Nat} {f : Av} : WS (sPar3 i j l f ρ M) nx rt bk ct Y = Wp (f ρ M) (fun us M1 => WO (uPar3 us) fun p => nx (((ρ.set i (some p.1)).set j (some p.2.1)).set l (some p.2.2)) M1) (xE Y ρ) := by
  unfold sPar3; rw [ws_ofE]; refine Wp.q fun us M1 => ?_
  match us with
  | [] => rfl
  | [_] => rfl
  | [_, _] => rfl
  | [_, _, _] => rfl
  | _ :: _ :: _ :: _ :: _ => rfl
def uKey : U → Option Cs
  | .dat (.str z) => some z
  | _ => none
theorem wp_kin {kvs : Tab} {neg : Bool} {f : Ev} : Wp (eKIn kvs neg f ρ M) Q' X = Wp (f ρ M) (fun u M1 => WO (uKey u) fun z => Q' (.dat (.bl (neg != (findT kvs z).isSome))) M1) X := by
  unfold eKIn; rw [wp_bind]; refine Wp.q fun u M1 => ?_
  cases u with
  | dat d => cases d <;> rfl
  | _ => rfl
theorem wp_kix {kvs : Tab} {f : Ev} : Wp (eKIx kvs f ρ M) Q' X = Wp (f ρ M) (fun u M1 => WO (uKey u) fun z => WO (findT kvs z) fun ts => Q' (.dat (tupS ts)) M1) X := by
  unfold eKIx; rw [wp_bind]; refine Wp.q fun u M1 => ?_
  cases u with
  | dat d =>
    cases d with
    | str z => show Wp (match findT kvs z with | some ts => _ | none => _) Q' X = WO (findT kvs z) _; cases findT kvs z <;> rfl
    | _ => rfl
  | _ => rfl
theorem wo_ks {z : Cs} {k : Cs → Prop} : WO (uKey (.dat (.str z))) k = k z := Eq.trans rfl rfl
def uDct (u : U) (M : Mem) : Option (List (Key × D)) := match view u M with
  | some (.dct kvs) => some kvs
  | _ => none
def uKeyD : U → Option Key
  | .dat d => keyD d
  | _ => none
theorem wp_dget {u k : U} {x : D} : Wp (dgetU u k x M) Q' X = WO (uDct u M) fun kvs => WO (uKeyD k) fun key => Q' (.dat ((lookK kvs key).getD x)) M := by
  unfold dgetU uDct uKeyD
  cases hv : view u M with
  | none => cases k <;> rfl
  | some d =>
    cases d with
    | dct kvs =>
      cases k with
      | dat k0 => show Wp (match keyD k0 with | some key => _ | none => _) Q' X = WO (keyD k0) _; cases keyD k0 <;> rfl
      | _ => rfl
    | _ => cases k <;> rfl
theorem wp_get2 {f g h : Ev} : Wp (eGet2 f g h ρ M) Q' X = Wp (f ρ M) (fun u M1 => isDctU u M1 = true ∧ Wp (g ρ M1) (fun k M2 => Wp (h ρ M2) (fun x M3 => WO (uD x) fun d => Wp (dgetU u k d M3) Q' X) X) X) X := by
  unfold eGet2; rw [wp_bind]; refine Wp.q fun u M1 => ?_
  rw [wp_ite]
  split
  · rename_i h; simp only [h, true_and]; rw [wp_bind]; refine Wp.q fun k M2 => ?_; rw [wp_bind]; refine Wp.q fun x M3 => ?_
    cases x <;> rfl
  · rename_i h; exact (eq_false (fun z : _ ∧ _ => h z.1)).symm
theorem wp_get1 {f g : Ev} : Wp (eGet1 f g ρ M) Q' X = Wp (f ρ M) (fun u M1 => isDctU u M1 = true ∧ Wp (g ρ M1) (fun k M2 => Wp (dgetU u k .non M2) Q' X) X) X := by
  unfold eGet1; rw [wp_bind]; refine Wp.q fun u M1 => ?_
  rw [wp_ite]
  split
  · rename_i h; simp only [h, true_and]; rw [wp_bind]
  · rename_i h; exact (eq_false (fun z : _ ∧ _ => h z.1)).symm
def uSetK : U → U → U → Option (Nat × Key × D)
  | .cell k, .dat i, .dat d => (keyD i).map fun key => (k, key, d)
  | _, _, _ => none
def oD : Option O → Option (List (Key × D))
  | some (.dct kvs) => some kvs
  | _ => none
theorem ws_setKey {fo fi fe : Ev} : WS (sSetKey fo fi fe ρ M) nx rt bk ct Y = Wp (fe ρ M) (fun u M1 => Wp (fo ρ M1) (fun o M2 => Wp (fi ρ M2) (fun i M3 => WO (uSetK o i u) fun p =>
    WO (oD M3[p.1]?) fun kvs => kvs.length < 16777216 ∧ nx ρ (M3.set p.1 (.dct (putD kvs p.2.1 p.2.2)))) (xE Y ρ)) (xE Y ρ)) (xE Y ρ) := by
  unfold sSetKey; rw [ws_ofE]; refine Wp.q fun u M1 => ?_; rw [ws_ofE]; refine Wp.q fun o M2 => ?_; rw [ws_ofE]; refine Wp.q fun i M3 => ?_
  cases o with
  | cell k =>
    cases i with
    | dat di =>
      cases u with
      | dat d =>
        unfold uSetK
        show WS (match M3[k]?, keyD di with | some (.dct kvs), some key => _ | _, _ => _) nx rt bk ct Y = WO ((keyD di).map _) _
        cases keyD di with
        | none =>
          cases M3[k]? with
          | none => rfl
          | some o => cases o <;> rfl
        | some key =>
          show _ = WO (oD M3[k]?) _
          cases M3[k]? with
          | none => rfl
          | some o =>
            cases o with
            | dct kvs =>
              show WS (if kvs.length < 16777216 then _ else _) nx rt bk ct Y = (_ ∧ _)
              split
              · rename_i h; simp only [h, true_and]; rfl
              · rename_i h; simp only [h, false_and]; rfl
            | _ => rfl
      | _ => rfl
    | _ => rfl
  | _ => rfl
end
end SD
set_option Elab.async false
set_option linter.all false
set_option maxRecDepth 100000
set_option maxHeartbeats 4000000
namespace SD
open PySem PySem.Spec PyProof.Rows L2
/-! ### the box of drawn numbers, that all laws share -/
def b_law_cell : Sv := (sCons (sIf (tOf (e2 (lift2 ltD) (eVar 1) (eCall (pf1 lenD) (aCons (eVar 0) aNil)))) (sRet (e2 (lift2 ixD) (eVar 0) (eVar 1))) sNil) (sRet (e2 (pAdd false) (e2 (lift2 mulSD) (eC (.int 7919)) (eVar 1)) (eC (.int 131)))))
def f_law_cell : Fn := fnRun 2 b_law_cell
def b_law_box : Sv := (sRet (eLst true (aCons (eCall (pf2 max2D) (aCons (eC (.int 0)) (aCons (e2 (lift2 subD) (eVar 0) (e2 (lift2 powD) (eC (.int 10)) (eC (.int 18)))) aNil))) (aCons (e2 (lift2 modD) (eVar 0) (eC (.int 2147483629))) (aCons (eC (.int 0)) aNil)))))
def f_law_box : Fn := fnRun 1 b_law_box
def b_law_take : Sv := (sCons (sIf (tOf (e2 (lift2 gtD) (e2 (lift2 ixD) (eVar 0) (eC (.int 0))) (eC (.int 0)))) (sCons (sAsg (.name 3) (e2 (lift2 modD) (e2 (lift2 ixD) (eVar 0) (eC (.int 0))) (eVar 1))) (sCons (sSetIx (eVar 0) (eC (.int 0)) (e2 (lift2 fdivD) (e2 (lift2 ixD) (eVar 0) (eC (.int 0))) (eVar 1))) (sRet (eVar 3)))) sNil) (sCons (sSetIx (eVar 0) (eC (.int 2)) (e2 (pAdd false) (e2 (lift2 ixD) (eVar 0) (eC (.int 2))) (eC (.int 1)))) (sCons (sAsg (.name 2) (e2 (lift2 modD) (e2 (lift2 powD) (e2 (pAdd false) (e2 (pAdd false) (e2 (lift2 ixD) (eVar 0) (eC (.int 1))) (e2 (lift2 mulSD) (eC (.int 7919)) (e2 (lift2 ixD) (eVar 0) (eC (.int 2))))) (eC (.int 43))) (eC (.int 5))) (eC (.int 2147483647)))) (sCons (sAsg (.name 2) (e2 (lift2 modD) (e2 (lift2 powD) (e2 (pAdd false) (eVar 2) (e2 (lift2 mulSD) (eC (.int 104729)) (e2 (lift2 ixD) (eVar 0) (eC (.int 2))))) (eC (.int 3))) (eC (.int 2147483587)))) (sRet (e2 (lift2 modD) (e2 (lift2 fdivD) (eVar 2) (eC (.int 8))) (eVar 1)))))))
def f_law_take : Fn := fnRun 4 b_law_take
theorem mul_i {i j : Int} (h : (-(2 ^ 64) < i ∧ i < 2 ^ 64) ∨ (-(2 ^ 64) < j ∧ j < 2 ^ 64)) : mulSD (.int i) (.int j) = some (.int (i * j)) := by simp only [mulSD, mulD, if_pos h]
theorem pow_i {i j : Int} (h : 0 ≤ j ∧ j ≤ 1000000 ∧ i.natAbs < 2 ^ 64) : powD (.int i) (.int j) = some (.int (i ^ j.toNat)) := by simp only [powD, if_pos h]
theorem mod_i {i j : Int} (h : 0 < j) : modD (.int i) (.int j) = some (.int (i % j)) := by simp only [modD, if_pos h]
theorem fdiv_i {i j : Int} (h : 0 < j ∧ j < 1073741824) : fdivD (.int i) (.int j) = some (.int (i / j)) := by simp only [fdivD, if_pos h]
structure Fr (k : Nat) (M M' : Mem) : Prop where
  len : M'.length = M.length
  out : ∀ j, j ≠ k → M'[j]? = M[j]?
theorem Fr.refl {k : Nat} {M : Mem} : Fr k M M := ⟨rfl, fun _ _ => rfl⟩
theorem Fr.trans {k : Nat} {M M1 M2 : Mem} (a : Fr k M M1) (b : Fr k M1 M2) : Fr k M M2 := ⟨b.len.trans a.len, fun j h => (b.out j h).trans (a.out j h)⟩
theorem Fr.set {k : Nat} {M : Mem} {o : O} : Fr k M (M.set k o) := ⟨by simp, fun j h => List.getElem?_set_ne (Ne.symm h)⟩
theorem Fr.take {k : Nat} {M M' : Mem} (a : Fr k M M') : M'.take M.length = M' := List.take_of_length_le (by rw [a.len]; exact Nat.le_refl _)
def Bx (k n : Nat) (M : Mem) : Prop := ∃ a b c : Int, M[k]? = some (.lst [.int a, .int b, .int c]) ∧ 0 ≤ a ∧ 0 ≤ b ∧ b < 2147483648 ∧ 0 ≤ c ∧ c ≤ n
theorem Bx.mono {k n n' : Nat} {M : Mem} (h : Bx k n M) (q : n ≤ n') : Bx k n' M := by
  obtain ⟨a, b, c, h0, h1, h2, h3, h4, h5⟩ := h
  exact ⟨a, b, c, h0, h1, h2, h3, h4, by omega⟩
theorem Bx.lt {k n : Nat} {M : Mem} (h : Bx k n M) : k < M.length := by
  obtain ⟨a, b, c, h0, _⟩ := h
  exact (List.getElem?_eq_some_iff.mp h0).1
theorem mod_rng (a : Int) {m : Int} (h : 0 < m) : 0 ≤ a % m ∧ a % m < m := ⟨Int.emod_nonneg a (by omega), Int.emod_lt_of_pos a h⟩
theorem wp_take {k n : Nat} {m : Int} {M : Mem} {Q : U → Mem → Prop} {X : XP} (hb : Bx k n M) (hn : n ≤ 1099511627776) (h0 : 0 < m) (h1 : m < 1073741824) (h : ∀ d M', 0 ≤ d → d < m → Bx k (n + 1) M' → Fr k M M' → Q (.dat (.int d)) M') :
    Wp (f_law_take [.cell k, .dat (.int m)] M) Q X := by
  obtain ⟨a, b, c, e, ha, hb0, hb1, hc0, hc1⟩ := hb
  have hk := (List.getElem?_eq_some_iff.mp e).1
  have v : view (.cell k) M = some (.lst [.int a, .int b, .int c]) := by simp [view, e]
  unfold f_law_take
  rw [wp_run]
  unfold b_law_take
  have ix0 : ∀ a b c : Int, ixD (.lst [.int a, .int b, .int c]) (.int 0) = some (.int a) := fun a b c => rfl
  have ix1 : ∀ a b c : Int, ixD (.lst [.int a, .int b, .int c]) (.int 1) = some (.int b) := fun a b c => rfl
  have ix2 : ∀ a b c : Int, ixD (.lst [.int a, .int b, .int c]) (.int 2) = some (.int c) := fun a b c => rfl
  have n0 : ixN 3 0 = some 0 := rfl
  have n2 : ixN 3 2 = some 2 := rfl
  simp (config := {dsimp := false}) only [↓rQ_dat, ↓ws_cons, ↓ws_if, ↓wp_tOf, ↓wp_e2, ↓wp_var, ↓wp_c, ↓wp_lift2v, List.map, List.length, List.replicate, Nat.reduceSub, List.cons_append, List.nil_append, List.getElem?_cons_zero, List.getElem?_cons_succ, Option.join_some, ↓wo_some, v, view_dat, ix0, gtD, ltD, uB,
    Nat.reduceAdd, decide_eq_true_eq]
  split
  · rename_i hpos
    simp (config := {dsimp := false}) only [↓rQ_dat, ↓ws_cons, ↓ws_asg, ↓ws_setIx, ↓ws_ret, ↓wp_e2, ↓wp_var, ↓wp_c, ↓wp_lift2v, List.getElem?_cons_zero, List.getElem?_cons_succ, Option.join_some, ↓wo_some, ↓wo_ite, v, view_dat, ix0, modD, fdivD, bind_name, List.set_cons_succ, List.set_cons_zero, uSet, oL, e, List.length, n0, Nat.reduceAdd]
    refine ⟨h0, ⟨h0, h1⟩, ?_⟩
    have hh : (M.set k (O.lst [.int (a / m), .int b, .int c])).take M.length = M.set k (O.lst [.int (a / m), .int b, .int c]) := List.take_of_length_le (by simp)
    rw [hh]
    obtain ⟨r1, r2⟩ := mod_rng a h0
    exact h (a % m) _ r1 r2 ⟨a / m, b, c, by rw [List.getElem?_set_self hk], Int.ediv_nonneg ha (by omega), hb0, hb1, hc0, by omega⟩ Fr.set
  · have hM2 : (M.set k (O.lst [.int a, .int b, .int (c + 1)]))[k]? = some (O.lst [.int a, .int b, .int (c + 1)]) := List.getElem?_set_self hk
    have v2 : view (.cell k) (M.set k (O.lst [.int a, .int b, .int (c + 1)])) = some (.lst [.int a, .int b, .int (c + 1)]) := by simp only [view, hM2]
    simp (config := {dsimp := false}) only [↓rQ_dat, ↓ws_nil, ↓ws_cons, ↓ws_asg, ↓ws_setIx, ↓ws_ret, ↓wp_e2, ↓wp_var, ↓wp_c, ↓wp_lift2v, ↓wp_addI, List.getElem?_cons_zero, List.getElem?_cons_succ, Option.join_some, ↓wo_some, ↓wo_ite, v, view_dat, ix2, modD, fdivD, bind_name, List.set_cons_succ, List.set_cons_zero, uSet, oL, e, List.length, n2, Nat.reduceAdd, List.set]
    have c1 : (-(2 ^ 64) < (7919 : Int) ∧ (7919 : Int) < 2 ^ 64) ∨ (-(2 ^ 64) < c + 1 ∧ c + 1 < 2 ^ 64) := .inl (by decide)
    have c2 : (-(2 ^ 64) < (104729 : Int) ∧ (104729 : Int) < 2 ^ 64) ∨ (-(2 ^ 64) < c + 1 ∧ c + 1 < 2 ^ 64) := .inl (by decide)
    have m1 : mulSD (.int 7919) (.int (c + 1)) = some (.int (7919 * (c + 1))) := mul_i c1
    have m2 : mulSD (.int 104729) (.int (c + 1)) = some (.int (104729 * (c + 1))) := mul_i c2
    obtain ⟨P, pw1⟩ : ∃ P, powD (.int (b + 7919 * (c + 1) + 43)) (.int 5) = some (.int P) := ⟨_, pow_i ⟨by decide, by decide, by omega⟩⟩
    have p5 := mod_rng P (show (0 : Int) < 2147483647 by decide)
    have md1 : modD (.int P) (.int 2147483647) = some (.int (P % 2147483647)) := mod_i (by decide)
    generalize P % 2147483647 = R at p5 md1
    obtain ⟨p6, p7⟩ := p5
    obtain ⟨S, pw2⟩ : ∃ S, powD (.int (R + 104729 * (c + 1))) (.int 3) = some (.int S) := ⟨_, pow_i ⟨by decide, by decide, by omega⟩⟩
    obtain ⟨T, md2⟩ : ∃ T, modD (.int S) (.int 2147483587) = some (.int T) := ⟨_, mod_i (by decide)⟩
    have dv : fdivD (.int T) (.int 8) = some (.int (T / 8)) := fdiv_i (by decide)
    have md3 : modD (.int (T / 8)) (.int m) = some (.int (T / 8 % m)) := mod_i h0
    simp (config := {dsimp := false}) only [↓rQ_dat, ↓ws_nil, ↓ws_cons, ↓ws_asg, ↓ws_ret, ↓wp_e2, ↓wp_var, ↓wp_c, ↓wp_lift2v, ↓wp_addI, List.getElem?_cons_zero, List.getElem?_cons_succ, Option.join_some, ↓wo_some, v2, view_dat, ix1, ix2, m1, m2, pw1, pw2, md1, md2, dv, md3, bind_name, List.set_cons_succ, List.set_cons_zero]
    have hh : (M.set k (O.lst [.int a, .int b, .int (c + 1)])).take M.length = M.set k (O.lst [.int a, .int b, .int (c + 1)]) := List.take_of_length_le (by simp)
    rw [hh]
    obtain ⟨r1, r2⟩ := mod_rng (T / 8) h0
    exact h _ _ r1 r2 ⟨a, b, c + 1, hM2, ha, hb0, hb1, by omega, by omega⟩ Fr.set
theorem wp_cell {ns : List Int} {j : Int} {M : Mem} {Q : U → Mem → Prop} {X : XP} (h0 : 0 ≤ j) (h1 : j < 1000000) (h : ∀ d, Q (.dat (.int d)) M) : Wp (f_law_cell [.dat (.scr ns), .dat (.int j)] M) Q X := by
  unfold f_law_cell
  rw [wp_run]
  unfold b_law_cell
  have tk : M.take M.length = M := List.take_of_length_le (Nat.le_refl _)
  have l1 : lenD (.scr ns) = some (.int ns.length) := rfl
  simp (config := {dsimp := false}) only [↓rQ_dat, ↓ws_cons, ↓ws_if, ↓wp_tOf, ↓wp_e2, ↓wp_var, ↓wp_c, ↓wp_lift2v, ↓wp_call, ↓wp_aCons, ↓wp_aNil, ↓wp_pf1, List.map, List.length, List.replicate, Nat.reduceSub, List.cons_append, List.nil_append, List.getElem?_cons_zero, List.getElem?_cons_succ, Option.join_some, ↓wo_some, view_dat, l1, ltD, uB,
    Nat.reduceAdd, decide_eq_true_eq]
  split
  · rename_i hj
    obtain ⟨x, e, _⟩ := atI_in (xs := ns) h0 hj
    have e1 : ixD (.scr ns) (.int j) = some (.int x) := by show (atI ns j).map _ = _; rw [e]; rfl
    simp (config := {dsimp := false}) only [↓rQ_dat, ↓ws_ret, ↓wp_e2, ↓wp_var, ↓wp_lift2v, List.getElem?_cons_zero, List.getElem?_cons_succ, Option.join_some, ↓wo_some, view_dat, e1, tk]
    exact h x
  · simp (config := {dsimp := false}) only [↓rQ_dat, ↓ws_nil, ↓ws_ret, ↓wp_e2, ↓wp_var, ↓wp_c, ↓wp_lift2v, ↓wp_addI, List.getElem?_cons_zero, List.getElem?_cons_succ, Option.join_some, ↓wo_some, ↓wo_ite, view_dat, mulSD, mulD, tk]
    exact ⟨.inr ⟨by omega, by omega⟩, h _⟩
theorem wp_box {x : Int} {M : Mem} {Q : U → Mem → Prop} {X : XP} (h : ∀ M', Bx M.length 0 M' → M'.length = M.length + 1 → (∀ j, j < M.length → M'[j]? = M[j]?) → Q (.cell M.length) M') : Wp (f_law_box [.dat (.int x)] M) Q X := by
  unfold f_law_box
  rw [wp_run]
  unfold b_law_box
  have tk : (M ++ [O.lst [D.int (if x - 10 ^ (18 : Int).toNat > 0 then x - 10 ^ (18 : Int).toNat else 0), .int (x % 2147483629), .int 0]]).take M.length = M := by simp
  simp (config := {dsimp := false}) only [↓rQ_dat, ↓ws_ret, ↓wp_lst, ↓wp_call, ↓wp_aCons, ↓wp_aNil, ↓wp_pf2, ↓wp_e2, ↓wp_var, ↓wp_c, ↓wp_lift2v, List.map, List.length, List.replicate, Nat.reduceSub, List.cons_append, List.nil_append, List.getElem?_cons_zero, List.getElem?_cons_succ, Option.join_some, ↓wo_some, ↓wo_ite, ↓wo_map, td_nil, td_cons, Option.map_some, view_dat, max2D, subD, powD, modD,
    Nat.reduceAdd, ↓wp_newT]
  refine ⟨⟨by decide, by decide, by decide⟩, by decide, by decide, ?_⟩
  rw [rQ_cell, if_neg (Nat.lt_irrefl _), tk, List.getElem?_append_right (Nat.le_refl _), Nat.sub_self]
  refine ⟨rfl, h _ ⟨_, _, _, by rw [List.getElem?_append_right (Nat.le_refl _), Nat.sub_self]; rfl, ?_, ?_, ?_, Int.le_refl _, Int.le_refl _⟩ (by simp) fun j hj => List.getElem?_append_left hj⟩
  · split <;> omega
  · exact (mod_rng x (by decide)).1
  · have := (mod_rng x (show (0 : Int) < 2147483629 by decide)).2; omega
end SD
set_option Elab.async false
set_option linter.all false
set_option maxRecDepth 100000
set_option maxHeartbeats 4000000
namespace SD
open PySem PySem.Spec PyProof.Rows L2
def dInt : D → Bool
  | .int _ => true
  | .bl _ => true
  | _ => false
def dBl : D → Bool
  | .bl _ => true
  | _ => false
def dStr : D → Bool
  | .str _ => true
  | _ => false
def dTup : D → Bool
  | .tup _ => true
  | _ => false
def dLst : D → Bool
  | .lst _ => true
  | .scr _ => true
  | _ => false
def dDct : D → Bool
  | .dct _ => true
  | _ => false
theorem ty_s {s : Cs} {M : Mem} : (tyU "str" (.dat (.str s)) M = true) = True := eq_true rfl
theorem ty_l {s : List D} {M : Mem} : (tyU "list" (.dat (.lst s)) M = true) = True := eq_true rfl
theorem wp_join {sep : Cs} {ds : List D} {M : Mem} {Q : U → Mem → Prop} {X : XP} : Wp (mJoin (.dat (.str sep)) [.dat (.lst ds)] M) Q X = WO (toStrs ds) fun ss => (ss.map (·.length)).sum + ss.length * sep.length ≤ 16777216 ∧ Q (.dat (.str (joinC sep ss))) M := by
  show Wp (match toStrs ds with | some ss => (if (ss.map (·.length)).sum + ss.length * sep.length ≤ 16777216 then Out.ok (U.dat (.str (joinC sep ss))) M else .bad) | none => .bad) Q X = _
  cases toStrs ds with
  | none => rfl
  | some ss =>
    show Wp (if (ss.map (·.length)).sum + ss.length * sep.length ≤ 16777216 then Out.ok (U.dat (.str (joinC sep ss))) M else .bad) Q X = ((ss.map (·.length)).sum + ss.length * sep.length ≤ 16777216 ∧ Q (.dat (.str (joinC sep ss))) M)
    split
    · rename_i h; simp only [h, true_and]; rfl
    · rename_i h; simp only [h, false_and]; rfl
theorem isND_n {d : D} : isND d .non = some (.bl (isNone d)) := by cases d <;> rfl
theorem notND_n {d : D} : notND d .non = some (.bl (!isNone d)) := by cases d <;> rfl
theorem isi_int {d : D} : isiB "int" d = dInt d := by cases d <;> rfl
theorem isi_bool {d : D} : isiB "bool" d = dBl d := by cases d <;> rfl
theorem isi_str {d : D} : isiB "str" d = dStr d := by cases d <;> rfl
theorem isi_tuple {d : D} : isiB "tuple" d = dTup d := by cases d <;> rfl
theorem isi_list {d : D} : isiB "list" d = dLst d := by cases d <;> rfl
theorem isi_dict {d : D} : isiB "dict" d = dDct d := by cases d <;> rfl
theorem wp_bYes {ρ : En} {M : Mem} {Q : Bool → Mem → Prop} {X : XP} : Wp (bYes ρ M) Q X = Q true M := Eq.trans rfl rfl
end SD
set_option synthInstance.maxHeartbeats 0
set_option synthInstance.maxSize 100000
set_option Elab.async false
set_option linter.all false
set_option maxRecDepth 100000
set_option maxHeartbeats 4000000
namespace K04
open PySem PySem.Spec PyProof.Rows L2 SD
abbrev own : List Str := [("Duplicate" : Str), ("Ended" : Str), ("InvalidCatalog" : Str), ("InvalidChange" : Str), ("InvalidClash" : Str), ("InvalidCommand" : Str), ("InvalidKey" : Str), ("InvalidLog" : Str), ("InvalidModes" : Str), ("InvalidName" : Str), ("InvalidNumber" : Str), ("InvalidProgram" : Str), ("InvalidPrograms" : Str), ("InvalidProtocol" : Str), ("InvalidRows" : Str), ("InvalidScene" : Str), ("InvalidSession" : Str), ("InvalidSpan" : Str), ("InvalidSpans" : Str), ("InvalidStore" : Str), ("InvalidStrengths" : Str), ("InvalidText" : Str), ("InvalidWeaving" : Str), ("NameTaken" : Str), ("NoProgram" : Str), ("NoStore" : Str), ("NotInside" : Str), ("NotNeighbours" : Str), ("NotRight" : Str), ("NothingBad" : Str), ("NothingToRedo" : Str), ("NothingToUndo" : Str), ("Overlap" : Str), ("TooMany" : Str), ("UnknownEntry" : Str), ("UnknownMode" : Str), ("UnknownPart" : Str), ("Waiting" : Str)]
abbrev exK : List Str := [("Duplicate" : Str), ("Ended" : Str), ("InvalidCatalog" : Str), ("InvalidChange" : Str), ("InvalidClash" : Str), ("InvalidCommand" : Str), ("InvalidKey" : Str), ("InvalidLog" : Str), ("InvalidModes" : Str), ("InvalidName" : Str), ("InvalidNumber" : Str), ("InvalidProgram" : Str), ("InvalidPrograms" : Str), ("InvalidProtocol" : Str), ("InvalidRows" : Str), ("InvalidScene" : Str), ("InvalidSession" : Str), ("InvalidSpan" : Str), ("InvalidSpans" : Str), ("InvalidStore" : Str), ("InvalidStrengths" : Str), ("InvalidText" : Str), ("InvalidWeaving" : Str), ("NameTaken" : Str), ("NoProgram" : Str), ("NoStore" : Str), ("NotInside" : Str), ("NotNeighbours" : Str), ("NotRight" : Str), ("NothingBad" : Str), ("NothingToRedo" : Str), ("NothingToUndo" : Str), ("Overlap" : Str), ("PartsError" : Str), ("TooMany" : Str), ("UnknownEntry" : Str), ("UnknownMode" : Str), ("UnknownPart" : Str), ("Waiting" : Str)]
abbrev exF_at : List Str := ["NotInside"]
abbrev exF_bound : List Str := ["TooMany"]
abbrev exF_kind : List Str := ["NoProgram"]
abbrev exF_name : List Str := ["Duplicate", "NameTaken", "NotNeighbours", "Overlap", "UnknownEntry", "UnknownMode", "UnknownPart"]
abbrev exF_number : List Str := ["Ended", "Waiting"]
abbrev exF_value : List Str := ["InvalidCatalog", "InvalidChange", "InvalidClash", "InvalidCommand", "InvalidKey", "InvalidLog", "InvalidModes", "InvalidName", "InvalidNumber", "InvalidProgram", "InvalidPrograms", "InvalidProtocol", "InvalidRows", "InvalidScene", "InvalidSession", "InvalidSpan", "InvalidSpans", "InvalidStore", "InvalidStrengths", "InvalidText", "InvalidWeaving"]
def b_law_made : Sv := (sCons (sAsg (.name 1) (eLst false aNil)) (sCons (sAsg (.name 1) (e2 (pAdd false) (eVar 1) (eLst false (aCons (eExv1 "InvalidName" "value" (eVar 0)) (aCons (eExv1 "InvalidKey" "value" (eVar 0)) (aCons (eExv1 "InvalidSpan" "value" (eVar 0)) (aCons (eExv1 "InvalidSpans" "value" (eVar 0)) aNil))))))) (sCons (sAsg (.name 1) (e2 (pAdd false) (eVar 1) (eLst false (aCons (eExv1 "InvalidCatalog" "value" (eVar 0)) (aCons (eExv1 "InvalidChange" "value" (eVar 0)) (aCons (eExv1 "InvalidModes" "value" (eVar 0)) aNil)))))) (sCons (sAsg (.name 1) (e2 (pAdd false) (eVar 1) (eLst false (aCons (eExv1 "InvalidClash" "value" (eVar 0)) (aCons (eExv1 "InvalidStrengths" "value" (eVar 0)) (aCons (eExv1 "InvalidProgram" "value" (eVar 0)) aNil)))))) (sCons (sAsg (.name 1) (e2 (pAdd false) (eVar 1) (eLst false (aCons (eExv1 "InvalidPrograms" "value" (eVar 0)) (aCons (eExv1 "InvalidProtocol" "value" (eVar 0)) (aCons (eExv1 "InvalidRows" "value" (eVar 0)) aNil)))))) (sCons (sAsg (.name 1) (e2 (pAdd false) (eVar 1) (eLst false (aCons (eExv1 "InvalidSession" "value" (eVar 0)) (aCons (eExv1 "InvalidNumber" "value" (eVar 0)) (aCons (eExv1 "InvalidWeaving" "value" (eVar 0)) aNil)))))) (sCons (sAsg (.name 1) (e2 (pAdd false) (eVar 1) (eLst false (aCons (eExv1 "InvalidStore" "value" (eVar 0)) (aCons (eExv1 "InvalidScene" "value" (eVar 0)) (aCons (eExv1 "InvalidLog" "value" (eVar 0)) aNil)))))) (sCons (sAsg (.name 1) (e2 (pAdd false) (eVar 1) (eLst false (aCons (eExv1 "InvalidText" "value" (eVar 0)) (aCons (eExv1 "InvalidCommand" "value" (eVar 0)) (aCons (eExv1 "Duplicate" "name" (eVar 0)) aNil)))))) (sCons (sAsg (.name 1) (e2 (pAdd false) (eVar 1) (eLst false (aCons (eExv1 "UnknownPart" "name" (eVar 0)) (aCons (eExv1 "UnknownMode" "name" (eVar 0)) (aCons (eExv1 "UnknownEntry" "name" (eVar 0)) (aCons (eExv1 "NameTaken" "name" (eVar 0)) aNil))))))) (sCons (sAsg (.name 1) (e2 (pAdd false) (eVar 1) (eLst false (aCons (eExv1 "Overlap" "name" (eVar 0)) (aCons (eExv1 "NotInside" "at" (eVar 0)) (aCons (eExv1 "NotNeighbours" "name" (eVar 0)) (aCons (eExv1 "NoProgram" "kind" (eVar 0)) aNil))))))) (sCons (sAsg (.name 1) (e2 (pAdd false) (eVar 1) (eLst false (aCons (eExv1 "TooMany" "bound" (eVar 0)) (aCons (eExv1 "Ended" "number" (eVar 0)) (aCons (eExv1 "Waiting" "number" (eVar 0)) (aCons (eExv0 "NothingBad") (aCons (eExv0 "NotRight") aNil)))))))) (sCons (sAsg (.name 1) (e2 (pAdd false) (eVar 1) (eLst false (aCons (eExv0 "NoStore") (aCons (eExv0 "NothingToUndo") (aCons (eExv0 "NothingToRedo") aNil)))))) (sRet (eVar 1))))))))))))))
def f_law_made : Fn := fnRun 2 b_law_made
def b_law_fields : Sv := (sCons (sAsg (.name 1) (eLst false aNil)) (sCons (sAsg (.name 1) (e2 (pAdd false) (eVar 1) (eLst false (aCons (eXat "value" exF_value (e2 (lift2 ixD) (eVar 0) (eC (.int 0)))) (aCons (eXat "value" exF_value (e2 (lift2 ixD) (eVar 0) (eC (.int 1)))) (aCons (eXat "value" exF_value (e2 (lift2 ixD) (eVar 0) (eC (.int 2)))) (aCons (eXat "value" exF_value (e2 (lift2 ixD) (eVar 0) (eC (.int 3)))) (aCons (eXat "value" exF_value (e2 (lift2 ixD) (eVar 0) (eC (.int 4)))) aNil)))))))) (sCons (sAsg (.name 1) (e2 (pAdd false) (eVar 1) (eLst false (aCons (eXat "value" exF_value (e2 (lift2 ixD) (eVar 0) (eC (.int 5)))) (aCons (eXat "value" exF_value (e2 (lift2 ixD) (eVar 0) (eC (.int 6)))) (aCons (eXat "value" exF_value (e2 (lift2 ixD) (eVar 0) (eC (.int 7)))) (aCons (eXat "value" exF_value (e2 (lift2 ixD) (eVar 0) (eC (.int 8)))) (aCons (eXat "value" exF_value (e2 (lift2 ixD) (eVar 0) (eC (.int 9)))) aNil)))))))) (sCons (sAsg (.name 1) (e2 (pAdd false) (eVar 1) (eLst false (aCons (eXat "value" exF_value (e2 (lift2 ixD) (eVar 0) (eC (.int 10)))) (aCons (eXat "value" exF_value (e2 (lift2 ixD) (eVar 0) (eC (.int 11)))) (aCons (eXat "value" exF_value (e2 (lift2 ixD) (eVar 0) (eC (.int 12)))) (aCons (eXat "value" exF_value (e2 (lift2 ixD) (eVar 0) (eC (.int 13)))) (aCons (eXat "value" exF_value (e2 (lift2 ixD) (eVar 0) (eC (.int 14)))) aNil)))))))) (sCons (sAsg (.name 1) (e2 (pAdd false) (eVar 1) (eLst false (aCons (eXat "value" exF_value (e2 (lift2 ixD) (eVar 0) (eC (.int 15)))) (aCons (eXat "value" exF_value (e2 (lift2 ixD) (eVar 0) (eC (.int 16)))) (aCons (eXat "value" exF_value (e2 (lift2 ixD) (eVar 0) (eC (.int 17)))) (aCons (eXat "value" exF_value (e2 (lift2 ixD) (eVar 0) (eC (.int 18)))) (aCons (eXat "value" exF_value (e2 (lift2 ixD) (eVar 0) (eC (.int 19)))) aNil)))))))) (sCons (sAsg (.name 1) (e2 (pAdd false) (eVar 1) (eLst false (aCons (eXat "value" exF_value (e2 (lift2 ixD) (eVar 0) (eC (.int 20)))) aNil)))) (sCons (sAsg (.name 1) (e2 (pAdd false) (eVar 1) (eLst false (aCons (eXat "name" exF_name (e2 (lift2 ixD) (eVar 0) (eC (.int 21)))) (aCons (eXat "name" exF_name (e2 (lift2 ixD) (eVar 0) (eC (.int 22)))) (aCons (eXat "name" exF_name (e2 (lift2 ixD) (eVar 0) (eC (.int 23)))) (aCons (eXat "name" exF_name (e2 (lift2 ixD) (eVar 0) (eC (.int 24)))) (aCons (eXat "name" exF_name (e2 (lift2 ixD) (eVar 0) (eC (.int 25)))) aNil)))))))) (sCons (sAsg (.name 1) (e2 (pAdd false) (eVar 1) (eLst false (aCons (eXat "name" exF_name (e2 (lift2 ixD) (eVar 0) (eC (.int 26)))) (aCons (eXat "at" exF_at (e2 (lift2 ixD) (eVar 0) (eC (.int 27)))) (aCons (eXat "name" exF_name (e2 (lift2 ixD) (eVar 0) (eC (.int 28)))) (aCons (eXat "kind" exF_kind (e2 (lift2 ixD) (eVar 0) (eC (.int 29)))) (aCons (eXat "bound" exF_bound (e2 (lift2 ixD) (eVar 0) (eC (.int 30)))) aNil)))))))) (sCons (sAsg (.name 1) (e2 (pAdd false) (eVar 1) (eLst false (aCons (eXat "number" exF_number (e2 (lift2 ixD) (eVar 0) (eC (.int 31)))) (aCons (eXat "number" exF_number (e2 (lift2 ixD) (eVar 0) (eC (.int 32)))) aNil))))) (sRet (eVar 1)))))))))))
def f_law_fields : Fn := fnRun 2 b_law_fields
def b_law_classes : Sv := (sCons (sAsg (.name 1) (eLst false aNil)) (sCons (sAsg (.name 1) (e2 (pAdd false) (eVar 1) (eLst false (aCons (eIsX "InvalidName" exK (eVar 0)) (aCons (eIsX "InvalidKey" exK (eVar 0)) aNil))))) (sCons (sAsg (.name 1) (e2 (pAdd false) (eVar 1) (eLst false (aCons (eIsX "InvalidSpan" exK (eVar 0)) (aCons (eIsX "InvalidSpans" exK (eVar 0)) aNil))))) (sCons (sAsg (.name 1) (e2 (pAdd false) (eVar 1) (eLst false (aCons (eIsX "InvalidCatalog" exK (eVar 0)) (aCons (eIsX "InvalidChange" exK (eVar 0)) aNil))))) (sCons (sAsg (.name 1) (e2 (pAdd false) (eVar 1) (eLst false (aCons (eIsX "InvalidModes" exK (eVar 0)) (aCons (eIsX "InvalidClash" exK (eVar 0)) aNil))))) (sCons (sAsg (.name 1) (e2 (pAdd false) (eVar 1) (eLst false (aCons (eIsX "InvalidStrengths" exK (eVar 0)) (aCons (eIsX "InvalidProgram" exK (eVar 0)) aNil))))) (sCons (sAsg (.name 1) (e2 (pAdd false) (eVar 1) (eLst false (aCons (eIsX "InvalidPrograms" exK (eVar 0)) (aCons (eIsX "InvalidProtocol" exK (eVar 0)) aNil))))) (sCons (sAsg (.name 1) (e2 (pAdd false) (eVar 1) (eLst false (aCons (eIsX "InvalidRows" exK (eVar 0)) (aCons (eIsX "InvalidSession" exK (eVar 0)) aNil))))) (sCons (sAsg (.name 1) (e2 (pAdd false) (eVar 1) (eLst false (aCons (eIsX "InvalidNumber" exK (eVar 0)) (aCons (eIsX "InvalidWeaving" exK (eVar 0)) aNil))))) (sCons (sAsg (.name 1) (e2 (pAdd false) (eVar 1) (eLst false (aCons (eIsX "InvalidStore" exK (eVar 0)) (aCons (eIsX "InvalidScene" exK (eVar 0)) aNil))))) (sCons (sAsg (.name 1) (e2 (pAdd false) (eVar 1) (eLst false (aCons (eIsX "InvalidLog" exK (eVar 0)) (aCons (eIsX "InvalidText" exK (eVar 0)) aNil))))) (sCons (sAsg (.name 1) (e2 (pAdd false) (eVar 1) (eLst false (aCons (eIsX "InvalidCommand" exK (eVar 0)) (aCons (eIsX "Duplicate" exK (eVar 0)) aNil))))) (sCons (sAsg (.name 1) (e2 (pAdd false) (eVar 1) (eLst false (aCons (eIsX "UnknownPart" exK (eVar 0)) (aCons (eIsX "UnknownMode" exK (eVar 0)) aNil))))) (sCons (sAsg (.name 1) (e2 (pAdd false) (eVar 1) (eLst false (aCons (eIsX "UnknownEntry" exK (eVar 0)) (aCons (eIsX "NameTaken" exK (eVar 0)) aNil))))) (sCons (sAsg (.name 1) (e2 (pAdd false) (eVar 1) (eLst false (aCons (eIsX "Overlap" exK (eVar 0)) (aCons (eIsX "NotInside" exK (eVar 0)) aNil))))) (sCons (sAsg (.name 1) (e2 (pAdd false) (eVar 1) (eLst false (aCons (eIsX "NotNeighbours" exK (eVar 0)) (aCons (eIsX "NoProgram" exK (eVar 0)) aNil))))) (sCons (sAsg (.name 1) (e2 (pAdd false) (eVar 1) (eLst false (aCons (eIsX "TooMany" exK (eVar 0)) (aCons (eIsX "Ended" exK (eVar 0)) aNil))))) (sCons (sAsg (.name 1) (e2 (pAdd false) (eVar 1) (eLst false (aCons (eIsX "Waiting" exK (eVar 0)) (aCons (eIsX "NothingBad" exK (eVar 0)) aNil))))) (sCons (sAsg (.name 1) (e2 (pAdd false) (eVar 1) (eLst false (aCons (eIsX "NotRight" exK (eVar 0)) (aCons (eIsX "NoStore" exK (eVar 0)) aNil))))) (sCons (sAsg (.name 1) (e2 (pAdd false) (eVar 1) (eLst false (aCons (eIsX "NothingToUndo" exK (eVar 0)) (aCons (eIsX "NothingToRedo" exK (eVar 0)) aNil))))) (sRet (eLc false (iRng1 (aCons (eCall (pf1 lenD) (aCons (eVar 1) aNil)) aNil)) (.name 2) (tOf (e2 (lift2 ixD) (eVar 1) (eVar 2))) (eVar 2) [2]))))))))))))))))))))))
def f_law_classes : Fn := fnRun 3 b_law_classes
def b_law_under : Sv := (sCons (sAsg (.name 1) (vAnd (eIsX "PartsError" exK (eVar 0)) (eIsX "ValueError" exK (eVar 0)))) (sCons (sAsg (.name 2) (vOr (eIsX "KeyError" exK (eVar 0)) (vOr (eIsX "IndexError" exK (eVar 0)) (eIsX "TypeError" exK (eVar 0))))) (sRet (vAnd (eVar 1) (eB (bNot (tOf (eVar 2))))))))
def f_law_under : Fn := fnRun 3 b_law_under
def b_law : Sv := (sCons (sFor (.name 1) (iRng1 (aCons (eCall (pf2 max2D) (aCons (eC (.int 2)) (aCons (eCall (pf2 min2D) (aCons (eC (.int 12)) (aCons (eCall (pf1 lenD) (aCons (eVar 0) aNil)) aNil))) aNil))) aNil)) (sCons (sAsg (.name 2) (eFn 1 [] f_law_box (aCons (eFn 2 [] f_law_cell (aCons (eVar 0) (aCons (eVar 1) aNil))) aNil))) (sCons (sAsg (.name 3) (e2 (lift2 ixD) (eLst false (aCons (eC .non) (aCons (eC (.int 5)) (aCons (eC (.bl true)) (aCons (eC (.str [97])) (aCons (eLst false (aCons (eC (.int 1)) aNil)) (aCons (eLst false (aCons (eC (.str [97])) (aCons (eLst false (aCons (eC (.int 2)) aNil)) aNil))) (aCons (eDisp false [((eC (.str [97])), (eC (.int 1)))]) (aCons (eTup (aCons (eC (.int 1)) (aCons (eC (.int 2)) aNil))) (aCons (eC (.str [])) (aCons (e2 (lift2 powD) (eC (.int 10)) (eC (.int 29))) aNil))))))))))) (eFn 2 [] f_law_take (aCons (eVar 2) (aCons (eC (.int 10)) aNil))))) (sCons (sAsg (.name 4) (eFn 1 [] f_law_made (aCons (eVar 3) aNil))) (sCons (sIf (tOf (e2 (lift2 neD) (eLc false (iRng1 (aCons (eCall (pf1 lenD) (aCons (eVar 4) aNil)) aNil)) (.name 6) (bOr (tOf (e2 (lift2 neD) (eFn 1 [] f_law_classes (aCons (e2 (lift2 ixD) (eVar 4) (eVar 6)) aNil)) (eLst false (aCons (eVar 6) aNil)))) (bNot (tOf (eFn 1 [] f_law_under (aCons (e2 (lift2 ixD) (eVar 4) (eVar 6)) aNil))))) (eVar 6) [6]) (eLst false aNil))) (sRet (eC (.bl false))) sNil) (sCons (sAsg (.name 5) (eFn 1 [] f_law_fields (aCons (eVar 4) aNil))) (sCons (sIf (tOf (e2 (lift2 neD) (eLc false (iVal (eVar 5)) (.name 7) (bOr (tOf (e2 (lift2 neD) (eVar 7) (eVar 3))) (tOf (e2 (lift2 neD) (eIsi "bool" (eVar 7)) (eIsi "bool" (eVar 3))))) (eVar 7) [7]) (eLst false aNil))) (sRet (eC (.bl false))) sNil) (sIf (bOr (bNot (tOf (eIsX "ValueError" exK (eExvB "PartsError" (eC (.str [97])))))) (tOf (e2 (lift2 neD) (eFn 1 [] f_law_classes (aCons (eExvB "PartsError" (eC (.str [97]))) aNil)) (eLst false aNil)))) (sRet (eC (.bl false))) sNil)))))))) (sRet (eC (.bl true))))
def f_law : Fn := fnRun 8 b_law
end K04
set_option synthInstance.maxHeartbeats 0
set_option synthInstance.maxSize 100000
set_option Elab.async false
set_option linter.all false
set_option maxRecDepth 100000
set_option maxHeartbeats 4000000
namespace K04
open PySem PySem.Spec PyProof.Rows L2 SD
structure Txt (P : Program) (w : World) (K : PySem.W.Frag) (mg : Str → Option Value) : Prop where
  d__law_box : DefAt K mg "_law_box" "_law_box" st__law_box ["_law_cell_here"]
  d__law_made : DefAt K mg "_law_made" "_law_made" st__law_made ["_law_thing"]
  d__law_fields : DefAt K mg "_law_fields" "_law_fields" st__law_fields ["_law_made_here"]
  d__law_cell : DefAt K mg "_law_cell" "_law_cell" st__law_cell ["_law_script", "_law_k"]
  d__law_take : DefAt K mg "_law_take" "_law_take" st__law_take ["_law_box_here", "_law_many"]
  d__law_classes : DefAt K mg "_law_classes" "_law_classes" st__law_classes ["_law_error"]
  d__law_under : DefAt K mg "_law_under" "_law_under" st__law_under ["_law_error"]
  d_law : DefAt K mg "law" "law" st_law ["_law_script"]
  x_Duplicate : ∃ C, mg "Duplicate" = some (.ref C) ∧ ∀ w, Mk1 P w K "Duplicate" "name" C
  x_Ended : ∃ C, mg "Ended" = some (.ref C) ∧ ∀ w, Mk1 P w K "Ended" "number" C
  x_InvalidCatalog : ∃ C, mg "InvalidCatalog" = some (.ref C) ∧ ∀ w, Mk1 P w K "InvalidCatalog" "value" C
  x_InvalidChange : ∃ C, mg "InvalidChange" = some (.ref C) ∧ ∀ w, Mk1 P w K "InvalidChange" "value" C
  x_InvalidClash : ∃ C, mg "InvalidClash" = some (.ref C) ∧ ∀ w, Mk1 P w K "InvalidClash" "value" C
  x_InvalidCommand : ∃ C, mg "InvalidCommand" = some (.ref C) ∧ ∀ w, Mk1 P w K "InvalidCommand" "value" C
  x_InvalidKey : ∃ C, mg "InvalidKey" = some (.ref C) ∧ ∀ w, Mk1 P w K "InvalidKey" "value" C
  x_InvalidLog : ∃ C, mg "InvalidLog" = some (.ref C) ∧ ∀ w, Mk1 P w K "InvalidLog" "value" C
  x_InvalidModes : ∃ C, mg "InvalidModes" = some (.ref C) ∧ ∀ w, Mk1 P w K "InvalidModes" "value" C
  x_InvalidName : ∃ C, mg "InvalidName" = some (.ref C) ∧ ∀ w, Mk1 P w K "InvalidName" "value" C
  x_InvalidNumber : ∃ C, mg "InvalidNumber" = some (.ref C) ∧ ∀ w, Mk1 P w K "InvalidNumber" "value" C
  x_InvalidProgram : ∃ C, mg "InvalidProgram" = some (.ref C) ∧ ∀ w, Mk1 P w K "InvalidProgram" "value" C
  x_InvalidPrograms : ∃ C, mg "InvalidPrograms" = some (.ref C) ∧ ∀ w, Mk1 P w K "InvalidPrograms" "value" C
  x_InvalidProtocol : ∃ C, mg "InvalidProtocol" = some (.ref C) ∧ ∀ w, Mk1 P w K "InvalidProtocol" "value" C
  x_InvalidRows : ∃ C, mg "InvalidRows" = some (.ref C) ∧ ∀ w, Mk1 P w K "InvalidRows" "value" C
  x_InvalidScene : ∃ C, mg "InvalidScene" = some (.ref C) ∧ ∀ w, Mk1 P w K "InvalidScene" "value" C
  x_InvalidSession : ∃ C, mg "InvalidSession" = some (.ref C) ∧ ∀ w, Mk1 P w K "InvalidSession" "value" C
  x_InvalidSpan : ∃ C, mg "InvalidSpan" = some (.ref C) ∧ ∀ w, Mk1 P w K "InvalidSpan" "value" C
  x_InvalidSpans : ∃ C, mg "InvalidSpans" = some (.ref C) ∧ ∀ w, Mk1 P w K "InvalidSpans" "value" C
  x_InvalidStore : ∃ C, mg "InvalidStore" = some (.ref C) ∧ ∀ w, Mk1 P w K "InvalidStore" "value" C
  x_InvalidStrengths : ∃ C, mg "InvalidStrengths" = some (.ref C) ∧ ∀ w, Mk1 P w K "InvalidStrengths" "value" C
  x_InvalidText : ∃ C, mg "InvalidText" = some (.ref C) ∧ ∀ w, Mk1 P w K "InvalidText" "value" C
  x_InvalidWeaving : ∃ C, mg "InvalidWeaving" = some (.ref C) ∧ ∀ w, Mk1 P w K "InvalidWeaving" "value" C
  x_NameTaken : ∃ C, mg "NameTaken" = some (.ref C) ∧ ∀ w, Mk1 P w K "NameTaken" "name" C
  x_NoProgram : ∃ C, mg "NoProgram" = some (.ref C) ∧ ∀ w, Mk1 P w K "NoProgram" "kind" C
  x_NoStore : ∃ C, mg "NoStore" = some (.ref C) ∧ ∀ w, Mk0 P w K "NoStore" C
  x_NotInside : ∃ C, mg "NotInside" = some (.ref C) ∧ ∀ w, Mk1 P w K "NotInside" "at" C
  x_NotNeighbours : ∃ C, mg "NotNeighbours" = some (.ref C) ∧ ∀ w, Mk1 P w K "NotNeighbours" "name" C
  x_NotRight : ∃ C, mg "NotRight" = some (.ref C) ∧ ∀ w, Mk0 P w K "NotRight" C
  x_NothingBad : ∃ C, mg "NothingBad" = some (.ref C) ∧ ∀ w, Mk0 P w K "NothingBad" C
  x_NothingToRedo : ∃ C, mg "NothingToRedo" = some (.ref C) ∧ ∀ w, Mk0 P w K "NothingToRedo" C
  x_NothingToUndo : ∃ C, mg "NothingToUndo" = some (.ref C) ∧ ∀ w, Mk0 P w K "NothingToUndo" C
  x_Overlap : ∃ C, mg "Overlap" = some (.ref C) ∧ ∀ w, Mk1 P w K "Overlap" "name" C
  x_TooMany : ∃ C, mg "TooMany" = some (.ref C) ∧ ∀ w, Mk1 P w K "TooMany" "bound" C
  x_UnknownEntry : ∃ C, mg "UnknownEntry" = some (.ref C) ∧ ∀ w, Mk1 P w K "UnknownEntry" "name" C
  x_UnknownMode : ∃ C, mg "UnknownMode" = some (.ref C) ∧ ∀ w, Mk1 P w K "UnknownMode" "name" C
  x_UnknownPart : ∃ C, mg "UnknownPart" = some (.ref C) ∧ ∀ w, Mk1 P w K "UnknownPart" "name" C
  x_Waiting : ∃ C, mg "Waiting" = some (.ref C) ∧ ∀ w, Mk1 P w K "Waiting" "number" C
  b_PartsError : ∃ C, mg "PartsError" = some (.ref C) ∧ MkB K "PartsError" C
  i_Duplicate : ∃ D, mg "Duplicate" = some (.ref D) ∧ IsX K exK "Duplicate" (.ref D)
  i_Ended : ∃ D, mg "Ended" = some (.ref D) ∧ IsX K exK "Ended" (.ref D)
  i_IndexError : IsX K exK "IndexError" (.type "IndexError")
  i_InvalidCatalog : ∃ D, mg "InvalidCatalog" = some (.ref D) ∧ IsX K exK "InvalidCatalog" (.ref D)
  i_InvalidChange : ∃ D, mg "InvalidChange" = some (.ref D) ∧ IsX K exK "InvalidChange" (.ref D)
  i_InvalidClash : ∃ D, mg "InvalidClash" = some (.ref D) ∧ IsX K exK "InvalidClash" (.ref D)
  i_InvalidCommand : ∃ D, mg "InvalidCommand" = some (.ref D) ∧ IsX K exK "InvalidCommand" (.ref D)
  i_InvalidKey : ∃ D, mg "InvalidKey" = some (.ref D) ∧ IsX K exK "InvalidKey" (.ref D)
  i_InvalidLog : ∃ D, mg "InvalidLog" = some (.ref D) ∧ IsX K exK "InvalidLog" (.ref D)
  i_InvalidModes : ∃ D, mg "InvalidModes" = some (.ref D) ∧ IsX K exK "InvalidModes" (.ref D)
  i_InvalidName : ∃ D, mg "InvalidName" = some (.ref D) ∧ IsX K exK "InvalidName" (.ref D)
  i_InvalidNumber : ∃ D, mg "InvalidNumber" = some (.ref D) ∧ IsX K exK "InvalidNumber" (.ref D)
  i_InvalidProgram : ∃ D, mg "InvalidProgram" = some (.ref D) ∧ IsX K exK "InvalidProgram" (.ref D)
  i_InvalidPrograms : ∃ D, mg "InvalidPrograms" = some (.ref D) ∧ IsX K exK "InvalidPrograms" (.ref D)
  i_InvalidProtocol : ∃ D, mg "InvalidProtocol" = some (.ref D) ∧ IsX K exK "InvalidProtocol" (.ref D)
  i_InvalidRows : ∃ D, mg "InvalidRows" = some (.ref D) ∧ IsX K exK "InvalidRows" (.ref D)
  i_InvalidScene : ∃ D, mg "InvalidScene" = some (.ref D) ∧ IsX K exK "InvalidScene" (.ref D)
  i_InvalidSession : ∃ D, mg "InvalidSession" = some (.ref D) ∧ IsX K exK "InvalidSession" (.ref D)
  i_InvalidSpan : ∃ D, mg "InvalidSpan" = some (.ref D) ∧ IsX K exK "InvalidSpan" (.ref D)
  i_InvalidSpans : ∃ D, mg "InvalidSpans" = some (.ref D) ∧ IsX K exK "InvalidSpans" (.ref D)
  i_InvalidStore : ∃ D, mg "InvalidStore" = some (.ref D) ∧ IsX K exK "InvalidStore" (.ref D)
  i_InvalidStrengths : ∃ D, mg "InvalidStrengths" = some (.ref D) ∧ IsX K exK "InvalidStrengths" (.ref D)
  i_InvalidText : ∃ D, mg "InvalidText" = some (.ref D) ∧ IsX K exK "InvalidText" (.ref D)
  i_InvalidWeaving : ∃ D, mg "InvalidWeaving" = some (.ref D) ∧ IsX K exK "InvalidWeaving" (.ref D)
  i_KeyError : IsX K exK "KeyError" (.type "KeyError")
  i_NameTaken : ∃ D, mg "NameTaken" = some (.ref D) ∧ IsX K exK "NameTaken" (.ref D)
  i_NoProgram : ∃ D, mg "NoProgram" = some (.ref D) ∧ IsX K exK "NoProgram" (.ref D)
  i_NoStore : ∃ D, mg "NoStore" = some (.ref D) ∧ IsX K exK "NoStore" (.ref D)
  i_NotInside : ∃ D, mg "NotInside" = some (.ref D) ∧ IsX K exK "NotInside" (.ref D)
  i_NotNeighbours : ∃ D, mg "NotNeighbours" = some (.ref D) ∧ IsX K exK "NotNeighbours" (.ref D)
  i_NotRight : ∃ D, mg "NotRight" = some (.ref D) ∧ IsX K exK "NotRight" (.ref D)
  i_NothingBad : ∃ D, mg "NothingBad" = some (.ref D) ∧ IsX K exK "NothingBad" (.ref D)
  i_NothingToRedo : ∃ D, mg "NothingToRedo" = some (.ref D) ∧ IsX K exK "NothingToRedo" (.ref D)
  i_NothingToUndo : ∃ D, mg "NothingToUndo" = some (.ref D) ∧ IsX K exK "NothingToUndo" (.ref D)
  i_Overlap : ∃ D, mg "Overlap" = some (.ref D) ∧ IsX K exK "Overlap" (.ref D)
  i_PartsError : ∃ D, mg "PartsError" = some (.ref D) ∧ IsX K exK "PartsError" (.ref D)
  i_TooMany : ∃ D, mg "TooMany" = some (.ref D) ∧ IsX K exK "TooMany" (.ref D)
  i_TypeError : IsX K exK "TypeError" (.type "TypeError")
  i_UnknownEntry : ∃ D, mg "UnknownEntry" = some (.ref D) ∧ IsX K exK "UnknownEntry" (.ref D)
  i_UnknownMode : ∃ D, mg "UnknownMode" = some (.ref D) ∧ IsX K exK "UnknownMode" (.ref D)
  i_UnknownPart : ∃ D, mg "UnknownPart" = some (.ref D) ∧ IsX K exK "UnknownPart" (.ref D)
  i_ValueError : IsX K exK "ValueError" (.type "ValueError")
  i_Waiting : ∃ D, mg "Waiting" = some (.ref D) ∧ IsX K exK "Waiting" (.ref D)
  n_IndexError : mg "IndexError" = none
  n_KeyError : mg "KeyError" = none
  n_TypeError : mg "TypeError" = none
  n_ValueError : mg "ValueError" = none
  n_bool : mg "bool" = none
  n_isinstance : mg "isinstance" = none
  n_len : mg "len" = none
  n_max : mg "max" = none
  n_min : mg "min" = none
  n_range : mg "range" = none
  n_super : mg "super" = none
theorem xa_at {P : Program} {w : World} {K : PySem.W.Frag} {mg : Str → Option Value} (T : Txt P w K mg) : XatA K exF_at "at" := (xat_cons (T.x_NotInside.choose_spec.2 w) xat_nil)
theorem xa_bound {P : Program} {w : World} {K : PySem.W.Frag} {mg : Str → Option Value} (T : Txt P w K mg) : XatA K exF_bound "bound" := (xat_cons (T.x_TooMany.choose_spec.2 w) xat_nil)
theorem xa_kind {P : Program} {w : World} {K : PySem.W.Frag} {mg : Str → Option Value} (T : Txt P w K mg) : XatA K exF_kind "kind" := (xat_cons (T.x_NoProgram.choose_spec.2 w) xat_nil)
theorem xa_name {P : Program} {w : World} {K : PySem.W.Frag} {mg : Str → Option Value} (T : Txt P w K mg) : XatA K exF_name "name" := (xat_cons (T.x_Duplicate.choose_spec.2 w) (xat_cons (T.x_NameTaken.choose_spec.2 w) (xat_cons (T.x_NotNeighbours.choose_spec.2 w) (xat_cons (T.x_Overlap.choose_spec.2 w) (xat_cons (T.x_UnknownEntry.choose_spec.2 w) (xat_cons (T.x_UnknownMode.choose_spec.2 w) (xat_cons (T.x_UnknownPart.choose_spec.2 w) xat_nil)))))))
theorem xa_number {P : Program} {w : World} {K : PySem.W.Frag} {mg : Str → Option Value} (T : Txt P w K mg) : XatA K exF_number "number" := (xat_cons (T.x_Ended.choose_spec.2 w) (xat_cons (T.x_Waiting.choose_spec.2 w) xat_nil))
theorem xa_value {P : Program} {w : World} {K : PySem.W.Frag} {mg : Str → Option Value} (T : Txt P w K mg) : XatA K exF_value "value" := (xat_cons (T.x_InvalidCatalog.choose_spec.2 w) (xat_cons (T.x_InvalidChange.choose_spec.2 w) (xat_cons (T.x_InvalidClash.choose_spec.2 w) (xat_cons (T.x_InvalidCommand.choose_spec.2 w) (xat_cons (T.x_InvalidKey.choose_spec.2 w) (xat_cons (T.x_InvalidLog.choose_spec.2 w) (xat_cons (T.x_InvalidModes.choose_spec.2 w) (xat_cons (T.x_InvalidName.choose_spec.2 w) (xat_cons (T.x_InvalidNumber.choose_spec.2 w) (xat_cons (T.x_InvalidProgram.choose_spec.2 w) (xat_cons (T.x_InvalidPrograms.choose_spec.2 w) (xat_cons (T.x_InvalidProtocol.choose_spec.2 w) (xat_cons (T.x_InvalidRows.choose_spec.2 w) (xat_cons (T.x_InvalidScene.choose_spec.2 w) (xat_cons (T.x_InvalidSession.choose_spec.2 w) (xat_cons (T.x_InvalidSpan.choose_spec.2 w) (xat_cons (T.x_InvalidSpans.choose_spec.2 w) (xat_cons (T.x_InvalidStore.choose_spec.2 w) (xat_cons (T.x_InvalidStrengths.choose_spec.2 w) (xat_cons (T.x_InvalidText.choose_spec.2 w) (xat_cons (T.x_InvalidWeaving.choose_spec.2 w) xat_nil)))))))))))))))))))))
instance : FS b_law_box := by unfold b_law_box; infer_instance
instance : FF f_law_box := by unfold f_law_box; infer_instance
theorem bd_law_box {P : Program} {w : World} {K : PySem.W.Frag} {mg : Str → Option Value} {base : Heap} (T : Txt P w K mg) (f : Addr) (cdv : Value) (A : Around) (outer : List Env) (s : Shared) (H : Hp) (E : XK) (hr : Room 0 (A.deeper (envOfC "_law_box" (defScope st__law_box) s.heap.objs.size f cdv))) :
    SS (cxOf (L2.CX P w) P w K mg base ["_law_cell_here"] "_law_box" (defScope st__law_box) f cdv A outer s H E) (fun cls d _ H => E cls d H) (defBody st__law_box) b_law_box := by
  have tk := takes_of (X := cxOf (L2.CX P w) P w K mg base ["_law_cell_here"] "_law_box" (defScope st__law_box) f cdv A outer s H E) rfl rfl rfl rfl
  have hp := passes_of (X := cxOf (L2.CX P w) P w K mg base ["_law_cell_here"] "_law_box" (defScope st__law_box) f cdv A outer s H E) rfl
  exact (ss_one (s_ret (se_lst true (sa_cons (se_callB (call_max2 rfl) c_max2 T.n_max (sa_cons se_int (sa_cons (se_op op_sub o_sub (se_v 0) (se_op op_pow o_pow se_int se_int)) sa_nil))) (sa_cons (se_op op_mod o_mod (se_v 0) se_int) (sa_cons se_int sa_nil))))))
theorem ok__law_box {P : Program} {w : World} {K : PySem.W.Frag} {mg : Str → Option Value} {base : Heap} (T : Txt P w K mg) : Callable P w K mg base 1 "_law_box" 1 [] f_law_box :=
  T.d__law_box.call (k := 0) sc__law_box (bd_law_box T)
instance : FS b_law_made := by unfold b_law_made; infer_instance
instance : FF f_law_made := by unfold f_law_made; infer_instance
theorem bd_law_made {P : Program} {w : World} {K : PySem.W.Frag} {mg : Str → Option Value} {base : Heap} (T : Txt P w K mg) (f : Addr) (cdv : Value) (A : Around) (outer : List Env) (s : Shared) (H : Hp) (E : XK) (hr : Room 0 (A.deeper (envOfC "_law_made" (defScope st__law_made) s.heap.objs.size f cdv))) :
    SS (cxOf (L2.CX P w) P w K mg base ["_law_thing", "_law_found"] "_law_made" (defScope st__law_made) f cdv A outer s H E) (fun cls d _ H => E cls d H) (defBody st__law_made) b_law_made := by
  have tk := takes_of (X := cxOf (L2.CX P w) P w K mg base ["_law_thing", "_law_found"] "_law_made" (defScope st__law_made) f cdv A outer s H E) rfl rfl rfl rfl
  have hp := passes_of (X := cxOf (L2.CX P w) P w K mg base ["_law_thing", "_law_found"] "_law_made" (defScope st__law_made) f cdv A outer s H E) rfl
  exact (ss_cons (s_set 1 sc__law_made.nd (se_lst false sa_nil)) (ss_cons (s_set 1 sc__law_made.nd (se_op or_add (o_add (c := false)) (se_v 1) (se_lst false (sa_cons (se_exv1 (T.x_InvalidName.choose_spec.2 _) T.x_InvalidName.choose_spec.1 T.n_super hr (se_v 0)) (sa_cons (se_exv1 (T.x_InvalidKey.choose_spec.2 _) T.x_InvalidKey.choose_spec.1 T.n_super hr (se_v 0)) (sa_cons (se_exv1 (T.x_InvalidSpan.choose_spec.2 _) T.x_InvalidSpan.choose_spec.1 T.n_super hr (se_v 0)) (sa_cons (se_exv1 (T.x_InvalidSpans.choose_spec.2 _) T.x_InvalidSpans.choose_spec.1 T.n_super hr (se_v 0)) sa_nil))))))) (ss_cons (s_set 1 sc__law_made.nd (se_op or_add (o_add (c := false)) (se_v 1) (se_lst false (sa_cons (se_exv1 (T.x_InvalidCatalog.choose_spec.2 _) T.x_InvalidCatalog.choose_spec.1 T.n_super hr (se_v 0)) (sa_cons (se_exv1 (T.x_InvalidChange.choose_spec.2 _) T.x_InvalidChange.choose_spec.1 T.n_super hr (se_v 0)) (sa_cons (se_exv1 (T.x_InvalidModes.choose_spec.2 _) T.x_InvalidModes.choose_spec.1 T.n_super hr (se_v 0)) sa_nil)))))) (ss_cons (s_set 1 sc__law_made.nd (se_op or_add (o_add (c := false)) (se_v 1) (se_lst false (sa_cons (se_exv1 (T.x_InvalidClash.choose_spec.2 _) T.x_InvalidClash.choose_spec.1 T.n_super hr (se_v 0)) (sa_cons (se_exv1 (T.x_InvalidStrengths.choose_spec.2 _) T.x_InvalidStrengths.choose_spec.1 T.n_super hr (se_v 0)) (sa_cons (se_exv1 (T.x_InvalidProgram.choose_spec.2 _) T.x_InvalidProgram.choose_spec.1 T.n_super hr (se_v 0)) sa_nil)))))) (ss_cons (s_set 1 sc__law_made.nd (se_op or_add (o_add (c := false)) (se_v 1) (se_lst false (sa_cons (se_exv1 (T.x_InvalidPrograms.choose_spec.2 _) T.x_InvalidPrograms.choose_spec.1 T.n_super hr (se_v 0)) (sa_cons (se_exv1 (T.x_InvalidProtocol.choose_spec.2 _) T.x_InvalidProtocol.choose_spec.1 T.n_super hr (se_v 0)) (sa_cons (se_exv1 (T.x_InvalidRows.choose_spec.2 _) T.x_InvalidRows.choose_spec.1 T.n_super hr (se_v 0)) sa_nil)))))) (ss_cons (s_set 1 sc__law_made.nd (se_op or_add (o_add (c := false)) (se_v 1) (se_lst false (sa_cons (se_exv1 (T.x_InvalidSession.choose_spec.2 _) T.x_InvalidSession.choose_spec.1 T.n_super hr (se_v 0)) (sa_cons (se_exv1 (T.x_InvalidNumber.choose_spec.2 _) T.x_InvalidNumber.choose_spec.1 T.n_super hr (se_v 0)) (sa_cons (se_exv1 (T.x_InvalidWeaving.choose_spec.2 _) T.x_InvalidWeaving.choose_spec.1 T.n_super hr (se_v 0)) sa_nil)))))) (ss_cons (s_set 1 sc__law_made.nd (se_op or_add (o_add (c := false)) (se_v 1) (se_lst false (sa_cons (se_exv1 (T.x_InvalidStore.choose_spec.2 _) T.x_InvalidStore.choose_spec.1 T.n_super hr (se_v 0)) (sa_cons (se_exv1 (T.x_InvalidScene.choose_spec.2 _) T.x_InvalidScene.choose_spec.1 T.n_super hr (se_v 0)) (sa_cons (se_exv1 (T.x_InvalidLog.choose_spec.2 _) T.x_InvalidLog.choose_spec.1 T.n_super hr (se_v 0)) sa_nil)))))) (ss_cons (s_set 1 sc__law_made.nd (se_op or_add (o_add (c := false)) (se_v 1) (se_lst false (sa_cons (se_exv1 (T.x_InvalidText.choose_spec.2 _) T.x_InvalidText.choose_spec.1 T.n_super hr (se_v 0)) (sa_cons (se_exv1 (T.x_InvalidCommand.choose_spec.2 _) T.x_InvalidCommand.choose_spec.1 T.n_super hr (se_v 0)) (sa_cons (se_exv1 (T.x_Duplicate.choose_spec.2 _) T.x_Duplicate.choose_spec.1 T.n_super hr (se_v 0)) sa_nil)))))) (ss_cons (s_set 1 sc__law_made.nd (se_op or_add (o_add (c := false)) (se_v 1) (se_lst false (sa_cons (se_exv1 (T.x_UnknownPart.choose_spec.2 _) T.x_UnknownPart.choose_spec.1 T.n_super hr (se_v 0)) (sa_cons (se_exv1 (T.x_UnknownMode.choose_spec.2 _) T.x_UnknownMode.choose_spec.1 T.n_super hr (se_v 0)) (sa_cons (se_exv1 (T.x_UnknownEntry.choose_spec.2 _) T.x_UnknownEntry.choose_spec.1 T.n_super hr (se_v 0)) (sa_cons (se_exv1 (T.x_NameTaken.choose_spec.2 _) T.x_NameTaken.choose_spec.1 T.n_super hr (se_v 0)) sa_nil))))))) (ss_cons (s_set 1 sc__law_made.nd (se_op or_add (o_add (c := false)) (se_v 1) (se_lst false (sa_cons (se_exv1 (T.x_Overlap.choose_spec.2 _) T.x_Overlap.choose_spec.1 T.n_super hr (se_v 0)) (sa_cons (se_exv1 (T.x_NotInside.choose_spec.2 _) T.x_NotInside.choose_spec.1 T.n_super hr (se_v 0)) (sa_cons (se_exv1 (T.x_NotNeighbours.choose_spec.2 _) T.x_NotNeighbours.choose_spec.1 T.n_super hr (se_v 0)) (sa_cons (se_exv1 (T.x_NoProgram.choose_spec.2 _) T.x_NoProgram.choose_spec.1 T.n_super hr (se_v 0)) sa_nil))))))) (ss_cons (s_set 1 sc__law_made.nd (se_op or_add (o_add (c := false)) (se_v 1) (se_lst false (sa_cons (se_exv1 (T.x_TooMany.choose_spec.2 _) T.x_TooMany.choose_spec.1 T.n_super hr (se_v 0)) (sa_cons (se_exv1 (T.x_Ended.choose_spec.2 _) T.x_Ended.choose_spec.1 T.n_super hr (se_v 0)) (sa_cons (se_exv1 (T.x_Waiting.choose_spec.2 _) T.x_Waiting.choose_spec.1 T.n_super hr (se_v 0)) (sa_cons (se_exv0 (T.x_NothingBad.choose_spec.2 _) T.x_NothingBad.choose_spec.1 T.n_super hr) (sa_cons (se_exv0 (T.x_NotRight.choose_spec.2 _) T.x_NotRight.choose_spec.1 T.n_super hr) sa_nil)))))))) (ss_cons (s_set 1 sc__law_made.nd (se_op or_add (o_add (c := false)) (se_v 1) (se_lst false (sa_cons (se_exv0 (T.x_NoStore.choose_spec.2 _) T.x_NoStore.choose_spec.1 T.n_super hr) (sa_cons (se_exv0 (T.x_NothingToUndo.choose_spec.2 _) T.x_NothingToUndo.choose_spec.1 T.n_super hr) (sa_cons (se_exv0 (T.x_NothingToRedo.choose_spec.2 _) T.x_NothingToRedo.choose_spec.1 T.n_super hr) sa_nil)))))) (ss_one (s_ret (se_v 1)))))))))))))))
theorem ok__law_made {P : Program} {w : World} {K : PySem.W.Frag} {mg : Str → Option Value} {base : Heap} (T : Txt P w K mg) : Callable P w K mg base 1 "_law_made" 1 [] f_law_made :=
  T.d__law_made.call (k := 0) sc__law_made (bd_law_made T)
instance : FS b_law_fields := by unfold b_law_fields; infer_instance
instance : FF f_law_fields := by unfold f_law_fields; infer_instance
theorem bd_law_fields {P : Program} {w : World} {K : PySem.W.Frag} {mg : Str → Option Value} {base : Heap} (T : Txt P w K mg) (f : Addr) (cdv : Value) (A : Around) (outer : List Env) (s : Shared) (H : Hp) (E : XK) (hr : Room 0 (A.deeper (envOfC "_law_fields" (defScope st__law_fields) s.heap.objs.size f cdv))) :
    SS (cxOf (L2.CX P w) P w K mg base ["_law_made_here", "_law_told"] "_law_fields" (defScope st__law_fields) f cdv A outer s H E) (fun cls d _ H => E cls d H) (defBody st__law_fields) b_law_fields := by
  have tk := takes_of (X := cxOf (L2.CX P w) P w K mg base ["_law_made_here", "_law_told"] "_law_fields" (defScope st__law_fields) f cdv A outer s H E) rfl rfl rfl rfl
  have hp := passes_of (X := cxOf (L2.CX P w) P w K mg base ["_law_made_here", "_law_told"] "_law_fields" (defScope st__law_fields) f cdv A outer s H E) rfl
  exact (ss_cons (s_set 1 sc__law_fields.nd (se_lst false sa_nil)) (ss_cons (s_set 1 sc__law_fields.nd (se_op or_add (o_add (c := false)) (se_v 1) (se_lst false (sa_cons (se_xat (xa_value T) (se_ix (se_v 0) se_int)) (sa_cons (se_xat (xa_value T) (se_ix (se_v 0) se_int)) (sa_cons (se_xat (xa_value T) (se_ix (se_v 0) se_int)) (sa_cons (se_xat (xa_value T) (se_ix (se_v 0) se_int)) (sa_cons (se_xat (xa_value T) (se_ix (se_v 0) se_int)) sa_nil)))))))) (ss_cons (s_set 1 sc__law_fields.nd (se_op or_add (o_add (c := false)) (se_v 1) (se_lst false (sa_cons (se_xat (xa_value T) (se_ix (se_v 0) se_int)) (sa_cons (se_xat (xa_value T) (se_ix (se_v 0) se_int)) (sa_cons (se_xat (xa_value T) (se_ix (se_v 0) se_int)) (sa_cons (se_xat (xa_value T) (se_ix (se_v 0) se_int)) (sa_cons (se_xat (xa_value T) (se_ix (se_v 0) se_int)) sa_nil)))))))) (ss_cons (s_set 1 sc__law_fields.nd (se_op or_add (o_add (c := false)) (se_v 1) (se_lst false (sa_cons (se_xat (xa_value T) (se_ix (se_v 0) se_int)) (sa_cons (se_xat (xa_value T) (se_ix (se_v 0) se_int)) (sa_cons (se_xat (xa_value T) (se_ix (se_v 0) se_int)) (sa_cons (se_xat (xa_value T) (se_ix (se_v 0) se_int)) (sa_cons (se_xat (xa_value T) (se_ix (se_v 0) se_int)) sa_nil)))))))) (ss_cons (s_set 1 sc__law_fields.nd (se_op or_add (o_add (c := false)) (se_v 1) (se_lst false (sa_cons (se_xat (xa_value T) (se_ix (se_v 0) se_int)) (sa_cons (se_xat (xa_value T) (se_ix (se_v 0) se_int)) (sa_cons (se_xat (xa_value T) (se_ix (se_v 0) se_int)) (sa_cons (se_xat (xa_value T) (se_ix (se_v 0) se_int)) (sa_cons (se_xat (xa_value T) (se_ix (se_v 0) se_int)) sa_nil)))))))) (ss_cons (s_set 1 sc__law_fields.nd (se_op or_add (o_add (c := false)) (se_v 1) (se_lst false (sa_cons (se_xat (xa_value T) (se_ix (se_v 0) se_int)) sa_nil)))) (ss_cons (s_set 1 sc__law_fields.nd (se_op or_add (o_add (c := false)) (se_v 1) (se_lst false (sa_cons (se_xat (xa_name T) (se_ix (se_v 0) se_int)) (sa_cons (se_xat (xa_name T) (se_ix (se_v 0) se_int)) (sa_cons (se_xat (xa_name T) (se_ix (se_v 0) se_int)) (sa_cons (se_xat (xa_name T) (se_ix (se_v 0) se_int)) (sa_cons (se_xat (xa_name T) (se_ix (se_v 0) se_int)) sa_nil)))))))) (ss_cons (s_set 1 sc__law_fields.nd (se_op or_add (o_add (c := false)) (se_v 1) (se_lst false (sa_cons (se_xat (xa_name T) (se_ix (se_v 0) se_int)) (sa_cons (se_xat (xa_at T) (se_ix (se_v 0) se_int)) (sa_cons (se_xat (xa_name T) (se_ix (se_v 0) se_int)) (sa_cons (se_xat (xa_kind T) (se_ix (se_v 0) se_int)) (sa_cons (se_xat (xa_bound T) (se_ix (se_v 0) se_int)) sa_nil)))))))) (ss_cons (s_set 1 sc__law_fields.nd (se_op or_add (o_add (c := false)) (se_v 1) (se_lst false (sa_cons (se_xat (xa_number T) (se_ix (se_v 0) se_int)) (sa_cons (se_xat (xa_number T) (se_ix (se_v 0) se_int)) sa_nil))))) (ss_one (s_ret (se_v 1))))))))))))
theorem ok__law_fields {P : Program} {w : World} {K : PySem.W.Frag} {mg : Str → Option Value} {base : Heap} (T : Txt P w K mg) : Callable P w K mg base 1 "_law_fields" 1 [] f_law_fields :=
  T.d__law_fields.call (k := 0) sc__law_fields (bd_law_fields T)
instance : FS b_law_cell := by unfold b_law_cell; infer_instance
instance : FF f_law_cell := by unfold f_law_cell; infer_instance
theorem bd_law_cell {P : Program} {w : World} {K : PySem.W.Frag} {mg : Str → Option Value} {base : Heap} (T : Txt P w K mg) (f : Addr) (cdv : Value) (A : Around) (outer : List Env) (s : Shared) (H : Hp) (E : XK) (hr : Room 0 (A.deeper (envOfC "_law_cell" (defScope st__law_cell) s.heap.objs.size f cdv))) :
    SS (cxOf (L2.CX P w) P w K mg base ["_law_script", "_law_k"] "_law_cell" (defScope st__law_cell) f cdv A outer s H E) (fun cls d _ H => E cls d H) (defBody st__law_cell) b_law_cell := by
  have tk := takes_of (X := cxOf (L2.CX P w) P w K mg base ["_law_script", "_law_k"] "_law_cell" (defScope st__law_cell) f cdv A outer s H E) rfl rfl rfl rfl
  have hp := passes_of (X := cxOf (L2.CX P w) P w K mg base ["_law_script", "_law_k"] "_law_cell" (defScope st__law_cell) f cdv A outer s H E) rfl
  exact (ss_cons (s_if (st_sc (sc_op or_lt o_lt (se_v 1) (se_callB call_len c_len T.n_len (sa_cons (se_v 0) sa_nil)))) (ss_one (s_ret (se_ix (se_v 0) (se_v 1)))) ss_nil) (ss_one (s_ret (se_op or_add (o_add (c := false)) (se_op or_mulL o_mulS se_int (se_v 1)) se_int))))
theorem ok__law_cell {P : Program} {w : World} {K : PySem.W.Frag} {mg : Str → Option Value} {base : Heap} (T : Txt P w K mg) : Callable P w K mg base 1 "_law_cell" 2 [] f_law_cell :=
  T.d__law_cell.call (k := 0) sc__law_cell (bd_law_cell T)
instance : FS b_law_take := by unfold b_law_take; infer_instance
instance : FF f_law_take := by unfold f_law_take; infer_instance
theorem bd_law_take {P : Program} {w : World} {K : PySem.W.Frag} {mg : Str → Option Value} {base : Heap} (T : Txt P w K mg) (f : Addr) (cdv : Value) (A : Around) (outer : List Env) (s : Shared) (H : Hp) (E : XK) (hr : Room 0 (A.deeper (envOfC "_law_take" (defScope st__law_take) s.heap.objs.size f cdv))) :
    SS (cxOf (L2.CX P w) P w K mg base ["_law_box_here", "_law_many", "_law_number", "_law_digit"] "_law_take" (defScope st__law_take) f cdv A outer s H E) (fun cls d _ H => E cls d H) (defBody st__law_take) b_law_take := by
  have tk := takes_of (X := cxOf (L2.CX P w) P w K mg base ["_law_box_here", "_law_many", "_law_number", "_law_digit"] "_law_take" (defScope st__law_take) f cdv A outer s H E) rfl rfl rfl rfl
  have hp := passes_of (X := cxOf (L2.CX P w) P w K mg base ["_law_box_here", "_law_many", "_law_number", "_law_digit"] "_law_take" (defScope st__law_take) f cdv A outer s H E) rfl
  exact (ss_cons (s_if (st_sc (sc_op or_gt o_gt (se_ix (se_v 0) se_int) se_int)) (ss_cons (s_set 3 sc__law_take.nd (se_op op_mod o_mod (se_ix (se_v 0) se_int) (se_v 1))) (ss_cons (s_setIx (se_v 0) se_int (se_op op_fdiv o_fdiv (se_ix (se_v 0) se_int) (se_v 1))) (ss_one (s_ret (se_v 3))))) ss_nil) (ss_cons (s_setIx (se_v 0) se_int (se_op or_add (o_add (c := false)) (se_ix (se_v 0) se_int) se_int)) (ss_cons (s_set 2 sc__law_take.nd (se_op op_mod o_mod (se_op op_pow o_pow (se_op or_add (o_add (c := false)) (se_op or_add (o_add (c := false)) (se_ix (se_v 0) se_int) (se_op or_mulL o_mulS se_int (se_ix (se_v 0) se_int))) se_int) se_int) se_int)) (ss_cons (s_set 2 sc__law_take.nd (se_op op_mod o_mod (se_op op_pow o_pow (se_op or_add (o_add (c := false)) (se_v 2) (se_op or_mulL o_mulS se_int (se_ix (se_v 0) se_int))) se_int) se_int)) (ss_one (s_ret (se_op op_mod o_mod (se_op op_fdiv o_fdiv (se_v 2) se_int) (se_v 1))))))))
theorem ok__law_take {P : Program} {w : World} {K : PySem.W.Frag} {mg : Str → Option Value} {base : Heap} (T : Txt P w K mg) : Callable P w K mg base 1 "_law_take" 2 [] f_law_take :=
  T.d__law_take.call (k := 0) sc__law_take (bd_law_take T)
instance : FS b_law_classes := by unfold b_law_classes; infer_instance
instance : FF f_law_classes := by unfold f_law_classes; infer_instance
theorem bd_law_classes {P : Program} {w : World} {K : PySem.W.Frag} {mg : Str → Option Value} {base : Heap} (T : Txt P w K mg) (f : Addr) (cdv : Value) (A : Around) (outer : List Env) (s : Shared) (H : Hp) (E : XK) (hr : Room 0 (A.deeper (envOfC "_law_classes" (defScope st__law_classes) s.heap.objs.size f cdv))) :
    SS (cxOf (L2.CX P w) P w K mg base ["_law_error", "_law_found", "_law_k"] "_law_classes" (defScope st__law_classes) f cdv A outer s H E) (fun cls d _ H => E cls d H) (defBody st__law_classes) b_law_classes := by
  have tk := takes_of (X := cxOf (L2.CX P w) P w K mg base ["_law_error", "_law_found", "_law_k"] "_law_classes" (defScope st__law_classes) f cdv A outer s H E) rfl rfl rfl rfl
  have hp := passes_of (X := cxOf (L2.CX P w) P w K mg base ["_law_error", "_law_found", "_law_k"] "_law_classes" (defScope st__law_classes) f cdv A outer s H E) rfl
  exact (ss_cons (s_set 1 sc__law_classes.nd (se_lst false sa_nil)) (ss_cons (s_set 1 sc__law_classes.nd (se_op or_add (o_add (c := false)) (se_v 1) (se_lst false (sa_cons (se_isX T.i_InvalidName.choose_spec.2 T.i_InvalidName.choose_spec.1 T.n_isinstance (se_v 0)) (sa_cons (se_isX T.i_InvalidKey.choose_spec.2 T.i_InvalidKey.choose_spec.1 T.n_isinstance (se_v 0)) sa_nil))))) (ss_cons (s_set 1 sc__law_classes.nd (se_op or_add (o_add (c := false)) (se_v 1) (se_lst false (sa_cons (se_isX T.i_InvalidSpan.choose_spec.2 T.i_InvalidSpan.choose_spec.1 T.n_isinstance (se_v 0)) (sa_cons (se_isX T.i_InvalidSpans.choose_spec.2 T.i_InvalidSpans.choose_spec.1 T.n_isinstance (se_v 0)) sa_nil))))) (ss_cons (s_set 1 sc__law_classes.nd (se_op or_add (o_add (c := false)) (se_v 1) (se_lst false (sa_cons (se_isX T.i_InvalidCatalog.choose_spec.2 T.i_InvalidCatalog.choose_spec.1 T.n_isinstance (se_v 0)) (sa_cons (se_isX T.i_InvalidChange.choose_spec.2 T.i_InvalidChange.choose_spec.1 T.n_isinstance (se_v 0)) sa_nil))))) (ss_cons (s_set 1 sc__law_classes.nd (se_op or_add (o_add (c := false)) (se_v 1) (se_lst false (sa_cons (se_isX T.i_InvalidModes.choose_spec.2 T.i_InvalidModes.choose_spec.1 T.n_isinstance (se_v 0)) (sa_cons (se_isX T.i_InvalidClash.choose_spec.2 T.i_InvalidClash.choose_spec.1 T.n_isinstance (se_v 0)) sa_nil))))) (ss_cons (s_set 1 sc__law_classes.nd (se_op or_add (o_add (c := false)) (se_v 1) (se_lst false (sa_cons (se_isX T.i_InvalidStrengths.choose_spec.2 T.i_InvalidStrengths.choose_spec.1 T.n_isinstance (se_v 0)) (sa_cons (se_isX T.i_InvalidProgram.choose_spec.2 T.i_InvalidProgram.choose_spec.1 T.n_isinstance (se_v 0)) sa_nil))))) (ss_cons (s_set 1 sc__law_classes.nd (se_op or_add (o_add (c := false)) (se_v 1) (se_lst false (sa_cons (se_isX T.i_InvalidPrograms.choose_spec.2 T.i_InvalidPrograms.choose_spec.1 T.n_isinstance (se_v 0)) (sa_cons (se_isX T.i_InvalidProtocol.choose_spec.2 T.i_InvalidProtocol.choose_spec.1 T.n_isinstance (se_v 0)) sa_nil))))) (ss_cons (s_set 1 sc__law_classes.nd (se_op or_add (o_add (c := false)) (se_v 1) (se_lst false (sa_cons (se_isX T.i_InvalidRows.choose_spec.2 T.i_InvalidRows.choose_spec.1 T.n_isinstance (se_v 0)) (sa_cons (se_isX T.i_InvalidSession.choose_spec.2 T.i_InvalidSession.choose_spec.1 T.n_isinstance (se_v 0)) sa_nil))))) (ss_cons (s_set 1 sc__law_classes.nd (se_op or_add (o_add (c := false)) (se_v 1) (se_lst false (sa_cons (se_isX T.i_InvalidNumber.choose_spec.2 T.i_InvalidNumber.choose_spec.1 T.n_isinstance (se_v 0)) (sa_cons (se_isX T.i_InvalidWeaving.choose_spec.2 T.i_InvalidWeaving.choose_spec.1 T.n_isinstance (se_v 0)) sa_nil))))) (ss_cons (s_set 1 sc__law_classes.nd (se_op or_add (o_add (c := false)) (se_v 1) (se_lst false (sa_cons (se_isX T.i_InvalidStore.choose_spec.2 T.i_InvalidStore.choose_spec.1 T.n_isinstance (se_v 0)) (sa_cons (se_isX T.i_InvalidScene.choose_spec.2 T.i_InvalidScene.choose_spec.1 T.n_isinstance (se_v 0)) sa_nil))))) (ss_cons (s_set 1 sc__law_classes.nd (se_op or_add (o_add (c := false)) (se_v 1) (se_lst false (sa_cons (se_isX T.i_InvalidLog.choose_spec.2 T.i_InvalidLog.choose_spec.1 T.n_isinstance (se_v 0)) (sa_cons (se_isX T.i_InvalidText.choose_spec.2 T.i_InvalidText.choose_spec.1 T.n_isinstance (se_v 0)) sa_nil))))) (ss_cons (s_set 1 sc__law_classes.nd (se_op or_add (o_add (c := false)) (se_v 1) (se_lst false (sa_cons (se_isX T.i_InvalidCommand.choose_spec.2 T.i_InvalidCommand.choose_spec.1 T.n_isinstance (se_v 0)) (sa_cons (se_isX T.i_Duplicate.choose_spec.2 T.i_Duplicate.choose_spec.1 T.n_isinstance (se_v 0)) sa_nil))))) (ss_cons (s_set 1 sc__law_classes.nd (se_op or_add (o_add (c := false)) (se_v 1) (se_lst false (sa_cons (se_isX T.i_UnknownPart.choose_spec.2 T.i_UnknownPart.choose_spec.1 T.n_isinstance (se_v 0)) (sa_cons (se_isX T.i_UnknownMode.choose_spec.2 T.i_UnknownMode.choose_spec.1 T.n_isinstance (se_v 0)) sa_nil))))) (ss_cons (s_set 1 sc__law_classes.nd (se_op or_add (o_add (c := false)) (se_v 1) (se_lst false (sa_cons (se_isX T.i_UnknownEntry.choose_spec.2 T.i_UnknownEntry.choose_spec.1 T.n_isinstance (se_v 0)) (sa_cons (se_isX T.i_NameTaken.choose_spec.2 T.i_NameTaken.choose_spec.1 T.n_isinstance (se_v 0)) sa_nil))))) (ss_cons (s_set 1 sc__law_classes.nd (se_op or_add (o_add (c := false)) (se_v 1) (se_lst false (sa_cons (se_isX T.i_Overlap.choose_spec.2 T.i_Overlap.choose_spec.1 T.n_isinstance (se_v 0)) (sa_cons (se_isX T.i_NotInside.choose_spec.2 T.i_NotInside.choose_spec.1 T.n_isinstance (se_v 0)) sa_nil))))) (ss_cons (s_set 1 sc__law_classes.nd (se_op or_add (o_add (c := false)) (se_v 1) (se_lst false (sa_cons (se_isX T.i_NotNeighbours.choose_spec.2 T.i_NotNeighbours.choose_spec.1 T.n_isinstance (se_v 0)) (sa_cons (se_isX T.i_NoProgram.choose_spec.2 T.i_NoProgram.choose_spec.1 T.n_isinstance (se_v 0)) sa_nil))))) (ss_cons (s_set 1 sc__law_classes.nd (se_op or_add (o_add (c := false)) (se_v 1) (se_lst false (sa_cons (se_isX T.i_TooMany.choose_spec.2 T.i_TooMany.choose_spec.1 T.n_isinstance (se_v 0)) (sa_cons (se_isX T.i_Ended.choose_spec.2 T.i_Ended.choose_spec.1 T.n_isinstance (se_v 0)) sa_nil))))) (ss_cons (s_set 1 sc__law_classes.nd (se_op or_add (o_add (c := false)) (se_v 1) (se_lst false (sa_cons (se_isX T.i_Waiting.choose_spec.2 T.i_Waiting.choose_spec.1 T.n_isinstance (se_v 0)) (sa_cons (se_isX T.i_NothingBad.choose_spec.2 T.i_NothingBad.choose_spec.1 T.n_isinstance (se_v 0)) sa_nil))))) (ss_cons (s_set 1 sc__law_classes.nd (se_op or_add (o_add (c := false)) (se_v 1) (se_lst false (sa_cons (se_isX T.i_NotRight.choose_spec.2 T.i_NotRight.choose_spec.1 T.n_isinstance (se_v 0)) (sa_cons (se_isX T.i_NoStore.choose_spec.2 T.i_NoStore.choose_spec.1 T.n_isinstance (se_v 0)) sa_nil))))) (ss_cons (s_set 1 sc__law_classes.nd (se_op or_add (o_add (c := false)) (se_v 1) (se_lst false (sa_cons (se_isX T.i_NothingToUndo.choose_spec.2 T.i_NothingToUndo.choose_spec.1 T.n_isinstance (se_v 0)) (sa_cons (se_isX T.i_NothingToRedo.choose_spec.2 T.i_NothingToRedo.choose_spec.1 T.n_isinstance (se_v 0)) sa_nil))))) (ss_one (s_ret (se_lc false (own := [("_law_k", 2)]) rfl sc__law_classes.nd (i_range1 T.n_range (sa_cons (se_callB call_len c_len T.n_len (sa_cons (se_v 1) sa_nil)) sa_nil)) (blkOk_by (N := ["_law_error", "_law_found", "_law_k"]) (sc := (defScope st__law_classes)) (by decide +kernel)) (fun _ _ _ _ _ => (g_name 2 sc__law_classes.nd)) (fun _ _ _ _ _ => (sts_one (st_val (se_ix (se_v 1) (se_v 2))))) (fun _ _ _ _ _ => (se_v 2)) (by decide))))))))))))))))))))))))
theorem ok__law_classes {P : Program} {w : World} {K : PySem.W.Frag} {mg : Str → Option Value} {base : Heap} (T : Txt P w K mg) : Callable P w K mg base 1 "_law_classes" 1 [] f_law_classes :=
  T.d__law_classes.call (k := 0) sc__law_classes (bd_law_classes T)
instance : FS b_law_under := by unfold b_law_under; infer_instance
instance : FF f_law_under := by unfold f_law_under; infer_instance
theorem bd_law_under {P : Program} {w : World} {K : PySem.W.Frag} {mg : Str → Option Value} {base : Heap} (T : Txt P w K mg) (f : Addr) (cdv : Value) (A : Around) (outer : List Env) (s : Shared) (H : Hp) (E : XK) (hr : Room 0 (A.deeper (envOfC "_law_under" (defScope st__law_under) s.heap.objs.size f cdv))) :
    SS (cxOf (L2.CX P w) P w K mg base ["_law_error", "_law_above", "_law_beside"] "_law_under" (defScope st__law_under) f cdv A outer s H E) (fun cls d _ H => E cls d H) (defBody st__law_under) b_law_under := by
  have tk := takes_of (X := cxOf (L2.CX P w) P w K mg base ["_law_error", "_law_above", "_law_beside"] "_law_under" (defScope st__law_under) f cdv A outer s H E) rfl rfl rfl rfl
  have hp := passes_of (X := cxOf (L2.CX P w) P w K mg base ["_law_error", "_law_above", "_law_beside"] "_law_under" (defScope st__law_under) f cdv A outer s H E) rfl
  exact (ss_cons (s_set 1 sc__law_under.nd (se_and (se_isX T.i_PartsError.choose_spec.2 T.i_PartsError.choose_spec.1 T.n_isinstance (se_v 0)) (se_one (se_isXT T.i_ValueError T.n_isinstance T.n_ValueError (se_v 0))))) (ss_cons (s_set 2 sc__law_under.nd (se_or (se_isXT T.i_KeyError T.n_isinstance T.n_KeyError (se_v 0)) (se_or (se_isXT T.i_IndexError T.n_isinstance T.n_IndexError (se_v 0)) (se_one (se_isXT T.i_TypeError T.n_isinstance T.n_TypeError (se_v 0)))))) (ss_one (s_ret (se_and (se_v 1) (se_one (se_not (se_v 2))))))))
theorem ok__law_under {P : Program} {w : World} {K : PySem.W.Frag} {mg : Str → Option Value} {base : Heap} (T : Txt P w K mg) : Callable P w K mg base 1 "_law_under" 1 [] f_law_under :=
  T.d__law_under.call (k := 0) sc__law_under (bd_law_under T)
instance : FS b_law := by unfold b_law; infer_instance
instance : FF f_law := by unfold f_law; infer_instance
theorem bd_law {P : Program} {w : World} {K : PySem.W.Frag} {mg : Str → Option Value} {base : Heap} (T : Txt P w K mg) (f : Addr) (cdv : Value) (A : Around) (outer : List Env) (s : Shared) (H : Hp) (E : XK) (hr : Room 1 (A.deeper (envOfC "law" (defScope st_law) s.heap.objs.size f cdv))) :
    SS (cxOf (L2.CX P w) P w K mg base ["_law_script", "_law_k", "_law_box_here", "_law_thing", "_law_made_here", "_law_told", "_law_at", "_law_item"] "law" (defScope st_law) f cdv A outer s H E) (fun cls d _ H => E cls d H) (defBody st_law) b_law := by
  have tk := takes_of (X := cxOf (L2.CX P w) P w K mg base ["_law_script", "_law_k", "_law_box_here", "_law_thing", "_law_made_here", "_law_told", "_law_at", "_law_item"] "law" (defScope st_law) f cdv A outer s H E) rfl rfl rfl rfl
  have hp := passes_of (X := cxOf (L2.CX P w) P w K mg base ["_law_script", "_law_k", "_law_box_here", "_law_thing", "_law_made_here", "_law_told", "_law_at", "_law_item"] "law" (defScope st_law) f cdv A outer s H E) rfl
  exact (ss_cons (s_for hp rfl (i_range1 T.n_range (sa_cons (se_callB (call_max2 rfl) c_max2 T.n_max (sa_cons se_int (sa_cons (se_callB (call_min2 rfl) c_min2 T.n_min (sa_cons se_int (sa_cons (se_callB call_len c_len T.n_len (sa_cons (se_v 0) sa_nil)) sa_nil))) sa_nil))) sa_nil)) (g_name 1 sc_law.nd) (ss_cons (s_set 2 sc_law.nd (se_fn (ok__law_box T) (hr.mono (by decide)) tk (sa_cons (se_fn (ok__law_cell T) (hr.mono (by decide)) tk (sa_cons (se_v 0) (sa_cons (se_v 1) sa_nil))) sa_nil))) (ss_cons (s_set 3 sc_law.nd (se_ix (se_lst false (sa_cons se_non (sa_cons se_int (sa_cons se_bl (sa_cons (se_str [97]) (sa_cons (se_lst false (sa_cons se_int sa_nil)) (sa_cons (se_lst false (sa_cons (se_str [97]) (sa_cons (se_lst false (sa_cons se_int sa_nil)) sa_nil))) (sa_cons (se_disp false (sps_cons (se_str [97]) se_int sps_nil)) (sa_cons (se_tup (sa_cons se_int (sa_cons se_int sa_nil))) (sa_cons (se_str []) (sa_cons (se_op op_pow o_pow se_int se_int) sa_nil))))))))))) (se_fn (ok__law_take T) (hr.mono (by decide)) tk (sa_cons (se_v 2) (sa_cons se_int sa_nil))))) (ss_cons (s_set 4 sc_law.nd (se_fn (ok__law_made T) (hr.mono (by decide)) tk (sa_cons (se_v 3) sa_nil))) (ss_cons (s_if (st_sc (sc_op (op_neO hr.units) o_ne (se_lc false (own := [("_law_at", 6)]) rfl sc_law.nd (i_range1 T.n_range (sa_cons (se_callB call_len c_len T.n_len (sa_cons (se_v 4) sa_nil)) sa_nil)) (blkOk_by (N := ["_law_script", "_law_k", "_law_box_here", "_law_thing", "_law_made_here", "_law_told", "_law_at", "_law_item"]) (sc := (defScope st_law)) (by decide +kernel)) (fun _ _ _ _ _ => (g_name 6 sc_law.nd)) (fun _ _ _ _ _ => (sts_one (st_w (sw_or (st_sc (sc_op (op_neO hr.units) o_ne (se_fn (ok__law_classes T) (hr.mono (by decide)) takes0 (sa_cons (se_ix (se_v 4) (se_v 6)) sa_nil)) (se_lst false (sa_cons (se_v 6) sa_nil)))) (sw_or1 (st_not (st_val (se_fn (ok__law_under T) (hr.mono (by decide)) takes0 (sa_cons (se_ix (se_v 4) (se_v 6)) sa_nil))))))))) (fun _ _ _ _ _ => (se_v 6)) (by decide)) (se_lst false sa_nil))) (ss_one (s_ret se_bl)) ss_nil) (ss_cons (s_set 5 sc_law.nd (se_fn (ok__law_fields T) (hr.mono (by decide)) tk (sa_cons (se_v 4) sa_nil))) (ss_cons (s_if (st_sc (sc_op (op_neO hr.units) o_ne (se_lc false (own := [("_law_item", 7)]) rfl sc_law.nd (i_val (se_v 5)) (blkOk_by (N := ["_law_script", "_law_k", "_law_box_here", "_law_thing", "_law_made_here", "_law_told", "_law_at", "_law_item"]) (sc := (defScope st_law)) (by decide +kernel)) (fun _ _ _ _ _ => (g_name 7 sc_law.nd)) (fun _ _ _ _ _ => (sts_one (st_w (sw_or (st_sc (sc_op (op_neO hr.units) o_ne (se_v 7) (se_v 3))) (sw_or1 (st_sc (sc_op (op_neO hr.units) o_ne (se_isi ii_bool T.n_isinstance T.n_bool (se_v 7)) (se_isi ii_bool T.n_isinstance T.n_bool (se_v 3))))))))) (fun _ _ _ _ _ => (se_v 7)) (by decide)) (se_lst false sa_nil))) (ss_one (s_ret se_bl)) ss_nil) (ss_one (s_if (st_w (sw_or (st_not (st_val (se_isXT T.i_ValueError T.n_isinstance T.n_ValueError (se_exvB T.b_PartsError.choose_spec.2 T.b_PartsError.choose_spec.1 (se_str [97]))))) (sw_or1 (st_sc (sc_op (op_neO hr.units) o_ne (se_fn (ok__law_classes T) (hr.mono (by decide)) tk (sa_cons (se_exvB T.b_PartsError.choose_spec.2 T.b_PartsError.choose_spec.1 (se_str [97])) sa_nil)) (se_lst false sa_nil)))))) (ss_one (s_ret se_bl)) ss_nil))))))))) (ss_one (s_ret se_bl)))
theorem ok_law {P : Program} {w : World} {K : PySem.W.Frag} {mg : Str → Option Value} {fa : Addr} (T : Txt P w K mg) (hfa : mg "law" = some (.ref fa)) : ∃ fd : FuncData, (∀ (s : Shared) (u : Value), BindsTo s fd ⟨[u], []⟩ [("_law_script", u)]) ∧ ∀ base : Heap, K.In base → base.Ns mainGlobals mg → FnOk P w K mg base (L2.CX P w) 2 fa fd ["_law_script"] (spS K mg 1 f_law) :=
  T.d_law.law (P := P) (w := w) (k := 1) hfa sc_law fun base f cdv A outer s H E hr => bd_law T f cdv A outer s H E hr
theorem txt_mk {P : Program} {w : World} {K : PySem.W.Frag} {h : Heap} {mg : Str → Option Value} (X : K.In h) (G : h.Ns mainGlobals mg)
    (anyK : PySem.W.nsIn K PySem.cStatics "thirdparty.any" = some none) (topK : (P.main.scope.names.lookup ("super" : Str)).isSome = false)
    {f0 : Addr} {od0 an0 : Option Addr} {sl0 : Array (Option Value)} {oc0 kV0 dc0 pm0 cd0 ct0 : Value} (a0 : PySem.W.nsIn K mainGlobals "_law_box" = some (some (.ref f0))) (l0 : K.lookup f0 = some ⟨oc0, od0, .func (PySem.W.fnOf "_law_box" "_law_box" (defArgs st__law_box) (defBody st__law_box) (defScope st__law_box) .none kV0 dc0 pm0 an0 cd0 ct0), sl0⟩) (c0 : PySem.W.codeIn K cd0 "_law_box" = true) (k0 : PySem.W.keepIn K (.ref f0) = true)
    {f1 : Addr} {od1 an1 : Option Addr} {sl1 : Array (Option Value)} {oc1 kV1 dc1 pm1 cd1 ct1 : Value} (a1 : PySem.W.nsIn K mainGlobals "_law_made" = some (some (.ref f1))) (l1 : K.lookup f1 = some ⟨oc1, od1, .func (PySem.W.fnOf "_law_made" "_law_made" (defArgs st__law_made) (defBody st__law_made) (defScope st__law_made) .none kV1 dc1 pm1 an1 cd1 ct1), sl1⟩) (c1 : PySem.W.codeIn K cd1 "_law_made" = true) (k1 : PySem.W.keepIn K (.ref f1) = true)
    {f2 : Addr} {od2 an2 : Option Addr} {sl2 : Array (Option Value)} {oc2 kV2 dc2 pm2 cd2 ct2 : Value} (a2 : PySem.W.nsIn K mainGlobals "_law_fields" = some (some (.ref f2))) (l2 : K.lookup f2 = some ⟨oc2, od2, .func (PySem.W.fnOf "_law_fields" "_law_fields" (defArgs st__law_fields) (defBody st__law_fields) (defScope st__law_fields) .none kV2 dc2 pm2 an2 cd2 ct2), sl2⟩) (c2 : PySem.W.codeIn K cd2 "_law_fields" = true) (k2 : PySem.W.keepIn K (.ref f2) = true)
    {f3 : Addr} {od3 an3 : Option Addr} {sl3 : Array (Option Value)} {oc3 kV3 dc3 pm3 cd3 ct3 : Value} (a3 : PySem.W.nsIn K mainGlobals "_law_cell" = some (some (.ref f3))) (l3 : K.lookup f3 = some ⟨oc3, od3, .func (PySem.W.fnOf "_law_cell" "_law_cell" (defArgs st__law_cell) (defBody st__law_cell) (defScope st__law_cell) .none kV3 dc3 pm3 an3 cd3 ct3), sl3⟩) (c3 : PySem.W.codeIn K cd3 "_law_cell" = true) (k3 : PySem.W.keepIn K (.ref f3) = true)
    {f4 : Addr} {od4 an4 : Option Addr} {sl4 : Array (Option Value)} {oc4 kV4 dc4 pm4 cd4 ct4 : Value} (a4 : PySem.W.nsIn K mainGlobals "_law_take" = some (some (.ref f4))) (l4 : K.lookup f4 = some ⟨oc4, od4, .func (PySem.W.fnOf "_law_take" "_law_take" (defArgs st__law_take) (defBody st__law_take) (defScope st__law_take) .none kV4 dc4 pm4 an4 cd4 ct4), sl4⟩) (c4 : PySem.W.codeIn K cd4 "_law_take" = true) (k4 : PySem.W.keepIn K (.ref f4) = true)
    {f5 : Addr} {od5 an5 : Option Addr} {sl5 : Array (Option Value)} {oc5 kV5 dc5 pm5 cd5 ct5 : Value} (a5 : PySem.W.nsIn K mainGlobals "_law_classes" = some (some (.ref f5))) (l5 : K.lookup f5 = some ⟨oc5, od5, .func (PySem.W.fnOf "_law_classes" "_law_classes" (defArgs st__law_classes) (defBody st__law_classes) (defScope st__law_classes) .none kV5 dc5 pm5 an5 cd5 ct5), sl5⟩) (c5 : PySem.W.codeIn K cd5 "_law_classes" = true) (k5 : PySem.W.keepIn K (.ref f5) = true)
    {f6 : Addr} {od6 an6 : Option Addr} {sl6 : Array (Option Value)} {oc6 kV6 dc6 pm6 cd6 ct6 : Value} (a6 : PySem.W.nsIn K mainGlobals "_law_under" = some (some (.ref f6))) (l6 : K.lookup f6 = some ⟨oc6, od6, .func (PySem.W.fnOf "_law_under" "_law_under" (defArgs st__law_under) (defBody st__law_under) (defScope st__law_under) .none kV6 dc6 pm6 an6 cd6 ct6), sl6⟩) (c6 : PySem.W.codeIn K cd6 "_law_under" = true) (k6 : PySem.W.keepIn K (.ref f6) = true)
    {f7 : Addr} {od7 an7 : Option Addr} {sl7 : Array (Option Value)} {oc7 kV7 dc7 pm7 cd7 ct7 : Value} (a7 : PySem.W.nsIn K mainGlobals "law" = some (some (.ref f7))) (l7 : K.lookup f7 = some ⟨oc7, od7, .func (PySem.W.fnOf "law" "law" (defArgs st_law) (defBody st_law) (defScope st_law) .none kV7 dc7 pm7 an7 cd7 ct7), sl7⟩) (c7 : PySem.W.codeIn K cd7 "law" = true) (k7 : PySem.W.keepIn K (.ref f7) = true)
    {C_Duplicate fI_Duplicate N_Duplicate cda_Duplicate cc_Duplicate : Addr} {nm_Duplicate qq_Duplicate file_Duplicate : Str} {bs_Duplicate bm_Duplicate sub_Duplicate : List Value} {sn_Duplicate : List Str} {ab_Duplicate : Bool} {col_Duplicate : Option Bool} {dd_Duplicate an_Duplicate od_Duplicate cdd_Duplicate cld_Duplicate : Option Addr} {k0_Duplicate k1_Duplicate k2_Duplicate k3_Duplicate k5_Duplicate : Option Value} {doc_Duplicate pm_Duplicate ct_Duplicate oc_Duplicate ccl_Duplicate cl_Duplicate : Value} {osl_Duplicate ccs_Duplicate csl_Duplicate : Array (Option Value)} {vs_Duplicate : Array Value} {tf_Duplicate : PySem.Tok} (nC_Duplicate : PySem.W.nsIn K mainGlobals "Duplicate" = some (some (.ref C_Duplicate))) (lk_Duplicate : K.lookup C_Duplicate = some (excClassObj nm_Duplicate qq_Duplicate C_Duplicate N_Duplicate bs_Duplicate bm_Duplicate true sn_Duplicate sub_Duplicate ab_Duplicate col_Duplicate dd_Duplicate k0_Duplicate k1_Duplicate k2_Duplicate k3_Duplicate k5_Duplicate "ValueError.__new__")) (rv_Duplicate : PySem.HandSPX.refsVE bm_Duplicate = true) (sa_Duplicate : PySem.W.findIn K (.ref C_Duplicate) "__setattr__" = some (some (.builtin "object.__setattr__"))) (ga_Duplicate : PySem.W.findIn K (.ref C_Duplicate) "__getattribute__" = some (some (.builtin "BaseException.__getattribute__"))) (gg_Duplicate : PySem.W.findIn K (.ref C_Duplicate) "__getattr__" = some none) (iC_Duplicate : PySem.W.findIn K (.ref C_Duplicate) "__init__" = some (some (.ref fI_Duplicate))) (tC_Duplicate : PySem.W.typeIn K (.ref fI_Duplicate) = some (.type "function")) (kC_Duplicate : PySem.W.keepIn K (.ref C_Duplicate) = true) (eC_Duplicate : PySem.W.subIn K (.ref C_Duplicate) (.type "BaseException") = some true) (tyC_Duplicate : PySem.W.typeIn K (.ref C_Duplicate) = some (.type "type")) (hdC_Duplicate : PySem.W.hasDictIn K C_Duplicate = true) (vE_Duplicate : PySem.W.subIn K (.ref C_Duplicate) (.type "ValueError") = some true) (ei_Duplicate : PySem.W.excInitIn K C_Duplicate SX.veL "ValueError.__new__" = true) (su_Duplicate : PySem.W.ks_superIn K C_Duplicate C_Duplicate "__init__" = some (some (.builtin "ValueError.__init__"))) (mr_Duplicate : PySem.W.mroIn K C_Duplicate (.ref C_Duplicate) = some true) (fl_Duplicate : K.lookup fI_Duplicate = some ⟨oc_Duplicate, od_Duplicate, .func (PySem.W.ksFn "__init__" "Duplicate.__init__" (defArgs (clsInit (topS 23))) (defBody (clsInit (topS 23))) (defScope (clsInit (topS 23))) .none .none doc_Duplicate pm_Duplicate an_Duplicate (.ref cda_Duplicate) ct_Duplicate cc_Duplicate), osl_Duplicate⟩) (cd_Duplicate : PySem.W.codeIn K (.ref cda_Duplicate) "Duplicate.__init__" = true) (lc_Duplicate : K.lookup cda_Duplicate = some ⟨ccl_Duplicate, cdd_Duplicate, .fields vs_Duplicate, ccs_Duplicate⟩) (v2_Duplicate : vs_Duplicate[2]? = some (.str file_Duplicate tf_Duplicate)) (fe_Duplicate : ((P.main.file : Str) == file_Duplicate) = true) (ce_Duplicate : K.lookup cc_Duplicate = some ⟨cl_Duplicate, cld_Duplicate, .cell (some (.ref C_Duplicate)), csl_Duplicate⟩) (no_Duplicate : PySem.W.findIn K (.ref C_Duplicate) "name" = some none)
    {C_Ended fI_Ended N_Ended cda_Ended cc_Ended : Addr} {nm_Ended qq_Ended file_Ended : Str} {bs_Ended bm_Ended sub_Ended : List Value} {sn_Ended : List Str} {ab_Ended : Bool} {col_Ended : Option Bool} {dd_Ended an_Ended od_Ended cdd_Ended cld_Ended : Option Addr} {k0_Ended k1_Ended k2_Ended k3_Ended k5_Ended : Option Value} {doc_Ended pm_Ended ct_Ended oc_Ended ccl_Ended cl_Ended : Value} {osl_Ended ccs_Ended csl_Ended : Array (Option Value)} {vs_Ended : Array Value} {tf_Ended : PySem.Tok} (nC_Ended : PySem.W.nsIn K mainGlobals "Ended" = some (some (.ref C_Ended))) (lk_Ended : K.lookup C_Ended = some (excClassObj nm_Ended qq_Ended C_Ended N_Ended bs_Ended bm_Ended true sn_Ended sub_Ended ab_Ended col_Ended dd_Ended k0_Ended k1_Ended k2_Ended k3_Ended k5_Ended "ValueError.__new__")) (rv_Ended : PySem.HandSPX.refsVE bm_Ended = true) (sa_Ended : PySem.W.findIn K (.ref C_Ended) "__setattr__" = some (some (.builtin "object.__setattr__"))) (ga_Ended : PySem.W.findIn K (.ref C_Ended) "__getattribute__" = some (some (.builtin "BaseException.__getattribute__"))) (gg_Ended : PySem.W.findIn K (.ref C_Ended) "__getattr__" = some none) (iC_Ended : PySem.W.findIn K (.ref C_Ended) "__init__" = some (some (.ref fI_Ended))) (tC_Ended : PySem.W.typeIn K (.ref fI_Ended) = some (.type "function")) (kC_Ended : PySem.W.keepIn K (.ref C_Ended) = true) (eC_Ended : PySem.W.subIn K (.ref C_Ended) (.type "BaseException") = some true) (tyC_Ended : PySem.W.typeIn K (.ref C_Ended) = some (.type "type")) (hdC_Ended : PySem.W.hasDictIn K C_Ended = true) (vE_Ended : PySem.W.subIn K (.ref C_Ended) (.type "ValueError") = some true) (ei_Ended : PySem.W.excInitIn K C_Ended SX.veL "ValueError.__new__" = true) (su_Ended : PySem.W.ks_superIn K C_Ended C_Ended "__init__" = some (some (.builtin "ValueError.__init__"))) (mr_Ended : PySem.W.mroIn K C_Ended (.ref C_Ended) = some true) (fl_Ended : K.lookup fI_Ended = some ⟨oc_Ended, od_Ended, .func (PySem.W.ksFn "__init__" "Ended.__init__" (defArgs (clsInit (topS 33))) (defBody (clsInit (topS 33))) (defScope (clsInit (topS 33))) .none .none doc_Ended pm_Ended an_Ended (.ref cda_Ended) ct_Ended cc_Ended), osl_Ended⟩) (cd_Ended : PySem.W.codeIn K (.ref cda_Ended) "Ended.__init__" = true) (lc_Ended : K.lookup cda_Ended = some ⟨ccl_Ended, cdd_Ended, .fields vs_Ended, ccs_Ended⟩) (v2_Ended : vs_Ended[2]? = some (.str file_Ended tf_Ended)) (fe_Ended : ((P.main.file : Str) == file_Ended) = true) (ce_Ended : K.lookup cc_Ended = some ⟨cl_Ended, cld_Ended, .cell (some (.ref C_Ended)), csl_Ended⟩) (no_Ended : PySem.W.findIn K (.ref C_Ended) "number" = some none)
    {C_InvalidCatalog fI_InvalidCatalog N_InvalidCatalog cda_InvalidCatalog cc_InvalidCatalog : Addr} {nm_InvalidCatalog qq_InvalidCatalog file_InvalidCatalog : Str} {bs_InvalidCatalog bm_InvalidCatalog sub_InvalidCatalog : List Value} {sn_InvalidCatalog : List Str} {ab_InvalidCatalog : Bool} {col_InvalidCatalog : Option Bool} {dd_InvalidCatalog an_InvalidCatalog od_InvalidCatalog cdd_InvalidCatalog cld_InvalidCatalog : Option Addr} {k0_InvalidCatalog k1_InvalidCatalog k2_InvalidCatalog k3_InvalidCatalog k5_InvalidCatalog : Option Value} {doc_InvalidCatalog pm_InvalidCatalog ct_InvalidCatalog oc_InvalidCatalog ccl_InvalidCatalog cl_InvalidCatalog : Value} {osl_InvalidCatalog ccs_InvalidCatalog csl_InvalidCatalog : Array (Option Value)} {vs_InvalidCatalog : Array Value} {tf_InvalidCatalog : PySem.Tok} (nC_InvalidCatalog : PySem.W.nsIn K mainGlobals "InvalidCatalog" = some (some (.ref C_InvalidCatalog))) (lk_InvalidCatalog : K.lookup C_InvalidCatalog = some (excClassObj nm_InvalidCatalog qq_InvalidCatalog C_InvalidCatalog N_InvalidCatalog bs_InvalidCatalog bm_InvalidCatalog true sn_InvalidCatalog sub_InvalidCatalog ab_InvalidCatalog col_InvalidCatalog dd_InvalidCatalog k0_InvalidCatalog k1_InvalidCatalog k2_InvalidCatalog k3_InvalidCatalog k5_InvalidCatalog "ValueError.__new__")) (rv_InvalidCatalog : PySem.HandSPX.refsVE bm_InvalidCatalog = true) (sa_InvalidCatalog : PySem.W.findIn K (.ref C_InvalidCatalog) "__setattr__" = some (some (.builtin "object.__setattr__"))) (ga_InvalidCatalog : PySem.W.findIn K (.ref C_InvalidCatalog) "__getattribute__" = some (some (.builtin "BaseException.__getattribute__"))) (gg_InvalidCatalog : PySem.W.findIn K (.ref C_InvalidCatalog) "__getattr__" = some none) (iC_InvalidCatalog : PySem.W.findIn K (.ref C_InvalidCatalog) "__init__" = some (some (.ref fI_InvalidCatalog))) (tC_InvalidCatalog : PySem.W.typeIn K (.ref fI_InvalidCatalog) = some (.type "function")) (kC_InvalidCatalog : PySem.W.keepIn K (.ref C_InvalidCatalog) = true) (eC_InvalidCatalog : PySem.W.subIn K (.ref C_InvalidCatalog) (.type "BaseException") = some true) (tyC_InvalidCatalog : PySem.W.typeIn K (.ref C_InvalidCatalog) = some (.type "type")) (hdC_InvalidCatalog : PySem.W.hasDictIn K C_InvalidCatalog = true) (vE_InvalidCatalog : PySem.W.subIn K (.ref C_InvalidCatalog) (.type "ValueError") = some true) (ei_InvalidCatalog : PySem.W.excInitIn K C_InvalidCatalog SX.veL "ValueError.__new__" = true) (su_InvalidCatalog : PySem.W.ks_superIn K C_InvalidCatalog C_InvalidCatalog "__init__" = some (some (.builtin "ValueError.__init__"))) (mr_InvalidCatalog : PySem.W.mroIn K C_InvalidCatalog (.ref C_InvalidCatalog) = some true) (fl_InvalidCatalog : K.lookup fI_InvalidCatalog = some ⟨oc_InvalidCatalog, od_InvalidCatalog, .func (PySem.W.ksFn "__init__" "InvalidCatalog.__init__" (defArgs (clsInit (topS 6))) (defBody (clsInit (topS 6))) (defScope (clsInit (topS 6))) .none .none doc_InvalidCatalog pm_InvalidCatalog an_InvalidCatalog (.ref cda_InvalidCatalog) ct_InvalidCatalog cc_InvalidCatalog), osl_InvalidCatalog⟩) (cd_InvalidCatalog : PySem.W.codeIn K (.ref cda_InvalidCatalog) "InvalidCatalog.__init__" = true) (lc_InvalidCatalog : K.lookup cda_InvalidCatalog = some ⟨ccl_InvalidCatalog, cdd_InvalidCatalog, .fields vs_InvalidCatalog, ccs_InvalidCatalog⟩) (v2_InvalidCatalog : vs_InvalidCatalog[2]? = some (.str file_InvalidCatalog tf_InvalidCatalog)) (fe_InvalidCatalog : ((P.main.file : Str) == file_InvalidCatalog) = true) (ce_InvalidCatalog : K.lookup cc_InvalidCatalog = some ⟨cl_InvalidCatalog, cld_InvalidCatalog, .cell (some (.ref C_InvalidCatalog)), csl_InvalidCatalog⟩) (no_InvalidCatalog : PySem.W.findIn K (.ref C_InvalidCatalog) "value" = some none)
    {C_InvalidChange fI_InvalidChange N_InvalidChange cda_InvalidChange cc_InvalidChange : Addr} {nm_InvalidChange qq_InvalidChange file_InvalidChange : Str} {bs_InvalidChange bm_InvalidChange sub_InvalidChange : List Value} {sn_InvalidChange : List Str} {ab_InvalidChange : Bool} {col_InvalidChange : Option Bool} {dd_InvalidChange an_InvalidChange od_InvalidChange cdd_InvalidChange cld_InvalidChange : Option Addr} {k0_InvalidChange k1_InvalidChange k2_InvalidChange k3_InvalidChange k5_InvalidChange : Option Value} {doc_InvalidChange pm_InvalidChange ct_InvalidChange oc_InvalidChange ccl_InvalidChange cl_InvalidChange : Value} {osl_InvalidChange ccs_InvalidChange csl_InvalidChange : Array (Option Value)} {vs_InvalidChange : Array Value} {tf_InvalidChange : PySem.Tok} (nC_InvalidChange : PySem.W.nsIn K mainGlobals "InvalidChange" = some (some (.ref C_InvalidChange))) (lk_InvalidChange : K.lookup C_InvalidChange = some (excClassObj nm_InvalidChange qq_InvalidChange C_InvalidChange N_InvalidChange bs_InvalidChange bm_InvalidChange true sn_InvalidChange sub_InvalidChange ab_InvalidChange col_InvalidChange dd_InvalidChange k0_InvalidChange k1_InvalidChange k2_InvalidChange k3_InvalidChange k5_InvalidChange "ValueError.__new__")) (rv_InvalidChange : PySem.HandSPX.refsVE bm_InvalidChange = true) (sa_InvalidChange : PySem.W.findIn K (.ref C_InvalidChange) "__setattr__" = some (some (.builtin "object.__setattr__"))) (ga_InvalidChange : PySem.W.findIn K (.ref C_InvalidChange) "__getattribute__" = some (some (.builtin "BaseException.__getattribute__"))) (gg_InvalidChange : PySem.W.findIn K (.ref C_InvalidChange) "__getattr__" = some none) (iC_InvalidChange : PySem.W.findIn K (.ref C_InvalidChange) "__init__" = some (some (.ref fI_InvalidChange))) (tC_InvalidChange : PySem.W.typeIn K (.ref fI_InvalidChange) = some (.type "function")) (kC_InvalidChange : PySem.W.keepIn K (.ref C_InvalidChange) = true) (eC_InvalidChange : PySem.W.subIn K (.ref C_InvalidChange) (.type "BaseException") = some true) (tyC_InvalidChange : PySem.W.typeIn K (.ref C_InvalidChange) = some (.type "type")) (hdC_InvalidChange : PySem.W.hasDictIn K C_InvalidChange = true) (vE_InvalidChange : PySem.W.subIn K (.ref C_InvalidChange) (.type "ValueError") = some true) (ei_InvalidChange : PySem.W.excInitIn K C_InvalidChange SX.veL "ValueError.__new__" = true) (su_InvalidChange : PySem.W.ks_superIn K C_InvalidChange C_InvalidChange "__init__" = some (some (.builtin "ValueError.__init__"))) (mr_InvalidChange : PySem.W.mroIn K C_InvalidChange (.ref C_InvalidChange) = some true) (fl_InvalidChange : K.lookup fI_InvalidChange = some ⟨oc_InvalidChange, od_InvalidChange, .func (PySem.W.ksFn "__init__" "InvalidChange.__init__" (defArgs (clsInit (topS 7))) (defBody (clsInit (topS 7))) (defScope (clsInit (topS 7))) .none .none doc_InvalidChange pm_InvalidChange an_InvalidChange (.ref cda_InvalidChange) ct_InvalidChange cc_InvalidChange), osl_InvalidChange⟩) (cd_InvalidChange : PySem.W.codeIn K (.ref cda_InvalidChange) "InvalidChange.__init__" = true) (lc_InvalidChange : K.lookup cda_InvalidChange = some ⟨ccl_InvalidChange, cdd_InvalidChange, .fields vs_InvalidChange, ccs_InvalidChange⟩) (v2_InvalidChange : vs_InvalidChange[2]? = some (.str file_InvalidChange tf_InvalidChange)) (fe_InvalidChange : ((P.main.file : Str) == file_InvalidChange) = true) (ce_InvalidChange : K.lookup cc_InvalidChange = some ⟨cl_InvalidChange, cld_InvalidChange, .cell (some (.ref C_InvalidChange)), csl_InvalidChange⟩) (no_InvalidChange : PySem.W.findIn K (.ref C_InvalidChange) "value" = some none)
    {C_InvalidClash fI_InvalidClash N_InvalidClash cda_InvalidClash cc_InvalidClash : Addr} {nm_InvalidClash qq_InvalidClash file_InvalidClash : Str} {bs_InvalidClash bm_InvalidClash sub_InvalidClash : List Value} {sn_InvalidClash : List Str} {ab_InvalidClash : Bool} {col_InvalidClash : Option Bool} {dd_InvalidClash an_InvalidClash od_InvalidClash cdd_InvalidClash cld_InvalidClash : Option Addr} {k0_InvalidClash k1_InvalidClash k2_InvalidClash k3_InvalidClash k5_InvalidClash : Option Value} {doc_InvalidClash pm_InvalidClash ct_InvalidClash oc_InvalidClash ccl_InvalidClash cl_InvalidClash : Value} {osl_InvalidClash ccs_InvalidClash csl_InvalidClash : Array (Option Value)} {vs_InvalidClash : Array Value} {tf_InvalidClash : PySem.Tok} (nC_InvalidClash : PySem.W.nsIn K mainGlobals "InvalidClash" = some (some (.ref C_InvalidClash))) (lk_InvalidClash : K.lookup C_InvalidClash = some (excClassObj nm_InvalidClash qq_InvalidClash C_InvalidClash N_InvalidClash bs_InvalidClash bm_InvalidClash true sn_InvalidClash sub_InvalidClash ab_InvalidClash col_InvalidClash dd_InvalidClash k0_InvalidClash k1_InvalidClash k2_InvalidClash k3_InvalidClash k5_InvalidClash "ValueError.__new__")) (rv_InvalidClash : PySem.HandSPX.refsVE bm_InvalidClash = true) (sa_InvalidClash : PySem.W.findIn K (.ref C_InvalidClash) "__setattr__" = some (some (.builtin "object.__setattr__"))) (ga_InvalidClash : PySem.W.findIn K (.ref C_InvalidClash) "__getattribute__" = some (some (.builtin "BaseException.__getattribute__"))) (gg_InvalidClash : PySem.W.findIn K (.ref C_InvalidClash) "__getattr__" = some none) (iC_InvalidClash : PySem.W.findIn K (.ref C_InvalidClash) "__init__" = some (some (.ref fI_InvalidClash))) (tC_InvalidClash : PySem.W.typeIn K (.ref fI_InvalidClash) = some (.type "function")) (kC_InvalidClash : PySem.W.keepIn K (.ref C_InvalidClash) = true) (eC_InvalidClash : PySem.W.subIn K (.ref C_InvalidClash) (.type "BaseException") = some true) (tyC_InvalidClash : PySem.W.typeIn K (.ref C_InvalidClash) = some (.type "type")) (hdC_InvalidClash : PySem.W.hasDictIn K C_InvalidClash = true) (vE_InvalidClash : PySem.W.subIn K (.ref C_InvalidClash) (.type "ValueError") = some true) (ei_InvalidClash : PySem.W.excInitIn K C_InvalidClash SX.veL "ValueError.__new__" = true) (su_InvalidClash : PySem.W.ks_superIn K C_InvalidClash C_InvalidClash "__init__" = some (some (.builtin "ValueError.__init__"))) (mr_InvalidClash : PySem.W.mroIn K C_InvalidClash (.ref C_InvalidClash) = some true) (fl_InvalidClash : K.lookup fI_InvalidClash = some ⟨oc_InvalidClash, od_InvalidClash, .func (PySem.W.ksFn "__init__" "InvalidClash.__init__" (defArgs (clsInit (topS 9))) (defBody (clsInit (topS 9))) (defScope (clsInit (topS 9))) .none .none doc_InvalidClash pm_InvalidClash an_InvalidClash (.ref cda_InvalidClash) ct_InvalidClash cc_InvalidClash), osl_InvalidClash⟩) (cd_InvalidClash : PySem.W.codeIn K (.ref cda_InvalidClash) "InvalidClash.__init__" = true) (lc_InvalidClash : K.lookup cda_InvalidClash = some ⟨ccl_InvalidClash, cdd_InvalidClash, .fields vs_InvalidClash, ccs_InvalidClash⟩) (v2_InvalidClash : vs_InvalidClash[2]? = some (.str file_InvalidClash tf_InvalidClash)) (fe_InvalidClash : ((P.main.file : Str) == file_InvalidClash) = true) (ce_InvalidClash : K.lookup cc_InvalidClash = some ⟨cl_InvalidClash, cld_InvalidClash, .cell (some (.ref C_InvalidClash)), csl_InvalidClash⟩) (no_InvalidClash : PySem.W.findIn K (.ref C_InvalidClash) "value" = some none)
    {C_InvalidCommand fI_InvalidCommand N_InvalidCommand cda_InvalidCommand cc_InvalidCommand : Addr} {nm_InvalidCommand qq_InvalidCommand file_InvalidCommand : Str} {bs_InvalidCommand bm_InvalidCommand sub_InvalidCommand : List Value} {sn_InvalidCommand : List Str} {ab_InvalidCommand : Bool} {col_InvalidCommand : Option Bool} {dd_InvalidCommand an_InvalidCommand od_InvalidCommand cdd_InvalidCommand cld_InvalidCommand : Option Addr} {k0_InvalidCommand k1_InvalidCommand k2_InvalidCommand k3_InvalidCommand k5_InvalidCommand : Option Value} {doc_InvalidCommand pm_InvalidCommand ct_InvalidCommand oc_InvalidCommand ccl_InvalidCommand cl_InvalidCommand : Value} {osl_InvalidCommand ccs_InvalidCommand csl_InvalidCommand : Array (Option Value)} {vs_InvalidCommand : Array Value} {tf_InvalidCommand : PySem.Tok} (nC_InvalidCommand : PySem.W.nsIn K mainGlobals "InvalidCommand" = some (some (.ref C_InvalidCommand))) (lk_InvalidCommand : K.lookup C_InvalidCommand = some (excClassObj nm_InvalidCommand qq_InvalidCommand C_InvalidCommand N_InvalidCommand bs_InvalidCommand bm_InvalidCommand true sn_InvalidCommand sub_InvalidCommand ab_InvalidCommand col_InvalidCommand dd_InvalidCommand k0_InvalidCommand k1_InvalidCommand k2_InvalidCommand k3_InvalidCommand k5_InvalidCommand "ValueError.__new__")) (rv_InvalidCommand : PySem.HandSPX.refsVE bm_InvalidCommand = true) (sa_InvalidCommand : PySem.W.findIn K (.ref C_InvalidCommand) "__setattr__" = some (some (.builtin "object.__setattr__"))) (ga_InvalidCommand : PySem.W.findIn K (.ref C_InvalidCommand) "__getattribute__" = some (some (.builtin "BaseException.__getattribute__"))) (gg_InvalidCommand : PySem.W.findIn K (.ref C_InvalidCommand) "__getattr__" = some none) (iC_InvalidCommand : PySem.W.findIn K (.ref C_InvalidCommand) "__init__" = some (some (.ref fI_InvalidCommand))) (tC_InvalidCommand : PySem.W.typeIn K (.ref fI_InvalidCommand) = some (.type "function")) (kC_InvalidCommand : PySem.W.keepIn K (.ref C_InvalidCommand) = true) (eC_InvalidCommand : PySem.W.subIn K (.ref C_InvalidCommand) (.type "BaseException") = some true) (tyC_InvalidCommand : PySem.W.typeIn K (.ref C_InvalidCommand) = some (.type "type")) (hdC_InvalidCommand : PySem.W.hasDictIn K C_InvalidCommand = true) (vE_InvalidCommand : PySem.W.subIn K (.ref C_InvalidCommand) (.type "ValueError") = some true) (ei_InvalidCommand : PySem.W.excInitIn K C_InvalidCommand SX.veL "ValueError.__new__" = true) (su_InvalidCommand : PySem.W.ks_superIn K C_InvalidCommand C_InvalidCommand "__init__" = some (some (.builtin "ValueError.__init__"))) (mr_InvalidCommand : PySem.W.mroIn K C_InvalidCommand (.ref C_InvalidCommand) = some true) (fl_InvalidCommand : K.lookup fI_InvalidCommand = some ⟨oc_InvalidCommand, od_InvalidCommand, .func (PySem.W.ksFn "__init__" "InvalidCommand.__init__" (defArgs (clsInit (topS 22))) (defBody (clsInit (topS 22))) (defScope (clsInit (topS 22))) .none .none doc_InvalidCommand pm_InvalidCommand an_InvalidCommand (.ref cda_InvalidCommand) ct_InvalidCommand cc_InvalidCommand), osl_InvalidCommand⟩) (cd_InvalidCommand : PySem.W.codeIn K (.ref cda_InvalidCommand) "InvalidCommand.__init__" = true) (lc_InvalidCommand : K.lookup cda_InvalidCommand = some ⟨ccl_InvalidCommand, cdd_InvalidCommand, .fields vs_InvalidCommand, ccs_InvalidCommand⟩) (v2_InvalidCommand : vs_InvalidCommand[2]? = some (.str file_InvalidCommand tf_InvalidCommand)) (fe_InvalidCommand : ((P.main.file : Str) == file_InvalidCommand) = true) (ce_InvalidCommand : K.lookup cc_InvalidCommand = some ⟨cl_InvalidCommand, cld_InvalidCommand, .cell (some (.ref C_InvalidCommand)), csl_InvalidCommand⟩) (no_InvalidCommand : PySem.W.findIn K (.ref C_InvalidCommand) "value" = some none)
    {C_InvalidKey fI_InvalidKey N_InvalidKey cda_InvalidKey cc_InvalidKey : Addr} {nm_InvalidKey qq_InvalidKey file_InvalidKey : Str} {bs_InvalidKey bm_InvalidKey sub_InvalidKey : List Value} {sn_InvalidKey : List Str} {ab_InvalidKey : Bool} {col_InvalidKey : Option Bool} {dd_InvalidKey an_InvalidKey od_InvalidKey cdd_InvalidKey cld_InvalidKey : Option Addr} {k0_InvalidKey k1_InvalidKey k2_InvalidKey k3_InvalidKey k5_InvalidKey : Option Value} {doc_InvalidKey pm_InvalidKey ct_InvalidKey oc_InvalidKey ccl_InvalidKey cl_InvalidKey : Value} {osl_InvalidKey ccs_InvalidKey csl_InvalidKey : Array (Option Value)} {vs_InvalidKey : Array Value} {tf_InvalidKey : PySem.Tok} (nC_InvalidKey : PySem.W.nsIn K mainGlobals "InvalidKey" = some (some (.ref C_InvalidKey))) (lk_InvalidKey : K.lookup C_InvalidKey = some (excClassObj nm_InvalidKey qq_InvalidKey C_InvalidKey N_InvalidKey bs_InvalidKey bm_InvalidKey true sn_InvalidKey sub_InvalidKey ab_InvalidKey col_InvalidKey dd_InvalidKey k0_InvalidKey k1_InvalidKey k2_InvalidKey k3_InvalidKey k5_InvalidKey "ValueError.__new__")) (rv_InvalidKey : PySem.HandSPX.refsVE bm_InvalidKey = true) (sa_InvalidKey : PySem.W.findIn K (.ref C_InvalidKey) "__setattr__" = some (some (.builtin "object.__setattr__"))) (ga_InvalidKey : PySem.W.findIn K (.ref C_InvalidKey) "__getattribute__" = some (some (.builtin "BaseException.__getattribute__"))) (gg_InvalidKey : PySem.W.findIn K (.ref C_InvalidKey) "__getattr__" = some none) (iC_InvalidKey : PySem.W.findIn K (.ref C_InvalidKey) "__init__" = some (some (.ref fI_InvalidKey))) (tC_InvalidKey : PySem.W.typeIn K (.ref fI_InvalidKey) = some (.type "function")) (kC_InvalidKey : PySem.W.keepIn K (.ref C_InvalidKey) = true) (eC_InvalidKey : PySem.W.subIn K (.ref C_InvalidKey) (.type "BaseException") = some true) (tyC_InvalidKey : PySem.W.typeIn K (.ref C_InvalidKey) = some (.type "type")) (hdC_InvalidKey : PySem.W.hasDictIn K C_InvalidKey = true) (vE_InvalidKey : PySem.W.subIn K (.ref C_InvalidKey) (.type "ValueError") = some true) (ei_InvalidKey : PySem.W.excInitIn K C_InvalidKey SX.veL "ValueError.__new__" = true) (su_InvalidKey : PySem.W.ks_superIn K C_InvalidKey C_InvalidKey "__init__" = some (some (.builtin "ValueError.__init__"))) (mr_InvalidKey : PySem.W.mroIn K C_InvalidKey (.ref C_InvalidKey) = some true) (fl_InvalidKey : K.lookup fI_InvalidKey = some ⟨oc_InvalidKey, od_InvalidKey, .func (PySem.W.ksFn "__init__" "InvalidKey.__init__" (defArgs (clsInit (topS 3))) (defBody (clsInit (topS 3))) (defScope (clsInit (topS 3))) .none .none doc_InvalidKey pm_InvalidKey an_InvalidKey (.ref cda_InvalidKey) ct_InvalidKey cc_InvalidKey), osl_InvalidKey⟩) (cd_InvalidKey : PySem.W.codeIn K (.ref cda_InvalidKey) "InvalidKey.__init__" = true) (lc_InvalidKey : K.lookup cda_InvalidKey = some ⟨ccl_InvalidKey, cdd_InvalidKey, .fields vs_InvalidKey, ccs_InvalidKey⟩) (v2_InvalidKey : vs_InvalidKey[2]? = some (.str file_InvalidKey tf_InvalidKey)) (fe_InvalidKey : ((P.main.file : Str) == file_InvalidKey) = true) (ce_InvalidKey : K.lookup cc_InvalidKey = some ⟨cl_InvalidKey, cld_InvalidKey, .cell (some (.ref C_InvalidKey)), csl_InvalidKey⟩) (no_InvalidKey : PySem.W.findIn K (.ref C_InvalidKey) "value" = some none)
    {C_InvalidLog fI_InvalidLog N_InvalidLog cda_InvalidLog cc_InvalidLog : Addr} {nm_InvalidLog qq_InvalidLog file_InvalidLog : Str} {bs_InvalidLog bm_InvalidLog sub_InvalidLog : List Value} {sn_InvalidLog : List Str} {ab_InvalidLog : Bool} {col_InvalidLog : Option Bool} {dd_InvalidLog an_InvalidLog od_InvalidLog cdd_InvalidLog cld_InvalidLog : Option Addr} {k0_InvalidLog k1_InvalidLog k2_InvalidLog k3_InvalidLog k5_InvalidLog : Option Value} {doc_InvalidLog pm_InvalidLog ct_InvalidLog oc_InvalidLog ccl_InvalidLog cl_InvalidLog : Value} {osl_InvalidLog ccs_InvalidLog csl_InvalidLog : Array (Option Value)} {vs_InvalidLog : Array Value} {tf_InvalidLog : PySem.Tok} (nC_InvalidLog : PySem.W.nsIn K mainGlobals "InvalidLog" = some (some (.ref C_InvalidLog))) (lk_InvalidLog : K.lookup C_InvalidLog = some (excClassObj nm_InvalidLog qq_InvalidLog C_InvalidLog N_InvalidLog bs_InvalidLog bm_InvalidLog true sn_InvalidLog sub_InvalidLog ab_InvalidLog col_InvalidLog dd_InvalidLog k0_InvalidLog k1_InvalidLog k2_InvalidLog k3_InvalidLog k5_InvalidLog "ValueError.__new__")) (rv_InvalidLog : PySem.HandSPX.refsVE bm_InvalidLog = true) (sa_InvalidLog : PySem.W.findIn K (.ref C_InvalidLog) "__setattr__" = some (some (.builtin "object.__setattr__"))) (ga_InvalidLog : PySem.W.findIn K (.ref C_InvalidLog) "__getattribute__" = some (some (.builtin "BaseException.__getattribute__"))) (gg_InvalidLog : PySem.W.findIn K (.ref C_InvalidLog) "__getattr__" = some none) (iC_InvalidLog : PySem.W.findIn K (.ref C_InvalidLog) "__init__" = some (some (.ref fI_InvalidLog))) (tC_InvalidLog : PySem.W.typeIn K (.ref fI_InvalidLog) = some (.type "function")) (kC_InvalidLog : PySem.W.keepIn K (.ref C_InvalidLog) = true) (eC_InvalidLog : PySem.W.subIn K (.ref C_InvalidLog) (.type "BaseException") = some true) (tyC_InvalidLog : PySem.W.typeIn K (.ref C_InvalidLog) = some (.type "type")) (hdC_InvalidLog : PySem.W.hasDictIn K C_InvalidLog = true) (vE_InvalidLog : PySem.W.subIn K (.ref C_InvalidLog) (.type "ValueError") = some true) (ei_InvalidLog : PySem.W.excInitIn K C_InvalidLog SX.veL "ValueError.__new__" = true) (su_InvalidLog : PySem.W.ks_superIn K C_InvalidLog C_InvalidLog "__init__" = some (some (.builtin "ValueError.__init__"))) (mr_InvalidLog : PySem.W.mroIn K C_InvalidLog (.ref C_InvalidLog) = some true) (fl_InvalidLog : K.lookup fI_InvalidLog = some ⟨oc_InvalidLog, od_InvalidLog, .func (PySem.W.ksFn "__init__" "InvalidLog.__init__" (defArgs (clsInit (topS 20))) (defBody (clsInit (topS 20))) (defScope (clsInit (topS 20))) .none .none doc_InvalidLog pm_InvalidLog an_InvalidLog (.ref cda_InvalidLog) ct_InvalidLog cc_InvalidLog), osl_InvalidLog⟩) (cd_InvalidLog : PySem.W.codeIn K (.ref cda_InvalidLog) "InvalidLog.__init__" = true) (lc_InvalidLog : K.lookup cda_InvalidLog = some ⟨ccl_InvalidLog, cdd_InvalidLog, .fields vs_InvalidLog, ccs_InvalidLog⟩) (v2_InvalidLog : vs_InvalidLog[2]? = some (.str file_InvalidLog tf_InvalidLog)) (fe_InvalidLog : ((P.main.file : Str) == file_InvalidLog) = true) (ce_InvalidLog : K.lookup cc_InvalidLog = some ⟨cl_InvalidLog, cld_InvalidLog, .cell (some (.ref C_InvalidLog)), csl_InvalidLog⟩) (no_InvalidLog : PySem.W.findIn K (.ref C_InvalidLog) "value" = some none)
    {C_InvalidModes fI_InvalidModes N_InvalidModes cda_InvalidModes cc_InvalidModes : Addr} {nm_InvalidModes qq_InvalidModes file_InvalidModes : Str} {bs_InvalidModes bm_InvalidModes sub_InvalidModes : List Value} {sn_InvalidModes : List Str} {ab_InvalidModes : Bool} {col_InvalidModes : Option Bool} {dd_InvalidModes an_InvalidModes od_InvalidModes cdd_InvalidModes cld_InvalidModes : Option Addr} {k0_InvalidModes k1_InvalidModes k2_InvalidModes k3_InvalidModes k5_InvalidModes : Option Value} {doc_InvalidModes pm_InvalidModes ct_InvalidModes oc_InvalidModes ccl_InvalidModes cl_InvalidModes : Value} {osl_InvalidModes ccs_InvalidModes csl_InvalidModes : Array (Option Value)} {vs_InvalidModes : Array Value} {tf_InvalidModes : PySem.Tok} (nC_InvalidModes : PySem.W.nsIn K mainGlobals "InvalidModes" = some (some (.ref C_InvalidModes))) (lk_InvalidModes : K.lookup C_InvalidModes = some (excClassObj nm_InvalidModes qq_InvalidModes C_InvalidModes N_InvalidModes bs_InvalidModes bm_InvalidModes true sn_InvalidModes sub_InvalidModes ab_InvalidModes col_InvalidModes dd_InvalidModes k0_InvalidModes k1_InvalidModes k2_InvalidModes k3_InvalidModes k5_InvalidModes "ValueError.__new__")) (rv_InvalidModes : PySem.HandSPX.refsVE bm_InvalidModes = true) (sa_InvalidModes : PySem.W.findIn K (.ref C_InvalidModes) "__setattr__" = some (some (.builtin "object.__setattr__"))) (ga_InvalidModes : PySem.W.findIn K (.ref C_InvalidModes) "__getattribute__" = some (some (.builtin "BaseException.__getattribute__"))) (gg_InvalidModes : PySem.W.findIn K (.ref C_InvalidModes) "__getattr__" = some none) (iC_InvalidModes : PySem.W.findIn K (.ref C_InvalidModes) "__init__" = some (some (.ref fI_InvalidModes))) (tC_InvalidModes : PySem.W.typeIn K (.ref fI_InvalidModes) = some (.type "function")) (kC_InvalidModes : PySem.W.keepIn K (.ref C_InvalidModes) = true) (eC_InvalidModes : PySem.W.subIn K (.ref C_InvalidModes) (.type "BaseException") = some true) (tyC_InvalidModes : PySem.W.typeIn K (.ref C_InvalidModes) = some (.type "type")) (hdC_InvalidModes : PySem.W.hasDictIn K C_InvalidModes = true) (vE_InvalidModes : PySem.W.subIn K (.ref C_InvalidModes) (.type "ValueError") = some true) (ei_InvalidModes : PySem.W.excInitIn K C_InvalidModes SX.veL "ValueError.__new__" = true) (su_InvalidModes : PySem.W.ks_superIn K C_InvalidModes C_InvalidModes "__init__" = some (some (.builtin "ValueError.__init__"))) (mr_InvalidModes : PySem.W.mroIn K C_InvalidModes (.ref C_InvalidModes) = some true) (fl_InvalidModes : K.lookup fI_InvalidModes = some ⟨oc_InvalidModes, od_InvalidModes, .func (PySem.W.ksFn "__init__" "InvalidModes.__init__" (defArgs (clsInit (topS 8))) (defBody (clsInit (topS 8))) (defScope (clsInit (topS 8))) .none .none doc_InvalidModes pm_InvalidModes an_InvalidModes (.ref cda_InvalidModes) ct_InvalidModes cc_InvalidModes), osl_InvalidModes⟩) (cd_InvalidModes : PySem.W.codeIn K (.ref cda_InvalidModes) "InvalidModes.__init__" = true) (lc_InvalidModes : K.lookup cda_InvalidModes = some ⟨ccl_InvalidModes, cdd_InvalidModes, .fields vs_InvalidModes, ccs_InvalidModes⟩) (v2_InvalidModes : vs_InvalidModes[2]? = some (.str file_InvalidModes tf_InvalidModes)) (fe_InvalidModes : ((P.main.file : Str) == file_InvalidModes) = true) (ce_InvalidModes : K.lookup cc_InvalidModes = some ⟨cl_InvalidModes, cld_InvalidModes, .cell (some (.ref C_InvalidModes)), csl_InvalidModes⟩) (no_InvalidModes : PySem.W.findIn K (.ref C_InvalidModes) "value" = some none)
    {C_InvalidName fI_InvalidName N_InvalidName cda_InvalidName cc_InvalidName : Addr} {nm_InvalidName qq_InvalidName file_InvalidName : Str} {bs_InvalidName bm_InvalidName sub_InvalidName : List Value} {sn_InvalidName : List Str} {ab_InvalidName : Bool} {col_InvalidName : Option Bool} {dd_InvalidName an_InvalidName od_InvalidName cdd_InvalidName cld_InvalidName : Option Addr} {k0_InvalidName k1_InvalidName k2_InvalidName k3_InvalidName k5_InvalidName : Option Value} {doc_InvalidName pm_InvalidName ct_InvalidName oc_InvalidName ccl_InvalidName cl_InvalidName : Value} {osl_InvalidName ccs_InvalidName csl_InvalidName : Array (Option Value)} {vs_InvalidName : Array Value} {tf_InvalidName : PySem.Tok} (nC_InvalidName : PySem.W.nsIn K mainGlobals "InvalidName" = some (some (.ref C_InvalidName))) (lk_InvalidName : K.lookup C_InvalidName = some (excClassObj nm_InvalidName qq_InvalidName C_InvalidName N_InvalidName bs_InvalidName bm_InvalidName true sn_InvalidName sub_InvalidName ab_InvalidName col_InvalidName dd_InvalidName k0_InvalidName k1_InvalidName k2_InvalidName k3_InvalidName k5_InvalidName "ValueError.__new__")) (rv_InvalidName : PySem.HandSPX.refsVE bm_InvalidName = true) (sa_InvalidName : PySem.W.findIn K (.ref C_InvalidName) "__setattr__" = some (some (.builtin "object.__setattr__"))) (ga_InvalidName : PySem.W.findIn K (.ref C_InvalidName) "__getattribute__" = some (some (.builtin "BaseException.__getattribute__"))) (gg_InvalidName : PySem.W.findIn K (.ref C_InvalidName) "__getattr__" = some none) (iC_InvalidName : PySem.W.findIn K (.ref C_InvalidName) "__init__" = some (some (.ref fI_InvalidName))) (tC_InvalidName : PySem.W.typeIn K (.ref fI_InvalidName) = some (.type "function")) (kC_InvalidName : PySem.W.keepIn K (.ref C_InvalidName) = true) (eC_InvalidName : PySem.W.subIn K (.ref C_InvalidName) (.type "BaseException") = some true) (tyC_InvalidName : PySem.W.typeIn K (.ref C_InvalidName) = some (.type "type")) (hdC_InvalidName : PySem.W.hasDictIn K C_InvalidName = true) (vE_InvalidName : PySem.W.subIn K (.ref C_InvalidName) (.type "ValueError") = some true) (ei_InvalidName : PySem.W.excInitIn K C_InvalidName SX.veL "ValueError.__new__" = true) (su_InvalidName : PySem.W.ks_superIn K C_InvalidName C_InvalidName "__init__" = some (some (.builtin "ValueError.__init__"))) (mr_InvalidName : PySem.W.mroIn K C_InvalidName (.ref C_InvalidName) = some true) (fl_InvalidName : K.lookup fI_InvalidName = some ⟨oc_InvalidName, od_InvalidName, .func (PySem.W.ksFn "__init__" "InvalidName.__init__" (defArgs (clsInit (topS 2))) (defBody (clsInit (topS 2))) (defScope (clsInit (topS 2))) .none .none doc_InvalidName pm_InvalidName an_InvalidName (.ref cda_InvalidName) ct_InvalidName cc_InvalidName), osl_InvalidName⟩) (cd_InvalidName : PySem.W.codeIn K (.ref cda_InvalidName) "InvalidName.__init__" = true) (lc_InvalidName : K.lookup cda_InvalidName = some ⟨ccl_InvalidName, cdd_InvalidName, .fields vs_InvalidName, ccs_InvalidName⟩) (v2_InvalidName : vs_InvalidName[2]? = some (.str file_InvalidName tf_InvalidName)) (fe_InvalidName : ((P.main.file : Str) == file_InvalidName) = true) (ce_InvalidName : K.lookup cc_InvalidName = some ⟨cl_InvalidName, cld_InvalidName, .cell (some (.ref C_InvalidName)), csl_InvalidName⟩) (no_InvalidName : PySem.W.findIn K (.ref C_InvalidName) "value" = some none)
    {C_InvalidNumber fI_InvalidNumber N_InvalidNumber cda_InvalidNumber cc_InvalidNumber : Addr} {nm_InvalidNumber qq_InvalidNumber file_InvalidNumber : Str} {bs_InvalidNumber bm_InvalidNumber sub_InvalidNumber : List Value} {sn_InvalidNumber : List Str} {ab_InvalidNumber : Bool} {col_InvalidNumber : Option Bool} {dd_InvalidNumber an_InvalidNumber od_InvalidNumber cdd_InvalidNumber cld_InvalidNumber : Option Addr} {k0_InvalidNumber k1_InvalidNumber k2_InvalidNumber k3_InvalidNumber k5_InvalidNumber : Option Value} {doc_InvalidNumber pm_InvalidNumber ct_InvalidNumber oc_InvalidNumber ccl_InvalidNumber cl_InvalidNumber : Value} {osl_InvalidNumber ccs_InvalidNumber csl_InvalidNumber : Array (Option Value)} {vs_InvalidNumber : Array Value} {tf_InvalidNumber : PySem.Tok} (nC_InvalidNumber : PySem.W.nsIn K mainGlobals "InvalidNumber" = some (some (.ref C_InvalidNumber))) (lk_InvalidNumber : K.lookup C_InvalidNumber = some (excClassObj nm_InvalidNumber qq_InvalidNumber C_InvalidNumber N_InvalidNumber bs_InvalidNumber bm_InvalidNumber true sn_InvalidNumber sub_InvalidNumber ab_InvalidNumber col_InvalidNumber dd_InvalidNumber k0_InvalidNumber k1_InvalidNumber k2_InvalidNumber k3_InvalidNumber k5_InvalidNumber "ValueError.__new__")) (rv_InvalidNumber : PySem.HandSPX.refsVE bm_InvalidNumber = true) (sa_InvalidNumber : PySem.W.findIn K (.ref C_InvalidNumber) "__setattr__" = some (some (.builtin "object.__setattr__"))) (ga_InvalidNumber : PySem.W.findIn K (.ref C_InvalidNumber) "__getattribute__" = some (some (.builtin "BaseException.__getattribute__"))) (gg_InvalidNumber : PySem.W.findIn K (.ref C_InvalidNumber) "__getattr__" = some none) (iC_InvalidNumber : PySem.W.findIn K (.ref C_InvalidNumber) "__init__" = some (some (.ref fI_InvalidNumber))) (tC_InvalidNumber : PySem.W.typeIn K (.ref fI_InvalidNumber) = some (.type "function")) (kC_InvalidNumber : PySem.W.keepIn K (.ref C_InvalidNumber) = true) (eC_InvalidNumber : PySem.W.subIn K (.ref C_InvalidNumber) (.type "BaseException") = some true) (tyC_InvalidNumber : PySem.W.typeIn K (.ref C_InvalidNumber) = some (.type "type")) (hdC_InvalidNumber : PySem.W.hasDictIn K C_InvalidNumber = true) (vE_InvalidNumber : PySem.W.subIn K (.ref C_InvalidNumber) (.type "ValueError") = some true) (ei_InvalidNumber : PySem.W.excInitIn K C_InvalidNumber SX.veL "ValueError.__new__" = true) (su_InvalidNumber : PySem.W.ks_superIn K C_InvalidNumber C_InvalidNumber "__init__" = some (some (.builtin "ValueError.__init__"))) (mr_InvalidNumber : PySem.W.mroIn K C_InvalidNumber (.ref C_InvalidNumber) = some true) (fl_InvalidNumber : K.lookup fI_InvalidNumber = some ⟨oc_InvalidNumber, od_InvalidNumber, .func (PySem.W.ksFn "__init__" "InvalidNumber.__init__" (defArgs (clsInit (topS 16))) (defBody (clsInit (topS 16))) (defScope (clsInit (topS 16))) .none .none doc_InvalidNumber pm_InvalidNumber an_InvalidNumber (.ref cda_InvalidNumber) ct_InvalidNumber cc_InvalidNumber), osl_InvalidNumber⟩) (cd_InvalidNumber : PySem.W.codeIn K (.ref cda_InvalidNumber) "InvalidNumber.__init__" = true) (lc_InvalidNumber : K.lookup cda_InvalidNumber = some ⟨ccl_InvalidNumber, cdd_InvalidNumber, .fields vs_InvalidNumber, ccs_InvalidNumber⟩) (v2_InvalidNumber : vs_InvalidNumber[2]? = some (.str file_InvalidNumber tf_InvalidNumber)) (fe_InvalidNumber : ((P.main.file : Str) == file_InvalidNumber) = true) (ce_InvalidNumber : K.lookup cc_InvalidNumber = some ⟨cl_InvalidNumber, cld_InvalidNumber, .cell (some (.ref C_InvalidNumber)), csl_InvalidNumber⟩) (no_InvalidNumber : PySem.W.findIn K (.ref C_InvalidNumber) "value" = some none)
    {C_InvalidProgram fI_InvalidProgram N_InvalidProgram cda_InvalidProgram cc_InvalidProgram : Addr} {nm_InvalidProgram qq_InvalidProgram file_InvalidProgram : Str} {bs_InvalidProgram bm_InvalidProgram sub_InvalidProgram : List Value} {sn_InvalidProgram : List Str} {ab_InvalidProgram : Bool} {col_InvalidProgram : Option Bool} {dd_InvalidProgram an_InvalidProgram od_InvalidProgram cdd_InvalidProgram cld_InvalidProgram : Option Addr} {k0_InvalidProgram k1_InvalidProgram k2_InvalidProgram k3_InvalidProgram k5_InvalidProgram : Option Value} {doc_InvalidProgram pm_InvalidProgram ct_InvalidProgram oc_InvalidProgram ccl_InvalidProgram cl_InvalidProgram : Value} {osl_InvalidProgram ccs_InvalidProgram csl_InvalidProgram : Array (Option Value)} {vs_InvalidProgram : Array Value} {tf_InvalidProgram : PySem.Tok} (nC_InvalidProgram : PySem.W.nsIn K mainGlobals "InvalidProgram" = some (some (.ref C_InvalidProgram))) (lk_InvalidProgram : K.lookup C_InvalidProgram = some (excClassObj nm_InvalidProgram qq_InvalidProgram C_InvalidProgram N_InvalidProgram bs_InvalidProgram bm_InvalidProgram true sn_InvalidProgram sub_InvalidProgram ab_InvalidProgram col_InvalidProgram dd_InvalidProgram k0_InvalidProgram k1_InvalidProgram k2_InvalidProgram k3_InvalidProgram k5_InvalidProgram "ValueError.__new__")) (rv_InvalidProgram : PySem.HandSPX.refsVE bm_InvalidProgram = true) (sa_InvalidProgram : PySem.W.findIn K (.ref C_InvalidProgram) "__setattr__" = some (some (.builtin "object.__setattr__"))) (ga_InvalidProgram : PySem.W.findIn K (.ref C_InvalidProgram) "__getattribute__" = some (some (.builtin "BaseException.__getattribute__"))) (gg_InvalidProgram : PySem.W.findIn K (.ref C_InvalidProgram) "__getattr__" = some none) (iC_InvalidProgram : PySem.W.findIn K (.ref C_InvalidProgram) "__init__" = some (some (.ref fI_InvalidProgram))) (tC_InvalidProgram : PySem.W.typeIn K (.ref fI_InvalidProgram) = some (.type "function")) (kC_InvalidProgram : PySem.W.keepIn K (.ref C_InvalidProgram) = true) (eC_InvalidProgram : PySem.W.subIn K (.ref C_InvalidProgram) (.type "BaseException") = some true) (tyC_InvalidProgram : PySem.W.typeIn K (.ref C_InvalidProgram) = some (.type "type")) (hdC_InvalidProgram : PySem.W.hasDictIn K C_InvalidProgram = true) (vE_InvalidProgram : PySem.W.subIn K (.ref C_InvalidProgram) (.type "ValueError") = some true) (ei_InvalidProgram : PySem.W.excInitIn K C_InvalidProgram SX.veL "ValueError.__new__" = true) (su_InvalidProgram : PySem.W.ks_superIn K C_InvalidProgram C_InvalidProgram "__init__" = some (some (.builtin "ValueError.__init__"))) (mr_InvalidProgram : PySem.W.mroIn K C_InvalidProgram (.ref C_InvalidProgram) = some true) (fl_InvalidProgram : K.lookup fI_InvalidProgram = some ⟨oc_InvalidProgram, od_InvalidProgram, .func (PySem.W.ksFn "__init__" "InvalidProgram.__init__" (defArgs (clsInit (topS 11))) (defBody (clsInit (topS 11))) (defScope (clsInit (topS 11))) .none .none doc_InvalidProgram pm_InvalidProgram an_InvalidProgram (.ref cda_InvalidProgram) ct_InvalidProgram cc_InvalidProgram), osl_InvalidProgram⟩) (cd_InvalidProgram : PySem.W.codeIn K (.ref cda_InvalidProgram) "InvalidProgram.__init__" = true) (lc_InvalidProgram : K.lookup cda_InvalidProgram = some ⟨ccl_InvalidProgram, cdd_InvalidProgram, .fields vs_InvalidProgram, ccs_InvalidProgram⟩) (v2_InvalidProgram : vs_InvalidProgram[2]? = some (.str file_InvalidProgram tf_InvalidProgram)) (fe_InvalidProgram : ((P.main.file : Str) == file_InvalidProgram) = true) (ce_InvalidProgram : K.lookup cc_InvalidProgram = some ⟨cl_InvalidProgram, cld_InvalidProgram, .cell (some (.ref C_InvalidProgram)), csl_InvalidProgram⟩) (no_InvalidProgram : PySem.W.findIn K (.ref C_InvalidProgram) "value" = some none)
    {C_InvalidPrograms fI_InvalidPrograms N_InvalidPrograms cda_InvalidPrograms cc_InvalidPrograms : Addr} {nm_InvalidPrograms qq_InvalidPrograms file_InvalidPrograms : Str} {bs_InvalidPrograms bm_InvalidPrograms sub_InvalidPrograms : List Value} {sn_InvalidPrograms : List Str} {ab_InvalidPrograms : Bool} {col_InvalidPrograms : Option Bool} {dd_InvalidPrograms an_InvalidPrograms od_InvalidPrograms cdd_InvalidPrograms cld_InvalidPrograms : Option Addr} {k0_InvalidPrograms k1_InvalidPrograms k2_InvalidPrograms k3_InvalidPrograms k5_InvalidPrograms : Option Value} {doc_InvalidPrograms pm_InvalidPrograms ct_InvalidPrograms oc_InvalidPrograms ccl_InvalidPrograms cl_InvalidPrograms : Value} {osl_InvalidPrograms ccs_InvalidPrograms csl_InvalidPrograms : Array (Option Value)} {vs_InvalidPrograms : Array Value} {tf_InvalidPrograms : PySem.Tok} (nC_InvalidPrograms : PySem.W.nsIn K mainGlobals "InvalidPrograms" = some (some (.ref C_InvalidPrograms))) (lk_InvalidPrograms : K.lookup C_InvalidPrograms = some (excClassObj nm_InvalidPrograms qq_InvalidPrograms C_InvalidPrograms N_InvalidPrograms bs_InvalidPrograms bm_InvalidPrograms true sn_InvalidPrograms sub_InvalidPrograms ab_InvalidPrograms col_InvalidPrograms dd_InvalidPrograms k0_InvalidPrograms k1_InvalidPrograms k2_InvalidPrograms k3_InvalidPrograms k5_InvalidPrograms "ValueError.__new__")) (rv_InvalidPrograms : PySem.HandSPX.refsVE bm_InvalidPrograms = true) (sa_InvalidPrograms : PySem.W.findIn K (.ref C_InvalidPrograms) "__setattr__" = some (some (.builtin "object.__setattr__"))) (ga_InvalidPrograms : PySem.W.findIn K (.ref C_InvalidPrograms) "__getattribute__" = some (some (.builtin "BaseException.__getattribute__"))) (gg_InvalidPrograms : PySem.W.findIn K (.ref C_InvalidPrograms) "__getattr__" = some none) (iC_InvalidPrograms : PySem.W.findIn K (.ref C_InvalidPrograms) "__init__" = some (some (.ref fI_InvalidPrograms))) (tC_InvalidPrograms : PySem.W.typeIn K (.ref fI_InvalidPrograms) = some (.type "function")) (kC_InvalidPrograms : PySem.W.keepIn K (.ref C_InvalidPrograms) = true) (eC_InvalidPrograms : PySem.W.subIn K (.ref C_InvalidPrograms) (.type "BaseException") = some true) (tyC_InvalidPrograms : PySem.W.typeIn K (.ref C_InvalidPrograms) = some (.type "type")) (hdC_InvalidPrograms : PySem.W.hasDictIn K C_InvalidPrograms = true) (vE_InvalidPrograms : PySem.W.subIn K (.ref C_InvalidPrograms) (.type "ValueError") = some true) (ei_InvalidPrograms : PySem.W.excInitIn K C_InvalidPrograms SX.veL "ValueError.__new__" = true) (su_InvalidPrograms : PySem.W.ks_superIn K C_InvalidPrograms C_InvalidPrograms "__init__" = some (some (.builtin "ValueError.__init__"))) (mr_InvalidPrograms : PySem.W.mroIn K C_InvalidPrograms (.ref C_InvalidPrograms) = some true) (fl_InvalidPrograms : K.lookup fI_InvalidPrograms = some ⟨oc_InvalidPrograms, od_InvalidPrograms, .func (PySem.W.ksFn "__init__" "InvalidPrograms.__init__" (defArgs (clsInit (topS 12))) (defBody (clsInit (topS 12))) (defScope (clsInit (topS 12))) .none .none doc_InvalidPrograms pm_InvalidPrograms an_InvalidPrograms (.ref cda_InvalidPrograms) ct_InvalidPrograms cc_InvalidPrograms), osl_InvalidPrograms⟩) (cd_InvalidPrograms : PySem.W.codeIn K (.ref cda_InvalidPrograms) "InvalidPrograms.__init__" = true) (lc_InvalidPrograms : K.lookup cda_InvalidPrograms = some ⟨ccl_InvalidPrograms, cdd_InvalidPrograms, .fields vs_InvalidPrograms, ccs_InvalidPrograms⟩) (v2_InvalidPrograms : vs_InvalidPrograms[2]? = some (.str file_InvalidPrograms tf_InvalidPrograms)) (fe_InvalidPrograms : ((P.main.file : Str) == file_InvalidPrograms) = true) (ce_InvalidPrograms : K.lookup cc_InvalidPrograms = some ⟨cl_InvalidPrograms, cld_InvalidPrograms, .cell (some (.ref C_InvalidPrograms)), csl_InvalidPrograms⟩) (no_InvalidPrograms : PySem.W.findIn K (.ref C_InvalidPrograms) "value" = some none)
    {C_InvalidProtocol fI_InvalidProtocol N_InvalidProtocol cda_InvalidProtocol cc_InvalidProtocol : Addr} {nm_InvalidProtocol qq_InvalidProtocol file_InvalidProtocol : Str} {bs_InvalidProtocol bm_InvalidProtocol sub_InvalidProtocol : List Value} {sn_InvalidProtocol : List Str} {ab_InvalidProtocol : Bool} {col_InvalidProtocol : Option Bool} {dd_InvalidProtocol an_InvalidProtocol od_InvalidProtocol cdd_InvalidProtocol cld_InvalidProtocol : Option Addr} {k0_InvalidProtocol k1_InvalidProtocol k2_InvalidProtocol k3_InvalidProtocol k5_InvalidProtocol : Option Value} {doc_InvalidProtocol pm_InvalidProtocol ct_InvalidProtocol oc_InvalidProtocol ccl_InvalidProtocol cl_InvalidProtocol : Value} {osl_InvalidProtocol ccs_InvalidProtocol csl_InvalidProtocol : Array (Option Value)} {vs_InvalidProtocol : Array Value} {tf_InvalidProtocol : PySem.Tok} (nC_InvalidProtocol : PySem.W.nsIn K mainGlobals "InvalidProtocol" = some (some (.ref C_InvalidProtocol))) (lk_InvalidProtocol : K.lookup C_InvalidProtocol = some (excClassObj nm_InvalidProtocol qq_InvalidProtocol C_InvalidProtocol N_InvalidProtocol bs_InvalidProtocol bm_InvalidProtocol true sn_InvalidProtocol sub_InvalidProtocol ab_InvalidProtocol col_InvalidProtocol dd_InvalidProtocol k0_InvalidProtocol k1_InvalidProtocol k2_InvalidProtocol k3_InvalidProtocol k5_InvalidProtocol "ValueError.__new__")) (rv_InvalidProtocol : PySem.HandSPX.refsVE bm_InvalidProtocol = true) (sa_InvalidProtocol : PySem.W.findIn K (.ref C_InvalidProtocol) "__setattr__" = some (some (.builtin "object.__setattr__"))) (ga_InvalidProtocol : PySem.W.findIn K (.ref C_InvalidProtocol) "__getattribute__" = some (some (.builtin "BaseException.__getattribute__"))) (gg_InvalidProtocol : PySem.W.findIn K (.ref C_InvalidProtocol) "__getattr__" = some none) (iC_InvalidProtocol : PySem.W.findIn K (.ref C_InvalidProtocol) "__init__" = some (some (.ref fI_InvalidProtocol))) (tC_InvalidProtocol : PySem.W.typeIn K (.ref fI_InvalidProtocol) = some (.type "function")) (kC_InvalidProtocol : PySem.W.keepIn K (.ref C_InvalidProtocol) = true) (eC_InvalidProtocol : PySem.W.subIn K (.ref C_InvalidProtocol) (.type "BaseException") = some true) (tyC_InvalidProtocol : PySem.W.typeIn K (.ref C_InvalidProtocol) = some (.type "type")) (hdC_InvalidProtocol : PySem.W.hasDictIn K C_InvalidProtocol = true) (vE_InvalidProtocol : PySem.W.subIn K (.ref C_InvalidProtocol) (.type "ValueError") = some true) (ei_InvalidProtocol : PySem.W.excInitIn K C_InvalidProtocol SX.veL "ValueError.__new__" = true) (su_InvalidProtocol : PySem.W.ks_superIn K C_InvalidProtocol C_InvalidProtocol "__init__" = some (some (.builtin "ValueError.__init__"))) (mr_InvalidProtocol : PySem.W.mroIn K C_InvalidProtocol (.ref C_InvalidProtocol) = some true) (fl_InvalidProtocol : K.lookup fI_InvalidProtocol = some ⟨oc_InvalidProtocol, od_InvalidProtocol, .func (PySem.W.ksFn "__init__" "InvalidProtocol.__init__" (defArgs (clsInit (topS 13))) (defBody (clsInit (topS 13))) (defScope (clsInit (topS 13))) .none .none doc_InvalidProtocol pm_InvalidProtocol an_InvalidProtocol (.ref cda_InvalidProtocol) ct_InvalidProtocol cc_InvalidProtocol), osl_InvalidProtocol⟩) (cd_InvalidProtocol : PySem.W.codeIn K (.ref cda_InvalidProtocol) "InvalidProtocol.__init__" = true) (lc_InvalidProtocol : K.lookup cda_InvalidProtocol = some ⟨ccl_InvalidProtocol, cdd_InvalidProtocol, .fields vs_InvalidProtocol, ccs_InvalidProtocol⟩) (v2_InvalidProtocol : vs_InvalidProtocol[2]? = some (.str file_InvalidProtocol tf_InvalidProtocol)) (fe_InvalidProtocol : ((P.main.file : Str) == file_InvalidProtocol) = true) (ce_InvalidProtocol : K.lookup cc_InvalidProtocol = some ⟨cl_InvalidProtocol, cld_InvalidProtocol, .cell (some (.ref C_InvalidProtocol)), csl_InvalidProtocol⟩) (no_InvalidProtocol : PySem.W.findIn K (.ref C_InvalidProtocol) "value" = some none)
    {C_InvalidRows fI_InvalidRows N_InvalidRows cda_InvalidRows cc_InvalidRows : Addr} {nm_InvalidRows qq_InvalidRows file_InvalidRows : Str} {bs_InvalidRows bm_InvalidRows sub_InvalidRows : List Value} {sn_InvalidRows : List Str} {ab_InvalidRows : Bool} {col_InvalidRows : Option Bool} {dd_InvalidRows an_InvalidRows od_InvalidRows cdd_InvalidRows cld_InvalidRows : Option Addr} {k0_InvalidRows k1_InvalidRows k2_InvalidRows k3_InvalidRows k5_InvalidRows : Option Value} {doc_InvalidRows pm_InvalidRows ct_InvalidRows oc_InvalidRows ccl_InvalidRows cl_InvalidRows : Value} {osl_InvalidRows ccs_InvalidRows csl_InvalidRows : Array (Option Value)} {vs_InvalidRows : Array Value} {tf_InvalidRows : PySem.Tok} (nC_InvalidRows : PySem.W.nsIn K mainGlobals "InvalidRows" = some (some (.ref C_InvalidRows))) (lk_InvalidRows : K.lookup C_InvalidRows = some (excClassObj nm_InvalidRows qq_InvalidRows C_InvalidRows N_InvalidRows bs_InvalidRows bm_InvalidRows true sn_InvalidRows sub_InvalidRows ab_InvalidRows col_InvalidRows dd_InvalidRows k0_InvalidRows k1_InvalidRows k2_InvalidRows k3_InvalidRows k5_InvalidRows "ValueError.__new__")) (rv_InvalidRows : PySem.HandSPX.refsVE bm_InvalidRows = true) (sa_InvalidRows : PySem.W.findIn K (.ref C_InvalidRows) "__setattr__" = some (some (.builtin "object.__setattr__"))) (ga_InvalidRows : PySem.W.findIn K (.ref C_InvalidRows) "__getattribute__" = some (some (.builtin "BaseException.__getattribute__"))) (gg_InvalidRows : PySem.W.findIn K (.ref C_InvalidRows) "__getattr__" = some none) (iC_InvalidRows : PySem.W.findIn K (.ref C_InvalidRows) "__init__" = some (some (.ref fI_InvalidRows))) (tC_InvalidRows : PySem.W.typeIn K (.ref fI_InvalidRows) = some (.type "function")) (kC_InvalidRows : PySem.W.keepIn K (.ref C_InvalidRows) = true) (eC_InvalidRows : PySem.W.subIn K (.ref C_InvalidRows) (.type "BaseException") = some true) (tyC_InvalidRows : PySem.W.typeIn K (.ref C_InvalidRows) = some (.type "type")) (hdC_InvalidRows : PySem.W.hasDictIn K C_InvalidRows = true) (vE_InvalidRows : PySem.W.subIn K (.ref C_InvalidRows) (.type "ValueError") = some true) (ei_InvalidRows : PySem.W.excInitIn K C_InvalidRows SX.veL "ValueError.__new__" = true) (su_InvalidRows : PySem.W.ks_superIn K C_InvalidRows C_InvalidRows "__init__" = some (some (.builtin "ValueError.__init__"))) (mr_InvalidRows : PySem.W.mroIn K C_InvalidRows (.ref C_InvalidRows) = some true) (fl_InvalidRows : K.lookup fI_InvalidRows = some ⟨oc_InvalidRows, od_InvalidRows, .func (PySem.W.ksFn "__init__" "InvalidRows.__init__" (defArgs (clsInit (topS 14))) (defBody (clsInit (topS 14))) (defScope (clsInit (topS 14))) .none .none doc_InvalidRows pm_InvalidRows an_InvalidRows (.ref cda_InvalidRows) ct_InvalidRows cc_InvalidRows), osl_InvalidRows⟩) (cd_InvalidRows : PySem.W.codeIn K (.ref cda_InvalidRows) "InvalidRows.__init__" = true) (lc_InvalidRows : K.lookup cda_InvalidRows = some ⟨ccl_InvalidRows, cdd_InvalidRows, .fields vs_InvalidRows, ccs_InvalidRows⟩) (v2_InvalidRows : vs_InvalidRows[2]? = some (.str file_InvalidRows tf_InvalidRows)) (fe_InvalidRows : ((P.main.file : Str) == file_InvalidRows) = true) (ce_InvalidRows : K.lookup cc_InvalidRows = some ⟨cl_InvalidRows, cld_InvalidRows, .cell (some (.ref C_InvalidRows)), csl_InvalidRows⟩) (no_InvalidRows : PySem.W.findIn K (.ref C_InvalidRows) "value" = some none)
    {C_InvalidScene fI_InvalidScene N_InvalidScene cda_InvalidScene cc_InvalidScene : Addr} {nm_InvalidScene qq_InvalidScene file_InvalidScene : Str} {bs_InvalidScene bm_InvalidScene sub_InvalidScene : List Value} {sn_InvalidScene : List Str} {ab_InvalidScene : Bool} {col_InvalidScene : Option Bool} {dd_InvalidScene an_InvalidScene od_InvalidScene cdd_InvalidScene cld_InvalidScene : Option Addr} {k0_InvalidScene k1_InvalidScene k2_InvalidScene k3_InvalidScene k5_InvalidScene : Option Value} {doc_InvalidScene pm_InvalidScene ct_InvalidScene oc_InvalidScene ccl_InvalidScene cl_InvalidScene : Value} {osl_InvalidScene ccs_InvalidScene csl_InvalidScene : Array (Option Value)} {vs_InvalidScene : Array Value} {tf_InvalidScene : PySem.Tok} (nC_InvalidScene : PySem.W.nsIn K mainGlobals "InvalidScene" = some (some (.ref C_InvalidScene))) (lk_InvalidScene : K.lookup C_InvalidScene = some (excClassObj nm_InvalidScene qq_InvalidScene C_InvalidScene N_InvalidScene bs_InvalidScene bm_InvalidScene true sn_InvalidScene sub_InvalidScene ab_InvalidScene col_InvalidScene dd_InvalidScene k0_InvalidScene k1_InvalidScene k2_InvalidScene k3_InvalidScene k5_InvalidScene "ValueError.__new__")) (rv_InvalidScene : PySem.HandSPX.refsVE bm_InvalidScene = true) (sa_InvalidScene : PySem.W.findIn K (.ref C_InvalidScene) "__setattr__" = some (some (.builtin "object.__setattr__"))) (ga_InvalidScene : PySem.W.findIn K (.ref C_InvalidScene) "__getattribute__" = some (some (.builtin "BaseException.__getattribute__"))) (gg_InvalidScene : PySem.W.findIn K (.ref C_InvalidScene) "__getattr__" = some none) (iC_InvalidScene : PySem.W.findIn K (.ref C_InvalidScene) "__init__" = some (some (.ref fI_InvalidScene))) (tC_InvalidScene : PySem.W.typeIn K (.ref fI_InvalidScene) = some (.type "function")) (kC_InvalidScene : PySem.W.keepIn K (.ref C_InvalidScene) = true) (eC_InvalidScene : PySem.W.subIn K (.ref C_InvalidScene) (.type "BaseException") = some true) (tyC_InvalidScene : PySem.W.typeIn K (.ref C_InvalidScene) = some (.type "type")) (hdC_InvalidScene : PySem.W.hasDictIn K C_InvalidScene = true) (vE_InvalidScene : PySem.W.subIn K (.ref C_InvalidScene) (.type "ValueError") = some true) (ei_InvalidScene : PySem.W.excInitIn K C_InvalidScene SX.veL "ValueError.__new__" = true) (su_InvalidScene : PySem.W.ks_superIn K C_InvalidScene C_InvalidScene "__init__" = some (some (.builtin "ValueError.__init__"))) (mr_InvalidScene : PySem.W.mroIn K C_InvalidScene (.ref C_InvalidScene) = some true) (fl_InvalidScene : K.lookup fI_InvalidScene = some ⟨oc_InvalidScene, od_InvalidScene, .func (PySem.W.ksFn "__init__" "InvalidScene.__init__" (defArgs (clsInit (topS 19))) (defBody (clsInit (topS 19))) (defScope (clsInit (topS 19))) .none .none doc_InvalidScene pm_InvalidScene an_InvalidScene (.ref cda_InvalidScene) ct_InvalidScene cc_InvalidScene), osl_InvalidScene⟩) (cd_InvalidScene : PySem.W.codeIn K (.ref cda_InvalidScene) "InvalidScene.__init__" = true) (lc_InvalidScene : K.lookup cda_InvalidScene = some ⟨ccl_InvalidScene, cdd_InvalidScene, .fields vs_InvalidScene, ccs_InvalidScene⟩) (v2_InvalidScene : vs_InvalidScene[2]? = some (.str file_InvalidScene tf_InvalidScene)) (fe_InvalidScene : ((P.main.file : Str) == file_InvalidScene) = true) (ce_InvalidScene : K.lookup cc_InvalidScene = some ⟨cl_InvalidScene, cld_InvalidScene, .cell (some (.ref C_InvalidScene)), csl_InvalidScene⟩) (no_InvalidScene : PySem.W.findIn K (.ref C_InvalidScene) "value" = some none)
    {C_InvalidSession fI_InvalidSession N_InvalidSession cda_InvalidSession cc_InvalidSession : Addr} {nm_InvalidSession qq_InvalidSession file_InvalidSession : Str} {bs_InvalidSession bm_InvalidSession sub_InvalidSession : List Value} {sn_InvalidSession : List Str} {ab_InvalidSession : Bool} {col_InvalidSession : Option Bool} {dd_InvalidSession an_InvalidSession od_InvalidSession cdd_InvalidSession cld_InvalidSession : Option Addr} {k0_InvalidSession k1_InvalidSession k2_InvalidSession k3_InvalidSession k5_InvalidSession : Option Value} {doc_InvalidSession pm_InvalidSession ct_InvalidSession oc_InvalidSession ccl_InvalidSession cl_InvalidSession : Value} {osl_InvalidSession ccs_InvalidSession csl_InvalidSession : Array (Option Value)} {vs_InvalidSession : Array Value} {tf_InvalidSession : PySem.Tok} (nC_InvalidSession : PySem.W.nsIn K mainGlobals "InvalidSession" = some (some (.ref C_InvalidSession))) (lk_InvalidSession : K.lookup C_InvalidSession = some (excClassObj nm_InvalidSession qq_InvalidSession C_InvalidSession N_InvalidSession bs_InvalidSession bm_InvalidSession true sn_InvalidSession sub_InvalidSession ab_InvalidSession col_InvalidSession dd_InvalidSession k0_InvalidSession k1_InvalidSession k2_InvalidSession k3_InvalidSession k5_InvalidSession "ValueError.__new__")) (rv_InvalidSession : PySem.HandSPX.refsVE bm_InvalidSession = true) (sa_InvalidSession : PySem.W.findIn K (.ref C_InvalidSession) "__setattr__" = some (some (.builtin "object.__setattr__"))) (ga_InvalidSession : PySem.W.findIn K (.ref C_InvalidSession) "__getattribute__" = some (some (.builtin "BaseException.__getattribute__"))) (gg_InvalidSession : PySem.W.findIn K (.ref C_InvalidSession) "__getattr__" = some none) (iC_InvalidSession : PySem.W.findIn K (.ref C_InvalidSession) "__init__" = some (some (.ref fI_InvalidSession))) (tC_InvalidSession : PySem.W.typeIn K (.ref fI_InvalidSession) = some (.type "function")) (kC_InvalidSession : PySem.W.keepIn K (.ref C_InvalidSession) = true) (eC_InvalidSession : PySem.W.subIn K (.ref C_InvalidSession) (.type "BaseException") = some true) (tyC_InvalidSession : PySem.W.typeIn K (.ref C_InvalidSession) = some (.type "type")) (hdC_InvalidSession : PySem.W.hasDictIn K C_InvalidSession = true) (vE_InvalidSession : PySem.W.subIn K (.ref C_InvalidSession) (.type "ValueError") = some true) (ei_InvalidSession : PySem.W.excInitIn K C_InvalidSession SX.veL "ValueError.__new__" = true) (su_InvalidSession : PySem.W.ks_superIn K C_InvalidSession C_InvalidSession "__init__" = some (some (.builtin "ValueError.__init__"))) (mr_InvalidSession : PySem.W.mroIn K C_InvalidSession (.ref C_InvalidSession) = some true) (fl_InvalidSession : K.lookup fI_InvalidSession = some ⟨oc_InvalidSession, od_InvalidSession, .func (PySem.W.ksFn "__init__" "InvalidSession.__init__" (defArgs (clsInit (topS 15))) (defBody (clsInit (topS 15))) (defScope (clsInit (topS 15))) .none .none doc_InvalidSession pm_InvalidSession an_InvalidSession (.ref cda_InvalidSession) ct_InvalidSession cc_InvalidSession), osl_InvalidSession⟩) (cd_InvalidSession : PySem.W.codeIn K (.ref cda_InvalidSession) "InvalidSession.__init__" = true) (lc_InvalidSession : K.lookup cda_InvalidSession = some ⟨ccl_InvalidSession, cdd_InvalidSession, .fields vs_InvalidSession, ccs_InvalidSession⟩) (v2_InvalidSession : vs_InvalidSession[2]? = some (.str file_InvalidSession tf_InvalidSession)) (fe_InvalidSession : ((P.main.file : Str) == file_InvalidSession) = true) (ce_InvalidSession : K.lookup cc_InvalidSession = some ⟨cl_InvalidSession, cld_InvalidSession, .cell (some (.ref C_InvalidSession)), csl_InvalidSession⟩) (no_InvalidSession : PySem.W.findIn K (.ref C_InvalidSession) "value" = some none)
    {C_InvalidSpan fI_InvalidSpan N_InvalidSpan cda_InvalidSpan cc_InvalidSpan : Addr} {nm_InvalidSpan qq_InvalidSpan file_InvalidSpan : Str} {bs_InvalidSpan bm_InvalidSpan sub_InvalidSpan : List Value} {sn_InvalidSpan : List Str} {ab_InvalidSpan : Bool} {col_InvalidSpan : Option Bool} {dd_InvalidSpan an_InvalidSpan od_InvalidSpan cdd_InvalidSpan cld_InvalidSpan : Option Addr} {k0_InvalidSpan k1_InvalidSpan k2_InvalidSpan k3_InvalidSpan k5_InvalidSpan : Option Value} {doc_InvalidSpan pm_InvalidSpan ct_InvalidSpan oc_InvalidSpan ccl_InvalidSpan cl_InvalidSpan : Value} {osl_InvalidSpan ccs_InvalidSpan csl_InvalidSpan : Array (Option Value)} {vs_InvalidSpan : Array Value} {tf_InvalidSpan : PySem.Tok} (nC_InvalidSpan : PySem.W.nsIn K mainGlobals "InvalidSpan" = some (some (.ref C_InvalidSpan))) (lk_InvalidSpan : K.lookup C_InvalidSpan = some (excClassObj nm_InvalidSpan qq_InvalidSpan C_InvalidSpan N_InvalidSpan bs_InvalidSpan bm_InvalidSpan true sn_InvalidSpan sub_InvalidSpan ab_InvalidSpan col_InvalidSpan dd_InvalidSpan k0_InvalidSpan k1_InvalidSpan k2_InvalidSpan k3_InvalidSpan k5_InvalidSpan "ValueError.__new__")) (rv_InvalidSpan : PySem.HandSPX.refsVE bm_InvalidSpan = true) (sa_InvalidSpan : PySem.W.findIn K (.ref C_InvalidSpan) "__setattr__" = some (some (.builtin "object.__setattr__"))) (ga_InvalidSpan : PySem.W.findIn K (.ref C_InvalidSpan) "__getattribute__" = some (some (.builtin "BaseException.__getattribute__"))) (gg_InvalidSpan : PySem.W.findIn K (.ref C_InvalidSpan) "__getattr__" = some none) (iC_InvalidSpan : PySem.W.findIn K (.ref C_InvalidSpan) "__init__" = some (some (.ref fI_InvalidSpan))) (tC_InvalidSpan : PySem.W.typeIn K (.ref fI_InvalidSpan) = some (.type "function")) (kC_InvalidSpan : PySem.W.keepIn K (.ref C_InvalidSpan) = true) (eC_InvalidSpan : PySem.W.subIn K (.ref C_InvalidSpan) (.type "BaseException") = some true) (tyC_InvalidSpan : PySem.W.typeIn K (.ref C_InvalidSpan) = some (.type "type")) (hdC_InvalidSpan : PySem.W.hasDictIn K C_InvalidSpan = true) (vE_InvalidSpan : PySem.W.subIn K (.ref C_InvalidSpan) (.type "ValueError") = some true) (ei_InvalidSpan : PySem.W.excInitIn K C_InvalidSpan SX.veL "ValueError.__new__" = true) (su_InvalidSpan : PySem.W.ks_superIn K C_InvalidSpan C_InvalidSpan "__init__" = some (some (.builtin "ValueError.__init__"))) (mr_InvalidSpan : PySem.W.mroIn K C_InvalidSpan (.ref C_InvalidSpan) = some true) (fl_InvalidSpan : K.lookup fI_InvalidSpan = some ⟨oc_InvalidSpan, od_InvalidSpan, .func (PySem.W.ksFn "__init__" "InvalidSpan.__init__" (defArgs (clsInit (topS 4))) (defBody (clsInit (topS 4))) (defScope (clsInit (topS 4))) .none .none doc_InvalidSpan pm_InvalidSpan an_InvalidSpan (.ref cda_InvalidSpan) ct_InvalidSpan cc_InvalidSpan), osl_InvalidSpan⟩) (cd_InvalidSpan : PySem.W.codeIn K (.ref cda_InvalidSpan) "InvalidSpan.__init__" = true) (lc_InvalidSpan : K.lookup cda_InvalidSpan = some ⟨ccl_InvalidSpan, cdd_InvalidSpan, .fields vs_InvalidSpan, ccs_InvalidSpan⟩) (v2_InvalidSpan : vs_InvalidSpan[2]? = some (.str file_InvalidSpan tf_InvalidSpan)) (fe_InvalidSpan : ((P.main.file : Str) == file_InvalidSpan) = true) (ce_InvalidSpan : K.lookup cc_InvalidSpan = some ⟨cl_InvalidSpan, cld_InvalidSpan, .cell (some (.ref C_InvalidSpan)), csl_InvalidSpan⟩) (no_InvalidSpan : PySem.W.findIn K (.ref C_InvalidSpan) "value" = some none)
    {C_InvalidSpans fI_InvalidSpans N_InvalidSpans cda_InvalidSpans cc_InvalidSpans : Addr} {nm_InvalidSpans qq_InvalidSpans file_InvalidSpans : Str} {bs_InvalidSpans bm_InvalidSpans sub_InvalidSpans : List Value} {sn_InvalidSpans : List Str} {ab_InvalidSpans : Bool} {col_InvalidSpans : Option Bool} {dd_InvalidSpans an_InvalidSpans od_InvalidSpans cdd_InvalidSpans cld_InvalidSpans : Option Addr} {k0_InvalidSpans k1_InvalidSpans k2_InvalidSpans k3_InvalidSpans k5_InvalidSpans : Option Value} {doc_InvalidSpans pm_InvalidSpans ct_InvalidSpans oc_InvalidSpans ccl_InvalidSpans cl_InvalidSpans : Value} {osl_InvalidSpans ccs_InvalidSpans csl_InvalidSpans : Array (Option Value)} {vs_InvalidSpans : Array Value} {tf_InvalidSpans : PySem.Tok} (nC_InvalidSpans : PySem.W.nsIn K mainGlobals "InvalidSpans" = some (some (.ref C_InvalidSpans))) (lk_InvalidSpans : K.lookup C_InvalidSpans = some (excClassObj nm_InvalidSpans qq_InvalidSpans C_InvalidSpans N_InvalidSpans bs_InvalidSpans bm_InvalidSpans true sn_InvalidSpans sub_InvalidSpans ab_InvalidSpans col_InvalidSpans dd_InvalidSpans k0_InvalidSpans k1_InvalidSpans k2_InvalidSpans k3_InvalidSpans k5_InvalidSpans "ValueError.__new__")) (rv_InvalidSpans : PySem.HandSPX.refsVE bm_InvalidSpans = true) (sa_InvalidSpans : PySem.W.findIn K (.ref C_InvalidSpans) "__setattr__" = some (some (.builtin "object.__setattr__"))) (ga_InvalidSpans : PySem.W.findIn K (.ref C_InvalidSpans) "__getattribute__" = some (some (.builtin "BaseException.__getattribute__"))) (gg_InvalidSpans : PySem.W.findIn K (.ref C_InvalidSpans) "__getattr__" = some none) (iC_InvalidSpans : PySem.W.findIn K (.ref C_InvalidSpans) "__init__" = some (some (.ref fI_InvalidSpans))) (tC_InvalidSpans : PySem.W.typeIn K (.ref fI_InvalidSpans) = some (.type "function")) (kC_InvalidSpans : PySem.W.keepIn K (.ref C_InvalidSpans) = true) (eC_InvalidSpans : PySem.W.subIn K (.ref C_InvalidSpans) (.type "BaseException") = some true) (tyC_InvalidSpans : PySem.W.typeIn K (.ref C_InvalidSpans) = some (.type "type")) (hdC_InvalidSpans : PySem.W.hasDictIn K C_InvalidSpans = true) (vE_InvalidSpans : PySem.W.subIn K (.ref C_InvalidSpans) (.type "ValueError") = some true) (ei_InvalidSpans : PySem.W.excInitIn K C_InvalidSpans SX.veL "ValueError.__new__" = true) (su_InvalidSpans : PySem.W.ks_superIn K C_InvalidSpans C_InvalidSpans "__init__" = some (some (.builtin "ValueError.__init__"))) (mr_InvalidSpans : PySem.W.mroIn K C_InvalidSpans (.ref C_InvalidSpans) = some true) (fl_InvalidSpans : K.lookup fI_InvalidSpans = some ⟨oc_InvalidSpans, od_InvalidSpans, .func (PySem.W.ksFn "__init__" "InvalidSpans.__init__" (defArgs (clsInit (topS 5))) (defBody (clsInit (topS 5))) (defScope (clsInit (topS 5))) .none .none doc_InvalidSpans pm_InvalidSpans an_InvalidSpans (.ref cda_InvalidSpans) ct_InvalidSpans cc_InvalidSpans), osl_InvalidSpans⟩) (cd_InvalidSpans : PySem.W.codeIn K (.ref cda_InvalidSpans) "InvalidSpans.__init__" = true) (lc_InvalidSpans : K.lookup cda_InvalidSpans = some ⟨ccl_InvalidSpans, cdd_InvalidSpans, .fields vs_InvalidSpans, ccs_InvalidSpans⟩) (v2_InvalidSpans : vs_InvalidSpans[2]? = some (.str file_InvalidSpans tf_InvalidSpans)) (fe_InvalidSpans : ((P.main.file : Str) == file_InvalidSpans) = true) (ce_InvalidSpans : K.lookup cc_InvalidSpans = some ⟨cl_InvalidSpans, cld_InvalidSpans, .cell (some (.ref C_InvalidSpans)), csl_InvalidSpans⟩) (no_InvalidSpans : PySem.W.findIn K (.ref C_InvalidSpans) "value" = some none)
    {C_InvalidStore fI_InvalidStore N_InvalidStore cda_InvalidStore cc_InvalidStore : Addr} {nm_InvalidStore qq_InvalidStore file_InvalidStore : Str} {bs_InvalidStore bm_InvalidStore sub_InvalidStore : List Value} {sn_InvalidStore : List Str} {ab_InvalidStore : Bool} {col_InvalidStore : Option Bool} {dd_InvalidStore an_InvalidStore od_InvalidStore cdd_InvalidStore cld_InvalidStore : Option Addr} {k0_InvalidStore k1_InvalidStore k2_InvalidStore k3_InvalidStore k5_InvalidStore : Option Value} {doc_InvalidStore pm_InvalidStore ct_InvalidStore oc_InvalidStore ccl_InvalidStore cl_InvalidStore : Value} {osl_InvalidStore ccs_InvalidStore csl_InvalidStore : Array (Option Value)} {vs_InvalidStore : Array Value} {tf_InvalidStore : PySem.Tok} (nC_InvalidStore : PySem.W.nsIn K mainGlobals "InvalidStore" = some (some (.ref C_InvalidStore))) (lk_InvalidStore : K.lookup C_InvalidStore = some (excClassObj nm_InvalidStore qq_InvalidStore C_InvalidStore N_InvalidStore bs_InvalidStore bm_InvalidStore true sn_InvalidStore sub_InvalidStore ab_InvalidStore col_InvalidStore dd_InvalidStore k0_InvalidStore k1_InvalidStore k2_InvalidStore k3_InvalidStore k5_InvalidStore "ValueError.__new__")) (rv_InvalidStore : PySem.HandSPX.refsVE bm_InvalidStore = true) (sa_InvalidStore : PySem.W.findIn K (.ref C_InvalidStore) "__setattr__" = some (some (.builtin "object.__setattr__"))) (ga_InvalidStore : PySem.W.findIn K (.ref C_InvalidStore) "__getattribute__" = some (some (.builtin "BaseException.__getattribute__"))) (gg_InvalidStore : PySem.W.findIn K (.ref C_InvalidStore) "__getattr__" = some none) (iC_InvalidStore : PySem.W.findIn K (.ref C_InvalidStore) "__init__" = some (some (.ref fI_InvalidStore))) (tC_InvalidStore : PySem.W.typeIn K (.ref fI_InvalidStore) = some (.type "function")) (kC_InvalidStore : PySem.W.keepIn K (.ref C_InvalidStore) = true) (eC_InvalidStore : PySem.W.subIn K (.ref C_InvalidStore) (.type "BaseException") = some true) (tyC_InvalidStore : PySem.W.typeIn K (.ref C_InvalidStore) = some (.type "type")) (hdC_InvalidStore : PySem.W.hasDictIn K C_InvalidStore = true) (vE_InvalidStore : PySem.W.subIn K (.ref C_InvalidStore) (.type "ValueError") = some true) (ei_InvalidStore : PySem.W.excInitIn K C_InvalidStore SX.veL "ValueError.__new__" = true) (su_InvalidStore : PySem.W.ks_superIn K C_InvalidStore C_InvalidStore "__init__" = some (some (.builtin "ValueError.__init__"))) (mr_InvalidStore : PySem.W.mroIn K C_InvalidStore (.ref C_InvalidStore) = some true) (fl_InvalidStore : K.lookup fI_InvalidStore = some ⟨oc_InvalidStore, od_InvalidStore, .func (PySem.W.ksFn "__init__" "InvalidStore.__init__" (defArgs (clsInit (topS 18))) (defBody (clsInit (topS 18))) (defScope (clsInit (topS 18))) .none .none doc_InvalidStore pm_InvalidStore an_InvalidStore (.ref cda_InvalidStore) ct_InvalidStore cc_InvalidStore), osl_InvalidStore⟩) (cd_InvalidStore : PySem.W.codeIn K (.ref cda_InvalidStore) "InvalidStore.__init__" = true) (lc_InvalidStore : K.lookup cda_InvalidStore = some ⟨ccl_InvalidStore, cdd_InvalidStore, .fields vs_InvalidStore, ccs_InvalidStore⟩) (v2_InvalidStore : vs_InvalidStore[2]? = some (.str file_InvalidStore tf_InvalidStore)) (fe_InvalidStore : ((P.main.file : Str) == file_InvalidStore) = true) (ce_InvalidStore : K.lookup cc_InvalidStore = some ⟨cl_InvalidStore, cld_InvalidStore, .cell (some (.ref C_InvalidStore)), csl_InvalidStore⟩) (no_InvalidStore : PySem.W.findIn K (.ref C_InvalidStore) "value" = some none)
    {C_InvalidStrengths fI_InvalidStrengths N_InvalidStrengths cda_InvalidStrengths cc_InvalidStrengths : Addr} {nm_InvalidStrengths qq_InvalidStrengths file_InvalidStrengths : Str} {bs_InvalidStrengths bm_InvalidStrengths sub_InvalidStrengths : List Value} {sn_InvalidStrengths : List Str} {ab_InvalidStrengths : Bool} {col_InvalidStrengths : Option Bool} {dd_InvalidStrengths an_InvalidStrengths od_InvalidStrengths cdd_InvalidStrengths cld_InvalidStrengths : Option Addr} {k0_InvalidStrengths k1_InvalidStrengths k2_InvalidStrengths k3_InvalidStrengths k5_InvalidStrengths : Option Value} {doc_InvalidStrengths pm_InvalidStrengths ct_InvalidStrengths oc_InvalidStrengths ccl_InvalidStrengths cl_InvalidStrengths : Value} {osl_InvalidStrengths ccs_InvalidStrengths csl_InvalidStrengths : Array (Option Value)} {vs_InvalidStrengths : Array Value} {tf_InvalidStrengths : PySem.Tok} (nC_InvalidStrengths : PySem.W.nsIn K mainGlobals "InvalidStrengths" = some (some (.ref C_InvalidStrengths))) (lk_InvalidStrengths : K.lookup C_InvalidStrengths = some (excClassObj nm_InvalidStrengths qq_InvalidStrengths C_InvalidStrengths N_InvalidStrengths bs_InvalidStrengths bm_InvalidStrengths true sn_InvalidStrengths sub_InvalidStrengths ab_InvalidStrengths col_InvalidStrengths dd_InvalidStrengths k0_InvalidStrengths k1_InvalidStrengths k2_InvalidStrengths k3_InvalidStrengths k5_InvalidStrengths "ValueError.__new__")) (rv_InvalidStrengths : PySem.HandSPX.refsVE bm_InvalidStrengths = true) (sa_InvalidStrengths : PySem.W.findIn K (.ref C_InvalidStrengths) "__setattr__" = some (some (.builtin "object.__setattr__"))) (ga_InvalidStrengths : PySem.W.findIn K (.ref C_InvalidStrengths) "__getattribute__" = some (some (.builtin "BaseException.__getattribute__"))) (gg_InvalidStrengths : PySem.W.findIn K (.ref C_InvalidStrengths) "__getattr__" = some none) (iC_InvalidStrengths : PySem.W.findIn K (.ref C_InvalidStrengths) "__init__" = some (some (.ref fI_InvalidStrengths))) (tC_InvalidStrengths : PySem.W.typeIn K (.ref fI_InvalidStrengths) = some (.type "function")) (kC_InvalidStrengths : PySem.W.keepIn K (.ref C_InvalidStrengths) = true) (eC_InvalidStrengths : PySem.W.subIn K (.ref C_InvalidStrengths) (.type "BaseException") = some true) (tyC_InvalidStrengths : PySem.W.typeIn K (.ref C_InvalidStrengths) = some (.type "type")) (hdC_InvalidStrengths : PySem.W.hasDictIn K C_InvalidStrengths = true) (vE_InvalidStrengths : PySem.W.subIn K (.ref C_InvalidStrengths) (.type "ValueError") = some true) (ei_InvalidStrengths : PySem.W.excInitIn K C_InvalidStrengths SX.veL "ValueError.__new__" = true) (su_InvalidStrengths : PySem.W.ks_superIn K C_InvalidStrengths C_InvalidStrengths "__init__" = some (some (.builtin "ValueError.__init__"))) (mr_InvalidStrengths : PySem.W.mroIn K C_InvalidStrengths (.ref C_InvalidStrengths) = some true) (fl_InvalidStrengths : K.lookup fI_InvalidStrengths = some ⟨oc_InvalidStrengths, od_InvalidStrengths, .func (PySem.W.ksFn "__init__" "InvalidStrengths.__init__" (defArgs (clsInit (topS 10))) (defBody (clsInit (topS 10))) (defScope (clsInit (topS 10))) .none .none doc_InvalidStrengths pm_InvalidStrengths an_InvalidStrengths (.ref cda_InvalidStrengths) ct_InvalidStrengths cc_InvalidStrengths), osl_InvalidStrengths⟩) (cd_InvalidStrengths : PySem.W.codeIn K (.ref cda_InvalidStrengths) "InvalidStrengths.__init__" = true) (lc_InvalidStrengths : K.lookup cda_InvalidStrengths = some ⟨ccl_InvalidStrengths, cdd_InvalidStrengths, .fields vs_InvalidStrengths, ccs_InvalidStrengths⟩) (v2_InvalidStrengths : vs_InvalidStrengths[2]? = some (.str file_InvalidStrengths tf_InvalidStrengths)) (fe_InvalidStrengths : ((P.main.file : Str) == file_InvalidStrengths) = true) (ce_InvalidStrengths : K.lookup cc_InvalidStrengths = some ⟨cl_InvalidStrengths, cld_InvalidStrengths, .cell (some (.ref C_InvalidStrengths)), csl_InvalidStrengths⟩) (no_InvalidStrengths : PySem.W.findIn K (.ref C_InvalidStrengths) "value" = some none)
    {C_InvalidText fI_InvalidText N_InvalidText cda_InvalidText cc_InvalidText : Addr} {nm_InvalidText qq_InvalidText file_InvalidText : Str} {bs_InvalidText bm_InvalidText sub_InvalidText : List Value} {sn_InvalidText : List Str} {ab_InvalidText : Bool} {col_InvalidText : Option Bool} {dd_InvalidText an_InvalidText od_InvalidText cdd_InvalidText cld_InvalidText : Option Addr} {k0_InvalidText k1_InvalidText k2_InvalidText k3_InvalidText k5_InvalidText : Option Value} {doc_InvalidText pm_InvalidText ct_InvalidText oc_InvalidText ccl_InvalidText cl_InvalidText : Value} {osl_InvalidText ccs_InvalidText csl_InvalidText : Array (Option Value)} {vs_InvalidText : Array Value} {tf_InvalidText : PySem.Tok} (nC_InvalidText : PySem.W.nsIn K mainGlobals "InvalidText" = some (some (.ref C_InvalidText))) (lk_InvalidText : K.lookup C_InvalidText = some (excClassObj nm_InvalidText qq_InvalidText C_InvalidText N_InvalidText bs_InvalidText bm_InvalidText true sn_InvalidText sub_InvalidText ab_InvalidText col_InvalidText dd_InvalidText k0_InvalidText k1_InvalidText k2_InvalidText k3_InvalidText k5_InvalidText "ValueError.__new__")) (rv_InvalidText : PySem.HandSPX.refsVE bm_InvalidText = true) (sa_InvalidText : PySem.W.findIn K (.ref C_InvalidText) "__setattr__" = some (some (.builtin "object.__setattr__"))) (ga_InvalidText : PySem.W.findIn K (.ref C_InvalidText) "__getattribute__" = some (some (.builtin "BaseException.__getattribute__"))) (gg_InvalidText : PySem.W.findIn K (.ref C_InvalidText) "__getattr__" = some none) (iC_InvalidText : PySem.W.findIn K (.ref C_InvalidText) "__init__" = some (some (.ref fI_InvalidText))) (tC_InvalidText : PySem.W.typeIn K (.ref fI_InvalidText) = some (.type "function")) (kC_InvalidText : PySem.W.keepIn K (.ref C_InvalidText) = true) (eC_InvalidText : PySem.W.subIn K (.ref C_InvalidText) (.type "BaseException") = some true) (tyC_InvalidText : PySem.W.typeIn K (.ref C_InvalidText) = some (.type "type")) (hdC_InvalidText : PySem.W.hasDictIn K C_InvalidText = true) (vE_InvalidText : PySem.W.subIn K (.ref C_InvalidText) (.type "ValueError") = some true) (ei_InvalidText : PySem.W.excInitIn K C_InvalidText SX.veL "ValueError.__new__" = true) (su_InvalidText : PySem.W.ks_superIn K C_InvalidText C_InvalidText "__init__" = some (some (.builtin "ValueError.__init__"))) (mr_InvalidText : PySem.W.mroIn K C_InvalidText (.ref C_InvalidText) = some true) (fl_InvalidText : K.lookup fI_InvalidText = some ⟨oc_InvalidText, od_InvalidText, .func (PySem.W.ksFn "__init__" "InvalidText.__init__" (defArgs (clsInit (topS 21))) (defBody (clsInit (topS 21))) (defScope (clsInit (topS 21))) .none .none doc_InvalidText pm_InvalidText an_InvalidText (.ref cda_InvalidText) ct_InvalidText cc_InvalidText), osl_InvalidText⟩) (cd_InvalidText : PySem.W.codeIn K (.ref cda_InvalidText) "InvalidText.__init__" = true) (lc_InvalidText : K.lookup cda_InvalidText = some ⟨ccl_InvalidText, cdd_InvalidText, .fields vs_InvalidText, ccs_InvalidText⟩) (v2_InvalidText : vs_InvalidText[2]? = some (.str file_InvalidText tf_InvalidText)) (fe_InvalidText : ((P.main.file : Str) == file_InvalidText) = true) (ce_InvalidText : K.lookup cc_InvalidText = some ⟨cl_InvalidText, cld_InvalidText, .cell (some (.ref C_InvalidText)), csl_InvalidText⟩) (no_InvalidText : PySem.W.findIn K (.ref C_InvalidText) "value" = some none)
    {C_InvalidWeaving fI_InvalidWeaving N_InvalidWeaving cda_InvalidWeaving cc_InvalidWeaving : Addr} {nm_InvalidWeaving qq_InvalidWeaving file_InvalidWeaving : Str} {bs_InvalidWeaving bm_InvalidWeaving sub_InvalidWeaving : List Value} {sn_InvalidWeaving : List Str} {ab_InvalidWeaving : Bool} {col_InvalidWeaving : Option Bool} {dd_InvalidWeaving an_InvalidWeaving od_InvalidWeaving cdd_InvalidWeaving cld_InvalidWeaving : Option Addr} {k0_InvalidWeaving k1_InvalidWeaving k2_InvalidWeaving k3_InvalidWeaving k5_InvalidWeaving : Option Value} {doc_InvalidWeaving pm_InvalidWeaving ct_InvalidWeaving oc_InvalidWeaving ccl_InvalidWeaving cl_InvalidWeaving : Value} {osl_InvalidWeaving ccs_InvalidWeaving csl_InvalidWeaving : Array (Option Value)} {vs_InvalidWeaving : Array Value} {tf_InvalidWeaving : PySem.Tok} (nC_InvalidWeaving : PySem.W.nsIn K mainGlobals "InvalidWeaving" = some (some (.ref C_InvalidWeaving))) (lk_InvalidWeaving : K.lookup C_InvalidWeaving = some (excClassObj nm_InvalidWeaving qq_InvalidWeaving C_InvalidWeaving N_InvalidWeaving bs_InvalidWeaving bm_InvalidWeaving true sn_InvalidWeaving sub_InvalidWeaving ab_InvalidWeaving col_InvalidWeaving dd_InvalidWeaving k0_InvalidWeaving k1_InvalidWeaving k2_InvalidWeaving k3_InvalidWeaving k5_InvalidWeaving "ValueError.__new__")) (rv_InvalidWeaving : PySem.HandSPX.refsVE bm_InvalidWeaving = true) (sa_InvalidWeaving : PySem.W.findIn K (.ref C_InvalidWeaving) "__setattr__" = some (some (.builtin "object.__setattr__"))) (ga_InvalidWeaving : PySem.W.findIn K (.ref C_InvalidWeaving) "__getattribute__" = some (some (.builtin "BaseException.__getattribute__"))) (gg_InvalidWeaving : PySem.W.findIn K (.ref C_InvalidWeaving) "__getattr__" = some none) (iC_InvalidWeaving : PySem.W.findIn K (.ref C_InvalidWeaving) "__init__" = some (some (.ref fI_InvalidWeaving))) (tC_InvalidWeaving : PySem.W.typeIn K (.ref fI_InvalidWeaving) = some (.type "function")) (kC_InvalidWeaving : PySem.W.keepIn K (.ref C_InvalidWeaving) = true) (eC_InvalidWeaving : PySem.W.subIn K (.ref C_InvalidWeaving) (.type "BaseException") = some true) (tyC_InvalidWeaving : PySem.W.typeIn K (.ref C_InvalidWeaving) = some (.type "type")) (hdC_InvalidWeaving : PySem.W.hasDictIn K C_InvalidWeaving = true) (vE_InvalidWeaving : PySem.W.subIn K (.ref C_InvalidWeaving) (.type "ValueError") = some true) (ei_InvalidWeaving : PySem.W.excInitIn K C_InvalidWeaving SX.veL "ValueError.__new__" = true) (su_InvalidWeaving : PySem.W.ks_superIn K C_InvalidWeaving C_InvalidWeaving "__init__" = some (some (.builtin "ValueError.__init__"))) (mr_InvalidWeaving : PySem.W.mroIn K C_InvalidWeaving (.ref C_InvalidWeaving) = some true) (fl_InvalidWeaving : K.lookup fI_InvalidWeaving = some ⟨oc_InvalidWeaving, od_InvalidWeaving, .func (PySem.W.ksFn "__init__" "InvalidWeaving.__init__" (defArgs (clsInit (topS 17))) (defBody (clsInit (topS 17))) (defScope (clsInit (topS 17))) .none .none doc_InvalidWeaving pm_InvalidWeaving an_InvalidWeaving (.ref cda_InvalidWeaving) ct_InvalidWeaving cc_InvalidWeaving), osl_InvalidWeaving⟩) (cd_InvalidWeaving : PySem.W.codeIn K (.ref cda_InvalidWeaving) "InvalidWeaving.__init__" = true) (lc_InvalidWeaving : K.lookup cda_InvalidWeaving = some ⟨ccl_InvalidWeaving, cdd_InvalidWeaving, .fields vs_InvalidWeaving, ccs_InvalidWeaving⟩) (v2_InvalidWeaving : vs_InvalidWeaving[2]? = some (.str file_InvalidWeaving tf_InvalidWeaving)) (fe_InvalidWeaving : ((P.main.file : Str) == file_InvalidWeaving) = true) (ce_InvalidWeaving : K.lookup cc_InvalidWeaving = some ⟨cl_InvalidWeaving, cld_InvalidWeaving, .cell (some (.ref C_InvalidWeaving)), csl_InvalidWeaving⟩) (no_InvalidWeaving : PySem.W.findIn K (.ref C_InvalidWeaving) "value" = some none)
    {C_NameTaken fI_NameTaken N_NameTaken cda_NameTaken cc_NameTaken : Addr} {nm_NameTaken qq_NameTaken file_NameTaken : Str} {bs_NameTaken bm_NameTaken sub_NameTaken : List Value} {sn_NameTaken : List Str} {ab_NameTaken : Bool} {col_NameTaken : Option Bool} {dd_NameTaken an_NameTaken od_NameTaken cdd_NameTaken cld_NameTaken : Option Addr} {k0_NameTaken k1_NameTaken k2_NameTaken k3_NameTaken k5_NameTaken : Option Value} {doc_NameTaken pm_NameTaken ct_NameTaken oc_NameTaken ccl_NameTaken cl_NameTaken : Value} {osl_NameTaken ccs_NameTaken csl_NameTaken : Array (Option Value)} {vs_NameTaken : Array Value} {tf_NameTaken : PySem.Tok} (nC_NameTaken : PySem.W.nsIn K mainGlobals "NameTaken" = some (some (.ref C_NameTaken))) (lk_NameTaken : K.lookup C_NameTaken = some (excClassObj nm_NameTaken qq_NameTaken C_NameTaken N_NameTaken bs_NameTaken bm_NameTaken true sn_NameTaken sub_NameTaken ab_NameTaken col_NameTaken dd_NameTaken k0_NameTaken k1_NameTaken k2_NameTaken k3_NameTaken k5_NameTaken "ValueError.__new__")) (rv_NameTaken : PySem.HandSPX.refsVE bm_NameTaken = true) (sa_NameTaken : PySem.W.findIn K (.ref C_NameTaken) "__setattr__" = some (some (.builtin "object.__setattr__"))) (ga_NameTaken : PySem.W.findIn K (.ref C_NameTaken) "__getattribute__" = some (some (.builtin "BaseException.__getattribute__"))) (gg_NameTaken : PySem.W.findIn K (.ref C_NameTaken) "__getattr__" = some none) (iC_NameTaken : PySem.W.findIn K (.ref C_NameTaken) "__init__" = some (some (.ref fI_NameTaken))) (tC_NameTaken : PySem.W.typeIn K (.ref fI_NameTaken) = some (.type "function")) (kC_NameTaken : PySem.W.keepIn K (.ref C_NameTaken) = true) (eC_NameTaken : PySem.W.subIn K (.ref C_NameTaken) (.type "BaseException") = some true) (tyC_NameTaken : PySem.W.typeIn K (.ref C_NameTaken) = some (.type "type")) (hdC_NameTaken : PySem.W.hasDictIn K C_NameTaken = true) (vE_NameTaken : PySem.W.subIn K (.ref C_NameTaken) (.type "ValueError") = some true) (ei_NameTaken : PySem.W.excInitIn K C_NameTaken SX.veL "ValueError.__new__" = true) (su_NameTaken : PySem.W.ks_superIn K C_NameTaken C_NameTaken "__init__" = some (some (.builtin "ValueError.__init__"))) (mr_NameTaken : PySem.W.mroIn K C_NameTaken (.ref C_NameTaken) = some true) (fl_NameTaken : K.lookup fI_NameTaken = some ⟨oc_NameTaken, od_NameTaken, .func (PySem.W.ksFn "__init__" "NameTaken.__init__" (defArgs (clsInit (topS 27))) (defBody (clsInit (topS 27))) (defScope (clsInit (topS 27))) .none .none doc_NameTaken pm_NameTaken an_NameTaken (.ref cda_NameTaken) ct_NameTaken cc_NameTaken), osl_NameTaken⟩) (cd_NameTaken : PySem.W.codeIn K (.ref cda_NameTaken) "NameTaken.__init__" = true) (lc_NameTaken : K.lookup cda_NameTaken = some ⟨ccl_NameTaken, cdd_NameTaken, .fields vs_NameTaken, ccs_NameTaken⟩) (v2_NameTaken : vs_NameTaken[2]? = some (.str file_NameTaken tf_NameTaken)) (fe_NameTaken : ((P.main.file : Str) == file_NameTaken) = true) (ce_NameTaken : K.lookup cc_NameTaken = some ⟨cl_NameTaken, cld_NameTaken, .cell (some (.ref C_NameTaken)), csl_NameTaken⟩) (no_NameTaken : PySem.W.findIn K (.ref C_NameTaken) "name" = some none)
    {C_NoProgram fI_NoProgram N_NoProgram cda_NoProgram cc_NoProgram : Addr} {nm_NoProgram qq_NoProgram file_NoProgram : Str} {bs_NoProgram bm_NoProgram sub_NoProgram : List Value} {sn_NoProgram : List Str} {ab_NoProgram : Bool} {col_NoProgram : Option Bool} {dd_NoProgram an_NoProgram od_NoProgram cdd_NoProgram cld_NoProgram : Option Addr} {k0_NoProgram k1_NoProgram k2_NoProgram k3_NoProgram k5_NoProgram : Option Value} {doc_NoProgram pm_NoProgram ct_NoProgram oc_NoProgram ccl_NoProgram cl_NoProgram : Value} {osl_NoProgram ccs_NoProgram csl_NoProgram : Array (Option Value)} {vs_NoProgram : Array Value} {tf_NoProgram : PySem.Tok} (nC_NoProgram : PySem.W.nsIn K mainGlobals "NoProgram" = some (some (.ref C_NoProgram))) (lk_NoProgram : K.lookup C_NoProgram = some (excClassObj nm_NoProgram qq_NoProgram C_NoProgram N_NoProgram bs_NoProgram bm_NoProgram true sn_NoProgram sub_NoProgram ab_NoProgram col_NoProgram dd_NoProgram k0_NoProgram k1_NoProgram k2_NoProgram k3_NoProgram k5_NoProgram "ValueError.__new__")) (rv_NoProgram : PySem.HandSPX.refsVE bm_NoProgram = true) (sa_NoProgram : PySem.W.findIn K (.ref C_NoProgram) "__setattr__" = some (some (.builtin "object.__setattr__"))) (ga_NoProgram : PySem.W.findIn K (.ref C_NoProgram) "__getattribute__" = some (some (.builtin "BaseException.__getattribute__"))) (gg_NoProgram : PySem.W.findIn K (.ref C_NoProgram) "__getattr__" = some none) (iC_NoProgram : PySem.W.findIn K (.ref C_NoProgram) "__init__" = some (some (.ref fI_NoProgram))) (tC_NoProgram : PySem.W.typeIn K (.ref fI_NoProgram) = some (.type "function")) (kC_NoProgram : PySem.W.keepIn K (.ref C_NoProgram) = true) (eC_NoProgram : PySem.W.subIn K (.ref C_NoProgram) (.type "BaseException") = some true) (tyC_NoProgram : PySem.W.typeIn K (.ref C_NoProgram) = some (.type "type")) (hdC_NoProgram : PySem.W.hasDictIn K C_NoProgram = true) (vE_NoProgram : PySem.W.subIn K (.ref C_NoProgram) (.type "ValueError") = some true) (ei_NoProgram : PySem.W.excInitIn K C_NoProgram SX.veL "ValueError.__new__" = true) (su_NoProgram : PySem.W.ks_superIn K C_NoProgram C_NoProgram "__init__" = some (some (.builtin "ValueError.__init__"))) (mr_NoProgram : PySem.W.mroIn K C_NoProgram (.ref C_NoProgram) = some true) (fl_NoProgram : K.lookup fI_NoProgram = some ⟨oc_NoProgram, od_NoProgram, .func (PySem.W.ksFn "__init__" "NoProgram.__init__" (defArgs (clsInit (topS 31))) (defBody (clsInit (topS 31))) (defScope (clsInit (topS 31))) .none .none doc_NoProgram pm_NoProgram an_NoProgram (.ref cda_NoProgram) ct_NoProgram cc_NoProgram), osl_NoProgram⟩) (cd_NoProgram : PySem.W.codeIn K (.ref cda_NoProgram) "NoProgram.__init__" = true) (lc_NoProgram : K.lookup cda_NoProgram = some ⟨ccl_NoProgram, cdd_NoProgram, .fields vs_NoProgram, ccs_NoProgram⟩) (v2_NoProgram : vs_NoProgram[2]? = some (.str file_NoProgram tf_NoProgram)) (fe_NoProgram : ((P.main.file : Str) == file_NoProgram) = true) (ce_NoProgram : K.lookup cc_NoProgram = some ⟨cl_NoProgram, cld_NoProgram, .cell (some (.ref C_NoProgram)), csl_NoProgram⟩) (no_NoProgram : PySem.W.findIn K (.ref C_NoProgram) "kind" = some none)
    {C_NoStore fI_NoStore N_NoStore cda_NoStore cc_NoStore : Addr} {nm_NoStore qq_NoStore file_NoStore : Str} {bs_NoStore bm_NoStore sub_NoStore : List Value} {sn_NoStore : List Str} {ab_NoStore : Bool} {col_NoStore : Option Bool} {dd_NoStore an_NoStore od_NoStore cdd_NoStore cld_NoStore : Option Addr} {k0_NoStore k1_NoStore k2_NoStore k3_NoStore k5_NoStore : Option Value} {doc_NoStore pm_NoStore ct_NoStore oc_NoStore ccl_NoStore cl_NoStore : Value} {osl_NoStore ccs_NoStore csl_NoStore : Array (Option Value)} {vs_NoStore : Array Value} {tf_NoStore : PySem.Tok} (nC_NoStore : PySem.W.nsIn K mainGlobals "NoStore" = some (some (.ref C_NoStore))) (lk_NoStore : K.lookup C_NoStore = some (excClassObj nm_NoStore qq_NoStore C_NoStore N_NoStore bs_NoStore bm_NoStore true sn_NoStore sub_NoStore ab_NoStore col_NoStore dd_NoStore k0_NoStore k1_NoStore k2_NoStore k3_NoStore k5_NoStore "ValueError.__new__")) (rv_NoStore : PySem.HandSPX.refsVE bm_NoStore = true) (sa_NoStore : PySem.W.findIn K (.ref C_NoStore) "__setattr__" = some (some (.builtin "object.__setattr__"))) (ga_NoStore : PySem.W.findIn K (.ref C_NoStore) "__getattribute__" = some (some (.builtin "BaseException.__getattribute__"))) (gg_NoStore : PySem.W.findIn K (.ref C_NoStore) "__getattr__" = some none) (iC_NoStore : PySem.W.findIn K (.ref C_NoStore) "__init__" = some (some (.ref fI_NoStore))) (tC_NoStore : PySem.W.typeIn K (.ref fI_NoStore) = some (.type "function")) (kC_NoStore : PySem.W.keepIn K (.ref C_NoStore) = true) (eC_NoStore : PySem.W.subIn K (.ref C_NoStore) (.type "BaseException") = some true) (tyC_NoStore : PySem.W.typeIn K (.ref C_NoStore) = some (.type "type")) (hdC_NoStore : PySem.W.hasDictIn K C_NoStore = true) (vE_NoStore : PySem.W.subIn K (.ref C_NoStore) (.type "ValueError") = some true) (ei_NoStore : PySem.W.excInitIn K C_NoStore SX.veL "ValueError.__new__" = true) (su_NoStore : PySem.W.ks_superIn K C_NoStore C_NoStore "__init__" = some (some (.builtin "ValueError.__init__"))) (mr_NoStore : PySem.W.mroIn K C_NoStore (.ref C_NoStore) = some true) (fl_NoStore : K.lookup fI_NoStore = some ⟨oc_NoStore, od_NoStore, .func (PySem.W.ksFn "__init__" "NoStore.__init__" (defArgs (clsInit (topS 37))) (defBody (clsInit (topS 37))) (defScope (clsInit (topS 37))) .none .none doc_NoStore pm_NoStore an_NoStore (.ref cda_NoStore) ct_NoStore cc_NoStore), osl_NoStore⟩) (cd_NoStore : PySem.W.codeIn K (.ref cda_NoStore) "NoStore.__init__" = true) (lc_NoStore : K.lookup cda_NoStore = some ⟨ccl_NoStore, cdd_NoStore, .fields vs_NoStore, ccs_NoStore⟩) (v2_NoStore : vs_NoStore[2]? = some (.str file_NoStore tf_NoStore)) (fe_NoStore : ((P.main.file : Str) == file_NoStore) = true) (ce_NoStore : K.lookup cc_NoStore = some ⟨cl_NoStore, cld_NoStore, .cell (some (.ref C_NoStore)), csl_NoStore⟩)
    {C_NotInside fI_NotInside N_NotInside cda_NotInside cc_NotInside : Addr} {nm_NotInside qq_NotInside file_NotInside : Str} {bs_NotInside bm_NotInside sub_NotInside : List Value} {sn_NotInside : List Str} {ab_NotInside : Bool} {col_NotInside : Option Bool} {dd_NotInside an_NotInside od_NotInside cdd_NotInside cld_NotInside : Option Addr} {k0_NotInside k1_NotInside k2_NotInside k3_NotInside k5_NotInside : Option Value} {doc_NotInside pm_NotInside ct_NotInside oc_NotInside ccl_NotInside cl_NotInside : Value} {osl_NotInside ccs_NotInside csl_NotInside : Array (Option Value)} {vs_NotInside : Array Value} {tf_NotInside : PySem.Tok} (nC_NotInside : PySem.W.nsIn K mainGlobals "NotInside" = some (some (.ref C_NotInside))) (lk_NotInside : K.lookup C_NotInside = some (excClassObj nm_NotInside qq_NotInside C_NotInside N_NotInside bs_NotInside bm_NotInside true sn_NotInside sub_NotInside ab_NotInside col_NotInside dd_NotInside k0_NotInside k1_NotInside k2_NotInside k3_NotInside k5_NotInside "ValueError.__new__")) (rv_NotInside : PySem.HandSPX.refsVE bm_NotInside = true) (sa_NotInside : PySem.W.findIn K (.ref C_NotInside) "__setattr__" = some (some (.builtin "object.__setattr__"))) (ga_NotInside : PySem.W.findIn K (.ref C_NotInside) "__getattribute__" = some (some (.builtin "BaseException.__getattribute__"))) (gg_NotInside : PySem.W.findIn K (.ref C_NotInside) "__getattr__" = some none) (iC_NotInside : PySem.W.findIn K (.ref C_NotInside) "__init__" = some (some (.ref fI_NotInside))) (tC_NotInside : PySem.W.typeIn K (.ref fI_NotInside) = some (.type "function")) (kC_NotInside : PySem.W.keepIn K (.ref C_NotInside) = true) (eC_NotInside : PySem.W.subIn K (.ref C_NotInside) (.type "BaseException") = some true) (tyC_NotInside : PySem.W.typeIn K (.ref C_NotInside) = some (.type "type")) (hdC_NotInside : PySem.W.hasDictIn K C_NotInside = true) (vE_NotInside : PySem.W.subIn K (.ref C_NotInside) (.type "ValueError") = some true) (ei_NotInside : PySem.W.excInitIn K C_NotInside SX.veL "ValueError.__new__" = true) (su_NotInside : PySem.W.ks_superIn K C_NotInside C_NotInside "__init__" = some (some (.builtin "ValueError.__init__"))) (mr_NotInside : PySem.W.mroIn K C_NotInside (.ref C_NotInside) = some true) (fl_NotInside : K.lookup fI_NotInside = some ⟨oc_NotInside, od_NotInside, .func (PySem.W.ksFn "__init__" "NotInside.__init__" (defArgs (clsInit (topS 29))) (defBody (clsInit (topS 29))) (defScope (clsInit (topS 29))) .none .none doc_NotInside pm_NotInside an_NotInside (.ref cda_NotInside) ct_NotInside cc_NotInside), osl_NotInside⟩) (cd_NotInside : PySem.W.codeIn K (.ref cda_NotInside) "NotInside.__init__" = true) (lc_NotInside : K.lookup cda_NotInside = some ⟨ccl_NotInside, cdd_NotInside, .fields vs_NotInside, ccs_NotInside⟩) (v2_NotInside : vs_NotInside[2]? = some (.str file_NotInside tf_NotInside)) (fe_NotInside : ((P.main.file : Str) == file_NotInside) = true) (ce_NotInside : K.lookup cc_NotInside = some ⟨cl_NotInside, cld_NotInside, .cell (some (.ref C_NotInside)), csl_NotInside⟩) (no_NotInside : PySem.W.findIn K (.ref C_NotInside) "at" = some none)
    {C_NotNeighbours fI_NotNeighbours N_NotNeighbours cda_NotNeighbours cc_NotNeighbours : Addr} {nm_NotNeighbours qq_NotNeighbours file_NotNeighbours : Str} {bs_NotNeighbours bm_NotNeighbours sub_NotNeighbours : List Value} {sn_NotNeighbours : List Str} {ab_NotNeighbours : Bool} {col_NotNeighbours : Option Bool} {dd_NotNeighbours an_NotNeighbours od_NotNeighbours cdd_NotNeighbours cld_NotNeighbours : Option Addr} {k0_NotNeighbours k1_NotNeighbours k2_NotNeighbours k3_NotNeighbours k5_NotNeighbours : Option Value} {doc_NotNeighbours pm_NotNeighbours ct_NotNeighbours oc_NotNeighbours ccl_NotNeighbours cl_NotNeighbours : Value} {osl_NotNeighbours ccs_NotNeighbours csl_NotNeighbours : Array (Option Value)} {vs_NotNeighbours : Array Value} {tf_NotNeighbours : PySem.Tok} (nC_NotNeighbours : PySem.W.nsIn K mainGlobals "NotNeighbours" = some (some (.ref C_NotNeighbours))) (lk_NotNeighbours : K.lookup C_NotNeighbours = some (excClassObj nm_NotNeighbours qq_NotNeighbours C_NotNeighbours N_NotNeighbours bs_NotNeighbours bm_NotNeighbours true sn_NotNeighbours sub_NotNeighbours ab_NotNeighbours col_NotNeighbours dd_NotNeighbours k0_NotNeighbours k1_NotNeighbours k2_NotNeighbours k3_NotNeighbours k5_NotNeighbours "ValueError.__new__")) (rv_NotNeighbours : PySem.HandSPX.refsVE bm_NotNeighbours = true) (sa_NotNeighbours : PySem.W.findIn K (.ref C_NotNeighbours) "__setattr__" = some (some (.builtin "object.__setattr__"))) (ga_NotNeighbours : PySem.W.findIn K (.ref C_NotNeighbours) "__getattribute__" = some (some (.builtin "BaseException.__getattribute__"))) (gg_NotNeighbours : PySem.W.findIn K (.ref C_NotNeighbours) "__getattr__" = some none) (iC_NotNeighbours : PySem.W.findIn K (.ref C_NotNeighbours) "__init__" = some (some (.ref fI_NotNeighbours))) (tC_NotNeighbours : PySem.W.typeIn K (.ref fI_NotNeighbours) = some (.type "function")) (kC_NotNeighbours : PySem.W.keepIn K (.ref C_NotNeighbours) = true) (eC_NotNeighbours : PySem.W.subIn K (.ref C_NotNeighbours) (.type "BaseException") = some true) (tyC_NotNeighbours : PySem.W.typeIn K (.ref C_NotNeighbours) = some (.type "type")) (hdC_NotNeighbours : PySem.W.hasDictIn K C_NotNeighbours = true) (vE_NotNeighbours : PySem.W.subIn K (.ref C_NotNeighbours) (.type "ValueError") = some true) (ei_NotNeighbours : PySem.W.excInitIn K C_NotNeighbours SX.veL "ValueError.__new__" = true) (su_NotNeighbours : PySem.W.ks_superIn K C_NotNeighbours C_NotNeighbours "__init__" = some (some (.builtin "ValueError.__init__"))) (mr_NotNeighbours : PySem.W.mroIn K C_NotNeighbours (.ref C_NotNeighbours) = some true) (fl_NotNeighbours : K.lookup fI_NotNeighbours = some ⟨oc_NotNeighbours, od_NotNeighbours, .func (PySem.W.ksFn "__init__" "NotNeighbours.__init__" (defArgs (clsInit (topS 30))) (defBody (clsInit (topS 30))) (defScope (clsInit (topS 30))) .none .none doc_NotNeighbours pm_NotNeighbours an_NotNeighbours (.ref cda_NotNeighbours) ct_NotNeighbours cc_NotNeighbours), osl_NotNeighbours⟩) (cd_NotNeighbours : PySem.W.codeIn K (.ref cda_NotNeighbours) "NotNeighbours.__init__" = true) (lc_NotNeighbours : K.lookup cda_NotNeighbours = some ⟨ccl_NotNeighbours, cdd_NotNeighbours, .fields vs_NotNeighbours, ccs_NotNeighbours⟩) (v2_NotNeighbours : vs_NotNeighbours[2]? = some (.str file_NotNeighbours tf_NotNeighbours)) (fe_NotNeighbours : ((P.main.file : Str) == file_NotNeighbours) = true) (ce_NotNeighbours : K.lookup cc_NotNeighbours = some ⟨cl_NotNeighbours, cld_NotNeighbours, .cell (some (.ref C_NotNeighbours)), csl_NotNeighbours⟩) (no_NotNeighbours : PySem.W.findIn K (.ref C_NotNeighbours) "name" = some none)
    {C_NotRight fI_NotRight N_NotRight cda_NotRight cc_NotRight : Addr} {nm_NotRight qq_NotRight file_NotRight : Str} {bs_NotRight bm_NotRight sub_NotRight : List Value} {sn_NotRight : List Str} {ab_NotRight : Bool} {col_NotRight : Option Bool} {dd_NotRight an_NotRight od_NotRight cdd_NotRight cld_NotRight : Option Addr} {k0_NotRight k1_NotRight k2_NotRight k3_NotRight k5_NotRight : Option Value} {doc_NotRight pm_NotRight ct_NotRight oc_NotRight ccl_NotRight cl_NotRight : Value} {osl_NotRight ccs_NotRight csl_NotRight : Array (Option Value)} {vs_NotRight : Array Value} {tf_NotRight : PySem.Tok} (nC_NotRight : PySem.W.nsIn K mainGlobals "NotRight" = some (some (.ref C_NotRight))) (lk_NotRight : K.lookup C_NotRight = some (excClassObj nm_NotRight qq_NotRight C_NotRight N_NotRight bs_NotRight bm_NotRight true sn_NotRight sub_NotRight ab_NotRight col_NotRight dd_NotRight k0_NotRight k1_NotRight k2_NotRight k3_NotRight k5_NotRight "ValueError.__new__")) (rv_NotRight : PySem.HandSPX.refsVE bm_NotRight = true) (sa_NotRight : PySem.W.findIn K (.ref C_NotRight) "__setattr__" = some (some (.builtin "object.__setattr__"))) (ga_NotRight : PySem.W.findIn K (.ref C_NotRight) "__getattribute__" = some (some (.builtin "BaseException.__getattribute__"))) (gg_NotRight : PySem.W.findIn K (.ref C_NotRight) "__getattr__" = some none) (iC_NotRight : PySem.W.findIn K (.ref C_NotRight) "__init__" = some (some (.ref fI_NotRight))) (tC_NotRight : PySem.W.typeIn K (.ref fI_NotRight) = some (.type "function")) (kC_NotRight : PySem.W.keepIn K (.ref C_NotRight) = true) (eC_NotRight : PySem.W.subIn K (.ref C_NotRight) (.type "BaseException") = some true) (tyC_NotRight : PySem.W.typeIn K (.ref C_NotRight) = some (.type "type")) (hdC_NotRight : PySem.W.hasDictIn K C_NotRight = true) (vE_NotRight : PySem.W.subIn K (.ref C_NotRight) (.type "ValueError") = some true) (ei_NotRight : PySem.W.excInitIn K C_NotRight SX.veL "ValueError.__new__" = true) (su_NotRight : PySem.W.ks_superIn K C_NotRight C_NotRight "__init__" = some (some (.builtin "ValueError.__init__"))) (mr_NotRight : PySem.W.mroIn K C_NotRight (.ref C_NotRight) = some true) (fl_NotRight : K.lookup fI_NotRight = some ⟨oc_NotRight, od_NotRight, .func (PySem.W.ksFn "__init__" "NotRight.__init__" (defArgs (clsInit (topS 36))) (defBody (clsInit (topS 36))) (defScope (clsInit (topS 36))) .none .none doc_NotRight pm_NotRight an_NotRight (.ref cda_NotRight) ct_NotRight cc_NotRight), osl_NotRight⟩) (cd_NotRight : PySem.W.codeIn K (.ref cda_NotRight) "NotRight.__init__" = true) (lc_NotRight : K.lookup cda_NotRight = some ⟨ccl_NotRight, cdd_NotRight, .fields vs_NotRight, ccs_NotRight⟩) (v2_NotRight : vs_NotRight[2]? = some (.str file_NotRight tf_NotRight)) (fe_NotRight : ((P.main.file : Str) == file_NotRight) = true) (ce_NotRight : K.lookup cc_NotRight = some ⟨cl_NotRight, cld_NotRight, .cell (some (.ref C_NotRight)), csl_NotRight⟩)
    {C_NothingBad fI_NothingBad N_NothingBad cda_NothingBad cc_NothingBad : Addr} {nm_NothingBad qq_NothingBad file_NothingBad : Str} {bs_NothingBad bm_NothingBad sub_NothingBad : List Value} {sn_NothingBad : List Str} {ab_NothingBad : Bool} {col_NothingBad : Option Bool} {dd_NothingBad an_NothingBad od_NothingBad cdd_NothingBad cld_NothingBad : Option Addr} {k0_NothingBad k1_NothingBad k2_NothingBad k3_NothingBad k5_NothingBad : Option Value} {doc_NothingBad pm_NothingBad ct_NothingBad oc_NothingBad ccl_NothingBad cl_NothingBad : Value} {osl_NothingBad ccs_NothingBad csl_NothingBad : Array (Option Value)} {vs_NothingBad : Array Value} {tf_NothingBad : PySem.Tok} (nC_NothingBad : PySem.W.nsIn K mainGlobals "NothingBad" = some (some (.ref C_NothingBad))) (lk_NothingBad : K.lookup C_NothingBad = some (excClassObj nm_NothingBad qq_NothingBad C_NothingBad N_NothingBad bs_NothingBad bm_NothingBad true sn_NothingBad sub_NothingBad ab_NothingBad col_NothingBad dd_NothingBad k0_NothingBad k1_NothingBad k2_NothingBad k3_NothingBad k5_NothingBad "ValueError.__new__")) (rv_NothingBad : PySem.HandSPX.refsVE bm_NothingBad = true) (sa_NothingBad : PySem.W.findIn K (.ref C_NothingBad) "__setattr__" = some (some (.builtin "object.__setattr__"))) (ga_NothingBad : PySem.W.findIn K (.ref C_NothingBad) "__getattribute__" = some (some (.builtin "BaseException.__getattribute__"))) (gg_NothingBad : PySem.W.findIn K (.ref C_NothingBad) "__getattr__" = some none) (iC_NothingBad : PySem.W.findIn K (.ref C_NothingBad) "__init__" = some (some (.ref fI_NothingBad))) (tC_NothingBad : PySem.W.typeIn K (.ref fI_NothingBad) = some (.type "function")) (kC_NothingBad : PySem.W.keepIn K (.ref C_NothingBad) = true) (eC_NothingBad : PySem.W.subIn K (.ref C_NothingBad) (.type "BaseException") = some true) (tyC_NothingBad : PySem.W.typeIn K (.ref C_NothingBad) = some (.type "type")) (hdC_NothingBad : PySem.W.hasDictIn K C_NothingBad = true) (vE_NothingBad : PySem.W.subIn K (.ref C_NothingBad) (.type "ValueError") = some true) (ei_NothingBad : PySem.W.excInitIn K C_NothingBad SX.veL "ValueError.__new__" = true) (su_NothingBad : PySem.W.ks_superIn K C_NothingBad C_NothingBad "__init__" = some (some (.builtin "ValueError.__init__"))) (mr_NothingBad : PySem.W.mroIn K C_NothingBad (.ref C_NothingBad) = some true) (fl_NothingBad : K.lookup fI_NothingBad = some ⟨oc_NothingBad, od_NothingBad, .func (PySem.W.ksFn "__init__" "NothingBad.__init__" (defArgs (clsInit (topS 35))) (defBody (clsInit (topS 35))) (defScope (clsInit (topS 35))) .none .none doc_NothingBad pm_NothingBad an_NothingBad (.ref cda_NothingBad) ct_NothingBad cc_NothingBad), osl_NothingBad⟩) (cd_NothingBad : PySem.W.codeIn K (.ref cda_NothingBad) "NothingBad.__init__" = true) (lc_NothingBad : K.lookup cda_NothingBad = some ⟨ccl_NothingBad, cdd_NothingBad, .fields vs_NothingBad, ccs_NothingBad⟩) (v2_NothingBad : vs_NothingBad[2]? = some (.str file_NothingBad tf_NothingBad)) (fe_NothingBad : ((P.main.file : Str) == file_NothingBad) = true) (ce_NothingBad : K.lookup cc_NothingBad = some ⟨cl_NothingBad, cld_NothingBad, .cell (some (.ref C_NothingBad)), csl_NothingBad⟩)
    {C_NothingToRedo fI_NothingToRedo N_NothingToRedo cda_NothingToRedo cc_NothingToRedo : Addr} {nm_NothingToRedo qq_NothingToRedo file_NothingToRedo : Str} {bs_NothingToRedo bm_NothingToRedo sub_NothingToRedo : List Value} {sn_NothingToRedo : List Str} {ab_NothingToRedo : Bool} {col_NothingToRedo : Option Bool} {dd_NothingToRedo an_NothingToRedo od_NothingToRedo cdd_NothingToRedo cld_NothingToRedo : Option Addr} {k0_NothingToRedo k1_NothingToRedo k2_NothingToRedo k3_NothingToRedo k5_NothingToRedo : Option Value} {doc_NothingToRedo pm_NothingToRedo ct_NothingToRedo oc_NothingToRedo ccl_NothingToRedo cl_NothingToRedo : Value} {osl_NothingToRedo ccs_NothingToRedo csl_NothingToRedo : Array (Option Value)} {vs_NothingToRedo : Array Value} {tf_NothingToRedo : PySem.Tok} (nC_NothingToRedo : PySem.W.nsIn K mainGlobals "NothingToRedo" = some (some (.ref C_NothingToRedo))) (lk_NothingToRedo : K.lookup C_NothingToRedo = some (excClassObj nm_NothingToRedo qq_NothingToRedo C_NothingToRedo N_NothingToRedo bs_NothingToRedo bm_NothingToRedo true sn_NothingToRedo sub_NothingToRedo ab_NothingToRedo col_NothingToRedo dd_NothingToRedo k0_NothingToRedo k1_NothingToRedo k2_NothingToRedo k3_NothingToRedo k5_NothingToRedo "ValueError.__new__")) (rv_NothingToRedo : PySem.HandSPX.refsVE bm_NothingToRedo = true) (sa_NothingToRedo : PySem.W.findIn K (.ref C_NothingToRedo) "__setattr__" = some (some (.builtin "object.__setattr__"))) (ga_NothingToRedo : PySem.W.findIn K (.ref C_NothingToRedo) "__getattribute__" = some (some (.builtin "BaseException.__getattribute__"))) (gg_NothingToRedo : PySem.W.findIn K (.ref C_NothingToRedo) "__getattr__" = some none) (iC_NothingToRedo : PySem.W.findIn K (.ref C_NothingToRedo) "__init__" = some (some (.ref fI_NothingToRedo))) (tC_NothingToRedo : PySem.W.typeIn K (.ref fI_NothingToRedo) = some (.type "function")) (kC_NothingToRedo : PySem.W.keepIn K (.ref C_NothingToRedo) = true) (eC_NothingToRedo : PySem.W.subIn K (.ref C_NothingToRedo) (.type "BaseException") = some true) (tyC_NothingToRedo : PySem.W.typeIn K (.ref C_NothingToRedo) = some (.type "type")) (hdC_NothingToRedo : PySem.W.hasDictIn K C_NothingToRedo = true) (vE_NothingToRedo : PySem.W.subIn K (.ref C_NothingToRedo) (.type "ValueError") = some true) (ei_NothingToRedo : PySem.W.excInitIn K C_NothingToRedo SX.veL "ValueError.__new__" = true) (su_NothingToRedo : PySem.W.ks_superIn K C_NothingToRedo C_NothingToRedo "__init__" = some (some (.builtin "ValueError.__init__"))) (mr_NothingToRedo : PySem.W.mroIn K C_NothingToRedo (.ref C_NothingToRedo) = some true) (fl_NothingToRedo : K.lookup fI_NothingToRedo = some ⟨oc_NothingToRedo, od_NothingToRedo, .func (PySem.W.ksFn "__init__" "NothingToRedo.__init__" (defArgs (clsInit (topS 39))) (defBody (clsInit (topS 39))) (defScope (clsInit (topS 39))) .none .none doc_NothingToRedo pm_NothingToRedo an_NothingToRedo (.ref cda_NothingToRedo) ct_NothingToRedo cc_NothingToRedo), osl_NothingToRedo⟩) (cd_NothingToRedo : PySem.W.codeIn K (.ref cda_NothingToRedo) "NothingToRedo.__init__" = true) (lc_NothingToRedo : K.lookup cda_NothingToRedo = some ⟨ccl_NothingToRedo, cdd_NothingToRedo, .fields vs_NothingToRedo, ccs_NothingToRedo⟩) (v2_NothingToRedo : vs_NothingToRedo[2]? = some (.str file_NothingToRedo tf_NothingToRedo)) (fe_NothingToRedo : ((P.main.file : Str) == file_NothingToRedo) = true) (ce_NothingToRedo : K.lookup cc_NothingToRedo = some ⟨cl_NothingToRedo, cld_NothingToRedo, .cell (some (.ref C_NothingToRedo)), csl_NothingToRedo⟩)
    {C_NothingToUndo fI_NothingToUndo N_NothingToUndo cda_NothingToUndo cc_NothingToUndo : Addr} {nm_NothingToUndo qq_NothingToUndo file_NothingToUndo : Str} {bs_NothingToUndo bm_NothingToUndo sub_NothingToUndo : List Value} {sn_NothingToUndo : List Str} {ab_NothingToUndo : Bool} {col_NothingToUndo : Option Bool} {dd_NothingToUndo an_NothingToUndo od_NothingToUndo cdd_NothingToUndo cld_NothingToUndo : Option Addr} {k0_NothingToUndo k1_NothingToUndo k2_NothingToUndo k3_NothingToUndo k5_NothingToUndo : Option Value} {doc_NothingToUndo pm_NothingToUndo ct_NothingToUndo oc_NothingToUndo ccl_NothingToUndo cl_NothingToUndo : Value} {osl_NothingToUndo ccs_NothingToUndo csl_NothingToUndo : Array (Option Value)} {vs_NothingToUndo : Array Value} {tf_NothingToUndo : PySem.Tok} (nC_NothingToUndo : PySem.W.nsIn K mainGlobals "NothingToUndo" = some (some (.ref C_NothingToUndo))) (lk_NothingToUndo : K.lookup C_NothingToUndo = some (excClassObj nm_NothingToUndo qq_NothingToUndo C_NothingToUndo N_NothingToUndo bs_NothingToUndo bm_NothingToUndo true sn_NothingToUndo sub_NothingToUndo ab_NothingToUndo col_NothingToUndo dd_NothingToUndo k0_NothingToUndo k1_NothingToUndo k2_NothingToUndo k3_NothingToUndo k5_NothingToUndo "ValueError.__new__")) (rv_NothingToUndo : PySem.HandSPX.refsVE bm_NothingToUndo = true) (sa_NothingToUndo : PySem.W.findIn K (.ref C_NothingToUndo) "__setattr__" = some (some (.builtin "object.__setattr__"))) (ga_NothingToUndo : PySem.W.findIn K (.ref C_NothingToUndo) "__getattribute__" = some (some (.builtin "BaseException.__getattribute__"))) (gg_NothingToUndo : PySem.W.findIn K (.ref C_NothingToUndo) "__getattr__" = some none) (iC_NothingToUndo : PySem.W.findIn K (.ref C_NothingToUndo) "__init__" = some (some (.ref fI_NothingToUndo))) (tC_NothingToUndo : PySem.W.typeIn K (.ref fI_NothingToUndo) = some (.type "function")) (kC_NothingToUndo : PySem.W.keepIn K (.ref C_NothingToUndo) = true) (eC_NothingToUndo : PySem.W.subIn K (.ref C_NothingToUndo) (.type "BaseException") = some true) (tyC_NothingToUndo : PySem.W.typeIn K (.ref C_NothingToUndo) = some (.type "type")) (hdC_NothingToUndo : PySem.W.hasDictIn K C_NothingToUndo = true) (vE_NothingToUndo : PySem.W.subIn K (.ref C_NothingToUndo) (.type "ValueError") = some true) (ei_NothingToUndo : PySem.W.excInitIn K C_NothingToUndo SX.veL "ValueError.__new__" = true) (su_NothingToUndo : PySem.W.ks_superIn K C_NothingToUndo C_NothingToUndo "__init__" = some (some (.builtin "ValueError.__init__"))) (mr_NothingToUndo : PySem.W.mroIn K C_NothingToUndo (.ref C_NothingToUndo) = some true) (fl_NothingToUndo : K.lookup fI_NothingToUndo = some ⟨oc_NothingToUndo, od_NothingToUndo, .func (PySem.W.ksFn "__init__" "NothingToUndo.__init__" (defArgs (clsInit (topS 38))) (defBody (clsInit (topS 38))) (defScope (clsInit (topS 38))) .none .none doc_NothingToUndo pm_NothingToUndo an_NothingToUndo (.ref cda_NothingToUndo) ct_NothingToUndo cc_NothingToUndo), osl_NothingToUndo⟩) (cd_NothingToUndo : PySem.W.codeIn K (.ref cda_NothingToUndo) "NothingToUndo.__init__" = true) (lc_NothingToUndo : K.lookup cda_NothingToUndo = some ⟨ccl_NothingToUndo, cdd_NothingToUndo, .fields vs_NothingToUndo, ccs_NothingToUndo⟩) (v2_NothingToUndo : vs_NothingToUndo[2]? = some (.str file_NothingToUndo tf_NothingToUndo)) (fe_NothingToUndo : ((P.main.file : Str) == file_NothingToUndo) = true) (ce_NothingToUndo : K.lookup cc_NothingToUndo = some ⟨cl_NothingToUndo, cld_NothingToUndo, .cell (some (.ref C_NothingToUndo)), csl_NothingToUndo⟩)
    {C_Overlap fI_Overlap N_Overlap cda_Overlap cc_Overlap : Addr} {nm_Overlap qq_Overlap file_Overlap : Str} {bs_Overlap bm_Overlap sub_Overlap : List Value} {sn_Overlap : List Str} {ab_Overlap : Bool} {col_Overlap : Option Bool} {dd_Overlap an_Overlap od_Overlap cdd_Overlap cld_Overlap : Option Addr} {k0_Overlap k1_Overlap k2_Overlap k3_Overlap k5_Overlap : Option Value} {doc_Overlap pm_Overlap ct_Overlap oc_Overlap ccl_Overlap cl_Overlap : Value} {osl_Overlap ccs_Overlap csl_Overlap : Array (Option Value)} {vs_Overlap : Array Value} {tf_Overlap : PySem.Tok} (nC_Overlap : PySem.W.nsIn K mainGlobals "Overlap" = some (some (.ref C_Overlap))) (lk_Overlap : K.lookup C_Overlap = some (excClassObj nm_Overlap qq_Overlap C_Overlap N_Overlap bs_Overlap bm_Overlap true sn_Overlap sub_Overlap ab_Overlap col_Overlap dd_Overlap k0_Overlap k1_Overlap k2_Overlap k3_Overlap k5_Overlap "ValueError.__new__")) (rv_Overlap : PySem.HandSPX.refsVE bm_Overlap = true) (sa_Overlap : PySem.W.findIn K (.ref C_Overlap) "__setattr__" = some (some (.builtin "object.__setattr__"))) (ga_Overlap : PySem.W.findIn K (.ref C_Overlap) "__getattribute__" = some (some (.builtin "BaseException.__getattribute__"))) (gg_Overlap : PySem.W.findIn K (.ref C_Overlap) "__getattr__" = some none) (iC_Overlap : PySem.W.findIn K (.ref C_Overlap) "__init__" = some (some (.ref fI_Overlap))) (tC_Overlap : PySem.W.typeIn K (.ref fI_Overlap) = some (.type "function")) (kC_Overlap : PySem.W.keepIn K (.ref C_Overlap) = true) (eC_Overlap : PySem.W.subIn K (.ref C_Overlap) (.type "BaseException") = some true) (tyC_Overlap : PySem.W.typeIn K (.ref C_Overlap) = some (.type "type")) (hdC_Overlap : PySem.W.hasDictIn K C_Overlap = true) (vE_Overlap : PySem.W.subIn K (.ref C_Overlap) (.type "ValueError") = some true) (ei_Overlap : PySem.W.excInitIn K C_Overlap SX.veL "ValueError.__new__" = true) (su_Overlap : PySem.W.ks_superIn K C_Overlap C_Overlap "__init__" = some (some (.builtin "ValueError.__init__"))) (mr_Overlap : PySem.W.mroIn K C_Overlap (.ref C_Overlap) = some true) (fl_Overlap : K.lookup fI_Overlap = some ⟨oc_Overlap, od_Overlap, .func (PySem.W.ksFn "__init__" "Overlap.__init__" (defArgs (clsInit (topS 28))) (defBody (clsInit (topS 28))) (defScope (clsInit (topS 28))) .none .none doc_Overlap pm_Overlap an_Overlap (.ref cda_Overlap) ct_Overlap cc_Overlap), osl_Overlap⟩) (cd_Overlap : PySem.W.codeIn K (.ref cda_Overlap) "Overlap.__init__" = true) (lc_Overlap : K.lookup cda_Overlap = some ⟨ccl_Overlap, cdd_Overlap, .fields vs_Overlap, ccs_Overlap⟩) (v2_Overlap : vs_Overlap[2]? = some (.str file_Overlap tf_Overlap)) (fe_Overlap : ((P.main.file : Str) == file_Overlap) = true) (ce_Overlap : K.lookup cc_Overlap = some ⟨cl_Overlap, cld_Overlap, .cell (some (.ref C_Overlap)), csl_Overlap⟩) (no_Overlap : PySem.W.findIn K (.ref C_Overlap) "name" = some none)
    {C_TooMany fI_TooMany N_TooMany cda_TooMany cc_TooMany : Addr} {nm_TooMany qq_TooMany file_TooMany : Str} {bs_TooMany bm_TooMany sub_TooMany : List Value} {sn_TooMany : List Str} {ab_TooMany : Bool} {col_TooMany : Option Bool} {dd_TooMany an_TooMany od_TooMany cdd_TooMany cld_TooMany : Option Addr} {k0_TooMany k1_TooMany k2_TooMany k3_TooMany k5_TooMany : Option Value} {doc_TooMany pm_TooMany ct_TooMany oc_TooMany ccl_TooMany cl_TooMany : Value} {osl_TooMany ccs_TooMany csl_TooMany : Array (Option Value)} {vs_TooMany : Array Value} {tf_TooMany : PySem.Tok} (nC_TooMany : PySem.W.nsIn K mainGlobals "TooMany" = some (some (.ref C_TooMany))) (lk_TooMany : K.lookup C_TooMany = some (excClassObj nm_TooMany qq_TooMany C_TooMany N_TooMany bs_TooMany bm_TooMany true sn_TooMany sub_TooMany ab_TooMany col_TooMany dd_TooMany k0_TooMany k1_TooMany k2_TooMany k3_TooMany k5_TooMany "ValueError.__new__")) (rv_TooMany : PySem.HandSPX.refsVE bm_TooMany = true) (sa_TooMany : PySem.W.findIn K (.ref C_TooMany) "__setattr__" = some (some (.builtin "object.__setattr__"))) (ga_TooMany : PySem.W.findIn K (.ref C_TooMany) "__getattribute__" = some (some (.builtin "BaseException.__getattribute__"))) (gg_TooMany : PySem.W.findIn K (.ref C_TooMany) "__getattr__" = some none) (iC_TooMany : PySem.W.findIn K (.ref C_TooMany) "__init__" = some (some (.ref fI_TooMany))) (tC_TooMany : PySem.W.typeIn K (.ref fI_TooMany) = some (.type "function")) (kC_TooMany : PySem.W.keepIn K (.ref C_TooMany) = true) (eC_TooMany : PySem.W.subIn K (.ref C_TooMany) (.type "BaseException") = some true) (tyC_TooMany : PySem.W.typeIn K (.ref C_TooMany) = some (.type "type")) (hdC_TooMany : PySem.W.hasDictIn K C_TooMany = true) (vE_TooMany : PySem.W.subIn K (.ref C_TooMany) (.type "ValueError") = some true) (ei_TooMany : PySem.W.excInitIn K C_TooMany SX.veL "ValueError.__new__" = true) (su_TooMany : PySem.W.ks_superIn K C_TooMany C_TooMany "__init__" = some (some (.builtin "ValueError.__init__"))) (mr_TooMany : PySem.W.mroIn K C_TooMany (.ref C_TooMany) = some true) (fl_TooMany : K.lookup fI_TooMany = some ⟨oc_TooMany, od_TooMany, .func (PySem.W.ksFn "__init__" "TooMany.__init__" (defArgs (clsInit (topS 32))) (defBody (clsInit (topS 32))) (defScope (clsInit (topS 32))) .none .none doc_TooMany pm_TooMany an_TooMany (.ref cda_TooMany) ct_TooMany cc_TooMany), osl_TooMany⟩) (cd_TooMany : PySem.W.codeIn K (.ref cda_TooMany) "TooMany.__init__" = true) (lc_TooMany : K.lookup cda_TooMany = some ⟨ccl_TooMany, cdd_TooMany, .fields vs_TooMany, ccs_TooMany⟩) (v2_TooMany : vs_TooMany[2]? = some (.str file_TooMany tf_TooMany)) (fe_TooMany : ((P.main.file : Str) == file_TooMany) = true) (ce_TooMany : K.lookup cc_TooMany = some ⟨cl_TooMany, cld_TooMany, .cell (some (.ref C_TooMany)), csl_TooMany⟩) (no_TooMany : PySem.W.findIn K (.ref C_TooMany) "bound" = some none)
    {C_UnknownEntry fI_UnknownEntry N_UnknownEntry cda_UnknownEntry cc_UnknownEntry : Addr} {nm_UnknownEntry qq_UnknownEntry file_UnknownEntry : Str} {bs_UnknownEntry bm_UnknownEntry sub_UnknownEntry : List Value} {sn_UnknownEntry : List Str} {ab_UnknownEntry : Bool} {col_UnknownEntry : Option Bool} {dd_UnknownEntry an_UnknownEntry od_UnknownEntry cdd_UnknownEntry cld_UnknownEntry : Option Addr} {k0_UnknownEntry k1_UnknownEntry k2_UnknownEntry k3_UnknownEntry k5_UnknownEntry : Option Value} {doc_UnknownEntry pm_UnknownEntry ct_UnknownEntry oc_UnknownEntry ccl_UnknownEntry cl_UnknownEntry : Value} {osl_UnknownEntry ccs_UnknownEntry csl_UnknownEntry : Array (Option Value)} {vs_UnknownEntry : Array Value} {tf_UnknownEntry : PySem.Tok} (nC_UnknownEntry : PySem.W.nsIn K mainGlobals "UnknownEntry" = some (some (.ref C_UnknownEntry))) (lk_UnknownEntry : K.lookup C_UnknownEntry = some (excClassObj nm_UnknownEntry qq_UnknownEntry C_UnknownEntry N_UnknownEntry bs_UnknownEntry bm_UnknownEntry true sn_UnknownEntry sub_UnknownEntry ab_UnknownEntry col_UnknownEntry dd_UnknownEntry k0_UnknownEntry k1_UnknownEntry k2_UnknownEntry k3_UnknownEntry k5_UnknownEntry "ValueError.__new__")) (rv_UnknownEntry : PySem.HandSPX.refsVE bm_UnknownEntry = true) (sa_UnknownEntry : PySem.W.findIn K (.ref C_UnknownEntry) "__setattr__" = some (some (.builtin "object.__setattr__"))) (ga_UnknownEntry : PySem.W.findIn K (.ref C_UnknownEntry) "__getattribute__" = some (some (.builtin "BaseException.__getattribute__"))) (gg_UnknownEntry : PySem.W.findIn K (.ref C_UnknownEntry) "__getattr__" = some none) (iC_UnknownEntry : PySem.W.findIn K (.ref C_UnknownEntry) "__init__" = some (some (.ref fI_UnknownEntry))) (tC_UnknownEntry : PySem.W.typeIn K (.ref fI_UnknownEntry) = some (.type "function")) (kC_UnknownEntry : PySem.W.keepIn K (.ref C_UnknownEntry) = true) (eC_UnknownEntry : PySem.W.subIn K (.ref C_UnknownEntry) (.type "BaseException") = some true) (tyC_UnknownEntry : PySem.W.typeIn K (.ref C_UnknownEntry) = some (.type "type")) (hdC_UnknownEntry : PySem.W.hasDictIn K C_UnknownEntry = true) (vE_UnknownEntry : PySem.W.subIn K (.ref C_UnknownEntry) (.type "ValueError") = some true) (ei_UnknownEntry : PySem.W.excInitIn K C_UnknownEntry SX.veL "ValueError.__new__" = true) (su_UnknownEntry : PySem.W.ks_superIn K C_UnknownEntry C_UnknownEntry "__init__" = some (some (.builtin "ValueError.__init__"))) (mr_UnknownEntry : PySem.W.mroIn K C_UnknownEntry (.ref C_UnknownEntry) = some true) (fl_UnknownEntry : K.lookup fI_UnknownEntry = some ⟨oc_UnknownEntry, od_UnknownEntry, .func (PySem.W.ksFn "__init__" "UnknownEntry.__init__" (defArgs (clsInit (topS 26))) (defBody (clsInit (topS 26))) (defScope (clsInit (topS 26))) .none .none doc_UnknownEntry pm_UnknownEntry an_UnknownEntry (.ref cda_UnknownEntry) ct_UnknownEntry cc_UnknownEntry), osl_UnknownEntry⟩) (cd_UnknownEntry : PySem.W.codeIn K (.ref cda_UnknownEntry) "UnknownEntry.__init__" = true) (lc_UnknownEntry : K.lookup cda_UnknownEntry = some ⟨ccl_UnknownEntry, cdd_UnknownEntry, .fields vs_UnknownEntry, ccs_UnknownEntry⟩) (v2_UnknownEntry : vs_UnknownEntry[2]? = some (.str file_UnknownEntry tf_UnknownEntry)) (fe_UnknownEntry : ((P.main.file : Str) == file_UnknownEntry) = true) (ce_UnknownEntry : K.lookup cc_UnknownEntry = some ⟨cl_UnknownEntry, cld_UnknownEntry, .cell (some (.ref C_UnknownEntry)), csl_UnknownEntry⟩) (no_UnknownEntry : PySem.W.findIn K (.ref C_UnknownEntry) "name" = some none)
    {C_UnknownMode fI_UnknownMode N_UnknownMode cda_UnknownMode cc_UnknownMode : Addr} {nm_UnknownMode qq_UnknownMode file_UnknownMode : Str} {bs_UnknownMode bm_UnknownMode sub_UnknownMode : List Value} {sn_UnknownMode : List Str} {ab_UnknownMode : Bool} {col_UnknownMode : Option Bool} {dd_UnknownMode an_UnknownMode od_UnknownMode cdd_UnknownMode cld_UnknownMode : Option Addr} {k0_UnknownMode k1_UnknownMode k2_UnknownMode k3_UnknownMode k5_UnknownMode : Option Value} {doc_UnknownMode pm_UnknownMode ct_UnknownMode oc_UnknownMode ccl_UnknownMode cl_UnknownMode : Value} {osl_UnknownMode ccs_UnknownMode csl_UnknownMode : Array (Option Value)} {vs_UnknownMode : Array Value} {tf_UnknownMode : PySem.Tok} (nC_UnknownMode : PySem.W.nsIn K mainGlobals "UnknownMode" = some (some (.ref C_UnknownMode))) (lk_UnknownMode : K.lookup C_UnknownMode = some (excClassObj nm_UnknownMode qq_UnknownMode C_UnknownMode N_UnknownMode bs_UnknownMode bm_UnknownMode true sn_UnknownMode sub_UnknownMode ab_UnknownMode col_UnknownMode dd_UnknownMode k0_UnknownMode k1_UnknownMode k2_UnknownMode k3_UnknownMode k5_UnknownMode "ValueError.__new__")) (rv_UnknownMode : PySem.HandSPX.refsVE bm_UnknownMode = true) (sa_UnknownMode : PySem.W.findIn K (.ref C_UnknownMode) "__setattr__" = some (some (.builtin "object.__setattr__"))) (ga_UnknownMode : PySem.W.findIn K (.ref C_UnknownMode) "__getattribute__" = some (some (.builtin "BaseException.__getattribute__"))) (gg_UnknownMode : PySem.W.findIn K (.ref C_UnknownMode) "__getattr__" = some none) (iC_UnknownMode : PySem.W.findIn K (.ref C_UnknownMode) "__init__" = some (some (.ref fI_UnknownMode))) (tC_UnknownMode : PySem.W.typeIn K (.ref fI_UnknownMode) = some (.type "function")) (kC_UnknownMode : PySem.W.keepIn K (.ref C_UnknownMode) = true) (eC_UnknownMode : PySem.W.subIn K (.ref C_UnknownMode) (.type "BaseException") = some true) (tyC_UnknownMode : PySem.W.typeIn K (.ref C_UnknownMode) = some (.type "type")) (hdC_UnknownMode : PySem.W.hasDictIn K C_UnknownMode = true) (vE_UnknownMode : PySem.W.subIn K (.ref C_UnknownMode) (.type "ValueError") = some true) (ei_UnknownMode : PySem.W.excInitIn K C_UnknownMode SX.veL "ValueError.__new__" = true) (su_UnknownMode : PySem.W.ks_superIn K C_UnknownMode C_UnknownMode "__init__" = some (some (.builtin "ValueError.__init__"))) (mr_UnknownMode : PySem.W.mroIn K C_UnknownMode (.ref C_UnknownMode) = some true) (fl_UnknownMode : K.lookup fI_UnknownMode = some ⟨oc_UnknownMode, od_UnknownMode, .func (PySem.W.ksFn "__init__" "UnknownMode.__init__" (defArgs (clsInit (topS 25))) (defBody (clsInit (topS 25))) (defScope (clsInit (topS 25))) .none .none doc_UnknownMode pm_UnknownMode an_UnknownMode (.ref cda_UnknownMode) ct_UnknownMode cc_UnknownMode), osl_UnknownMode⟩) (cd_UnknownMode : PySem.W.codeIn K (.ref cda_UnknownMode) "UnknownMode.__init__" = true) (lc_UnknownMode : K.lookup cda_UnknownMode = some ⟨ccl_UnknownMode, cdd_UnknownMode, .fields vs_UnknownMode, ccs_UnknownMode⟩) (v2_UnknownMode : vs_UnknownMode[2]? = some (.str file_UnknownMode tf_UnknownMode)) (fe_UnknownMode : ((P.main.file : Str) == file_UnknownMode) = true) (ce_UnknownMode : K.lookup cc_UnknownMode = some ⟨cl_UnknownMode, cld_UnknownMode, .cell (some (.ref C_UnknownMode)), csl_UnknownMode⟩) (no_UnknownMode : PySem.W.findIn K (.ref C_UnknownMode) "name" = some none)
    {C_UnknownPart fI_UnknownPart N_UnknownPart cda_UnknownPart cc_UnknownPart : Addr} {nm_UnknownPart qq_UnknownPart file_UnknownPart : Str} {bs_UnknownPart bm_UnknownPart sub_UnknownPart : List Value} {sn_UnknownPart : List Str} {ab_UnknownPart : Bool} {col_UnknownPart : Option Bool} {dd_UnknownPart an_UnknownPart od_UnknownPart cdd_UnknownPart cld_UnknownPart : Option Addr} {k0_UnknownPart k1_UnknownPart k2_UnknownPart k3_UnknownPart k5_UnknownPart : Option Value} {doc_UnknownPart pm_UnknownPart ct_UnknownPart oc_UnknownPart ccl_UnknownPart cl_UnknownPart : Value} {osl_UnknownPart ccs_UnknownPart csl_UnknownPart : Array (Option Value)} {vs_UnknownPart : Array Value} {tf_UnknownPart : PySem.Tok} (nC_UnknownPart : PySem.W.nsIn K mainGlobals "UnknownPart" = some (some (.ref C_UnknownPart))) (lk_UnknownPart : K.lookup C_UnknownPart = some (excClassObj nm_UnknownPart qq_UnknownPart C_UnknownPart N_UnknownPart bs_UnknownPart bm_UnknownPart true sn_UnknownPart sub_UnknownPart ab_UnknownPart col_UnknownPart dd_UnknownPart k0_UnknownPart k1_UnknownPart k2_UnknownPart k3_UnknownPart k5_UnknownPart "ValueError.__new__")) (rv_UnknownPart : PySem.HandSPX.refsVE bm_UnknownPart = true) (sa_UnknownPart : PySem.W.findIn K (.ref C_UnknownPart) "__setattr__" = some (some (.builtin "object.__setattr__"))) (ga_UnknownPart : PySem.W.findIn K (.ref C_UnknownPart) "__getattribute__" = some (some (.builtin "BaseException.__getattribute__"))) (gg_UnknownPart : PySem.W.findIn K (.ref C_UnknownPart) "__getattr__" = some none) (iC_UnknownPart : PySem.W.findIn K (.ref C_UnknownPart) "__init__" = some (some (.ref fI_UnknownPart))) (tC_UnknownPart : PySem.W.typeIn K (.ref fI_UnknownPart) = some (.type "function")) (kC_UnknownPart : PySem.W.keepIn K (.ref C_UnknownPart) = true) (eC_UnknownPart : PySem.W.subIn K (.ref C_UnknownPart) (.type "BaseException") = some true) (tyC_UnknownPart : PySem.W.typeIn K (.ref C_UnknownPart) = some (.type "type")) (hdC_UnknownPart : PySem.W.hasDictIn K C_UnknownPart = true) (vE_UnknownPart : PySem.W.subIn K (.ref C_UnknownPart) (.type "ValueError") = some true) (ei_UnknownPart : PySem.W.excInitIn K C_UnknownPart SX.veL "ValueError.__new__" = true) (su_UnknownPart : PySem.W.ks_superIn K C_UnknownPart C_UnknownPart "__init__" = some (some (.builtin "ValueError.__init__"))) (mr_UnknownPart : PySem.W.mroIn K C_UnknownPart (.ref C_UnknownPart) = some true) (fl_UnknownPart : K.lookup fI_UnknownPart = some ⟨oc_UnknownPart, od_UnknownPart, .func (PySem.W.ksFn "__init__" "UnknownPart.__init__" (defArgs (clsInit (topS 24))) (defBody (clsInit (topS 24))) (defScope (clsInit (topS 24))) .none .none doc_UnknownPart pm_UnknownPart an_UnknownPart (.ref cda_UnknownPart) ct_UnknownPart cc_UnknownPart), osl_UnknownPart⟩) (cd_UnknownPart : PySem.W.codeIn K (.ref cda_UnknownPart) "UnknownPart.__init__" = true) (lc_UnknownPart : K.lookup cda_UnknownPart = some ⟨ccl_UnknownPart, cdd_UnknownPart, .fields vs_UnknownPart, ccs_UnknownPart⟩) (v2_UnknownPart : vs_UnknownPart[2]? = some (.str file_UnknownPart tf_UnknownPart)) (fe_UnknownPart : ((P.main.file : Str) == file_UnknownPart) = true) (ce_UnknownPart : K.lookup cc_UnknownPart = some ⟨cl_UnknownPart, cld_UnknownPart, .cell (some (.ref C_UnknownPart)), csl_UnknownPart⟩) (no_UnknownPart : PySem.W.findIn K (.ref C_UnknownPart) "name" = some none)
    {C_Waiting fI_Waiting N_Waiting cda_Waiting cc_Waiting : Addr} {nm_Waiting qq_Waiting file_Waiting : Str} {bs_Waiting bm_Waiting sub_Waiting : List Value} {sn_Waiting : List Str} {ab_Waiting : Bool} {col_Waiting : Option Bool} {dd_Waiting an_Waiting od_Waiting cdd_Waiting cld_Waiting : Option Addr} {k0_Waiting k1_Waiting k2_Waiting k3_Waiting k5_Waiting : Option Value} {doc_Waiting pm_Waiting ct_Waiting oc_Waiting ccl_Waiting cl_Waiting : Value} {osl_Waiting ccs_Waiting csl_Waiting : Array (Option Value)} {vs_Waiting : Array Value} {tf_Waiting : PySem.Tok} (nC_Waiting : PySem.W.nsIn K mainGlobals "Waiting" = some (some (.ref C_Waiting))) (lk_Waiting : K.lookup C_Waiting = some (excClassObj nm_Waiting qq_Waiting C_Waiting N_Waiting bs_Waiting bm_Waiting true sn_Waiting sub_Waiting ab_Waiting col_Waiting dd_Waiting k0_Waiting k1_Waiting k2_Waiting k3_Waiting k5_Waiting "ValueError.__new__")) (rv_Waiting : PySem.HandSPX.refsVE bm_Waiting = true) (sa_Waiting : PySem.W.findIn K (.ref C_Waiting) "__setattr__" = some (some (.builtin "object.__setattr__"))) (ga_Waiting : PySem.W.findIn K (.ref C_Waiting) "__getattribute__" = some (some (.builtin "BaseException.__getattribute__"))) (gg_Waiting : PySem.W.findIn K (.ref C_Waiting) "__getattr__" = some none) (iC_Waiting : PySem.W.findIn K (.ref C_Waiting) "__init__" = some (some (.ref fI_Waiting))) (tC_Waiting : PySem.W.typeIn K (.ref fI_Waiting) = some (.type "function")) (kC_Waiting : PySem.W.keepIn K (.ref C_Waiting) = true) (eC_Waiting : PySem.W.subIn K (.ref C_Waiting) (.type "BaseException") = some true) (tyC_Waiting : PySem.W.typeIn K (.ref C_Waiting) = some (.type "type")) (hdC_Waiting : PySem.W.hasDictIn K C_Waiting = true) (vE_Waiting : PySem.W.subIn K (.ref C_Waiting) (.type "ValueError") = some true) (ei_Waiting : PySem.W.excInitIn K C_Waiting SX.veL "ValueError.__new__" = true) (su_Waiting : PySem.W.ks_superIn K C_Waiting C_Waiting "__init__" = some (some (.builtin "ValueError.__init__"))) (mr_Waiting : PySem.W.mroIn K C_Waiting (.ref C_Waiting) = some true) (fl_Waiting : K.lookup fI_Waiting = some ⟨oc_Waiting, od_Waiting, .func (PySem.W.ksFn "__init__" "Waiting.__init__" (defArgs (clsInit (topS 34))) (defBody (clsInit (topS 34))) (defScope (clsInit (topS 34))) .none .none doc_Waiting pm_Waiting an_Waiting (.ref cda_Waiting) ct_Waiting cc_Waiting), osl_Waiting⟩) (cd_Waiting : PySem.W.codeIn K (.ref cda_Waiting) "Waiting.__init__" = true) (lc_Waiting : K.lookup cda_Waiting = some ⟨ccl_Waiting, cdd_Waiting, .fields vs_Waiting, ccs_Waiting⟩) (v2_Waiting : vs_Waiting[2]? = some (.str file_Waiting tf_Waiting)) (fe_Waiting : ((P.main.file : Str) == file_Waiting) = true) (ce_Waiting : K.lookup cc_Waiting = some ⟨cl_Waiting, cld_Waiting, .cell (some (.ref C_Waiting)), csl_Waiting⟩) (no_Waiting : PySem.W.findIn K (.ref C_Waiting) "number" = some none)
    {C_PartsError : Addr} (nC_PartsError : PySem.W.nsIn K mainGlobals "PartsError" = some (some (.ref C_PartsError)))
    (mb_PartsError : mkbB K "PartsError" C_PartsError = true)
    (zx_Duplicate : isxB K [(("Duplicate" : Str), C_Duplicate), (("Ended" : Str), C_Ended), (("InvalidCatalog" : Str), C_InvalidCatalog), (("InvalidChange" : Str), C_InvalidChange), (("InvalidClash" : Str), C_InvalidClash), (("InvalidCommand" : Str), C_InvalidCommand), (("InvalidKey" : Str), C_InvalidKey), (("InvalidLog" : Str), C_InvalidLog), (("InvalidModes" : Str), C_InvalidModes), (("InvalidName" : Str), C_InvalidName), (("InvalidNumber" : Str), C_InvalidNumber), (("InvalidProgram" : Str), C_InvalidProgram), (("InvalidPrograms" : Str), C_InvalidPrograms), (("InvalidProtocol" : Str), C_InvalidProtocol), (("InvalidRows" : Str), C_InvalidRows), (("InvalidScene" : Str), C_InvalidScene), (("InvalidSession" : Str), C_InvalidSession), (("InvalidSpan" : Str), C_InvalidSpan), (("InvalidSpans" : Str), C_InvalidSpans), (("InvalidStore" : Str), C_InvalidStore), (("InvalidStrengths" : Str), C_InvalidStrengths), (("InvalidText" : Str), C_InvalidText), (("InvalidWeaving" : Str), C_InvalidWeaving), (("NameTaken" : Str), C_NameTaken), (("NoProgram" : Str), C_NoProgram), (("NoStore" : Str), C_NoStore), (("NotInside" : Str), C_NotInside), (("NotNeighbours" : Str), C_NotNeighbours), (("NotRight" : Str), C_NotRight), (("NothingBad" : Str), C_NothingBad), (("NothingToRedo" : Str), C_NothingToRedo), (("NothingToUndo" : Str), C_NothingToUndo), (("Overlap" : Str), C_Overlap), (("PartsError" : Str), C_PartsError), (("TooMany" : Str), C_TooMany), (("UnknownEntry" : Str), C_UnknownEntry), (("UnknownMode" : Str), C_UnknownMode), (("UnknownPart" : Str), C_UnknownPart), (("Waiting" : Str), C_Waiting)] "Duplicate" (.ref C_Duplicate) = true)
    (zx_Ended : isxB K [(("Duplicate" : Str), C_Duplicate), (("Ended" : Str), C_Ended), (("InvalidCatalog" : Str), C_InvalidCatalog), (("InvalidChange" : Str), C_InvalidChange), (("InvalidClash" : Str), C_InvalidClash), (("InvalidCommand" : Str), C_InvalidCommand), (("InvalidKey" : Str), C_InvalidKey), (("InvalidLog" : Str), C_InvalidLog), (("InvalidModes" : Str), C_InvalidModes), (("InvalidName" : Str), C_InvalidName), (("InvalidNumber" : Str), C_InvalidNumber), (("InvalidProgram" : Str), C_InvalidProgram), (("InvalidPrograms" : Str), C_InvalidPrograms), (("InvalidProtocol" : Str), C_InvalidProtocol), (("InvalidRows" : Str), C_InvalidRows), (("InvalidScene" : Str), C_InvalidScene), (("InvalidSession" : Str), C_InvalidSession), (("InvalidSpan" : Str), C_InvalidSpan), (("InvalidSpans" : Str), C_InvalidSpans), (("InvalidStore" : Str), C_InvalidStore), (("InvalidStrengths" : Str), C_InvalidStrengths), (("InvalidText" : Str), C_InvalidText), (("InvalidWeaving" : Str), C_InvalidWeaving), (("NameTaken" : Str), C_NameTaken), (("NoProgram" : Str), C_NoProgram), (("NoStore" : Str), C_NoStore), (("NotInside" : Str), C_NotInside), (("NotNeighbours" : Str), C_NotNeighbours), (("NotRight" : Str), C_NotRight), (("NothingBad" : Str), C_NothingBad), (("NothingToRedo" : Str), C_NothingToRedo), (("NothingToUndo" : Str), C_NothingToUndo), (("Overlap" : Str), C_Overlap), (("PartsError" : Str), C_PartsError), (("TooMany" : Str), C_TooMany), (("UnknownEntry" : Str), C_UnknownEntry), (("UnknownMode" : Str), C_UnknownMode), (("UnknownPart" : Str), C_UnknownPart), (("Waiting" : Str), C_Waiting)] "Ended" (.ref C_Ended) = true)
    (zx_IndexError : isxB K [(("Duplicate" : Str), C_Duplicate), (("Ended" : Str), C_Ended), (("InvalidCatalog" : Str), C_InvalidCatalog), (("InvalidChange" : Str), C_InvalidChange), (("InvalidClash" : Str), C_InvalidClash), (("InvalidCommand" : Str), C_InvalidCommand), (("InvalidKey" : Str), C_InvalidKey), (("InvalidLog" : Str), C_InvalidLog), (("InvalidModes" : Str), C_InvalidModes), (("InvalidName" : Str), C_InvalidName), (("InvalidNumber" : Str), C_InvalidNumber), (("InvalidProgram" : Str), C_InvalidProgram), (("InvalidPrograms" : Str), C_InvalidPrograms), (("InvalidProtocol" : Str), C_InvalidProtocol), (("InvalidRows" : Str), C_InvalidRows), (("InvalidScene" : Str), C_InvalidScene), (("InvalidSession" : Str), C_InvalidSession), (("InvalidSpan" : Str), C_InvalidSpan), (("InvalidSpans" : Str), C_InvalidSpans), (("InvalidStore" : Str), C_InvalidStore), (("InvalidStrengths" : Str), C_InvalidStrengths), (("InvalidText" : Str), C_InvalidText), (("InvalidWeaving" : Str), C_InvalidWeaving), (("NameTaken" : Str), C_NameTaken), (("NoProgram" : Str), C_NoProgram), (("NoStore" : Str), C_NoStore), (("NotInside" : Str), C_NotInside), (("NotNeighbours" : Str), C_NotNeighbours), (("NotRight" : Str), C_NotRight), (("NothingBad" : Str), C_NothingBad), (("NothingToRedo" : Str), C_NothingToRedo), (("NothingToUndo" : Str), C_NothingToUndo), (("Overlap" : Str), C_Overlap), (("PartsError" : Str), C_PartsError), (("TooMany" : Str), C_TooMany), (("UnknownEntry" : Str), C_UnknownEntry), (("UnknownMode" : Str), C_UnknownMode), (("UnknownPart" : Str), C_UnknownPart), (("Waiting" : Str), C_Waiting)] "IndexError" (.type "IndexError") = true)
    (zx_InvalidCatalog : isxB K [(("Duplicate" : Str), C_Duplicate), (("Ended" : Str), C_Ended), (("InvalidCatalog" : Str), C_InvalidCatalog), (("InvalidChange" : Str), C_InvalidChange), (("InvalidClash" : Str), C_InvalidClash), (("InvalidCommand" : Str), C_InvalidCommand), (("InvalidKey" : Str), C_InvalidKey), (("InvalidLog" : Str), C_InvalidLog), (("InvalidModes" : Str), C_InvalidModes), (("InvalidName" : Str), C_InvalidName), (("InvalidNumber" : Str), C_InvalidNumber), (("InvalidProgram" : Str), C_InvalidProgram), (("InvalidPrograms" : Str), C_InvalidPrograms), (("InvalidProtocol" : Str), C_InvalidProtocol), (("InvalidRows" : Str), C_InvalidRows), (("InvalidScene" : Str), C_InvalidScene), (("InvalidSession" : Str), C_InvalidSession), (("InvalidSpan" : Str), C_InvalidSpan), (("InvalidSpans" : Str), C_InvalidSpans), (("InvalidStore" : Str), C_InvalidStore), (("InvalidStrengths" : Str), C_InvalidStrengths), (("InvalidText" : Str), C_InvalidText), (("InvalidWeaving" : Str), C_InvalidWeaving), (("NameTaken" : Str), C_NameTaken), (("NoProgram" : Str), C_NoProgram), (("NoStore" : Str), C_NoStore), (("NotInside" : Str), C_NotInside), (("NotNeighbours" : Str), C_NotNeighbours), (("NotRight" : Str), C_NotRight), (("NothingBad" : Str), C_NothingBad), (("NothingToRedo" : Str), C_NothingToRedo), (("NothingToUndo" : Str), C_NothingToUndo), (("Overlap" : Str), C_Overlap), (("PartsError" : Str), C_PartsError), (("TooMany" : Str), C_TooMany), (("UnknownEntry" : Str), C_UnknownEntry), (("UnknownMode" : Str), C_UnknownMode), (("UnknownPart" : Str), C_UnknownPart), (("Waiting" : Str), C_Waiting)] "InvalidCatalog" (.ref C_InvalidCatalog) = true)
    (zx_InvalidChange : isxB K [(("Duplicate" : Str), C_Duplicate), (("Ended" : Str), C_Ended), (("InvalidCatalog" : Str), C_InvalidCatalog), (("InvalidChange" : Str), C_InvalidChange), (("InvalidClash" : Str), C_InvalidClash), (("InvalidCommand" : Str), C_InvalidCommand), (("InvalidKey" : Str), C_InvalidKey), (("InvalidLog" : Str), C_InvalidLog), (("InvalidModes" : Str), C_InvalidModes), (("InvalidName" : Str), C_InvalidName), (("InvalidNumber" : Str), C_InvalidNumber), (("InvalidProgram" : Str), C_InvalidProgram), (("InvalidPrograms" : Str), C_InvalidPrograms), (("InvalidProtocol" : Str), C_InvalidProtocol), (("InvalidRows" : Str), C_InvalidRows), (("InvalidScene" : Str), C_InvalidScene), (("InvalidSession" : Str), C_InvalidSession), (("InvalidSpan" : Str), C_InvalidSpan), (("InvalidSpans" : Str), C_InvalidSpans), (("InvalidStore" : Str), C_InvalidStore), (("InvalidStrengths" : Str), C_InvalidStrengths), (("InvalidText" : Str), C_InvalidText), (("InvalidWeaving" : Str), C_InvalidWeaving), (("NameTaken" : Str), C_NameTaken), (("NoProgram" : Str), C_NoProgram), (("NoStore" : Str), C_NoStore), (("NotInside" : Str), C_NotInside), (("NotNeighbours" : Str), C_NotNeighbours), (("NotRight" : Str), C_NotRight), (("NothingBad" : Str), C_NothingBad), (("NothingToRedo" : Str), C_NothingToRedo), (("NothingToUndo" : Str), C_NothingToUndo), (("Overlap" : Str), C_Overlap), (("PartsError" : Str), C_PartsError), (("TooMany" : Str), C_TooMany), (("UnknownEntry" : Str), C_UnknownEntry), (("UnknownMode" : Str), C_UnknownMode), (("UnknownPart" : Str), C_UnknownPart), (("Waiting" : Str), C_Waiting)] "InvalidChange" (.ref C_InvalidChange) = true)
    (zx_InvalidClash : isxB K [(("Duplicate" : Str), C_Duplicate), (("Ended" : Str), C_Ended), (("InvalidCatalog" : Str), C_InvalidCatalog), (("InvalidChange" : Str), C_InvalidChange), (("InvalidClash" : Str), C_InvalidClash), (("InvalidCommand" : Str), C_InvalidCommand), (("InvalidKey" : Str), C_InvalidKey), (("InvalidLog" : Str), C_InvalidLog), (("InvalidModes" : Str), C_InvalidModes), (("InvalidName" : Str), C_InvalidName), (("InvalidNumber" : Str), C_InvalidNumber), (("InvalidProgram" : Str), C_InvalidProgram), (("InvalidPrograms" : Str), C_InvalidPrograms), (("InvalidProtocol" : Str), C_InvalidProtocol), (("InvalidRows" : Str), C_InvalidRows), (("InvalidScene" : Str), C_InvalidScene), (("InvalidSession" : Str), C_InvalidSession), (("InvalidSpan" : Str), C_InvalidSpan), (("InvalidSpans" : Str), C_InvalidSpans), (("InvalidStore" : Str), C_InvalidStore), (("InvalidStrengths" : Str), C_InvalidStrengths), (("InvalidText" : Str), C_InvalidText), (("InvalidWeaving" : Str), C_InvalidWeaving), (("NameTaken" : Str), C_NameTaken), (("NoProgram" : Str), C_NoProgram), (("NoStore" : Str), C_NoStore), (("NotInside" : Str), C_NotInside), (("NotNeighbours" : Str), C_NotNeighbours), (("NotRight" : Str), C_NotRight), (("NothingBad" : Str), C_NothingBad), (("NothingToRedo" : Str), C_NothingToRedo), (("NothingToUndo" : Str), C_NothingToUndo), (("Overlap" : Str), C_Overlap), (("PartsError" : Str), C_PartsError), (("TooMany" : Str), C_TooMany), (("UnknownEntry" : Str), C_UnknownEntry), (("UnknownMode" : Str), C_UnknownMode), (("UnknownPart" : Str), C_UnknownPart), (("Waiting" : Str), C_Waiting)] "InvalidClash" (.ref C_InvalidClash) = true)
    (zx_InvalidCommand : isxB K [(("Duplicate" : Str), C_Duplicate), (("Ended" : Str), C_Ended), (("InvalidCatalog" : Str), C_InvalidCatalog), (("InvalidChange" : Str), C_InvalidChange), (("InvalidClash" : Str), C_InvalidClash), (("InvalidCommand" : Str), C_InvalidCommand), (("InvalidKey" : Str), C_InvalidKey), (("InvalidLog" : Str), C_InvalidLog), (("InvalidModes" : Str), C_InvalidModes), (("InvalidName" : Str), C_InvalidName), (("InvalidNumber" : Str), C_InvalidNumber), (("InvalidProgram" : Str), C_InvalidProgram), (("InvalidPrograms" : Str), C_InvalidPrograms), (("InvalidProtocol" : Str), C_InvalidProtocol), (("InvalidRows" : Str), C_InvalidRows), (("InvalidScene" : Str), C_InvalidScene), (("InvalidSession" : Str), C_InvalidSession), (("InvalidSpan" : Str), C_InvalidSpan), (("InvalidSpans" : Str), C_InvalidSpans), (("InvalidStore" : Str), C_InvalidStore), (("InvalidStrengths" : Str), C_InvalidStrengths), (("InvalidText" : Str), C_InvalidText), (("InvalidWeaving" : Str), C_InvalidWeaving), (("NameTaken" : Str), C_NameTaken), (("NoProgram" : Str), C_NoProgram), (("NoStore" : Str), C_NoStore), (("NotInside" : Str), C_NotInside), (("NotNeighbours" : Str), C_NotNeighbours), (("NotRight" : Str), C_NotRight), (("NothingBad" : Str), C_NothingBad), (("NothingToRedo" : Str), C_NothingToRedo), (("NothingToUndo" : Str), C_NothingToUndo), (("Overlap" : Str), C_Overlap), (("PartsError" : Str), C_PartsError), (("TooMany" : Str), C_TooMany), (("UnknownEntry" : Str), C_UnknownEntry), (("UnknownMode" : Str), C_UnknownMode), (("UnknownPart" : Str), C_UnknownPart), (("Waiting" : Str), C_Waiting)] "InvalidCommand" (.ref C_InvalidCommand) = true)
    (zx_InvalidKey : isxB K [(("Duplicate" : Str), C_Duplicate), (("Ended" : Str), C_Ended), (("InvalidCatalog" : Str), C_InvalidCatalog), (("InvalidChange" : Str), C_InvalidChange), (("InvalidClash" : Str), C_InvalidClash), (("InvalidCommand" : Str), C_InvalidCommand), (("InvalidKey" : Str), C_InvalidKey), (("InvalidLog" : Str), C_InvalidLog), (("InvalidModes" : Str), C_InvalidModes), (("InvalidName" : Str), C_InvalidName), (("InvalidNumber" : Str), C_InvalidNumber), (("InvalidProgram" : Str), C_InvalidProgram), (("InvalidPrograms" : Str), C_InvalidPrograms), (("InvalidProtocol" : Str), C_InvalidProtocol), (("InvalidRows" : Str), C_InvalidRows), (("InvalidScene" : Str), C_InvalidScene), (("InvalidSession" : Str), C_InvalidSession), (("InvalidSpan" : Str), C_InvalidSpan), (("InvalidSpans" : Str), C_InvalidSpans), (("InvalidStore" : Str), C_InvalidStore), (("InvalidStrengths" : Str), C_InvalidStrengths), (("InvalidText" : Str), C_InvalidText), (("InvalidWeaving" : Str), C_InvalidWeaving), (("NameTaken" : Str), C_NameTaken), (("NoProgram" : Str), C_NoProgram), (("NoStore" : Str), C_NoStore), (("NotInside" : Str), C_NotInside), (("NotNeighbours" : Str), C_NotNeighbours), (("NotRight" : Str), C_NotRight), (("NothingBad" : Str), C_NothingBad), (("NothingToRedo" : Str), C_NothingToRedo), (("NothingToUndo" : Str), C_NothingToUndo), (("Overlap" : Str), C_Overlap), (("PartsError" : Str), C_PartsError), (("TooMany" : Str), C_TooMany), (("UnknownEntry" : Str), C_UnknownEntry), (("UnknownMode" : Str), C_UnknownMode), (("UnknownPart" : Str), C_UnknownPart), (("Waiting" : Str), C_Waiting)] "InvalidKey" (.ref C_InvalidKey) = true)
    (zx_InvalidLog : isxB K [(("Duplicate" : Str), C_Duplicate), (("Ended" : Str), C_Ended), (("InvalidCatalog" : Str), C_InvalidCatalog), (("InvalidChange" : Str), C_InvalidChange), (("InvalidClash" : Str), C_InvalidClash), (("InvalidCommand" : Str), C_InvalidCommand), (("InvalidKey" : Str), C_InvalidKey), (("InvalidLog" : Str), C_InvalidLog), (("InvalidModes" : Str), C_InvalidModes), (("InvalidName" : Str), C_InvalidName), (("InvalidNumber" : Str), C_InvalidNumber), (("InvalidProgram" : Str), C_InvalidProgram), (("InvalidPrograms" : Str), C_InvalidPrograms), (("InvalidProtocol" : Str), C_InvalidProtocol), (("InvalidRows" : Str), C_InvalidRows), (("InvalidScene" : Str), C_InvalidScene), (("InvalidSession" : Str), C_InvalidSession), (("InvalidSpan" : Str), C_InvalidSpan), (("InvalidSpans" : Str), C_InvalidSpans), (("InvalidStore" : Str), C_InvalidStore), (("InvalidStrengths" : Str), C_InvalidStrengths), (("InvalidText" : Str), C_InvalidText), (("InvalidWeaving" : Str), C_InvalidWeaving), (("NameTaken" : Str), C_NameTaken), (("NoProgram" : Str), C_NoProgram), (("NoStore" : Str), C_NoStore), (("NotInside" : Str), C_NotInside), (("NotNeighbours" : Str), C_NotNeighbours), (("NotRight" : Str), C_NotRight), (("NothingBad" : Str), C_NothingBad), (("NothingToRedo" : Str), C_NothingToRedo), (("NothingToUndo" : Str), C_NothingToUndo), (("Overlap" : Str), C_Overlap), (("PartsError" : Str), C_PartsError), (("TooMany" : Str), C_TooMany), (("UnknownEntry" : Str), C_UnknownEntry), (("UnknownMode" : Str), C_UnknownMode), (("UnknownPart" : Str), C_UnknownPart), (("Waiting" : Str), C_Waiting)] "InvalidLog" (.ref C_InvalidLog) = true)
    (zx_InvalidModes : isxB K [(("Duplicate" : Str), C_Duplicate), (("Ended" : Str), C_Ended), (("InvalidCatalog" : Str), C_InvalidCatalog), (("InvalidChange" : Str), C_InvalidChange), (("InvalidClash" : Str), C_InvalidClash), (("InvalidCommand" : Str), C_InvalidCommand), (("InvalidKey" : Str), C_InvalidKey), (("InvalidLog" : Str), C_InvalidLog), (("InvalidModes" : Str), C_InvalidModes), (("InvalidName" : Str), C_InvalidName), (("InvalidNumber" : Str), C_InvalidNumber), (("InvalidProgram" : Str), C_InvalidProgram), (("InvalidPrograms" : Str), C_InvalidPrograms), (("InvalidProtocol" : Str), C_InvalidProtocol), (("InvalidRows" : Str), C_InvalidRows), (("InvalidScene" : Str), C_InvalidScene), (("InvalidSession" : Str), C_InvalidSession), (("InvalidSpan" : Str), C_InvalidSpan), (("InvalidSpans" : Str), C_InvalidSpans), (("InvalidStore" : Str), C_InvalidStore), (("InvalidStrengths" : Str), C_InvalidStrengths), (("InvalidText" : Str), C_InvalidText), (("InvalidWeaving" : Str), C_InvalidWeaving), (("NameTaken" : Str), C_NameTaken), (("NoProgram" : Str), C_NoProgram), (("NoStore" : Str), C_NoStore), (("NotInside" : Str), C_NotInside), (("NotNeighbours" : Str), C_NotNeighbours), (("NotRight" : Str), C_NotRight), (("NothingBad" : Str), C_NothingBad), (("NothingToRedo" : Str), C_NothingToRedo), (("NothingToUndo" : Str), C_NothingToUndo), (("Overlap" : Str), C_Overlap), (("PartsError" : Str), C_PartsError), (("TooMany" : Str), C_TooMany), (("UnknownEntry" : Str), C_UnknownEntry), (("UnknownMode" : Str), C_UnknownMode), (("UnknownPart" : Str), C_UnknownPart), (("Waiting" : Str), C_Waiting)] "InvalidModes" (.ref C_InvalidModes) = true)
    (zx_InvalidName : isxB K [(("Duplicate" : Str), C_Duplicate), (("Ended" : Str), C_Ended), (("InvalidCatalog" : Str), C_InvalidCatalog), (("InvalidChange" : Str), C_InvalidChange), (("InvalidClash" : Str), C_InvalidClash), (("InvalidCommand" : Str), C_InvalidCommand), (("InvalidKey" : Str), C_InvalidKey), (("InvalidLog" : Str), C_InvalidLog), (("InvalidModes" : Str), C_InvalidModes), (("InvalidName" : Str), C_InvalidName), (("InvalidNumber" : Str), C_InvalidNumber), (("InvalidProgram" : Str), C_InvalidProgram), (("InvalidPrograms" : Str), C_InvalidPrograms), (("InvalidProtocol" : Str), C_InvalidProtocol), (("InvalidRows" : Str), C_InvalidRows), (("InvalidScene" : Str), C_InvalidScene), (("InvalidSession" : Str), C_InvalidSession), (("InvalidSpan" : Str), C_InvalidSpan), (("InvalidSpans" : Str), C_InvalidSpans), (("InvalidStore" : Str), C_InvalidStore), (("InvalidStrengths" : Str), C_InvalidStrengths), (("InvalidText" : Str), C_InvalidText), (("InvalidWeaving" : Str), C_InvalidWeaving), (("NameTaken" : Str), C_NameTaken), (("NoProgram" : Str), C_NoProgram), (("NoStore" : Str), C_NoStore), (("NotInside" : Str), C_NotInside), (("NotNeighbours" : Str), C_NotNeighbours), (("NotRight" : Str), C_NotRight), (("NothingBad" : Str), C_NothingBad), (("NothingToRedo" : Str), C_NothingToRedo), (("NothingToUndo" : Str), C_NothingToUndo), (("Overlap" : Str), C_Overlap), (("PartsError" : Str), C_PartsError), (("TooMany" : Str), C_TooMany), (("UnknownEntry" : Str), C_UnknownEntry), (("UnknownMode" : Str), C_UnknownMode), (("UnknownPart" : Str), C_UnknownPart), (("Waiting" : Str), C_Waiting)] "InvalidName" (.ref C_InvalidName) = true)
    (zx_InvalidNumber : isxB K [(("Duplicate" : Str), C_Duplicate), (("Ended" : Str), C_Ended), (("InvalidCatalog" : Str), C_InvalidCatalog), (("InvalidChange" : Str), C_InvalidChange), (("InvalidClash" : Str), C_InvalidClash), (("InvalidCommand" : Str), C_InvalidCommand), (("InvalidKey" : Str), C_InvalidKey), (("InvalidLog" : Str), C_InvalidLog), (("InvalidModes" : Str), C_InvalidModes), (("InvalidName" : Str), C_InvalidName), (("InvalidNumber" : Str), C_InvalidNumber), (("InvalidProgram" : Str), C_InvalidProgram), (("InvalidPrograms" : Str), C_InvalidPrograms), (("InvalidProtocol" : Str), C_InvalidProtocol), (("InvalidRows" : Str), C_InvalidRows), (("InvalidScene" : Str), C_InvalidScene), (("InvalidSession" : Str), C_InvalidSession), (("InvalidSpan" : Str), C_InvalidSpan), (("InvalidSpans" : Str), C_InvalidSpans), (("InvalidStore" : Str), C_InvalidStore), (("InvalidStrengths" : Str), C_InvalidStrengths), (("InvalidText" : Str), C_InvalidText), (("InvalidWeaving" : Str), C_InvalidWeaving), (("NameTaken" : Str), C_NameTaken), (("NoProgram" : Str), C_NoProgram), (("NoStore" : Str), C_NoStore), (("NotInside" : Str), C_NotInside), (("NotNeighbours" : Str), C_NotNeighbours), (("NotRight" : Str), C_NotRight), (("NothingBad" : Str), C_NothingBad), (("NothingToRedo" : Str), C_NothingToRedo), (("NothingToUndo" : Str), C_NothingToUndo), (("Overlap" : Str), C_Overlap), (("PartsError" : Str), C_PartsError), (("TooMany" : Str), C_TooMany), (("UnknownEntry" : Str), C_UnknownEntry), (("UnknownMode" : Str), C_UnknownMode), (("UnknownPart" : Str), C_UnknownPart), (("Waiting" : Str), C_Waiting)] "InvalidNumber" (.ref C_InvalidNumber) = true)
    (zx_InvalidProgram : isxB K [(("Duplicate" : Str), C_Duplicate), (("Ended" : Str), C_Ended), (("InvalidCatalog" : Str), C_InvalidCatalog), (("InvalidChange" : Str), C_InvalidChange), (("InvalidClash" : Str), C_InvalidClash), (("InvalidCommand" : Str), C_InvalidCommand), (("InvalidKey" : Str), C_InvalidKey), (("InvalidLog" : Str), C_InvalidLog), (("InvalidModes" : Str), C_InvalidModes), (("InvalidName" : Str), C_InvalidName), (("InvalidNumber" : Str), C_InvalidNumber), (("InvalidProgram" : Str), C_InvalidProgram), (("InvalidPrograms" : Str), C_InvalidPrograms), (("InvalidProtocol" : Str), C_InvalidProtocol), (("InvalidRows" : Str), C_InvalidRows), (("InvalidScene" : Str), C_InvalidScene), (("InvalidSession" : Str), C_InvalidSession), (("InvalidSpan" : Str), C_InvalidSpan), (("InvalidSpans" : Str), C_InvalidSpans), (("InvalidStore" : Str), C_InvalidStore), (("InvalidStrengths" : Str), C_InvalidStrengths), (("InvalidText" : Str), C_InvalidText), (("InvalidWeaving" : Str), C_InvalidWeaving), (("NameTaken" : Str), C_NameTaken), (("NoProgram" : Str), C_NoProgram), (("NoStore" : Str), C_NoStore), (("NotInside" : Str), C_NotInside), (("NotNeighbours" : Str), C_NotNeighbours), (("NotRight" : Str), C_NotRight), (("NothingBad" : Str), C_NothingBad), (("NothingToRedo" : Str), C_NothingToRedo), (("NothingToUndo" : Str), C_NothingToUndo), (("Overlap" : Str), C_Overlap), (("PartsError" : Str), C_PartsError), (("TooMany" : Str), C_TooMany), (("UnknownEntry" : Str), C_UnknownEntry), (("UnknownMode" : Str), C_UnknownMode), (("UnknownPart" : Str), C_UnknownPart), (("Waiting" : Str), C_Waiting)] "InvalidProgram" (.ref C_InvalidProgram) = true)
    (zx_InvalidPrograms : isxB K [(("Duplicate" : Str), C_Duplicate), (("Ended" : Str), C_Ended), (("InvalidCatalog" : Str), C_InvalidCatalog), (("InvalidChange" : Str), C_InvalidChange), (("InvalidClash" : Str), C_InvalidClash), (("InvalidCommand" : Str), C_InvalidCommand), (("InvalidKey" : Str), C_InvalidKey), (("InvalidLog" : Str), C_InvalidLog), (("InvalidModes" : Str), C_InvalidModes), (("InvalidName" : Str), C_InvalidName), (("InvalidNumber" : Str), C_InvalidNumber), (("InvalidProgram" : Str), C_InvalidProgram), (("InvalidPrograms" : Str), C_InvalidPrograms), (("InvalidProtocol" : Str), C_InvalidProtocol), (("InvalidRows" : Str), C_InvalidRows), (("InvalidScene" : Str), C_InvalidScene), (("InvalidSession" : Str), C_InvalidSession), (("InvalidSpan" : Str), C_InvalidSpan), (("InvalidSpans" : Str), C_InvalidSpans), (("InvalidStore" : Str), C_InvalidStore), (("InvalidStrengths" : Str), C_InvalidStrengths), (("InvalidText" : Str), C_InvalidText), (("InvalidWeaving" : Str), C_InvalidWeaving), (("NameTaken" : Str), C_NameTaken), (("NoProgram" : Str), C_NoProgram), (("NoStore" : Str), C_NoStore), (("NotInside" : Str), C_NotInside), (("NotNeighbours" : Str), C_NotNeighbours), (("NotRight" : Str), C_NotRight), (("NothingBad" : Str), C_NothingBad), (("NothingToRedo" : Str), C_NothingToRedo), (("NothingToUndo" : Str), C_NothingToUndo), (("Overlap" : Str), C_Overlap), (("PartsError" : Str), C_PartsError), (("TooMany" : Str), C_TooMany), (("UnknownEntry" : Str), C_UnknownEntry), (("UnknownMode" : Str), C_UnknownMode), (("UnknownPart" : Str), C_UnknownPart), (("Waiting" : Str), C_Waiting)] "InvalidPrograms" (.ref C_InvalidPrograms) = true)
    (zx_InvalidProtocol : isxB K [(("Duplicate" : Str), C_Duplicate), (("Ended" : Str), C_Ended), (("InvalidCatalog" : Str), C_InvalidCatalog), (("InvalidChange" : Str), C_InvalidChange), (("InvalidClash" : Str), C_InvalidClash), (("InvalidCommand" : Str), C_InvalidCommand), (("InvalidKey" : Str), C_InvalidKey), (("InvalidLog" : Str), C_InvalidLog), (("InvalidModes" : Str), C_InvalidModes), (("InvalidName" : Str), C_InvalidName), (("InvalidNumber" : Str), C_InvalidNumber), (("InvalidProgram" : Str), C_InvalidProgram), (("InvalidPrograms" : Str), C_InvalidPrograms), (("InvalidProtocol" : Str), C_InvalidProtocol), (("InvalidRows" : Str), C_InvalidRows), (("InvalidScene" : Str), C_InvalidScene), (("InvalidSession" : Str), C_InvalidSession), (("InvalidSpan" : Str), C_InvalidSpan), (("InvalidSpans" : Str), C_InvalidSpans), (("InvalidStore" : Str), C_InvalidStore), (("InvalidStrengths" : Str), C_InvalidStrengths), (("InvalidText" : Str), C_InvalidText), (("InvalidWeaving" : Str), C_InvalidWeaving), (("NameTaken" : Str), C_NameTaken), (("NoProgram" : Str), C_NoProgram), (("NoStore" : Str), C_NoStore), (("NotInside" : Str), C_NotInside), (("NotNeighbours" : Str), C_NotNeighbours), (("NotRight" : Str), C_NotRight), (("NothingBad" : Str), C_NothingBad), (("NothingToRedo" : Str), C_NothingToRedo), (("NothingToUndo" : Str), C_NothingToUndo), (("Overlap" : Str), C_Overlap), (("PartsError" : Str), C_PartsError), (("TooMany" : Str), C_TooMany), (("UnknownEntry" : Str), C_UnknownEntry), (("UnknownMode" : Str), C_UnknownMode), (("UnknownPart" : Str), C_UnknownPart), (("Waiting" : Str), C_Waiting)] "InvalidProtocol" (.ref C_InvalidProtocol) = true)
    (zx_InvalidRows : isxB K [(("Duplicate" : Str), C_Duplicate), (("Ended" : Str), C_Ended), (("InvalidCatalog" : Str), C_InvalidCatalog), (("InvalidChange" : Str), C_InvalidChange), (("InvalidClash" : Str), C_InvalidClash), (("InvalidCommand" : Str), C_InvalidCommand), (("InvalidKey" : Str), C_InvalidKey), (("InvalidLog" : Str), C_InvalidLog), (("InvalidModes" : Str), C_InvalidModes), (("InvalidName" : Str), C_InvalidName), (("InvalidNumber" : Str), C_InvalidNumber), (("InvalidProgram" : Str), C_InvalidProgram), (("InvalidPrograms" : Str), C_InvalidPrograms), (("InvalidProtocol" : Str), C_InvalidProtocol), (("InvalidRows" : Str), C_InvalidRows), (("InvalidScene" : Str), C_InvalidScene), (("InvalidSession" : Str), C_InvalidSession), (("InvalidSpan" : Str), C_InvalidSpan), (("InvalidSpans" : Str), C_InvalidSpans), (("InvalidStore" : Str), C_InvalidStore), (("InvalidStrengths" : Str), C_InvalidStrengths), (("InvalidText" : Str), C_InvalidText), (("InvalidWeaving" : Str), C_InvalidWeaving), (("NameTaken" : Str), C_NameTaken), (("NoProgram" : Str), C_NoProgram), (("NoStore" : Str), C_NoStore), (("NotInside" : Str), C_NotInside), (("NotNeighbours" : Str), C_NotNeighbours), (("NotRight" : Str), C_NotRight), (("NothingBad" : Str), C_NothingBad), (("NothingToRedo" : Str), C_NothingToRedo), (("NothingToUndo" : Str), C_NothingToUndo), (("Overlap" : Str), C_Overlap), (("PartsError" : Str), C_PartsError), (("TooMany" : Str), C_TooMany), (("UnknownEntry" : Str), C_UnknownEntry), (("UnknownMode" : Str), C_UnknownMode), (("UnknownPart" : Str), C_UnknownPart), (("Waiting" : Str), C_Waiting)] "InvalidRows" (.ref C_InvalidRows) = true)
    (zx_InvalidScene : isxB K [(("Duplicate" : Str), C_Duplicate), (("Ended" : Str), C_Ended), (("InvalidCatalog" : Str), C_InvalidCatalog), (("InvalidChange" : Str), C_InvalidChange), (("InvalidClash" : Str), C_InvalidClash), (("InvalidCommand" : Str), C_InvalidCommand), (("InvalidKey" : Str), C_InvalidKey), (("InvalidLog" : Str), C_InvalidLog), (("InvalidModes" : Str), C_InvalidModes), (("InvalidName" : Str), C_InvalidName), (("InvalidNumber" : Str), C_InvalidNumber), (("InvalidProgram" : Str), C_InvalidProgram), (("InvalidPrograms" : Str), C_InvalidPrograms), (("InvalidProtocol" : Str), C_InvalidProtocol), (("InvalidRows" : Str), C_InvalidRows), (("InvalidScene" : Str), C_InvalidScene), (("InvalidSession" : Str), C_InvalidSession), (("InvalidSpan" : Str), C_InvalidSpan), (("InvalidSpans" : Str), C_InvalidSpans), (("InvalidStore" : Str), C_InvalidStore), (("InvalidStrengths" : Str), C_InvalidStrengths), (("InvalidText" : Str), C_InvalidText), (("InvalidWeaving" : Str), C_InvalidWeaving), (("NameTaken" : Str), C_NameTaken), (("NoProgram" : Str), C_NoProgram), (("NoStore" : Str), C_NoStore), (("NotInside" : Str), C_NotInside), (("NotNeighbours" : Str), C_NotNeighbours), (("NotRight" : Str), C_NotRight), (("NothingBad" : Str), C_NothingBad), (("NothingToRedo" : Str), C_NothingToRedo), (("NothingToUndo" : Str), C_NothingToUndo), (("Overlap" : Str), C_Overlap), (("PartsError" : Str), C_PartsError), (("TooMany" : Str), C_TooMany), (("UnknownEntry" : Str), C_UnknownEntry), (("UnknownMode" : Str), C_UnknownMode), (("UnknownPart" : Str), C_UnknownPart), (("Waiting" : Str), C_Waiting)] "InvalidScene" (.ref C_InvalidScene) = true)
    (zx_InvalidSession : isxB K [(("Duplicate" : Str), C_Duplicate), (("Ended" : Str), C_Ended), (("InvalidCatalog" : Str), C_InvalidCatalog), (("InvalidChange" : Str), C_InvalidChange), (("InvalidClash" : Str), C_InvalidClash), (("InvalidCommand" : Str), C_InvalidCommand), (("InvalidKey" : Str), C_InvalidKey), (("InvalidLog" : Str), C_InvalidLog), (("InvalidModes" : Str), C_InvalidModes), (("InvalidName" : Str), C_InvalidName), (("InvalidNumber" : Str), C_InvalidNumber), (("InvalidProgram" : Str), C_InvalidProgram), (("InvalidPrograms" : Str), C_InvalidPrograms), (("InvalidProtocol" : Str), C_InvalidProtocol), (("InvalidRows" : Str), C_InvalidRows), (("InvalidScene" : Str), C_InvalidScene), (("InvalidSession" : Str), C_InvalidSession), (("InvalidSpan" : Str), C_InvalidSpan), (("InvalidSpans" : Str), C_InvalidSpans), (("InvalidStore" : Str), C_InvalidStore), (("InvalidStrengths" : Str), C_InvalidStrengths), (("InvalidText" : Str), C_InvalidText), (("InvalidWeaving" : Str), C_InvalidWeaving), (("NameTaken" : Str), C_NameTaken), (("NoProgram" : Str), C_NoProgram), (("NoStore" : Str), C_NoStore), (("NotInside" : Str), C_NotInside), (("NotNeighbours" : Str), C_NotNeighbours), (("NotRight" : Str), C_NotRight), (("NothingBad" : Str), C_NothingBad), (("NothingToRedo" : Str), C_NothingToRedo), (("NothingToUndo" : Str), C_NothingToUndo), (("Overlap" : Str), C_Overlap), (("PartsError" : Str), C_PartsError), (("TooMany" : Str), C_TooMany), (("UnknownEntry" : Str), C_UnknownEntry), (("UnknownMode" : Str), C_UnknownMode), (("UnknownPart" : Str), C_UnknownPart), (("Waiting" : Str), C_Waiting)] "InvalidSession" (.ref C_InvalidSession) = true)
    (zx_InvalidSpan : isxB K [(("Duplicate" : Str), C_Duplicate), (("Ended" : Str), C_Ended), (("InvalidCatalog" : Str), C_InvalidCatalog), (("InvalidChange" : Str), C_InvalidChange), (("InvalidClash" : Str), C_InvalidClash), (("InvalidCommand" : Str), C_InvalidCommand), (("InvalidKey" : Str), C_InvalidKey), (("InvalidLog" : Str), C_InvalidLog), (("InvalidModes" : Str), C_InvalidModes), (("InvalidName" : Str), C_InvalidName), (("InvalidNumber" : Str), C_InvalidNumber), (("InvalidProgram" : Str), C_InvalidProgram), (("InvalidPrograms" : Str), C_InvalidPrograms), (("InvalidProtocol" : Str), C_InvalidProtocol), (("InvalidRows" : Str), C_InvalidRows), (("InvalidScene" : Str), C_InvalidScene), (("InvalidSession" : Str), C_InvalidSession), (("InvalidSpan" : Str), C_InvalidSpan), (("InvalidSpans" : Str), C_InvalidSpans), (("InvalidStore" : Str), C_InvalidStore), (("InvalidStrengths" : Str), C_InvalidStrengths), (("InvalidText" : Str), C_InvalidText), (("InvalidWeaving" : Str), C_InvalidWeaving), (("NameTaken" : Str), C_NameTaken), (("NoProgram" : Str), C_NoProgram), (("NoStore" : Str), C_NoStore), (("NotInside" : Str), C_NotInside), (("NotNeighbours" : Str), C_NotNeighbours), (("NotRight" : Str), C_NotRight), (("NothingBad" : Str), C_NothingBad), (("NothingToRedo" : Str), C_NothingToRedo), (("NothingToUndo" : Str), C_NothingToUndo), (("Overlap" : Str), C_Overlap), (("PartsError" : Str), C_PartsError), (("TooMany" : Str), C_TooMany), (("UnknownEntry" : Str), C_UnknownEntry), (("UnknownMode" : Str), C_UnknownMode), (("UnknownPart" : Str), C_UnknownPart), (("Waiting" : Str), C_Waiting)] "InvalidSpan" (.ref C_InvalidSpan) = true)
    (zx_InvalidSpans : isxB K [(("Duplicate" : Str), C_Duplicate), (("Ended" : Str), C_Ended), (("InvalidCatalog" : Str), C_InvalidCatalog), (("InvalidChange" : Str), C_InvalidChange), (("InvalidClash" : Str), C_InvalidClash), (("InvalidCommand" : Str), C_InvalidCommand), (("InvalidKey" : Str), C_InvalidKey), (("InvalidLog" : Str), C_InvalidLog), (("InvalidModes" : Str), C_InvalidModes), (("InvalidName" : Str), C_InvalidName), (("InvalidNumber" : Str), C_InvalidNumber), (("InvalidProgram" : Str), C_InvalidProgram), (("InvalidPrograms" : Str), C_InvalidPrograms), (("InvalidProtocol" : Str), C_InvalidProtocol), (("InvalidRows" : Str), C_InvalidRows), (("InvalidScene" : Str), C_InvalidScene), (("InvalidSession" : Str), C_InvalidSession), (("InvalidSpan" : Str), C_InvalidSpan), (("InvalidSpans" : Str), C_InvalidSpans), (("InvalidStore" : Str), C_InvalidStore), (("InvalidStrengths" : Str), C_InvalidStrengths), (("InvalidText" : Str), C_InvalidText), (("InvalidWeaving" : Str), C_InvalidWeaving), (("NameTaken" : Str), C_NameTaken), (("NoProgram" : Str), C_NoProgram), (("NoStore" : Str), C_NoStore), (("NotInside" : Str), C_NotInside), (("NotNeighbours" : Str), C_NotNeighbours), (("NotRight" : Str), C_NotRight), (("NothingBad" : Str), C_NothingBad), (("NothingToRedo" : Str), C_NothingToRedo), (("NothingToUndo" : Str), C_NothingToUndo), (("Overlap" : Str), C_Overlap), (("PartsError" : Str), C_PartsError), (("TooMany" : Str), C_TooMany), (("UnknownEntry" : Str), C_UnknownEntry), (("UnknownMode" : Str), C_UnknownMode), (("UnknownPart" : Str), C_UnknownPart), (("Waiting" : Str), C_Waiting)] "InvalidSpans" (.ref C_InvalidSpans) = true)
    (zx_InvalidStore : isxB K [(("Duplicate" : Str), C_Duplicate), (("Ended" : Str), C_Ended), (("InvalidCatalog" : Str), C_InvalidCatalog), (("InvalidChange" : Str), C_InvalidChange), (("InvalidClash" : Str), C_InvalidClash), (("InvalidCommand" : Str), C_InvalidCommand), (("InvalidKey" : Str), C_InvalidKey), (("InvalidLog" : Str), C_InvalidLog), (("InvalidModes" : Str), C_InvalidModes), (("InvalidName" : Str), C_InvalidName), (("InvalidNumber" : Str), C_InvalidNumber), (("InvalidProgram" : Str), C_InvalidProgram), (("InvalidPrograms" : Str), C_InvalidPrograms), (("InvalidProtocol" : Str), C_InvalidProtocol), (("InvalidRows" : Str), C_InvalidRows), (("InvalidScene" : Str), C_InvalidScene), (("InvalidSession" : Str), C_InvalidSession), (("InvalidSpan" : Str), C_InvalidSpan), (("InvalidSpans" : Str), C_InvalidSpans), (("InvalidStore" : Str), C_InvalidStore), (("InvalidStrengths" : Str), C_InvalidStrengths), (("InvalidText" : Str), C_InvalidText), (("InvalidWeaving" : Str), C_InvalidWeaving), (("NameTaken" : Str), C_NameTaken), (("NoProgram" : Str), C_NoProgram), (("NoStore" : Str), C_NoStore), (("NotInside" : Str), C_NotInside), (("NotNeighbours" : Str), C_NotNeighbours), (("NotRight" : Str), C_NotRight), (("NothingBad" : Str), C_NothingBad), (("NothingToRedo" : Str), C_NothingToRedo), (("NothingToUndo" : Str), C_NothingToUndo), (("Overlap" : Str), C_Overlap), (("PartsError" : Str), C_PartsError), (("TooMany" : Str), C_TooMany), (("UnknownEntry" : Str), C_UnknownEntry), (("UnknownMode" : Str), C_UnknownMode), (("UnknownPart" : Str), C_UnknownPart), (("Waiting" : Str), C_Waiting)] "InvalidStore" (.ref C_InvalidStore) = true)
    (zx_InvalidStrengths : isxB K [(("Duplicate" : Str), C_Duplicate), (("Ended" : Str), C_Ended), (("InvalidCatalog" : Str), C_InvalidCatalog), (("InvalidChange" : Str), C_InvalidChange), (("InvalidClash" : Str), C_InvalidClash), (("InvalidCommand" : Str), C_InvalidCommand), (("InvalidKey" : Str), C_InvalidKey), (("InvalidLog" : Str), C_InvalidLog), (("InvalidModes" : Str), C_InvalidModes), (("InvalidName" : Str), C_InvalidName), (("InvalidNumber" : Str), C_InvalidNumber), (("InvalidProgram" : Str), C_InvalidProgram), (("InvalidPrograms" : Str), C_InvalidPrograms), (("InvalidProtocol" : Str), C_InvalidProtocol), (("InvalidRows" : Str), C_InvalidRows), (("InvalidScene" : Str), C_InvalidScene), (("InvalidSession" : Str), C_InvalidSession), (("InvalidSpan" : Str), C_InvalidSpan), (("InvalidSpans" : Str), C_InvalidSpans), (("InvalidStore" : Str), C_InvalidStore), (("InvalidStrengths" : Str), C_InvalidStrengths), (("InvalidText" : Str), C_InvalidText), (("InvalidWeaving" : Str), C_InvalidWeaving), (("NameTaken" : Str), C_NameTaken), (("NoProgram" : Str), C_NoProgram), (("NoStore" : Str), C_NoStore), (("NotInside" : Str), C_NotInside), (("NotNeighbours" : Str), C_NotNeighbours), (("NotRight" : Str), C_NotRight), (("NothingBad" : Str), C_NothingBad), (("NothingToRedo" : Str), C_NothingToRedo), (("NothingToUndo" : Str), C_NothingToUndo), (("Overlap" : Str), C_Overlap), (("PartsError" : Str), C_PartsError), (("TooMany" : Str), C_TooMany), (("UnknownEntry" : Str), C_UnknownEntry), (("UnknownMode" : Str), C_UnknownMode), (("UnknownPart" : Str), C_UnknownPart), (("Waiting" : Str), C_Waiting)] "InvalidStrengths" (.ref C_InvalidStrengths) = true)
    (zx_InvalidText : isxB K [(("Duplicate" : Str), C_Duplicate), (("Ended" : Str), C_Ended), (("InvalidCatalog" : Str), C_InvalidCatalog), (("InvalidChange" : Str), C_InvalidChange), (("InvalidClash" : Str), C_InvalidClash), (("InvalidCommand" : Str), C_InvalidCommand), (("InvalidKey" : Str), C_InvalidKey), (("InvalidLog" : Str), C_InvalidLog), (("InvalidModes" : Str), C_InvalidModes), (("InvalidName" : Str), C_InvalidName), (("InvalidNumber" : Str), C_InvalidNumber), (("InvalidProgram" : Str), C_InvalidProgram), (("InvalidPrograms" : Str), C_InvalidPrograms), (("InvalidProtocol" : Str), C_InvalidProtocol), (("InvalidRows" : Str), C_InvalidRows), (("InvalidScene" : Str), C_InvalidScene), (("InvalidSession" : Str), C_InvalidSession), (("InvalidSpan" : Str), C_InvalidSpan), (("InvalidSpans" : Str), C_InvalidSpans), (("InvalidStore" : Str), C_InvalidStore), (("InvalidStrengths" : Str), C_InvalidStrengths), (("InvalidText" : Str), C_InvalidText), (("InvalidWeaving" : Str), C_InvalidWeaving), (("NameTaken" : Str), C_NameTaken), (("NoProgram" : Str), C_NoProgram), (("NoStore" : Str), C_NoStore), (("NotInside" : Str), C_NotInside), (("NotNeighbours" : Str), C_NotNeighbours), (("NotRight" : Str), C_NotRight), (("NothingBad" : Str), C_NothingBad), (("NothingToRedo" : Str), C_NothingToRedo), (("NothingToUndo" : Str), C_NothingToUndo), (("Overlap" : Str), C_Overlap), (("PartsError" : Str), C_PartsError), (("TooMany" : Str), C_TooMany), (("UnknownEntry" : Str), C_UnknownEntry), (("UnknownMode" : Str), C_UnknownMode), (("UnknownPart" : Str), C_UnknownPart), (("Waiting" : Str), C_Waiting)] "InvalidText" (.ref C_InvalidText) = true)
    (zx_InvalidWeaving : isxB K [(("Duplicate" : Str), C_Duplicate), (("Ended" : Str), C_Ended), (("InvalidCatalog" : Str), C_InvalidCatalog), (("InvalidChange" : Str), C_InvalidChange), (("InvalidClash" : Str), C_InvalidClash), (("InvalidCommand" : Str), C_InvalidCommand), (("InvalidKey" : Str), C_InvalidKey), (("InvalidLog" : Str), C_InvalidLog), (("InvalidModes" : Str), C_InvalidModes), (("InvalidName" : Str), C_InvalidName), (("InvalidNumber" : Str), C_InvalidNumber), (("InvalidProgram" : Str), C_InvalidProgram), (("InvalidPrograms" : Str), C_InvalidPrograms), (("InvalidProtocol" : Str), C_InvalidProtocol), (("InvalidRows" : Str), C_InvalidRows), (("InvalidScene" : Str), C_InvalidScene), (("InvalidSession" : Str), C_InvalidSession), (("InvalidSpan" : Str), C_InvalidSpan), (("InvalidSpans" : Str), C_InvalidSpans), (("InvalidStore" : Str), C_InvalidStore), (("InvalidStrengths" : Str), C_InvalidStrengths), (("InvalidText" : Str), C_InvalidText), (("InvalidWeaving" : Str), C_InvalidWeaving), (("NameTaken" : Str), C_NameTaken), (("NoProgram" : Str), C_NoProgram), (("NoStore" : Str), C_NoStore), (("NotInside" : Str), C_NotInside), (("NotNeighbours" : Str), C_NotNeighbours), (("NotRight" : Str), C_NotRight), (("NothingBad" : Str), C_NothingBad), (("NothingToRedo" : Str), C_NothingToRedo), (("NothingToUndo" : Str), C_NothingToUndo), (("Overlap" : Str), C_Overlap), (("PartsError" : Str), C_PartsError), (("TooMany" : Str), C_TooMany), (("UnknownEntry" : Str), C_UnknownEntry), (("UnknownMode" : Str), C_UnknownMode), (("UnknownPart" : Str), C_UnknownPart), (("Waiting" : Str), C_Waiting)] "InvalidWeaving" (.ref C_InvalidWeaving) = true)
    (zx_KeyError : isxB K [(("Duplicate" : Str), C_Duplicate), (("Ended" : Str), C_Ended), (("InvalidCatalog" : Str), C_InvalidCatalog), (("InvalidChange" : Str), C_InvalidChange), (("InvalidClash" : Str), C_InvalidClash), (("InvalidCommand" : Str), C_InvalidCommand), (("InvalidKey" : Str), C_InvalidKey), (("InvalidLog" : Str), C_InvalidLog), (("InvalidModes" : Str), C_InvalidModes), (("InvalidName" : Str), C_InvalidName), (("InvalidNumber" : Str), C_InvalidNumber), (("InvalidProgram" : Str), C_InvalidProgram), (("InvalidPrograms" : Str), C_InvalidPrograms), (("InvalidProtocol" : Str), C_InvalidProtocol), (("InvalidRows" : Str), C_InvalidRows), (("InvalidScene" : Str), C_InvalidScene), (("InvalidSession" : Str), C_InvalidSession), (("InvalidSpan" : Str), C_InvalidSpan), (("InvalidSpans" : Str), C_InvalidSpans), (("InvalidStore" : Str), C_InvalidStore), (("InvalidStrengths" : Str), C_InvalidStrengths), (("InvalidText" : Str), C_InvalidText), (("InvalidWeaving" : Str), C_InvalidWeaving), (("NameTaken" : Str), C_NameTaken), (("NoProgram" : Str), C_NoProgram), (("NoStore" : Str), C_NoStore), (("NotInside" : Str), C_NotInside), (("NotNeighbours" : Str), C_NotNeighbours), (("NotRight" : Str), C_NotRight), (("NothingBad" : Str), C_NothingBad), (("NothingToRedo" : Str), C_NothingToRedo), (("NothingToUndo" : Str), C_NothingToUndo), (("Overlap" : Str), C_Overlap), (("PartsError" : Str), C_PartsError), (("TooMany" : Str), C_TooMany), (("UnknownEntry" : Str), C_UnknownEntry), (("UnknownMode" : Str), C_UnknownMode), (("UnknownPart" : Str), C_UnknownPart), (("Waiting" : Str), C_Waiting)] "KeyError" (.type "KeyError") = true)
    (zx_NameTaken : isxB K [(("Duplicate" : Str), C_Duplicate), (("Ended" : Str), C_Ended), (("InvalidCatalog" : Str), C_InvalidCatalog), (("InvalidChange" : Str), C_InvalidChange), (("InvalidClash" : Str), C_InvalidClash), (("InvalidCommand" : Str), C_InvalidCommand), (("InvalidKey" : Str), C_InvalidKey), (("InvalidLog" : Str), C_InvalidLog), (("InvalidModes" : Str), C_InvalidModes), (("InvalidName" : Str), C_InvalidName), (("InvalidNumber" : Str), C_InvalidNumber), (("InvalidProgram" : Str), C_InvalidProgram), (("InvalidPrograms" : Str), C_InvalidPrograms), (("InvalidProtocol" : Str), C_InvalidProtocol), (("InvalidRows" : Str), C_InvalidRows), (("InvalidScene" : Str), C_InvalidScene), (("InvalidSession" : Str), C_InvalidSession), (("InvalidSpan" : Str), C_InvalidSpan), (("InvalidSpans" : Str), C_InvalidSpans), (("InvalidStore" : Str), C_InvalidStore), (("InvalidStrengths" : Str), C_InvalidStrengths), (("InvalidText" : Str), C_InvalidText), (("InvalidWeaving" : Str), C_InvalidWeaving), (("NameTaken" : Str), C_NameTaken), (("NoProgram" : Str), C_NoProgram), (("NoStore" : Str), C_NoStore), (("NotInside" : Str), C_NotInside), (("NotNeighbours" : Str), C_NotNeighbours), (("NotRight" : Str), C_NotRight), (("NothingBad" : Str), C_NothingBad), (("NothingToRedo" : Str), C_NothingToRedo), (("NothingToUndo" : Str), C_NothingToUndo), (("Overlap" : Str), C_Overlap), (("PartsError" : Str), C_PartsError), (("TooMany" : Str), C_TooMany), (("UnknownEntry" : Str), C_UnknownEntry), (("UnknownMode" : Str), C_UnknownMode), (("UnknownPart" : Str), C_UnknownPart), (("Waiting" : Str), C_Waiting)] "NameTaken" (.ref C_NameTaken) = true)
    (zx_NoProgram : isxB K [(("Duplicate" : Str), C_Duplicate), (("Ended" : Str), C_Ended), (("InvalidCatalog" : Str), C_InvalidCatalog), (("InvalidChange" : Str), C_InvalidChange), (("InvalidClash" : Str), C_InvalidClash), (("InvalidCommand" : Str), C_InvalidCommand), (("InvalidKey" : Str), C_InvalidKey), (("InvalidLog" : Str), C_InvalidLog), (("InvalidModes" : Str), C_InvalidModes), (("InvalidName" : Str), C_InvalidName), (("InvalidNumber" : Str), C_InvalidNumber), (("InvalidProgram" : Str), C_InvalidProgram), (("InvalidPrograms" : Str), C_InvalidPrograms), (("InvalidProtocol" : Str), C_InvalidProtocol), (("InvalidRows" : Str), C_InvalidRows), (("InvalidScene" : Str), C_InvalidScene), (("InvalidSession" : Str), C_InvalidSession), (("InvalidSpan" : Str), C_InvalidSpan), (("InvalidSpans" : Str), C_InvalidSpans), (("InvalidStore" : Str), C_InvalidStore), (("InvalidStrengths" : Str), C_InvalidStrengths), (("InvalidText" : Str), C_InvalidText), (("InvalidWeaving" : Str), C_InvalidWeaving), (("NameTaken" : Str), C_NameTaken), (("NoProgram" : Str), C_NoProgram), (("NoStore" : Str), C_NoStore), (("NotInside" : Str), C_NotInside), (("NotNeighbours" : Str), C_NotNeighbours), (("NotRight" : Str), C_NotRight), (("NothingBad" : Str), C_NothingBad), (("NothingToRedo" : Str), C_NothingToRedo), (("NothingToUndo" : Str), C_NothingToUndo), (("Overlap" : Str), C_Overlap), (("PartsError" : Str), C_PartsError), (("TooMany" : Str), C_TooMany), (("UnknownEntry" : Str), C_UnknownEntry), (("UnknownMode" : Str), C_UnknownMode), (("UnknownPart" : Str), C_UnknownPart), (("Waiting" : Str), C_Waiting)] "NoProgram" (.ref C_NoProgram) = true)
    (zx_NoStore : isxB K [(("Duplicate" : Str), C_Duplicate), (("Ended" : Str), C_Ended), (("InvalidCatalog" : Str), C_InvalidCatalog), (("InvalidChange" : Str), C_InvalidChange), (("InvalidClash" : Str), C_InvalidClash), (("InvalidCommand" : Str), C_InvalidCommand), (("InvalidKey" : Str), C_InvalidKey), (("InvalidLog" : Str), C_InvalidLog), (("InvalidModes" : Str), C_InvalidModes), (("InvalidName" : Str), C_InvalidName), (("InvalidNumber" : Str), C_InvalidNumber), (("InvalidProgram" : Str), C_InvalidProgram), (("InvalidPrograms" : Str), C_InvalidPrograms), (("InvalidProtocol" : Str), C_InvalidProtocol), (("InvalidRows" : Str), C_InvalidRows), (("InvalidScene" : Str), C_InvalidScene), (("InvalidSession" : Str), C_InvalidSession), (("InvalidSpan" : Str), C_InvalidSpan), (("InvalidSpans" : Str), C_InvalidSpans), (("InvalidStore" : Str), C_InvalidStore), (("InvalidStrengths" : Str), C_InvalidStrengths), (("InvalidText" : Str), C_InvalidText), (("InvalidWeaving" : Str), C_InvalidWeaving), (("NameTaken" : Str), C_NameTaken), (("NoProgram" : Str), C_NoProgram), (("NoStore" : Str), C_NoStore), (("NotInside" : Str), C_NotInside), (("NotNeighbours" : Str), C_NotNeighbours), (("NotRight" : Str), C_NotRight), (("NothingBad" : Str), C_NothingBad), (("NothingToRedo" : Str), C_NothingToRedo), (("NothingToUndo" : Str), C_NothingToUndo), (("Overlap" : Str), C_Overlap), (("PartsError" : Str), C_PartsError), (("TooMany" : Str), C_TooMany), (("UnknownEntry" : Str), C_UnknownEntry), (("UnknownMode" : Str), C_UnknownMode), (("UnknownPart" : Str), C_UnknownPart), (("Waiting" : Str), C_Waiting)] "NoStore" (.ref C_NoStore) = true)
    (zx_NotInside : isxB K [(("Duplicate" : Str), C_Duplicate), (("Ended" : Str), C_Ended), (("InvalidCatalog" : Str), C_InvalidCatalog), (("InvalidChange" : Str), C_InvalidChange), (("InvalidClash" : Str), C_InvalidClash), (("InvalidCommand" : Str), C_InvalidCommand), (("InvalidKey" : Str), C_InvalidKey), (("InvalidLog" : Str), C_InvalidLog), (("InvalidModes" : Str), C_InvalidModes), (("InvalidName" : Str), C_InvalidName), (("InvalidNumber" : Str), C_InvalidNumber), (("InvalidProgram" : Str), C_InvalidProgram), (("InvalidPrograms" : Str), C_InvalidPrograms), (("InvalidProtocol" : Str), C_InvalidProtocol), (("InvalidRows" : Str), C_InvalidRows), (("InvalidScene" : Str), C_InvalidScene), (("InvalidSession" : Str), C_InvalidSession), (("InvalidSpan" : Str), C_InvalidSpan), (("InvalidSpans" : Str), C_InvalidSpans), (("InvalidStore" : Str), C_InvalidStore), (("InvalidStrengths" : Str), C_InvalidStrengths), (("InvalidText" : Str), C_InvalidText), (("InvalidWeaving" : Str), C_InvalidWeaving), (("NameTaken" : Str), C_NameTaken), (("NoProgram" : Str), C_NoProgram), (("NoStore" : Str), C_NoStore), (("NotInside" : Str), C_NotInside), (("NotNeighbours" : Str), C_NotNeighbours), (("NotRight" : Str), C_NotRight), (("NothingBad" : Str), C_NothingBad), (("NothingToRedo" : Str), C_NothingToRedo), (("NothingToUndo" : Str), C_NothingToUndo), (("Overlap" : Str), C_Overlap), (("PartsError" : Str), C_PartsError), (("TooMany" : Str), C_TooMany), (("UnknownEntry" : Str), C_UnknownEntry), (("UnknownMode" : Str), C_UnknownMode), (("UnknownPart" : Str), C_UnknownPart), (("Waiting" : Str), C_Waiting)] "NotInside" (.ref C_NotInside) = true)
    (zx_NotNeighbours : isxB K [(("Duplicate" : Str), C_Duplicate), (("Ended" : Str), C_Ended), (("InvalidCatalog" : Str), C_InvalidCatalog), (("InvalidChange" : Str), C_InvalidChange), (("InvalidClash" : Str), C_InvalidClash), (("InvalidCommand" : Str), C_InvalidCommand), (("InvalidKey" : Str), C_InvalidKey), (("InvalidLog" : Str), C_InvalidLog), (("InvalidModes" : Str), C_InvalidModes), (("InvalidName" : Str), C_InvalidName), (("InvalidNumber" : Str), C_InvalidNumber), (("InvalidProgram" : Str), C_InvalidProgram), (("InvalidPrograms" : Str), C_InvalidPrograms), (("InvalidProtocol" : Str), C_InvalidProtocol), (("InvalidRows" : Str), C_InvalidRows), (("InvalidScene" : Str), C_InvalidScene), (("InvalidSession" : Str), C_InvalidSession), (("InvalidSpan" : Str), C_InvalidSpan), (("InvalidSpans" : Str), C_InvalidSpans), (("InvalidStore" : Str), C_InvalidStore), (("InvalidStrengths" : Str), C_InvalidStrengths), (("InvalidText" : Str), C_InvalidText), (("InvalidWeaving" : Str), C_InvalidWeaving), (("NameTaken" : Str), C_NameTaken), (("NoProgram" : Str), C_NoProgram), (("NoStore" : Str), C_NoStore), (("NotInside" : Str), C_NotInside), (("NotNeighbours" : Str), C_NotNeighbours), (("NotRight" : Str), C_NotRight), (("NothingBad" : Str), C_NothingBad), (("NothingToRedo" : Str), C_NothingToRedo), (("NothingToUndo" : Str), C_NothingToUndo), (("Overlap" : Str), C_Overlap), (("PartsError" : Str), C_PartsError), (("TooMany" : Str), C_TooMany), (("UnknownEntry" : Str), C_UnknownEntry), (("UnknownMode" : Str), C_UnknownMode), (("UnknownPart" : Str), C_UnknownPart), (("Waiting" : Str), C_Waiting)] "NotNeighbours" (.ref C_NotNeighbours) = true)
    (zx_NotRight : isxB K [(("Duplicate" : Str), C_Duplicate), (("Ended" : Str), C_Ended), (("InvalidCatalog" : Str), C_InvalidCatalog), (("InvalidChange" : Str), C_InvalidChange), (("InvalidClash" : Str), C_InvalidClash), (("InvalidCommand" : Str), C_InvalidCommand), (("InvalidKey" : Str), C_InvalidKey), (("InvalidLog" : Str), C_InvalidLog), (("InvalidModes" : Str), C_InvalidModes), (("InvalidName" : Str), C_InvalidName), (("InvalidNumber" : Str), C_InvalidNumber), (("InvalidProgram" : Str), C_InvalidProgram), (("InvalidPrograms" : Str), C_InvalidPrograms), (("InvalidProtocol" : Str), C_InvalidProtocol), (("InvalidRows" : Str), C_InvalidRows), (("InvalidScene" : Str), C_InvalidScene), (("InvalidSession" : Str), C_InvalidSession), (("InvalidSpan" : Str), C_InvalidSpan), (("InvalidSpans" : Str), C_InvalidSpans), (("InvalidStore" : Str), C_InvalidStore), (("InvalidStrengths" : Str), C_InvalidStrengths), (("InvalidText" : Str), C_InvalidText), (("InvalidWeaving" : Str), C_InvalidWeaving), (("NameTaken" : Str), C_NameTaken), (("NoProgram" : Str), C_NoProgram), (("NoStore" : Str), C_NoStore), (("NotInside" : Str), C_NotInside), (("NotNeighbours" : Str), C_NotNeighbours), (("NotRight" : Str), C_NotRight), (("NothingBad" : Str), C_NothingBad), (("NothingToRedo" : Str), C_NothingToRedo), (("NothingToUndo" : Str), C_NothingToUndo), (("Overlap" : Str), C_Overlap), (("PartsError" : Str), C_PartsError), (("TooMany" : Str), C_TooMany), (("UnknownEntry" : Str), C_UnknownEntry), (("UnknownMode" : Str), C_UnknownMode), (("UnknownPart" : Str), C_UnknownPart), (("Waiting" : Str), C_Waiting)] "NotRight" (.ref C_NotRight) = true)
    (zx_NothingBad : isxB K [(("Duplicate" : Str), C_Duplicate), (("Ended" : Str), C_Ended), (("InvalidCatalog" : Str), C_InvalidCatalog), (("InvalidChange" : Str), C_InvalidChange), (("InvalidClash" : Str), C_InvalidClash), (("InvalidCommand" : Str), C_InvalidCommand), (("InvalidKey" : Str), C_InvalidKey), (("InvalidLog" : Str), C_InvalidLog), (("InvalidModes" : Str), C_InvalidModes), (("InvalidName" : Str), C_InvalidName), (("InvalidNumber" : Str), C_InvalidNumber), (("InvalidProgram" : Str), C_InvalidProgram), (("InvalidPrograms" : Str), C_InvalidPrograms), (("InvalidProtocol" : Str), C_InvalidProtocol), (("InvalidRows" : Str), C_InvalidRows), (("InvalidScene" : Str), C_InvalidScene), (("InvalidSession" : Str), C_InvalidSession), (("InvalidSpan" : Str), C_InvalidSpan), (("InvalidSpans" : Str), C_InvalidSpans), (("InvalidStore" : Str), C_InvalidStore), (("InvalidStrengths" : Str), C_InvalidStrengths), (("InvalidText" : Str), C_InvalidText), (("InvalidWeaving" : Str), C_InvalidWeaving), (("NameTaken" : Str), C_NameTaken), (("NoProgram" : Str), C_NoProgram), (("NoStore" : Str), C_NoStore), (("NotInside" : Str), C_NotInside), (("NotNeighbours" : Str), C_NotNeighbours), (("NotRight" : Str), C_NotRight), (("NothingBad" : Str), C_NothingBad), (("NothingToRedo" : Str), C_NothingToRedo), (("NothingToUndo" : Str), C_NothingToUndo), (("Overlap" : Str), C_Overlap), (("PartsError" : Str), C_PartsError), (("TooMany" : Str), C_TooMany), (("UnknownEntry" : Str), C_UnknownEntry), (("UnknownMode" : Str), C_UnknownMode), (("UnknownPart" : Str), C_UnknownPart), (("Waiting" : Str), C_Waiting)] "NothingBad" (.ref C_NothingBad) = true)
    (zx_NothingToRedo : isxB K [(("Duplicate" : Str), C_Duplicate), (("Ended" : Str), C_Ended), (("InvalidCatalog" : Str), C_InvalidCatalog), (("InvalidChange" : Str), C_InvalidChange), (("InvalidClash" : Str), C_InvalidClash), (("InvalidCommand" : Str), C_InvalidCommand), (("InvalidKey" : Str), C_InvalidKey), (("InvalidLog" : Str), C_InvalidLog), (("InvalidModes" : Str), C_InvalidModes), (("InvalidName" : Str), C_InvalidName), (("InvalidNumber" : Str), C_InvalidNumber), (("InvalidProgram" : Str), C_InvalidProgram), (("InvalidPrograms" : Str), C_InvalidPrograms), (("InvalidProtocol" : Str), C_InvalidProtocol), (("InvalidRows" : Str), C_InvalidRows), (("InvalidScene" : Str), C_InvalidScene), (("InvalidSession" : Str), C_InvalidSession), (("InvalidSpan" : Str), C_InvalidSpan), (("InvalidSpans" : Str), C_InvalidSpans), (("InvalidStore" : Str), C_InvalidStore), (("InvalidStrengths" : Str), C_InvalidStrengths), (("InvalidText" : Str), C_InvalidText), (("InvalidWeaving" : Str), C_InvalidWeaving), (("NameTaken" : Str), C_NameTaken), (("NoProgram" : Str), C_NoProgram), (("NoStore" : Str), C_NoStore), (("NotInside" : Str), C_NotInside), (("NotNeighbours" : Str), C_NotNeighbours), (("NotRight" : Str), C_NotRight), (("NothingBad" : Str), C_NothingBad), (("NothingToRedo" : Str), C_NothingToRedo), (("NothingToUndo" : Str), C_NothingToUndo), (("Overlap" : Str), C_Overlap), (("PartsError" : Str), C_PartsError), (("TooMany" : Str), C_TooMany), (("UnknownEntry" : Str), C_UnknownEntry), (("UnknownMode" : Str), C_UnknownMode), (("UnknownPart" : Str), C_UnknownPart), (("Waiting" : Str), C_Waiting)] "NothingToRedo" (.ref C_NothingToRedo) = true)
    (zx_NothingToUndo : isxB K [(("Duplicate" : Str), C_Duplicate), (("Ended" : Str), C_Ended), (("InvalidCatalog" : Str), C_InvalidCatalog), (("InvalidChange" : Str), C_InvalidChange), (("InvalidClash" : Str), C_InvalidClash), (("InvalidCommand" : Str), C_InvalidCommand), (("InvalidKey" : Str), C_InvalidKey), (("InvalidLog" : Str), C_InvalidLog), (("InvalidModes" : Str), C_InvalidModes), (("InvalidName" : Str), C_InvalidName), (("InvalidNumber" : Str), C_InvalidNumber), (("InvalidProgram" : Str), C_InvalidProgram), (("InvalidPrograms" : Str), C_InvalidPrograms), (("InvalidProtocol" : Str), C_InvalidProtocol), (("InvalidRows" : Str), C_InvalidRows), (("InvalidScene" : Str), C_InvalidScene), (("InvalidSession" : Str), C_InvalidSession), (("InvalidSpan" : Str), C_InvalidSpan), (("InvalidSpans" : Str), C_InvalidSpans), (("InvalidStore" : Str), C_InvalidStore), (("InvalidStrengths" : Str), C_InvalidStrengths), (("InvalidText" : Str), C_InvalidText), (("InvalidWeaving" : Str), C_InvalidWeaving), (("NameTaken" : Str), C_NameTaken), (("NoProgram" : Str), C_NoProgram), (("NoStore" : Str), C_NoStore), (("NotInside" : Str), C_NotInside), (("NotNeighbours" : Str), C_NotNeighbours), (("NotRight" : Str), C_NotRight), (("NothingBad" : Str), C_NothingBad), (("NothingToRedo" : Str), C_NothingToRedo), (("NothingToUndo" : Str), C_NothingToUndo), (("Overlap" : Str), C_Overlap), (("PartsError" : Str), C_PartsError), (("TooMany" : Str), C_TooMany), (("UnknownEntry" : Str), C_UnknownEntry), (("UnknownMode" : Str), C_UnknownMode), (("UnknownPart" : Str), C_UnknownPart), (("Waiting" : Str), C_Waiting)] "NothingToUndo" (.ref C_NothingToUndo) = true)
    (zx_Overlap : isxB K [(("Duplicate" : Str), C_Duplicate), (("Ended" : Str), C_Ended), (("InvalidCatalog" : Str), C_InvalidCatalog), (("InvalidChange" : Str), C_InvalidChange), (("InvalidClash" : Str), C_InvalidClash), (("InvalidCommand" : Str), C_InvalidCommand), (("InvalidKey" : Str), C_InvalidKey), (("InvalidLog" : Str), C_InvalidLog), (("InvalidModes" : Str), C_InvalidModes), (("InvalidName" : Str), C_InvalidName), (("InvalidNumber" : Str), C_InvalidNumber), (("InvalidProgram" : Str), C_InvalidProgram), (("InvalidPrograms" : Str), C_InvalidPrograms), (("InvalidProtocol" : Str), C_InvalidProtocol), (("InvalidRows" : Str), C_InvalidRows), (("InvalidScene" : Str), C_InvalidScene), (("InvalidSession" : Str), C_InvalidSession), (("InvalidSpan" : Str), C_InvalidSpan), (("InvalidSpans" : Str), C_InvalidSpans), (("InvalidStore" : Str), C_InvalidStore), (("InvalidStrengths" : Str), C_InvalidStrengths), (("InvalidText" : Str), C_InvalidText), (("InvalidWeaving" : Str), C_InvalidWeaving), (("NameTaken" : Str), C_NameTaken), (("NoProgram" : Str), C_NoProgram), (("NoStore" : Str), C_NoStore), (("NotInside" : Str), C_NotInside), (("NotNeighbours" : Str), C_NotNeighbours), (("NotRight" : Str), C_NotRight), (("NothingBad" : Str), C_NothingBad), (("NothingToRedo" : Str), C_NothingToRedo), (("NothingToUndo" : Str), C_NothingToUndo), (("Overlap" : Str), C_Overlap), (("PartsError" : Str), C_PartsError), (("TooMany" : Str), C_TooMany), (("UnknownEntry" : Str), C_UnknownEntry), (("UnknownMode" : Str), C_UnknownMode), (("UnknownPart" : Str), C_UnknownPart), (("Waiting" : Str), C_Waiting)] "Overlap" (.ref C_Overlap) = true)
    (zx_PartsError : isxB K [(("Duplicate" : Str), C_Duplicate), (("Ended" : Str), C_Ended), (("InvalidCatalog" : Str), C_InvalidCatalog), (("InvalidChange" : Str), C_InvalidChange), (("InvalidClash" : Str), C_InvalidClash), (("InvalidCommand" : Str), C_InvalidCommand), (("InvalidKey" : Str), C_InvalidKey), (("InvalidLog" : Str), C_InvalidLog), (("InvalidModes" : Str), C_InvalidModes), (("InvalidName" : Str), C_InvalidName), (("InvalidNumber" : Str), C_InvalidNumber), (("InvalidProgram" : Str), C_InvalidProgram), (("InvalidPrograms" : Str), C_InvalidPrograms), (("InvalidProtocol" : Str), C_InvalidProtocol), (("InvalidRows" : Str), C_InvalidRows), (("InvalidScene" : Str), C_InvalidScene), (("InvalidSession" : Str), C_InvalidSession), (("InvalidSpan" : Str), C_InvalidSpan), (("InvalidSpans" : Str), C_InvalidSpans), (("InvalidStore" : Str), C_InvalidStore), (("InvalidStrengths" : Str), C_InvalidStrengths), (("InvalidText" : Str), C_InvalidText), (("InvalidWeaving" : Str), C_InvalidWeaving), (("NameTaken" : Str), C_NameTaken), (("NoProgram" : Str), C_NoProgram), (("NoStore" : Str), C_NoStore), (("NotInside" : Str), C_NotInside), (("NotNeighbours" : Str), C_NotNeighbours), (("NotRight" : Str), C_NotRight), (("NothingBad" : Str), C_NothingBad), (("NothingToRedo" : Str), C_NothingToRedo), (("NothingToUndo" : Str), C_NothingToUndo), (("Overlap" : Str), C_Overlap), (("PartsError" : Str), C_PartsError), (("TooMany" : Str), C_TooMany), (("UnknownEntry" : Str), C_UnknownEntry), (("UnknownMode" : Str), C_UnknownMode), (("UnknownPart" : Str), C_UnknownPart), (("Waiting" : Str), C_Waiting)] "PartsError" (.ref C_PartsError) = true)
    (zx_TooMany : isxB K [(("Duplicate" : Str), C_Duplicate), (("Ended" : Str), C_Ended), (("InvalidCatalog" : Str), C_InvalidCatalog), (("InvalidChange" : Str), C_InvalidChange), (("InvalidClash" : Str), C_InvalidClash), (("InvalidCommand" : Str), C_InvalidCommand), (("InvalidKey" : Str), C_InvalidKey), (("InvalidLog" : Str), C_InvalidLog), (("InvalidModes" : Str), C_InvalidModes), (("InvalidName" : Str), C_InvalidName), (("InvalidNumber" : Str), C_InvalidNumber), (("InvalidProgram" : Str), C_InvalidProgram), (("InvalidPrograms" : Str), C_InvalidPrograms), (("InvalidProtocol" : Str), C_InvalidProtocol), (("InvalidRows" : Str), C_InvalidRows), (("InvalidScene" : Str), C_InvalidScene), (("InvalidSession" : Str), C_InvalidSession), (("InvalidSpan" : Str), C_InvalidSpan), (("InvalidSpans" : Str), C_InvalidSpans), (("InvalidStore" : Str), C_InvalidStore), (("InvalidStrengths" : Str), C_InvalidStrengths), (("InvalidText" : Str), C_InvalidText), (("InvalidWeaving" : Str), C_InvalidWeaving), (("NameTaken" : Str), C_NameTaken), (("NoProgram" : Str), C_NoProgram), (("NoStore" : Str), C_NoStore), (("NotInside" : Str), C_NotInside), (("NotNeighbours" : Str), C_NotNeighbours), (("NotRight" : Str), C_NotRight), (("NothingBad" : Str), C_NothingBad), (("NothingToRedo" : Str), C_NothingToRedo), (("NothingToUndo" : Str), C_NothingToUndo), (("Overlap" : Str), C_Overlap), (("PartsError" : Str), C_PartsError), (("TooMany" : Str), C_TooMany), (("UnknownEntry" : Str), C_UnknownEntry), (("UnknownMode" : Str), C_UnknownMode), (("UnknownPart" : Str), C_UnknownPart), (("Waiting" : Str), C_Waiting)] "TooMany" (.ref C_TooMany) = true)
    (zx_TypeError : isxB K [(("Duplicate" : Str), C_Duplicate), (("Ended" : Str), C_Ended), (("InvalidCatalog" : Str), C_InvalidCatalog), (("InvalidChange" : Str), C_InvalidChange), (("InvalidClash" : Str), C_InvalidClash), (("InvalidCommand" : Str), C_InvalidCommand), (("InvalidKey" : Str), C_InvalidKey), (("InvalidLog" : Str), C_InvalidLog), (("InvalidModes" : Str), C_InvalidModes), (("InvalidName" : Str), C_InvalidName), (("InvalidNumber" : Str), C_InvalidNumber), (("InvalidProgram" : Str), C_InvalidProgram), (("InvalidPrograms" : Str), C_InvalidPrograms), (("InvalidProtocol" : Str), C_InvalidProtocol), (("InvalidRows" : Str), C_InvalidRows), (("InvalidScene" : Str), C_InvalidScene), (("InvalidSession" : Str), C_InvalidSession), (("InvalidSpan" : Str), C_InvalidSpan), (("InvalidSpans" : Str), C_InvalidSpans), (("InvalidStore" : Str), C_InvalidStore), (("InvalidStrengths" : Str), C_InvalidStrengths), (("InvalidText" : Str), C_InvalidText), (("InvalidWeaving" : Str), C_InvalidWeaving), (("NameTaken" : Str), C_NameTaken), (("NoProgram" : Str), C_NoProgram), (("NoStore" : Str), C_NoStore), (("NotInside" : Str), C_NotInside), (("NotNeighbours" : Str), C_NotNeighbours), (("NotRight" : Str), C_NotRight), (("NothingBad" : Str), C_NothingBad), (("NothingToRedo" : Str), C_NothingToRedo), (("NothingToUndo" : Str), C_NothingToUndo), (("Overlap" : Str), C_Overlap), (("PartsError" : Str), C_PartsError), (("TooMany" : Str), C_TooMany), (("UnknownEntry" : Str), C_UnknownEntry), (("UnknownMode" : Str), C_UnknownMode), (("UnknownPart" : Str), C_UnknownPart), (("Waiting" : Str), C_Waiting)] "TypeError" (.type "TypeError") = true)
    (zx_UnknownEntry : isxB K [(("Duplicate" : Str), C_Duplicate), (("Ended" : Str), C_Ended), (("InvalidCatalog" : Str), C_InvalidCatalog), (("InvalidChange" : Str), C_InvalidChange), (("InvalidClash" : Str), C_InvalidClash), (("InvalidCommand" : Str), C_InvalidCommand), (("InvalidKey" : Str), C_InvalidKey), (("InvalidLog" : Str), C_InvalidLog), (("InvalidModes" : Str), C_InvalidModes), (("InvalidName" : Str), C_InvalidName), (("InvalidNumber" : Str), C_InvalidNumber), (("InvalidProgram" : Str), C_InvalidProgram), (("InvalidPrograms" : Str), C_InvalidPrograms), (("InvalidProtocol" : Str), C_InvalidProtocol), (("InvalidRows" : Str), C_InvalidRows), (("InvalidScene" : Str), C_InvalidScene), (("InvalidSession" : Str), C_InvalidSession), (("InvalidSpan" : Str), C_InvalidSpan), (("InvalidSpans" : Str), C_InvalidSpans), (("InvalidStore" : Str), C_InvalidStore), (("InvalidStrengths" : Str), C_InvalidStrengths), (("InvalidText" : Str), C_InvalidText), (("InvalidWeaving" : Str), C_InvalidWeaving), (("NameTaken" : Str), C_NameTaken), (("NoProgram" : Str), C_NoProgram), (("NoStore" : Str), C_NoStore), (("NotInside" : Str), C_NotInside), (("NotNeighbours" : Str), C_NotNeighbours), (("NotRight" : Str), C_NotRight), (("NothingBad" : Str), C_NothingBad), (("NothingToRedo" : Str), C_NothingToRedo), (("NothingToUndo" : Str), C_NothingToUndo), (("Overlap" : Str), C_Overlap), (("PartsError" : Str), C_PartsError), (("TooMany" : Str), C_TooMany), (("UnknownEntry" : Str), C_UnknownEntry), (("UnknownMode" : Str), C_UnknownMode), (("UnknownPart" : Str), C_UnknownPart), (("Waiting" : Str), C_Waiting)] "UnknownEntry" (.ref C_UnknownEntry) = true)
    (zx_UnknownMode : isxB K [(("Duplicate" : Str), C_Duplicate), (("Ended" : Str), C_Ended), (("InvalidCatalog" : Str), C_InvalidCatalog), (("InvalidChange" : Str), C_InvalidChange), (("InvalidClash" : Str), C_InvalidClash), (("InvalidCommand" : Str), C_InvalidCommand), (("InvalidKey" : Str), C_InvalidKey), (("InvalidLog" : Str), C_InvalidLog), (("InvalidModes" : Str), C_InvalidModes), (("InvalidName" : Str), C_InvalidName), (("InvalidNumber" : Str), C_InvalidNumber), (("InvalidProgram" : Str), C_InvalidProgram), (("InvalidPrograms" : Str), C_InvalidPrograms), (("InvalidProtocol" : Str), C_InvalidProtocol), (("InvalidRows" : Str), C_InvalidRows), (("InvalidScene" : Str), C_InvalidScene), (("InvalidSession" : Str), C_InvalidSession), (("InvalidSpan" : Str), C_InvalidSpan), (("InvalidSpans" : Str), C_InvalidSpans), (("InvalidStore" : Str), C_InvalidStore), (("InvalidStrengths" : Str), C_InvalidStrengths), (("InvalidText" : Str), C_InvalidText), (("InvalidWeaving" : Str), C_InvalidWeaving), (("NameTaken" : Str), C_NameTaken), (("NoProgram" : Str), C_NoProgram), (("NoStore" : Str), C_NoStore), (("NotInside" : Str), C_NotInside), (("NotNeighbours" : Str), C_NotNeighbours), (("NotRight" : Str), C_NotRight), (("NothingBad" : Str), C_NothingBad), (("NothingToRedo" : Str), C_NothingToRedo), (("NothingToUndo" : Str), C_NothingToUndo), (("Overlap" : Str), C_Overlap), (("PartsError" : Str), C_PartsError), (("TooMany" : Str), C_TooMany), (("UnknownEntry" : Str), C_UnknownEntry), (("UnknownMode" : Str), C_UnknownMode), (("UnknownPart" : Str), C_UnknownPart), (("Waiting" : Str), C_Waiting)] "UnknownMode" (.ref C_UnknownMode) = true)
    (zx_UnknownPart : isxB K [(("Duplicate" : Str), C_Duplicate), (("Ended" : Str), C_Ended), (("InvalidCatalog" : Str), C_InvalidCatalog), (("InvalidChange" : Str), C_InvalidChange), (("InvalidClash" : Str), C_InvalidClash), (("InvalidCommand" : Str), C_InvalidCommand), (("InvalidKey" : Str), C_InvalidKey), (("InvalidLog" : Str), C_InvalidLog), (("InvalidModes" : Str), C_InvalidModes), (("InvalidName" : Str), C_InvalidName), (("InvalidNumber" : Str), C_InvalidNumber), (("InvalidProgram" : Str), C_InvalidProgram), (("InvalidPrograms" : Str), C_InvalidPrograms), (("InvalidProtocol" : Str), C_InvalidProtocol), (("InvalidRows" : Str), C_InvalidRows), (("InvalidScene" : Str), C_InvalidScene), (("InvalidSession" : Str), C_InvalidSession), (("InvalidSpan" : Str), C_InvalidSpan), (("InvalidSpans" : Str), C_InvalidSpans), (("InvalidStore" : Str), C_InvalidStore), (("InvalidStrengths" : Str), C_InvalidStrengths), (("InvalidText" : Str), C_InvalidText), (("InvalidWeaving" : Str), C_InvalidWeaving), (("NameTaken" : Str), C_NameTaken), (("NoProgram" : Str), C_NoProgram), (("NoStore" : Str), C_NoStore), (("NotInside" : Str), C_NotInside), (("NotNeighbours" : Str), C_NotNeighbours), (("NotRight" : Str), C_NotRight), (("NothingBad" : Str), C_NothingBad), (("NothingToRedo" : Str), C_NothingToRedo), (("NothingToUndo" : Str), C_NothingToUndo), (("Overlap" : Str), C_Overlap), (("PartsError" : Str), C_PartsError), (("TooMany" : Str), C_TooMany), (("UnknownEntry" : Str), C_UnknownEntry), (("UnknownMode" : Str), C_UnknownMode), (("UnknownPart" : Str), C_UnknownPart), (("Waiting" : Str), C_Waiting)] "UnknownPart" (.ref C_UnknownPart) = true)
    (zx_ValueError : isxB K [(("Duplicate" : Str), C_Duplicate), (("Ended" : Str), C_Ended), (("InvalidCatalog" : Str), C_InvalidCatalog), (("InvalidChange" : Str), C_InvalidChange), (("InvalidClash" : Str), C_InvalidClash), (("InvalidCommand" : Str), C_InvalidCommand), (("InvalidKey" : Str), C_InvalidKey), (("InvalidLog" : Str), C_InvalidLog), (("InvalidModes" : Str), C_InvalidModes), (("InvalidName" : Str), C_InvalidName), (("InvalidNumber" : Str), C_InvalidNumber), (("InvalidProgram" : Str), C_InvalidProgram), (("InvalidPrograms" : Str), C_InvalidPrograms), (("InvalidProtocol" : Str), C_InvalidProtocol), (("InvalidRows" : Str), C_InvalidRows), (("InvalidScene" : Str), C_InvalidScene), (("InvalidSession" : Str), C_InvalidSession), (("InvalidSpan" : Str), C_InvalidSpan), (("InvalidSpans" : Str), C_InvalidSpans), (("InvalidStore" : Str), C_InvalidStore), (("InvalidStrengths" : Str), C_InvalidStrengths), (("InvalidText" : Str), C_InvalidText), (("InvalidWeaving" : Str), C_InvalidWeaving), (("NameTaken" : Str), C_NameTaken), (("NoProgram" : Str), C_NoProgram), (("NoStore" : Str), C_NoStore), (("NotInside" : Str), C_NotInside), (("NotNeighbours" : Str), C_NotNeighbours), (("NotRight" : Str), C_NotRight), (("NothingBad" : Str), C_NothingBad), (("NothingToRedo" : Str), C_NothingToRedo), (("NothingToUndo" : Str), C_NothingToUndo), (("Overlap" : Str), C_Overlap), (("PartsError" : Str), C_PartsError), (("TooMany" : Str), C_TooMany), (("UnknownEntry" : Str), C_UnknownEntry), (("UnknownMode" : Str), C_UnknownMode), (("UnknownPart" : Str), C_UnknownPart), (("Waiting" : Str), C_Waiting)] "ValueError" (.type "ValueError") = true)
    (zx_Waiting : isxB K [(("Duplicate" : Str), C_Duplicate), (("Ended" : Str), C_Ended), (("InvalidCatalog" : Str), C_InvalidCatalog), (("InvalidChange" : Str), C_InvalidChange), (("InvalidClash" : Str), C_InvalidClash), (("InvalidCommand" : Str), C_InvalidCommand), (("InvalidKey" : Str), C_InvalidKey), (("InvalidLog" : Str), C_InvalidLog), (("InvalidModes" : Str), C_InvalidModes), (("InvalidName" : Str), C_InvalidName), (("InvalidNumber" : Str), C_InvalidNumber), (("InvalidProgram" : Str), C_InvalidProgram), (("InvalidPrograms" : Str), C_InvalidPrograms), (("InvalidProtocol" : Str), C_InvalidProtocol), (("InvalidRows" : Str), C_InvalidRows), (("InvalidScene" : Str), C_InvalidScene), (("InvalidSession" : Str), C_InvalidSession), (("InvalidSpan" : Str), C_InvalidSpan), (("InvalidSpans" : Str), C_InvalidSpans), (("InvalidStore" : Str), C_InvalidStore), (("InvalidStrengths" : Str), C_InvalidStrengths), (("InvalidText" : Str), C_InvalidText), (("InvalidWeaving" : Str), C_InvalidWeaving), (("NameTaken" : Str), C_NameTaken), (("NoProgram" : Str), C_NoProgram), (("NoStore" : Str), C_NoStore), (("NotInside" : Str), C_NotInside), (("NotNeighbours" : Str), C_NotNeighbours), (("NotRight" : Str), C_NotRight), (("NothingBad" : Str), C_NothingBad), (("NothingToRedo" : Str), C_NothingToRedo), (("NothingToUndo" : Str), C_NothingToUndo), (("Overlap" : Str), C_Overlap), (("PartsError" : Str), C_PartsError), (("TooMany" : Str), C_TooMany), (("UnknownEntry" : Str), C_UnknownEntry), (("UnknownMode" : Str), C_UnknownMode), (("UnknownPart" : Str), C_UnknownPart), (("Waiting" : Str), C_Waiting)] "Waiting" (.ref C_Waiting) = true)
    (n_IndexError : PySem.W.nsIn K mainGlobals "IndexError" = some none)
    (n_KeyError : PySem.W.nsIn K mainGlobals "KeyError" = some none)
    (n_TypeError : PySem.W.nsIn K mainGlobals "TypeError" = some none)
    (n_ValueError : PySem.W.nsIn K mainGlobals "ValueError" = some none)
    (n_bool : PySem.W.nsIn K mainGlobals "bool" = some none)
    (n_isinstance : PySem.W.nsIn K mainGlobals "isinstance" = some none)
    (n_len : PySem.W.nsIn K mainGlobals "len" = some none)
    (n_max : PySem.W.nsIn K mainGlobals "max" = some none)
    (n_min : PySem.W.nsIn K mainGlobals "min" = some none)
    (n_range : PySem.W.nsIn K mainGlobals "range" = some none)
    (n_super : PySem.W.nsIn K mainGlobals "super" = some none) : Txt P w K mg :=
  ⟨DefAt.mk' X G a0 l0 c0 k0 (fun _ _ _ _ _ _ us hl => match us, hl with | [_], _ => rfl),
  DefAt.mk' X G a1 l1 c1 k1 (fun _ _ _ _ _ _ us hl => match us, hl with | [_], _ => rfl),
  DefAt.mk' X G a2 l2 c2 k2 (fun _ _ _ _ _ _ us hl => match us, hl with | [_], _ => rfl),
  DefAt.mk' X G a3 l3 c3 k3 (fun _ _ _ _ _ _ us hl => match us, hl with | [_, _], _ => rfl),
  DefAt.mk' X G a4 l4 c4 k4 (fun _ _ _ _ _ _ us hl => match us, hl with | [_, _], _ => rfl),
  DefAt.mk' X G a5 l5 c5 k5 (fun _ _ _ _ _ _ us hl => match us, hl with | [_], _ => rfl),
  DefAt.mk' X G a6 l6 c6 k6 (fun _ _ _ _ _ _ us hl => match us, hl with | [_], _ => rfl),
  DefAt.mk' X G a7 l7 c7 k7 (fun _ _ _ _ _ _ us hl => match us, hl with | [_], _ => rfl),
  ⟨_, PySem.W.mg_of X G nC_Duplicate, fun w => ⟨nC_Duplicate, kC_Duplicate, eC_Duplicate, tyC_Duplicate, ⟨ga_Duplicate, gg_Duplicate, eC_Duplicate, hdC_Duplicate⟩, no_Duplicate, fun X hg hms hb hbs hl hr hq => SX.made1 (par := "name") (fld := "name") (⟨⟨_, _, _, _, _, _, _, _, _, _, _, _, _, _, _, lk_Duplicate, rv_Duplicate⟩, sa_Duplicate, ga_Duplicate, gg_Duplicate, iC_Duplicate, tC_Duplicate, kC_Duplicate, eC_Duplicate, tyC_Duplicate, hdC_Duplicate, vE_Duplicate, ei_Duplicate, su_Duplicate, mr_Duplicate, anyK, ⟨_, _, _, _, _, _, _, _, _, _, _, _, _, _, _, _, _, _, fl_Duplicate, cd_Duplicate, lc_Duplicate, v2_Duplicate, fe_Duplicate, ce_Duplicate⟩, topK⟩ : SX.OwnC K P C_Duplicate fI_Duplicate "Duplicate.__init__" (defArgs (clsInit (topS 23))) (defBody (clsInit (topS 23))) (defScope (clsInit (topS 23)))) (by decide) (fun env => ⟨_, rfl⟩) no_Duplicate (fun s doc pm an cdv ct cc u v => .of_eq rfl) X hg hms hb hbs hl hr hq⟩⟩,
  ⟨_, PySem.W.mg_of X G nC_Ended, fun w => ⟨nC_Ended, kC_Ended, eC_Ended, tyC_Ended, ⟨ga_Ended, gg_Ended, eC_Ended, hdC_Ended⟩, no_Ended, fun X hg hms hb hbs hl hr hq => SX.made1 (par := "number") (fld := "number") (⟨⟨_, _, _, _, _, _, _, _, _, _, _, _, _, _, _, lk_Ended, rv_Ended⟩, sa_Ended, ga_Ended, gg_Ended, iC_Ended, tC_Ended, kC_Ended, eC_Ended, tyC_Ended, hdC_Ended, vE_Ended, ei_Ended, su_Ended, mr_Ended, anyK, ⟨_, _, _, _, _, _, _, _, _, _, _, _, _, _, _, _, _, _, fl_Ended, cd_Ended, lc_Ended, v2_Ended, fe_Ended, ce_Ended⟩, topK⟩ : SX.OwnC K P C_Ended fI_Ended "Ended.__init__" (defArgs (clsInit (topS 33))) (defBody (clsInit (topS 33))) (defScope (clsInit (topS 33)))) (by decide) (fun env => ⟨_, rfl⟩) no_Ended (fun s doc pm an cdv ct cc u v => .of_eq rfl) X hg hms hb hbs hl hr hq⟩⟩,
  ⟨_, PySem.W.mg_of X G nC_InvalidCatalog, fun w => ⟨nC_InvalidCatalog, kC_InvalidCatalog, eC_InvalidCatalog, tyC_InvalidCatalog, ⟨ga_InvalidCatalog, gg_InvalidCatalog, eC_InvalidCatalog, hdC_InvalidCatalog⟩, no_InvalidCatalog, fun X hg hms hb hbs hl hr hq => SX.made1 (par := "value") (fld := "value") (⟨⟨_, _, _, _, _, _, _, _, _, _, _, _, _, _, _, lk_InvalidCatalog, rv_InvalidCatalog⟩, sa_InvalidCatalog, ga_InvalidCatalog, gg_InvalidCatalog, iC_InvalidCatalog, tC_InvalidCatalog, kC_InvalidCatalog, eC_InvalidCatalog, tyC_InvalidCatalog, hdC_InvalidCatalog, vE_InvalidCatalog, ei_InvalidCatalog, su_InvalidCatalog, mr_InvalidCatalog, anyK, ⟨_, _, _, _, _, _, _, _, _, _, _, _, _, _, _, _, _, _, fl_InvalidCatalog, cd_InvalidCatalog, lc_InvalidCatalog, v2_InvalidCatalog, fe_InvalidCatalog, ce_InvalidCatalog⟩, topK⟩ : SX.OwnC K P C_InvalidCatalog fI_InvalidCatalog "InvalidCatalog.__init__" (defArgs (clsInit (topS 6))) (defBody (clsInit (topS 6))) (defScope (clsInit (topS 6)))) (by decide) (fun env => ⟨_, rfl⟩) no_InvalidCatalog (fun s doc pm an cdv ct cc u v => .of_eq rfl) X hg hms hb hbs hl hr hq⟩⟩,
  ⟨_, PySem.W.mg_of X G nC_InvalidChange, fun w => ⟨nC_InvalidChange, kC_InvalidChange, eC_InvalidChange, tyC_InvalidChange, ⟨ga_InvalidChange, gg_InvalidChange, eC_InvalidChange, hdC_InvalidChange⟩, no_InvalidChange, fun X hg hms hb hbs hl hr hq => SX.made1 (par := "value") (fld := "value") (⟨⟨_, _, _, _, _, _, _, _, _, _, _, _, _, _, _, lk_InvalidChange, rv_InvalidChange⟩, sa_InvalidChange, ga_InvalidChange, gg_InvalidChange, iC_InvalidChange, tC_InvalidChange, kC_InvalidChange, eC_InvalidChange, tyC_InvalidChange, hdC_InvalidChange, vE_InvalidChange, ei_InvalidChange, su_InvalidChange, mr_InvalidChange, anyK, ⟨_, _, _, _, _, _, _, _, _, _, _, _, _, _, _, _, _, _, fl_InvalidChange, cd_InvalidChange, lc_InvalidChange, v2_InvalidChange, fe_InvalidChange, ce_InvalidChange⟩, topK⟩ : SX.OwnC K P C_InvalidChange fI_InvalidChange "InvalidChange.__init__" (defArgs (clsInit (topS 7))) (defBody (clsInit (topS 7))) (defScope (clsInit (topS 7)))) (by decide) (fun env => ⟨_, rfl⟩) no_InvalidChange (fun s doc pm an cdv ct cc u v => .of_eq rfl) X hg hms hb hbs hl hr hq⟩⟩,
  ⟨_, PySem.W.mg_of X G nC_InvalidClash, fun w => ⟨nC_InvalidClash, kC_InvalidClash, eC_InvalidClash, tyC_InvalidClash, ⟨ga_InvalidClash, gg_InvalidClash, eC_InvalidClash, hdC_InvalidClash⟩, no_InvalidClash, fun X hg hms hb hbs hl hr hq => SX.made1 (par := "value") (fld := "value") (⟨⟨_, _, _, _, _, _, _, _, _, _, _, _, _, _, _, lk_InvalidClash, rv_InvalidClash⟩, sa_InvalidClash, ga_InvalidClash, gg_InvalidClash, iC_InvalidClash, tC_InvalidClash, kC_InvalidClash, eC_InvalidClash, tyC_InvalidClash, hdC_InvalidClash, vE_InvalidClash, ei_InvalidClash, su_InvalidClash, mr_InvalidClash, anyK, ⟨_, _, _, _, _, _, _, _, _, _, _, _, _, _, _, _, _, _, fl_InvalidClash, cd_InvalidClash, lc_InvalidClash, v2_InvalidClash, fe_InvalidClash, ce_InvalidClash⟩, topK⟩ : SX.OwnC K P C_InvalidClash fI_InvalidClash "InvalidClash.__init__" (defArgs (clsInit (topS 9))) (defBody (clsInit (topS 9))) (defScope (clsInit (topS 9)))) (by decide) (fun env => ⟨_, rfl⟩) no_InvalidClash (fun s doc pm an cdv ct cc u v => .of_eq rfl) X hg hms hb hbs hl hr hq⟩⟩,
  ⟨_, PySem.W.mg_of X G nC_InvalidCommand, fun w => ⟨nC_InvalidCommand, kC_InvalidCommand, eC_InvalidCommand, tyC_InvalidCommand, ⟨ga_InvalidCommand, gg_InvalidCommand, eC_InvalidCommand, hdC_InvalidCommand⟩, no_InvalidCommand, fun X hg hms hb hbs hl hr hq => SX.made1 (par := "value") (fld := "value") (⟨⟨_, _, _, _, _, _, _, _, _, _, _, _, _, _, _, lk_InvalidCommand, rv_InvalidCommand⟩, sa_InvalidCommand, ga_InvalidCommand, gg_InvalidCommand, iC_InvalidCommand, tC_InvalidCommand, kC_InvalidCommand, eC_InvalidCommand, tyC_InvalidCommand, hdC_InvalidCommand, vE_InvalidCommand, ei_InvalidCommand, su_InvalidCommand, mr_InvalidCommand, anyK, ⟨_, _, _, _, _, _, _, _, _, _, _, _, _, _, _, _, _, _, fl_InvalidCommand, cd_InvalidCommand, lc_InvalidCommand, v2_InvalidCommand, fe_InvalidCommand, ce_InvalidCommand⟩, topK⟩ : SX.OwnC K P C_InvalidCommand fI_InvalidCommand "InvalidCommand.__init__" (defArgs (clsInit (topS 22))) (defBody (clsInit (topS 22))) (defScope (clsInit (topS 22)))) (by decide) (fun env => ⟨_, rfl⟩) no_InvalidCommand (fun s doc pm an cdv ct cc u v => .of_eq rfl) X hg hms hb hbs hl hr hq⟩⟩,
  ⟨_, PySem.W.mg_of X G nC_InvalidKey, fun w => ⟨nC_InvalidKey, kC_InvalidKey, eC_InvalidKey, tyC_InvalidKey, ⟨ga_InvalidKey, gg_InvalidKey, eC_InvalidKey, hdC_InvalidKey⟩, no_InvalidKey, fun X hg hms hb hbs hl hr hq => SX.made1 (par := "value") (fld := "value") (⟨⟨_, _, _, _, _, _, _, _, _, _, _, _, _, _, _, lk_InvalidKey, rv_InvalidKey⟩, sa_InvalidKey, ga_InvalidKey, gg_InvalidKey, iC_InvalidKey, tC_InvalidKey, kC_InvalidKey, eC_InvalidKey, tyC_InvalidKey, hdC_InvalidKey, vE_InvalidKey, ei_InvalidKey, su_InvalidKey, mr_InvalidKey, anyK, ⟨_, _, _, _, _, _, _, _, _, _, _, _, _, _, _, _, _, _, fl_InvalidKey, cd_InvalidKey, lc_InvalidKey, v2_InvalidKey, fe_InvalidKey, ce_InvalidKey⟩, topK⟩ : SX.OwnC K P C_InvalidKey fI_InvalidKey "InvalidKey.__init__" (defArgs (clsInit (topS 3))) (defBody (clsInit (topS 3))) (defScope (clsInit (topS 3)))) (by decide) (fun env => ⟨_, rfl⟩) no_InvalidKey (fun s doc pm an cdv ct cc u v => .of_eq rfl) X hg hms hb hbs hl hr hq⟩⟩,
  ⟨_, PySem.W.mg_of X G nC_InvalidLog, fun w => ⟨nC_InvalidLog, kC_InvalidLog, eC_InvalidLog, tyC_InvalidLog, ⟨ga_InvalidLog, gg_InvalidLog, eC_InvalidLog, hdC_InvalidLog⟩, no_InvalidLog, fun X hg hms hb hbs hl hr hq => SX.made1 (par := "value") (fld := "value") (⟨⟨_, _, _, _, _, _, _, _, _, _, _, _, _, _, _, lk_InvalidLog, rv_InvalidLog⟩, sa_InvalidLog, ga_InvalidLog, gg_InvalidLog, iC_InvalidLog, tC_InvalidLog, kC_InvalidLog, eC_InvalidLog, tyC_InvalidLog, hdC_InvalidLog, vE_InvalidLog, ei_InvalidLog, su_InvalidLog, mr_InvalidLog, anyK, ⟨_, _, _, _, _, _, _, _, _, _, _, _, _, _, _, _, _, _, fl_InvalidLog, cd_InvalidLog, lc_InvalidLog, v2_InvalidLog, fe_InvalidLog, ce_InvalidLog⟩, topK⟩ : SX.OwnC K P C_InvalidLog fI_InvalidLog "InvalidLog.__init__" (defArgs (clsInit (topS 20))) (defBody (clsInit (topS 20))) (defScope (clsInit (topS 20)))) (by decide) (fun env => ⟨_, rfl⟩) no_InvalidLog (fun s doc pm an cdv ct cc u v => .of_eq rfl) X hg hms hb hbs hl hr hq⟩⟩,
  ⟨_, PySem.W.mg_of X G nC_InvalidModes, fun w => ⟨nC_InvalidModes, kC_InvalidModes, eC_InvalidModes, tyC_InvalidModes, ⟨ga_InvalidModes, gg_InvalidModes, eC_InvalidModes, hdC_InvalidModes⟩, no_InvalidModes, fun X hg hms hb hbs hl hr hq => SX.made1 (par := "value") (fld := "value") (⟨⟨_, _, _, _, _, _, _, _, _, _, _, _, _, _, _, lk_InvalidModes, rv_InvalidModes⟩, sa_InvalidModes, ga_InvalidModes, gg_InvalidModes, iC_InvalidModes, tC_InvalidModes, kC_InvalidModes, eC_InvalidModes, tyC_InvalidModes, hdC_InvalidModes, vE_InvalidModes, ei_InvalidModes, su_InvalidModes, mr_InvalidModes, anyK, ⟨_, _, _, _, _, _, _, _, _, _, _, _, _, _, _, _, _, _, fl_InvalidModes, cd_InvalidModes, lc_InvalidModes, v2_InvalidModes, fe_InvalidModes, ce_InvalidModes⟩, topK⟩ : SX.OwnC K P C_InvalidModes fI_InvalidModes "InvalidModes.__init__" (defArgs (clsInit (topS 8))) (defBody (clsInit (topS 8))) (defScope (clsInit (topS 8)))) (by decide) (fun env => ⟨_, rfl⟩) no_InvalidModes (fun s doc pm an cdv ct cc u v => .of_eq rfl) X hg hms hb hbs hl hr hq⟩⟩,
  ⟨_, PySem.W.mg_of X G nC_InvalidName, fun w => ⟨nC_InvalidName, kC_InvalidName, eC_InvalidName, tyC_InvalidName, ⟨ga_InvalidName, gg_InvalidName, eC_InvalidName, hdC_InvalidName⟩, no_InvalidName, fun X hg hms hb hbs hl hr hq => SX.made1 (par := "value") (fld := "value") (⟨⟨_, _, _, _, _, _, _, _, _, _, _, _, _, _, _, lk_InvalidName, rv_InvalidName⟩, sa_InvalidName, ga_InvalidName, gg_InvalidName, iC_InvalidName, tC_InvalidName, kC_InvalidName, eC_InvalidName, tyC_InvalidName, hdC_InvalidName, vE_InvalidName, ei_InvalidName, su_InvalidName, mr_InvalidName, anyK, ⟨_, _, _, _, _, _, _, _, _, _, _, _, _, _, _, _, _, _, fl_InvalidName, cd_InvalidName, lc_InvalidName, v2_InvalidName, fe_InvalidName, ce_InvalidName⟩, topK⟩ : SX.OwnC K P C_InvalidName fI_InvalidName "InvalidName.__init__" (defArgs (clsInit (topS 2))) (defBody (clsInit (topS 2))) (defScope (clsInit (topS 2)))) (by decide) (fun env => ⟨_, rfl⟩) no_InvalidName (fun s doc pm an cdv ct cc u v => .of_eq rfl) X hg hms hb hbs hl hr hq⟩⟩,
  ⟨_, PySem.W.mg_of X G nC_InvalidNumber, fun w => ⟨nC_InvalidNumber, kC_InvalidNumber, eC_InvalidNumber, tyC_InvalidNumber, ⟨ga_InvalidNumber, gg_InvalidNumber, eC_InvalidNumber, hdC_InvalidNumber⟩, no_InvalidNumber, fun X hg hms hb hbs hl hr hq => SX.made1 (par := "value") (fld := "value") (⟨⟨_, _, _, _, _, _, _, _, _, _, _, _, _, _, _, lk_InvalidNumber, rv_InvalidNumber⟩, sa_InvalidNumber, ga_InvalidNumber, gg_InvalidNumber, iC_InvalidNumber, tC_InvalidNumber, kC_InvalidNumber, eC_InvalidNumber, tyC_InvalidNumber, hdC_InvalidNumber, vE_InvalidNumber, ei_InvalidNumber, su_InvalidNumber, mr_InvalidNumber, anyK, ⟨_, _, _, _, _, _, _, _, _, _, _, _, _, _, _, _, _, _, fl_InvalidNumber, cd_InvalidNumber, lc_InvalidNumber, v2_InvalidNumber, fe_InvalidNumber, ce_InvalidNumber⟩, topK⟩ : SX.OwnC K P C_InvalidNumber fI_InvalidNumber "InvalidNumber.__init__" (defArgs (clsInit (topS 16))) (defBody (clsInit (topS 16))) (defScope (clsInit (topS 16)))) (by decide) (fun env => ⟨_, rfl⟩) no_InvalidNumber (fun s doc pm an cdv ct cc u v => .of_eq rfl) X hg hms hb hbs hl hr hq⟩⟩,
  ⟨_, PySem.W.mg_of X G nC_InvalidProgram, fun w => ⟨nC_InvalidProgram, kC_InvalidProgram, eC_InvalidProgram, tyC_InvalidProgram, ⟨ga_InvalidProgram, gg_InvalidProgram, eC_InvalidProgram, hdC_InvalidProgram⟩, no_InvalidProgram, fun X hg hms hb hbs hl hr hq => SX.made1 (par := "value") (fld := "value") (⟨⟨_, _, _, _, _, _, _, _, _, _, _, _, _, _, _, lk_InvalidProgram, rv_InvalidProgram⟩, sa_InvalidProgram, ga_InvalidProgram, gg_InvalidProgram, iC_InvalidProgram, tC_InvalidProgram, kC_InvalidProgram, eC_InvalidProgram, tyC_InvalidProgram, hdC_InvalidProgram, vE_InvalidProgram, ei_InvalidProgram, su_InvalidProgram, mr_InvalidProgram, anyK, ⟨_, _, _, _, _, _, _, _, _, _, _, _, _, _, _, _, _, _, fl_InvalidProgram, cd_InvalidProgram, lc_InvalidProgram, v2_InvalidProgram, fe_InvalidProgram, ce_InvalidProgram⟩, topK⟩ : SX.OwnC K P C_InvalidProgram fI_InvalidProgram "InvalidProgram.__init__" (defArgs (clsInit (topS 11))) (defBody (clsInit (topS 11))) (defScope (clsInit (topS 11)))) (by decide) (fun env => ⟨_, rfl⟩) no_InvalidProgram (fun s doc pm an cdv ct cc u v => .of_eq rfl) X hg hms hb hbs hl hr hq⟩⟩,
  ⟨_, PySem.W.mg_of X G nC_InvalidPrograms, fun w => ⟨nC_InvalidPrograms, kC_InvalidPrograms, eC_InvalidPrograms, tyC_InvalidPrograms, ⟨ga_InvalidPrograms, gg_InvalidPrograms, eC_InvalidPrograms, hdC_InvalidPrograms⟩, no_InvalidPrograms, fun X hg hms hb hbs hl hr hq => SX.made1 (par := "value") (fld := "value") (⟨⟨_, _, _, _, _, _, _, _, _, _, _, _, _, _, _, lk_InvalidPrograms, rv_InvalidPrograms⟩, sa_InvalidPrograms, ga_InvalidPrograms, gg_InvalidPrograms, iC_InvalidPrograms, tC_InvalidPrograms, kC_InvalidPrograms, eC_InvalidPrograms, tyC_InvalidPrograms, hdC_InvalidPrograms, vE_InvalidPrograms, ei_InvalidPrograms, su_InvalidPrograms, mr_InvalidPrograms, anyK, ⟨_, _, _, _, _, _, _, _, _, _, _, _, _, _, _, _, _, _, fl_InvalidPrograms, cd_InvalidPrograms, lc_InvalidPrograms, v2_InvalidPrograms, fe_InvalidPrograms, ce_InvalidPrograms⟩, topK⟩ : SX.OwnC K P C_InvalidPrograms fI_InvalidPrograms "InvalidPrograms.__init__" (defArgs (clsInit (topS 12))) (defBody (clsInit (topS 12))) (defScope (clsInit (topS 12)))) (by decide) (fun env => ⟨_, rfl⟩) no_InvalidPrograms (fun s doc pm an cdv ct cc u v => .of_eq rfl) X hg hms hb hbs hl hr hq⟩⟩,
  ⟨_, PySem.W.mg_of X G nC_InvalidProtocol, fun w => ⟨nC_InvalidProtocol, kC_InvalidProtocol, eC_InvalidProtocol, tyC_InvalidProtocol, ⟨ga_InvalidProtocol, gg_InvalidProtocol, eC_InvalidProtocol, hdC_InvalidProtocol⟩, no_InvalidProtocol, fun X hg hms hb hbs hl hr hq => SX.made1 (par := "value") (fld := "value") (⟨⟨_, _, _, _, _, _, _, _, _, _, _, _, _, _, _, lk_InvalidProtocol, rv_InvalidProtocol⟩, sa_InvalidProtocol, ga_InvalidProtocol, gg_InvalidProtocol, iC_InvalidProtocol, tC_InvalidProtocol, kC_InvalidProtocol, eC_InvalidProtocol, tyC_InvalidProtocol, hdC_InvalidProtocol, vE_InvalidProtocol, ei_InvalidProtocol, su_InvalidProtocol, mr_InvalidProtocol, anyK, ⟨_, _, _, _, _, _, _, _, _, _, _, _, _, _, _, _, _, _, fl_InvalidProtocol, cd_InvalidProtocol, lc_InvalidProtocol, v2_InvalidProtocol, fe_InvalidProtocol, ce_InvalidProtocol⟩, topK⟩ : SX.OwnC K P C_InvalidProtocol fI_InvalidProtocol "InvalidProtocol.__init__" (defArgs (clsInit (topS 13))) (defBody (clsInit (topS 13))) (defScope (clsInit (topS 13)))) (by decide) (fun env => ⟨_, rfl⟩) no_InvalidProtocol (fun s doc pm an cdv ct cc u v => .of_eq rfl) X hg hms hb hbs hl hr hq⟩⟩,
  ⟨_, PySem.W.mg_of X G nC_InvalidRows, fun w => ⟨nC_InvalidRows, kC_InvalidRows, eC_InvalidRows, tyC_InvalidRows, ⟨ga_InvalidRows, gg_InvalidRows, eC_InvalidRows, hdC_InvalidRows⟩, no_InvalidRows, fun X hg hms hb hbs hl hr hq => SX.made1 (par := "value") (fld := "value") (⟨⟨_, _, _, _, _, _, _, _, _, _, _, _, _, _, _, lk_InvalidRows, rv_InvalidRows⟩, sa_InvalidRows, ga_InvalidRows, gg_InvalidRows, iC_InvalidRows, tC_InvalidRows, kC_InvalidRows, eC_InvalidRows, tyC_InvalidRows, hdC_InvalidRows, vE_InvalidRows, ei_InvalidRows, su_InvalidRows, mr_InvalidRows, anyK, ⟨_, _, _, _, _, _, _, _, _, _, _, _, _, _, _, _, _, _, fl_InvalidRows, cd_InvalidRows, lc_InvalidRows, v2_InvalidRows, fe_InvalidRows, ce_InvalidRows⟩, topK⟩ : SX.OwnC K P C_InvalidRows fI_InvalidRows "InvalidRows.__init__" (defArgs (clsInit (topS 14))) (defBody (clsInit (topS 14))) (defScope (clsInit (topS 14)))) (by decide) (fun env => ⟨_, rfl⟩) no_InvalidRows (fun s doc pm an cdv ct cc u v => .of_eq rfl) X hg hms hb hbs hl hr hq⟩⟩,
  ⟨_, PySem.W.mg_of X G nC_InvalidScene, fun w => ⟨nC_InvalidScene, kC_InvalidScene, eC_InvalidScene, tyC_InvalidScene, ⟨ga_InvalidScene, gg_InvalidScene, eC_InvalidScene, hdC_InvalidScene⟩, no_InvalidScene, fun X hg hms hb hbs hl hr hq => SX.made1 (par := "value") (fld := "value") (⟨⟨_, _, _, _, _, _, _, _, _, _, _, _, _, _, _, lk_InvalidScene, rv_InvalidScene⟩, sa_InvalidScene, ga_InvalidScene, gg_InvalidScene, iC_InvalidScene, tC_InvalidScene, kC_InvalidScene, eC_InvalidScene, tyC_InvalidScene, hdC_InvalidScene, vE_InvalidScene, ei_InvalidScene, su_InvalidScene, mr_InvalidScene, anyK, ⟨_, _, _, _, _, _, _, _, _, _, _, _, _, _, _, _, _, _, fl_InvalidScene, cd_InvalidScene, lc_InvalidScene, v2_InvalidScene, fe_InvalidScene, ce_InvalidScene⟩, topK⟩ : SX.OwnC K P C_InvalidScene fI_InvalidScene "InvalidScene.__init__" (defArgs (clsInit (topS 19))) (defBody (clsInit (topS 19))) (defScope (clsInit (topS 19)))) (by decide) (fun env => ⟨_, rfl⟩) no_InvalidScene (fun s doc pm an cdv ct cc u v => .of_eq rfl) X hg hms hb hbs hl hr hq⟩⟩,
  ⟨_, PySem.W.mg_of X G nC_InvalidSession, fun w => ⟨nC_InvalidSession, kC_InvalidSession, eC_InvalidSession, tyC_InvalidSession, ⟨ga_InvalidSession, gg_InvalidSession, eC_InvalidSession, hdC_InvalidSession⟩, no_InvalidSession, fun X hg hms hb hbs hl hr hq => SX.made1 (par := "value") (fld := "value") (⟨⟨_, _, _, _, _, _, _, _, _, _, _, _, _, _, _, lk_InvalidSession, rv_InvalidSession⟩, sa_InvalidSession, ga_InvalidSession, gg_InvalidSession, iC_InvalidSession, tC_InvalidSession, kC_InvalidSession, eC_InvalidSession, tyC_InvalidSession, hdC_InvalidSession, vE_InvalidSession, ei_InvalidSession, su_InvalidSession, mr_InvalidSession, anyK, ⟨_, _, _, _, _, _, _, _, _, _, _, _, _, _, _, _, _, _, fl_InvalidSession, cd_InvalidSession, lc_InvalidSession, v2_InvalidSession, fe_InvalidSession, ce_InvalidSession⟩, topK⟩ : SX.OwnC K P C_InvalidSession fI_InvalidSession "InvalidSession.__init__" (defArgs (clsInit (topS 15))) (defBody (clsInit (topS 15))) (defScope (clsInit (topS 15)))) (by decide) (fun env => ⟨_, rfl⟩) no_InvalidSession (fun s doc pm an cdv ct cc u v => .of_eq rfl) X hg hms hb hbs hl hr hq⟩⟩,
  ⟨_, PySem.W.mg_of X G nC_InvalidSpan, fun w => ⟨nC_InvalidSpan, kC_InvalidSpan, eC_InvalidSpan, tyC_InvalidSpan, ⟨ga_InvalidSpan, gg_InvalidSpan, eC_InvalidSpan, hdC_InvalidSpan⟩, no_InvalidSpan, fun X hg hms hb hbs hl hr hq => SX.made1 (par := "value") (fld := "value") (⟨⟨_, _, _, _, _, _, _, _, _, _, _, _, _, _, _, lk_InvalidSpan, rv_InvalidSpan⟩, sa_InvalidSpan, ga_InvalidSpan, gg_InvalidSpan, iC_InvalidSpan, tC_InvalidSpan, kC_InvalidSpan, eC_InvalidSpan, tyC_InvalidSpan, hdC_InvalidSpan, vE_InvalidSpan, ei_InvalidSpan, su_InvalidSpan, mr_InvalidSpan, anyK, ⟨_, _, _, _, _, _, _, _, _, _, _, _, _, _, _, _, _, _, fl_InvalidSpan, cd_InvalidSpan, lc_InvalidSpan, v2_InvalidSpan, fe_InvalidSpan, ce_InvalidSpan⟩, topK⟩ : SX.OwnC K P C_InvalidSpan fI_InvalidSpan "InvalidSpan.__init__" (defArgs (clsInit (topS 4))) (defBody (clsInit (topS 4))) (defScope (clsInit (topS 4)))) (by decide) (fun env => ⟨_, rfl⟩) no_InvalidSpan (fun s doc pm an cdv ct cc u v => .of_eq rfl) X hg hms hb hbs hl hr hq⟩⟩,
  ⟨_, PySem.W.mg_of X G nC_InvalidSpans, fun w => ⟨nC_InvalidSpans, kC_InvalidSpans, eC_InvalidSpans, tyC_InvalidSpans, ⟨ga_InvalidSpans, gg_InvalidSpans, eC_InvalidSpans, hdC_InvalidSpans⟩, no_InvalidSpans, fun X hg hms hb hbs hl hr hq => SX.made1 (par := "value") (fld := "value") (⟨⟨_, _, _, _, _, _, _, _, _, _, _, _, _, _, _, lk_InvalidSpans, rv_InvalidSpans⟩, sa_InvalidSpans, ga_InvalidSpans, gg_InvalidSpans, iC_InvalidSpans, tC_InvalidSpans, kC_InvalidSpans, eC_InvalidSpans, tyC_InvalidSpans, hdC_InvalidSpans, vE_InvalidSpans, ei_InvalidSpans, su_InvalidSpans, mr_InvalidSpans, anyK, ⟨_, _, _, _, _, _, _, _, _, _, _, _, _, _, _, _, _, _, fl_InvalidSpans, cd_InvalidSpans, lc_InvalidSpans, v2_InvalidSpans, fe_InvalidSpans, ce_InvalidSpans⟩, topK⟩ : SX.OwnC K P C_InvalidSpans fI_InvalidSpans "InvalidSpans.__init__" (defArgs (clsInit (topS 5))) (defBody (clsInit (topS 5))) (defScope (clsInit (topS 5)))) (by decide) (fun env => ⟨_, rfl⟩) no_InvalidSpans (fun s doc pm an cdv ct cc u v => .of_eq rfl) X hg hms hb hbs hl hr hq⟩⟩,
  ⟨_, PySem.W.mg_of X G nC_InvalidStore, fun w => ⟨nC_InvalidStore, kC_InvalidStore, eC_InvalidStore, tyC_InvalidStore, ⟨ga_InvalidStore, gg_InvalidStore, eC_InvalidStore, hdC_InvalidStore⟩, no_InvalidStore, fun X hg hms hb hbs hl hr hq => SX.made1 (par := "value") (fld := "value") (⟨⟨_, _, _, _, _, _, _, _, _, _, _, _, _, _, _, lk_InvalidStore, rv_InvalidStore⟩, sa_InvalidStore, ga_InvalidStore, gg_InvalidStore, iC_InvalidStore, tC_InvalidStore, kC_InvalidStore, eC_InvalidStore, tyC_InvalidStore, hdC_InvalidStore, vE_InvalidStore, ei_InvalidStore, su_InvalidStore, mr_InvalidStore, anyK, ⟨_, _, _, _, _, _, _, _, _, _, _, _, _, _, _, _, _, _, fl_InvalidStore, cd_InvalidStore, lc_InvalidStore, v2_InvalidStore, fe_InvalidStore, ce_InvalidStore⟩, topK⟩ : SX.OwnC K P C_InvalidStore fI_InvalidStore "InvalidStore.__init__" (defArgs (clsInit (topS 18))) (defBody (clsInit (topS 18))) (defScope (clsInit (topS 18)))) (by decide) (fun env => ⟨_, rfl⟩) no_InvalidStore (fun s doc pm an cdv ct cc u v => .of_eq rfl) X hg hms hb hbs hl hr hq⟩⟩,
  ⟨_, PySem.W.mg_of X G nC_InvalidStrengths, fun w => ⟨nC_InvalidStrengths, kC_InvalidStrengths, eC_InvalidStrengths, tyC_InvalidStrengths, ⟨ga_InvalidStrengths, gg_InvalidStrengths, eC_InvalidStrengths, hdC_InvalidStrengths⟩, no_InvalidStrengths, fun X hg hms hb hbs hl hr hq => SX.made1 (par := "value") (fld := "value") (⟨⟨_, _, _, _, _, _, _, _, _, _, _, _, _, _, _, lk_InvalidStrengths, rv_InvalidStrengths⟩, sa_InvalidStrengths, ga_InvalidStrengths, gg_InvalidStrengths, iC_InvalidStrengths, tC_InvalidStrengths, kC_InvalidStrengths, eC_InvalidStrengths, tyC_InvalidStrengths, hdC_InvalidStrengths, vE_InvalidStrengths, ei_InvalidStrengths, su_InvalidStrengths, mr_InvalidStrengths, anyK, ⟨_, _, _, _, _, _, _, _, _, _, _, _, _, _, _, _, _, _, fl_InvalidStrengths, cd_InvalidStrengths, lc_InvalidStrengths, v2_InvalidStrengths, fe_InvalidStrengths, ce_InvalidStrengths⟩, topK⟩ : SX.OwnC K P C_InvalidStrengths fI_InvalidStrengths "InvalidStrengths.__init__" (defArgs (clsInit (topS 10))) (defBody (clsInit (topS 10))) (defScope (clsInit (topS 10)))) (by decide) (fun env => ⟨_, rfl⟩) no_InvalidStrengths (fun s doc pm an cdv ct cc u v => .of_eq rfl) X hg hms hb hbs hl hr hq⟩⟩,
  ⟨_, PySem.W.mg_of X G nC_InvalidText, fun w => ⟨nC_InvalidText, kC_InvalidText, eC_InvalidText, tyC_InvalidText, ⟨ga_InvalidText, gg_InvalidText, eC_InvalidText, hdC_InvalidText⟩, no_InvalidText, fun X hg hms hb hbs hl hr hq => SX.made1 (par := "value") (fld := "value") (⟨⟨_, _, _, _, _, _, _, _, _, _, _, _, _, _, _, lk_InvalidText, rv_InvalidText⟩, sa_InvalidText, ga_InvalidText, gg_InvalidText, iC_InvalidText, tC_InvalidText, kC_InvalidText, eC_InvalidText, tyC_InvalidText, hdC_InvalidText, vE_InvalidText, ei_InvalidText, su_InvalidText, mr_InvalidText, anyK, ⟨_, _, _, _, _, _, _, _, _, _, _, _, _, _, _, _, _, _, fl_InvalidText, cd_InvalidText, lc_InvalidText, v2_InvalidText, fe_InvalidText, ce_InvalidText⟩, topK⟩ : SX.OwnC K P C_InvalidText fI_InvalidText "InvalidText.__init__" (defArgs (clsInit (topS 21))) (defBody (clsInit (topS 21))) (defScope (clsInit (topS 21)))) (by decide) (fun env => ⟨_, rfl⟩) no_InvalidText (fun s doc pm an cdv ct cc u v => .of_eq rfl) X hg hms hb hbs hl hr hq⟩⟩,
  ⟨_, PySem.W.mg_of X G nC_InvalidWeaving, fun w => ⟨nC_InvalidWeaving, kC_InvalidWeaving, eC_InvalidWeaving, tyC_InvalidWeaving, ⟨ga_InvalidWeaving, gg_InvalidWeaving, eC_InvalidWeaving, hdC_InvalidWeaving⟩, no_InvalidWeaving, fun X hg hms hb hbs hl hr hq => SX.made1 (par := "value") (fld := "value") (⟨⟨_, _, _, _, _, _, _, _, _, _, _, _, _, _, _, lk_InvalidWeaving, rv_InvalidWeaving⟩, sa_InvalidWeaving, ga_InvalidWeaving, gg_InvalidWeaving, iC_InvalidWeaving, tC_InvalidWeaving, kC_InvalidWeaving, eC_InvalidWeaving, tyC_InvalidWeaving, hdC_InvalidWeaving, vE_InvalidWeaving, ei_InvalidWeaving, su_InvalidWeaving, mr_InvalidWeaving, anyK, ⟨_, _, _, _, _, _, _, _, _, _, _, _, _, _, _, _, _, _, fl_InvalidWeaving, cd_InvalidWeaving, lc_InvalidWeaving, v2_InvalidWeaving, fe_InvalidWeaving, ce_InvalidWeaving⟩, topK⟩ : SX.OwnC K P C_InvalidWeaving fI_InvalidWeaving "InvalidWeaving.__init__" (defArgs (clsInit (topS 17))) (defBody (clsInit (topS 17))) (defScope (clsInit (topS 17)))) (by decide) (fun env => ⟨_, rfl⟩) no_InvalidWeaving (fun s doc pm an cdv ct cc u v => .of_eq rfl) X hg hms hb hbs hl hr hq⟩⟩,
  ⟨_, PySem.W.mg_of X G nC_NameTaken, fun w => ⟨nC_NameTaken, kC_NameTaken, eC_NameTaken, tyC_NameTaken, ⟨ga_NameTaken, gg_NameTaken, eC_NameTaken, hdC_NameTaken⟩, no_NameTaken, fun X hg hms hb hbs hl hr hq => SX.made1 (par := "name") (fld := "name") (⟨⟨_, _, _, _, _, _, _, _, _, _, _, _, _, _, _, lk_NameTaken, rv_NameTaken⟩, sa_NameTaken, ga_NameTaken, gg_NameTaken, iC_NameTaken, tC_NameTaken, kC_NameTaken, eC_NameTaken, tyC_NameTaken, hdC_NameTaken, vE_NameTaken, ei_NameTaken, su_NameTaken, mr_NameTaken, anyK, ⟨_, _, _, _, _, _, _, _, _, _, _, _, _, _, _, _, _, _, fl_NameTaken, cd_NameTaken, lc_NameTaken, v2_NameTaken, fe_NameTaken, ce_NameTaken⟩, topK⟩ : SX.OwnC K P C_NameTaken fI_NameTaken "NameTaken.__init__" (defArgs (clsInit (topS 27))) (defBody (clsInit (topS 27))) (defScope (clsInit (topS 27)))) (by decide) (fun env => ⟨_, rfl⟩) no_NameTaken (fun s doc pm an cdv ct cc u v => .of_eq rfl) X hg hms hb hbs hl hr hq⟩⟩,
  ⟨_, PySem.W.mg_of X G nC_NoProgram, fun w => ⟨nC_NoProgram, kC_NoProgram, eC_NoProgram, tyC_NoProgram, ⟨ga_NoProgram, gg_NoProgram, eC_NoProgram, hdC_NoProgram⟩, no_NoProgram, fun X hg hms hb hbs hl hr hq => SX.made1 (par := "kind") (fld := "kind") (⟨⟨_, _, _, _, _, _, _, _, _, _, _, _, _, _, _, lk_NoProgram, rv_NoProgram⟩, sa_NoProgram, ga_NoProgram, gg_NoProgram, iC_NoProgram, tC_NoProgram, kC_NoProgram, eC_NoProgram, tyC_NoProgram, hdC_NoProgram, vE_NoProgram, ei_NoProgram, su_NoProgram, mr_NoProgram, anyK, ⟨_, _, _, _, _, _, _, _, _, _, _, _, _, _, _, _, _, _, fl_NoProgram, cd_NoProgram, lc_NoProgram, v2_NoProgram, fe_NoProgram, ce_NoProgram⟩, topK⟩ : SX.OwnC K P C_NoProgram fI_NoProgram "NoProgram.__init__" (defArgs (clsInit (topS 31))) (defBody (clsInit (topS 31))) (defScope (clsInit (topS 31)))) (by decide) (fun env => ⟨_, rfl⟩) no_NoProgram (fun s doc pm an cdv ct cc u v => .of_eq rfl) X hg hms hb hbs hl hr hq⟩⟩,
  ⟨_, PySem.W.mg_of X G nC_NoStore, fun w => ⟨nC_NoStore, kC_NoStore, eC_NoStore, tyC_NoStore, fun X hg hms hb hbs hl hr hq => SX.made0 (⟨⟨_, _, _, _, _, _, _, _, _, _, _, _, _, _, _, lk_NoStore, rv_NoStore⟩, sa_NoStore, ga_NoStore, gg_NoStore, iC_NoStore, tC_NoStore, kC_NoStore, eC_NoStore, tyC_NoStore, hdC_NoStore, vE_NoStore, ei_NoStore, su_NoStore, mr_NoStore, anyK, ⟨_, _, _, _, _, _, _, _, _, _, _, _, _, _, _, _, _, _, fl_NoStore, cd_NoStore, lc_NoStore, v2_NoStore, fe_NoStore, ce_NoStore⟩, topK⟩ : SX.OwnC K P C_NoStore fI_NoStore "NoStore.__init__" (defArgs (clsInit (topS 37))) (defBody (clsInit (topS 37))) (defScope (clsInit (topS 37)))) (fun env => ⟨_, rfl⟩) (fun s doc pm an cdv ct cc u => .of_eq rfl) X hg hms hb hbs hl hr hq⟩⟩,
  ⟨_, PySem.W.mg_of X G nC_NotInside, fun w => ⟨nC_NotInside, kC_NotInside, eC_NotInside, tyC_NotInside, ⟨ga_NotInside, gg_NotInside, eC_NotInside, hdC_NotInside⟩, no_NotInside, fun X hg hms hb hbs hl hr hq => SX.made1 (par := "at") (fld := "at") (⟨⟨_, _, _, _, _, _, _, _, _, _, _, _, _, _, _, lk_NotInside, rv_NotInside⟩, sa_NotInside, ga_NotInside, gg_NotInside, iC_NotInside, tC_NotInside, kC_NotInside, eC_NotInside, tyC_NotInside, hdC_NotInside, vE_NotInside, ei_NotInside, su_NotInside, mr_NotInside, anyK, ⟨_, _, _, _, _, _, _, _, _, _, _, _, _, _, _, _, _, _, fl_NotInside, cd_NotInside, lc_NotInside, v2_NotInside, fe_NotInside, ce_NotInside⟩, topK⟩ : SX.OwnC K P C_NotInside fI_NotInside "NotInside.__init__" (defArgs (clsInit (topS 29))) (defBody (clsInit (topS 29))) (defScope (clsInit (topS 29)))) (by decide) (fun env => ⟨_, rfl⟩) no_NotInside (fun s doc pm an cdv ct cc u v => .of_eq rfl) X hg hms hb hbs hl hr hq⟩⟩,
  ⟨_, PySem.W.mg_of X G nC_NotNeighbours, fun w => ⟨nC_NotNeighbours, kC_NotNeighbours, eC_NotNeighbours, tyC_NotNeighbours, ⟨ga_NotNeighbours, gg_NotNeighbours, eC_NotNeighbours, hdC_NotNeighbours⟩, no_NotNeighbours, fun X hg hms hb hbs hl hr hq => SX.made1 (par := "name") (fld := "name") (⟨⟨_, _, _, _, _, _, _, _, _, _, _, _, _, _, _, lk_NotNeighbours, rv_NotNeighbours⟩, sa_NotNeighbours, ga_NotNeighbours, gg_NotNeighbours, iC_NotNeighbours, tC_NotNeighbours, kC_NotNeighbours, eC_NotNeighbours, tyC_NotNeighbours, hdC_NotNeighbours, vE_NotNeighbours, ei_NotNeighbours, su_NotNeighbours, mr_NotNeighbours, anyK, ⟨_, _, _, _, _, _, _, _, _, _, _, _, _, _, _, _, _, _, fl_NotNeighbours, cd_NotNeighbours, lc_NotNeighbours, v2_NotNeighbours, fe_NotNeighbours, ce_NotNeighbours⟩, topK⟩ : SX.OwnC K P C_NotNeighbours fI_NotNeighbours "NotNeighbours.__init__" (defArgs (clsInit (topS 30))) (defBody (clsInit (topS 30))) (defScope (clsInit (topS 30)))) (by decide) (fun env => ⟨_, rfl⟩) no_NotNeighbours (fun s doc pm an cdv ct cc u v => .of_eq rfl) X hg hms hb hbs hl hr hq⟩⟩,
  ⟨_, PySem.W.mg_of X G nC_NotRight, fun w => ⟨nC_NotRight, kC_NotRight, eC_NotRight, tyC_NotRight, fun X hg hms hb hbs hl hr hq => SX.made0 (⟨⟨_, _, _, _, _, _, _, _, _, _, _, _, _, _, _, lk_NotRight, rv_NotRight⟩, sa_NotRight, ga_NotRight, gg_NotRight, iC_NotRight, tC_NotRight, kC_NotRight, eC_NotRight, tyC_NotRight, hdC_NotRight, vE_NotRight, ei_NotRight, su_NotRight, mr_NotRight, anyK, ⟨_, _, _, _, _, _, _, _, _, _, _, _, _, _, _, _, _, _, fl_NotRight, cd_NotRight, lc_NotRight, v2_NotRight, fe_NotRight, ce_NotRight⟩, topK⟩ : SX.OwnC K P C_NotRight fI_NotRight "NotRight.__init__" (defArgs (clsInit (topS 36))) (defBody (clsInit (topS 36))) (defScope (clsInit (topS 36)))) (fun env => ⟨_, rfl⟩) (fun s doc pm an cdv ct cc u => .of_eq rfl) X hg hms hb hbs hl hr hq⟩⟩,
  ⟨_, PySem.W.mg_of X G nC_NothingBad, fun w => ⟨nC_NothingBad, kC_NothingBad, eC_NothingBad, tyC_NothingBad, fun X hg hms hb hbs hl hr hq => SX.made0 (⟨⟨_, _, _, _, _, _, _, _, _, _, _, _, _, _, _, lk_NothingBad, rv_NothingBad⟩, sa_NothingBad, ga_NothingBad, gg_NothingBad, iC_NothingBad, tC_NothingBad, kC_NothingBad, eC_NothingBad, tyC_NothingBad, hdC_NothingBad, vE_NothingBad, ei_NothingBad, su_NothingBad, mr_NothingBad, anyK, ⟨_, _, _, _, _, _, _, _, _, _, _, _, _, _, _, _, _, _, fl_NothingBad, cd_NothingBad, lc_NothingBad, v2_NothingBad, fe_NothingBad, ce_NothingBad⟩, topK⟩ : SX.OwnC K P C_NothingBad fI_NothingBad "NothingBad.__init__" (defArgs (clsInit (topS 35))) (defBody (clsInit (topS 35))) (defScope (clsInit (topS 35)))) (fun env => ⟨_, rfl⟩) (fun s doc pm an cdv ct cc u => .of_eq rfl) X hg hms hb hbs hl hr hq⟩⟩,
  ⟨_, PySem.W.mg_of X G nC_NothingToRedo, fun w => ⟨nC_NothingToRedo, kC_NothingToRedo, eC_NothingToRedo, tyC_NothingToRedo, fun X hg hms hb hbs hl hr hq => SX.made0 (⟨⟨_, _, _, _, _, _, _, _, _, _, _, _, _, _, _, lk_NothingToRedo, rv_NothingToRedo⟩, sa_NothingToRedo, ga_NothingToRedo, gg_NothingToRedo, iC_NothingToRedo, tC_NothingToRedo, kC_NothingToRedo, eC_NothingToRedo, tyC_NothingToRedo, hdC_NothingToRedo, vE_NothingToRedo, ei_NothingToRedo, su_NothingToRedo, mr_NothingToRedo, anyK, ⟨_, _, _, _, _, _, _, _, _, _, _, _, _, _, _, _, _, _, fl_NothingToRedo, cd_NothingToRedo, lc_NothingToRedo, v2_NothingToRedo, fe_NothingToRedo, ce_NothingToRedo⟩, topK⟩ : SX.OwnC K P C_NothingToRedo fI_NothingToRedo "NothingToRedo.__init__" (defArgs (clsInit (topS 39))) (defBody (clsInit (topS 39))) (defScope (clsInit (topS 39)))) (fun env => ⟨_, rfl⟩) (fun s doc pm an cdv ct cc u => .of_eq rfl) X hg hms hb hbs hl hr hq⟩⟩,
  ⟨_, PySem.W.mg_of X G nC_NothingToUndo, fun w => ⟨nC_NothingToUndo, kC_NothingToUndo, eC_NothingToUndo, tyC_NothingToUndo, fun X hg hms hb hbs hl hr hq => SX.made0 (⟨⟨_, _, _, _, _, _, _, _, _, _, _, _, _, _, _, lk_NothingToUndo, rv_NothingToUndo⟩, sa_NothingToUndo, ga_NothingToUndo, gg_NothingToUndo, iC_NothingToUndo, tC_NothingToUndo, kC_NothingToUndo, eC_NothingToUndo, tyC_NothingToUndo, hdC_NothingToUndo, vE_NothingToUndo, ei_NothingToUndo, su_NothingToUndo, mr_NothingToUndo, anyK, ⟨_, _, _, _, _, _, _, _, _, _, _, _, _, _, _, _, _, _, fl_NothingToUndo, cd_NothingToUndo, lc_NothingToUndo, v2_NothingToUndo, fe_NothingToUndo, ce_NothingToUndo⟩, topK⟩ : SX.OwnC K P C_NothingToUndo fI_NothingToUndo "NothingToUndo.__init__" (defArgs (clsInit (topS 38))) (defBody (clsInit (topS 38))) (defScope (clsInit (topS 38)))) (fun env => ⟨_, rfl⟩) (fun s doc pm an cdv ct cc u => .of_eq rfl) X hg hms hb hbs hl hr hq⟩⟩,
  ⟨_, PySem.W.mg_of X G nC_Overlap, fun w => ⟨nC_Overlap, kC_Overlap, eC_Overlap, tyC_Overlap, ⟨ga_Overlap, gg_Overlap, eC_Overlap, hdC_Overlap⟩, no_Overlap, fun X hg hms hb hbs hl hr hq => SX.made1 (par := "name") (fld := "name") (⟨⟨_, _, _, _, _, _, _, _, _, _, _, _, _, _, _, lk_Overlap, rv_Overlap⟩, sa_Overlap, ga_Overlap, gg_Overlap, iC_Overlap, tC_Overlap, kC_Overlap, eC_Overlap, tyC_Overlap, hdC_Overlap, vE_Overlap, ei_Overlap, su_Overlap, mr_Overlap, anyK, ⟨_, _, _, _, _, _, _, _, _, _, _, _, _, _, _, _, _, _, fl_Overlap, cd_Overlap, lc_Overlap, v2_Overlap, fe_Overlap, ce_Overlap⟩, topK⟩ : SX.OwnC K P C_Overlap fI_Overlap "Overlap.__init__" (defArgs (clsInit (topS 28))) (defBody (clsInit (topS 28))) (defScope (clsInit (topS 28)))) (by decide) (fun env => ⟨_, rfl⟩) no_Overlap (fun s doc pm an cdv ct cc u v => .of_eq rfl) X hg hms hb hbs hl hr hq⟩⟩,
  ⟨_, PySem.W.mg_of X G nC_TooMany, fun w => ⟨nC_TooMany, kC_TooMany, eC_TooMany, tyC_TooMany, ⟨ga_TooMany, gg_TooMany, eC_TooMany, hdC_TooMany⟩, no_TooMany, fun X hg hms hb hbs hl hr hq => SX.made1 (par := "bound") (fld := "bound") (⟨⟨_, _, _, _, _, _, _, _, _, _, _, _, _, _, _, lk_TooMany, rv_TooMany⟩, sa_TooMany, ga_TooMany, gg_TooMany, iC_TooMany, tC_TooMany, kC_TooMany, eC_TooMany, tyC_TooMany, hdC_TooMany, vE_TooMany, ei_TooMany, su_TooMany, mr_TooMany, anyK, ⟨_, _, _, _, _, _, _, _, _, _, _, _, _, _, _, _, _, _, fl_TooMany, cd_TooMany, lc_TooMany, v2_TooMany, fe_TooMany, ce_TooMany⟩, topK⟩ : SX.OwnC K P C_TooMany fI_TooMany "TooMany.__init__" (defArgs (clsInit (topS 32))) (defBody (clsInit (topS 32))) (defScope (clsInit (topS 32)))) (by decide) (fun env => ⟨_, rfl⟩) no_TooMany (fun s doc pm an cdv ct cc u v => .of_eq rfl) X hg hms hb hbs hl hr hq⟩⟩,
  ⟨_, PySem.W.mg_of X G nC_UnknownEntry, fun w => ⟨nC_UnknownEntry, kC_UnknownEntry, eC_UnknownEntry, tyC_UnknownEntry, ⟨ga_UnknownEntry, gg_UnknownEntry, eC_UnknownEntry, hdC_UnknownEntry⟩, no_UnknownEntry, fun X hg hms hb hbs hl hr hq => SX.made1 (par := "name") (fld := "name") (⟨⟨_, _, _, _, _, _, _, _, _, _, _, _, _, _, _, lk_UnknownEntry, rv_UnknownEntry⟩, sa_UnknownEntry, ga_UnknownEntry, gg_UnknownEntry, iC_UnknownEntry, tC_UnknownEntry, kC_UnknownEntry, eC_UnknownEntry, tyC_UnknownEntry, hdC_UnknownEntry, vE_UnknownEntry, ei_UnknownEntry, su_UnknownEntry, mr_UnknownEntry, anyK, ⟨_, _, _, _, _, _, _, _, _, _, _, _, _, _, _, _, _, _, fl_UnknownEntry, cd_UnknownEntry, lc_UnknownEntry, v2_UnknownEntry, fe_UnknownEntry, ce_UnknownEntry⟩, topK⟩ : SX.OwnC K P C_UnknownEntry fI_UnknownEntry "UnknownEntry.__init__" (defArgs (clsInit (topS 26))) (defBody (clsInit (topS 26))) (defScope (clsInit (topS 26)))) (by decide) (fun env => ⟨_, rfl⟩) no_UnknownEntry (fun s doc pm an cdv ct cc u v => .of_eq rfl) X hg hms hb hbs hl hr hq⟩⟩,
  ⟨_, PySem.W.mg_of X G nC_UnknownMode, fun w => ⟨nC_UnknownMode, kC_UnknownMode, eC_UnknownMode, tyC_UnknownMode, ⟨ga_UnknownMode, gg_UnknownMode, eC_UnknownMode, hdC_UnknownMode⟩, no_UnknownMode, fun X hg hms hb hbs hl hr hq => SX.made1 (par := "name") (fld := "name") (⟨⟨_, _, _, _, _, _, _, _, _, _, _, _, _, _, _, lk_UnknownMode, rv_UnknownMode⟩, sa_UnknownMode, ga_UnknownMode, gg_UnknownMode, iC_UnknownMode, tC_UnknownMode, kC_UnknownMode, eC_UnknownMode, tyC_UnknownMode, hdC_UnknownMode, vE_UnknownMode, ei_UnknownMode, su_UnknownMode, mr_UnknownMode, anyK, ⟨_, _, _, _, _, _, _, _, _, _, _, _, _, _, _, _, _, _, fl_UnknownMode, cd_UnknownMode, lc_UnknownMode, v2_UnknownMode, fe_UnknownMode, ce_UnknownMode⟩, topK⟩ : SX.OwnC K P C_UnknownMode fI_UnknownMode "UnknownMode.__init__" (defArgs (clsInit (topS 25))) (defBody (clsInit (topS 25))) (defScope (clsInit (topS 25)))) (by decide) (fun env => ⟨_, rfl⟩) no_UnknownMode (fun s doc pm an cdv ct cc u v => .of_eq rfl) X hg hms hb hbs hl hr hq⟩⟩,
  ⟨_, PySem.W.mg_of X G nC_UnknownPart, fun w => ⟨nC_UnknownPart, kC_UnknownPart, eC_UnknownPart, tyC_UnknownPart, ⟨ga_UnknownPart, gg_UnknownPart, eC_UnknownPart, hdC_UnknownPart⟩, no_UnknownPart, fun X hg hms hb hbs hl hr hq => SX.made1 (par := "name") (fld := "name") (⟨⟨_, _, _, _, _, _, _, _, _, _, _, _, _, _, _, lk_UnknownPart, rv_UnknownPart⟩, sa_UnknownPart, ga_UnknownPart, gg_UnknownPart, iC_UnknownPart, tC_UnknownPart, kC_UnknownPart, eC_UnknownPart, tyC_UnknownPart, hdC_UnknownPart, vE_UnknownPart, ei_UnknownPart, su_UnknownPart, mr_UnknownPart, anyK, ⟨_, _, _, _, _, _, _, _, _, _, _, _, _, _, _, _, _, _, fl_UnknownPart, cd_UnknownPart, lc_UnknownPart, v2_UnknownPart, fe_UnknownPart, ce_UnknownPart⟩, topK⟩ : SX.OwnC K P C_UnknownPart fI_UnknownPart "UnknownPart.__init__" (defArgs (clsInit (topS 24))) (defBody (clsInit (topS 24))) (defScope (clsInit (topS 24)))) (by decide) (fun env => ⟨_, rfl⟩) no_UnknownPart (fun s doc pm an cdv ct cc u v => .of_eq rfl) X hg hms hb hbs hl hr hq⟩⟩,
  ⟨_, PySem.W.mg_of X G nC_Waiting, fun w => ⟨nC_Waiting, kC_Waiting, eC_Waiting, tyC_Waiting, ⟨ga_Waiting, gg_Waiting, eC_Waiting, hdC_Waiting⟩, no_Waiting, fun X hg hms hb hbs hl hr hq => SX.made1 (par := "number") (fld := "number") (⟨⟨_, _, _, _, _, _, _, _, _, _, _, _, _, _, _, lk_Waiting, rv_Waiting⟩, sa_Waiting, ga_Waiting, gg_Waiting, iC_Waiting, tC_Waiting, kC_Waiting, eC_Waiting, tyC_Waiting, hdC_Waiting, vE_Waiting, ei_Waiting, su_Waiting, mr_Waiting, anyK, ⟨_, _, _, _, _, _, _, _, _, _, _, _, _, _, _, _, _, _, fl_Waiting, cd_Waiting, lc_Waiting, v2_Waiting, fe_Waiting, ce_Waiting⟩, topK⟩ : SX.OwnC K P C_Waiting fI_Waiting "Waiting.__init__" (defArgs (clsInit (topS 34))) (defBody (clsInit (topS 34))) (defScope (clsInit (topS 34)))) (by decide) (fun env => ⟨_, rfl⟩) no_Waiting (fun s doc pm an cdv ct cc u v => .of_eq rfl) X hg hms hb hbs hl hr hq⟩⟩,
  ⟨_, PySem.W.mg_of X G nC_PartsError, mkb_of mb_PartsError⟩,
  ⟨_, PySem.W.mg_of X G nC_Duplicate, isx_of zx_Duplicate⟩,
  ⟨_, PySem.W.mg_of X G nC_Ended, isx_of zx_Ended⟩,
  isx_of zx_IndexError,
  ⟨_, PySem.W.mg_of X G nC_InvalidCatalog, isx_of zx_InvalidCatalog⟩,
  ⟨_, PySem.W.mg_of X G nC_InvalidChange, isx_of zx_InvalidChange⟩,
  ⟨_, PySem.W.mg_of X G nC_InvalidClash, isx_of zx_InvalidClash⟩,
  ⟨_, PySem.W.mg_of X G nC_InvalidCommand, isx_of zx_InvalidCommand⟩,
  ⟨_, PySem.W.mg_of X G nC_InvalidKey, isx_of zx_InvalidKey⟩,
  ⟨_, PySem.W.mg_of X G nC_InvalidLog, isx_of zx_InvalidLog⟩,
  ⟨_, PySem.W.mg_of X G nC_InvalidModes, isx_of zx_InvalidModes⟩,
  ⟨_, PySem.W.mg_of X G nC_InvalidName, isx_of zx_InvalidName⟩,
  ⟨_, PySem.W.mg_of X G nC_InvalidNumber, isx_of zx_InvalidNumber⟩,
  ⟨_, PySem.W.mg_of X G nC_InvalidProgram, isx_of zx_InvalidProgram⟩,
  ⟨_, PySem.W.mg_of X G nC_InvalidPrograms, isx_of zx_InvalidPrograms⟩,
  ⟨_, PySem.W.mg_of X G nC_InvalidProtocol, isx_of zx_InvalidProtocol⟩,
  ⟨_, PySem.W.mg_of X G nC_InvalidRows, isx_of zx_InvalidRows⟩,
  ⟨_, PySem.W.mg_of X G nC_InvalidScene, isx_of zx_InvalidScene⟩,
  ⟨_, PySem.W.mg_of X G nC_InvalidSession, isx_of zx_InvalidSession⟩,
  ⟨_, PySem.W.mg_of X G nC_InvalidSpan, isx_of zx_InvalidSpan⟩,
  ⟨_, PySem.W.mg_of X G nC_InvalidSpans, isx_of zx_InvalidSpans⟩,
  ⟨_, PySem.W.mg_of X G nC_InvalidStore, isx_of zx_InvalidStore⟩,
  ⟨_, PySem.W.mg_of X G nC_InvalidStrengths, isx_of zx_InvalidStrengths⟩,
  ⟨_, PySem.W.mg_of X G nC_InvalidText, isx_of zx_InvalidText⟩,
  ⟨_, PySem.W.mg_of X G nC_InvalidWeaving, isx_of zx_InvalidWeaving⟩,
  isx_of zx_KeyError,
  ⟨_, PySem.W.mg_of X G nC_NameTaken, isx_of zx_NameTaken⟩,
  ⟨_, PySem.W.mg_of X G nC_NoProgram, isx_of zx_NoProgram⟩,
  ⟨_, PySem.W.mg_of X G nC_NoStore, isx_of zx_NoStore⟩,
  ⟨_, PySem.W.mg_of X G nC_NotInside, isx_of zx_NotInside⟩,
  ⟨_, PySem.W.mg_of X G nC_NotNeighbours, isx_of zx_NotNeighbours⟩,
  ⟨_, PySem.W.mg_of X G nC_NotRight, isx_of zx_NotRight⟩,
  ⟨_, PySem.W.mg_of X G nC_NothingBad, isx_of zx_NothingBad⟩,
  ⟨_, PySem.W.mg_of X G nC_NothingToRedo, isx_of zx_NothingToRedo⟩,
  ⟨_, PySem.W.mg_of X G nC_NothingToUndo, isx_of zx_NothingToUndo⟩,
  ⟨_, PySem.W.mg_of X G nC_Overlap, isx_of zx_Overlap⟩,
  ⟨_, PySem.W.mg_of X G nC_PartsError, isx_of zx_PartsError⟩,
  ⟨_, PySem.W.mg_of X G nC_TooMany, isx_of zx_TooMany⟩,
  isx_of zx_TypeError,
  ⟨_, PySem.W.mg_of X G nC_UnknownEntry, isx_of zx_UnknownEntry⟩,
  ⟨_, PySem.W.mg_of X G nC_UnknownMode, isx_of zx_UnknownMode⟩,
  ⟨_, PySem.W.mg_of X G nC_UnknownPart, isx_of zx_UnknownPart⟩,
  isx_of zx_ValueError,
  ⟨_, PySem.W.mg_of X G nC_Waiting, isx_of zx_Waiting⟩,
  PySem.W.mg_none_of X G n_IndexError,
  PySem.W.mg_none_of X G n_KeyError,
  PySem.W.mg_none_of X G n_TypeError,
  PySem.W.mg_none_of X G n_ValueError,
  PySem.W.mg_none_of X G n_bool,
  PySem.W.mg_none_of X G n_isinstance,
  PySem.W.mg_none_of X G n_len,
  PySem.W.mg_none_of X G n_max,
  PySem.W.mg_none_of X G n_min,
  PySem.W.mg_none_of X G n_range,
  PySem.W.mg_none_of X G n_super⟩
end K04
set_option synthInstance.maxHeartbeats 0
set_option synthInstance.maxSize 100000
set_option Elab.async false
set_option linter.all false
set_option maxRecDepth 100000
set_option maxHeartbeats 4000000
namespace K04
open PySem PySem.Spec PyProof.Rows L2 SD
theorem run_rt {m : Nat} {body : Sv} {us : List U} {M : Mem} {d : D} (h : body (us.map some ++ List.replicate (m - us.length) none) M = .rt (.dat d) M) : fnRun m body us M = .ok (.dat d) M := by
  unfold fnRun
  rw [h]
  show Out.ok (U.dat d) (M.take M.length) = _
  rw [List.take_length]
def ex0 (d : D) : D := .exv "InvalidName" [("value", d)]
def ex1 (d : D) : D := .exv "InvalidKey" [("value", d)]
def ex2 (d : D) : D := .exv "InvalidSpan" [("value", d)]
def ex3 (d : D) : D := .exv "InvalidSpans" [("value", d)]
def ex4 (d : D) : D := .exv "InvalidCatalog" [("value", d)]
def ex5 (d : D) : D := .exv "InvalidChange" [("value", d)]
def ex6 (d : D) : D := .exv "InvalidModes" [("value", d)]
def ex7 (d : D) : D := .exv "InvalidClash" [("value", d)]
def ex8 (d : D) : D := .exv "InvalidStrengths" [("value", d)]
def ex9 (d : D) : D := .exv "InvalidProgram" [("value", d)]
def ex10 (d : D) : D := .exv "InvalidPrograms" [("value", d)]
def ex11 (d : D) : D := .exv "InvalidProtocol" [("value", d)]
def ex12 (d : D) : D := .exv "InvalidRows" [("value", d)]
def ex13 (d : D) : D := .exv "InvalidSession" [("value", d)]
def ex14 (d : D) : D := .exv "InvalidNumber" [("value", d)]
def ex15 (d : D) : D := .exv "InvalidWeaving" [("value", d)]
def ex16 (d : D) : D := .exv "InvalidStore" [("value", d)]
def ex17 (d : D) : D := .exv "InvalidScene" [("value", d)]
def ex18 (d : D) : D := .exv "InvalidLog" [("value", d)]
def ex19 (d : D) : D := .exv "InvalidText" [("value", d)]
def ex20 (d : D) : D := .exv "InvalidCommand" [("value", d)]
def ex21 (d : D) : D := .exv "Duplicate" [("name", d)]
def ex22 (d : D) : D := .exv "UnknownPart" [("name", d)]
def ex23 (d : D) : D := .exv "UnknownMode" [("name", d)]
def ex24 (d : D) : D := .exv "UnknownEntry" [("name", d)]
def ex25 (d : D) : D := .exv "NameTaken" [("name", d)]
def ex26 (d : D) : D := .exv "Overlap" [("name", d)]
def ex27 (d : D) : D := .exv "NotInside" [("at", d)]
def ex28 (d : D) : D := .exv "NotNeighbours" [("name", d)]
def ex29 (d : D) : D := .exv "NoProgram" [("kind", d)]
def ex30 (d : D) : D := .exv "TooMany" [("bound", d)]
def ex31 (d : D) : D := .exv "Ended" [("number", d)]
def ex32 (d : D) : D := .exv "Waiting" [("number", d)]
def ex33 (d : D) : D := .exv "NothingBad" []
def ex34 (d : D) : D := .exv "NotRight" []
def ex35 (d : D) : D := .exv "NoStore" []
def ex36 (d : D) : D := .exv "NothingToUndo" []
def ex37 (d : D) : D := .exv "NothingToRedo" []
def madeL (d : D) : List D := [ex0 d, ex1 d, ex2 d, ex3 d, ex4 d, ex5 d, ex6 d, ex7 d, ex8 d, ex9 d, ex10 d, ex11 d, ex12 d, ex13 d, ex14 d, ex15 d, ex16 d, ex17 d, ex18 d, ex19 d, ex20 d, ex21 d, ex22 d, ex23 d, ex24 d, ex25 d, ex26 d, ex27 d, ex28 d, ex29 d, ex30 d, ex31 d, ex32 d, ex33 d, ex34 d, ex35 d, ex36 d, ex37 d]
theorem made_run (d : D) (M : Mem) : f_law_made [.dat d] M = .ok (.dat (.lst (madeL d))) M := run_rt (by kernel_rfl)
theorem fields_run (d : D) (M : Mem) : f_law_fields [.dat (.lst (madeL d))] M = .ok (.dat (.lst (List.replicate 33 d))) M := run_rt (by kernel_rfl)
theorem cls_parts (M : Mem) : f_law_classes [.dat (.exv "PartsError" [])] M = .ok (.dat (.lst [])) M := run_rt (by kernel_rfl)
theorem cls0 (d : D) (M : Mem) : f_law_classes [.dat (ex0 d)] M = .ok (.dat (.lst [.int 0])) M := run_rt (by kernel_rfl)
theorem und0 (d : D) (M : Mem) : f_law_under [.dat (ex0 d)] M = .ok (.dat (.bl true)) M := run_rt (by kernel_rfl)
theorem cls1 (d : D) (M : Mem) : f_law_classes [.dat (ex1 d)] M = .ok (.dat (.lst [.int 1])) M := run_rt (by kernel_rfl)
theorem und1 (d : D) (M : Mem) : f_law_under [.dat (ex1 d)] M = .ok (.dat (.bl true)) M := run_rt (by kernel_rfl)
theorem cls2 (d : D) (M : Mem) : f_law_classes [.dat (ex2 d)] M = .ok (.dat (.lst [.int 2])) M := run_rt (by kernel_rfl)
theorem und2 (d : D) (M : Mem) : f_law_under [.dat (ex2 d)] M = .ok (.dat (.bl true)) M := run_rt (by kernel_rfl)
theorem cls3 (d : D) (M : Mem) : f_law_classes [.dat (ex3 d)] M = .ok (.dat (.lst [.int 3])) M := run_rt (by kernel_rfl)
theorem und3 (d : D) (M : Mem) : f_law_under [.dat (ex3 d)] M = .ok (.dat (.bl true)) M := run_rt (by kernel_rfl)
theorem cls4 (d : D) (M : Mem) : f_law_classes [.dat (ex4 d)] M = .ok (.dat (.lst [.int 4])) M := run_rt (by kernel_rfl)
theorem und4 (d : D) (M : Mem) : f_law_under [.dat (ex4 d)] M = .ok (.dat (.bl true)) M := run_rt (by kernel_rfl)
theorem cls5 (d : D) (M : Mem) : f_law_classes [.dat (ex5 d)] M = .ok (.dat (.lst [.int 5])) M := run_rt (by kernel_rfl)
theorem und5 (d : D) (M : Mem) : f_law_under [.dat (ex5 d)] M = .ok (.dat (.bl true)) M := run_rt (by kernel_rfl)
theorem cls6 (d : D) (M : Mem) : f_law_classes [.dat (ex6 d)] M = .ok (.dat (.lst [.int 6])) M := run_rt (by kernel_rfl)
theorem und6 (d : D) (M : Mem) : f_law_under [.dat (ex6 d)] M = .ok (.dat (.bl true)) M := run_rt (by kernel_rfl)
theorem cls7 (d : D) (M : Mem) : f_law_classes [.dat (ex7 d)] M = .ok (.dat (.lst [.int 7])) M := run_rt (by kernel_rfl)
theorem und7 (d : D) (M : Mem) : f_law_under [.dat (ex7 d)] M = .ok (.dat (.bl true)) M := run_rt (by kernel_rfl)
theorem cls8 (d : D) (M : Mem) : f_law_classes [.dat (ex8 d)] M = .ok (.dat (.lst [.int 8])) M := run_rt (by kernel_rfl)
theorem und8 (d : D) (M : Mem) : f_law_under [.dat (ex8 d)] M = .ok (.dat (.bl true)) M := run_rt (by kernel_rfl)
theorem cls9 (d : D) (M : Mem) : f_law_classes [.dat (ex9 d)] M = .ok (.dat (.lst [.int 9])) M := run_rt (by kernel_rfl)
theorem und9 (d : D) (M : Mem) : f_law_under [.dat (ex9 d)] M = .ok (.dat (.bl true)) M := run_rt (by kernel_rfl)
theorem cls10 (d : D) (M : Mem) : f_law_classes [.dat (ex10 d)] M = .ok (.dat (.lst [.int 10])) M := run_rt (by kernel_rfl)
theorem und10 (d : D) (M : Mem) : f_law_under [.dat (ex10 d)] M = .ok (.dat (.bl true)) M := run_rt (by kernel_rfl)
theorem cls11 (d : D) (M : Mem) : f_law_classes [.dat (ex11 d)] M = .ok (.dat (.lst [.int 11])) M := run_rt (by kernel_rfl)
theorem und11 (d : D) (M : Mem) : f_law_under [.dat (ex11 d)] M = .ok (.dat (.bl true)) M := run_rt (by kernel_rfl)
theorem cls12 (d : D) (M : Mem) : f_law_classes [.dat (ex12 d)] M = .ok (.dat (.lst [.int 12])) M := run_rt (by kernel_rfl)
theorem und12 (d : D) (M : Mem) : f_law_under [.dat (ex12 d)] M = .ok (.dat (.bl true)) M := run_rt (by kernel_rfl)
theorem cls13 (d : D) (M : Mem) : f_law_classes [.dat (ex13 d)] M = .ok (.dat (.lst [.int 13])) M := run_rt (by kernel_rfl)
theorem und13 (d : D) (M : Mem) : f_law_under [.dat (ex13 d)] M = .ok (.dat (.bl true)) M := run_rt (by kernel_rfl)
theorem cls14 (d : D) (M : Mem) : f_law_classes [.dat (ex14 d)] M = .ok (.dat (.lst [.int 14])) M := run_rt (by kernel_rfl)
theorem und14 (d : D) (M : Mem) : f_law_under [.dat (ex14 d)] M = .ok (.dat (.bl true)) M := run_rt (by kernel_rfl)
theorem cls15 (d : D) (M : Mem) : f_law_classes [.dat (ex15 d)] M = .ok (.dat (.lst [.int 15])) M := run_rt (by kernel_rfl)
theorem und15 (d : D) (M : Mem) : f_law_under [.dat (ex15 d)] M = .ok (.dat (.bl true)) M := run_rt (by kernel_rfl)
theorem cls16 (d : D) (M : Mem) : f_law_classes [.dat (ex16 d)] M = .ok (.dat (.lst [.int 16])) M := run_rt (by kernel_rfl)
theorem und16 (d : D) (M : Mem) : f_law_under [.dat (ex16 d)] M = .ok (.dat (.bl true)) M := run_rt (by kernel_rfl)
theorem cls17 (d : D) (M : Mem) : f_law_classes [.dat (ex17 d)] M = .ok (.dat (.lst [.int 17])) M := run_rt (by kernel_rfl)
theorem und17 (d : D) (M : Mem) : f_law_under [.dat (ex17 d)] M = .ok (.dat (.bl true)) M := run_rt (by kernel_rfl)
theorem cls18 (d : D) (M : Mem) : f_law_classes [.dat (ex18 d)] M = .ok (.dat (.lst [.int 18])) M := run_rt (by kernel_rfl)
theorem und18 (d : D) (M : Mem) : f_law_under [.dat (ex18 d)] M = .ok (.dat (.bl true)) M := run_rt (by kernel_rfl)
theorem cls19 (d : D) (M : Mem) : f_law_classes [.dat (ex19 d)] M = .ok (.dat (.lst [.int 19])) M := run_rt (by kernel_rfl)
theorem und19 (d : D) (M : Mem) : f_law_under [.dat (ex19 d)] M = .ok (.dat (.bl true)) M := run_rt (by kernel_rfl)
theorem cls20 (d : D) (M : Mem) : f_law_classes [.dat (ex20 d)] M = .ok (.dat (.lst [.int 20])) M := run_rt (by kernel_rfl)
theorem und20 (d : D) (M : Mem) : f_law_under [.dat (ex20 d)] M = .ok (.dat (.bl true)) M := run_rt (by kernel_rfl)
theorem cls21 (d : D) (M : Mem) : f_law_classes [.dat (ex21 d)] M = .ok (.dat (.lst [.int 21])) M := run_rt (by kernel_rfl)
theorem und21 (d : D) (M : Mem) : f_law_under [.dat (ex21 d)] M = .ok (.dat (.bl true)) M := run_rt (by kernel_rfl)
theorem cls22 (d : D) (M : Mem) : f_law_classes [.dat (ex22 d)] M = .ok (.dat (.lst [.int 22])) M := run_rt (by kernel_rfl)
theorem und22 (d : D) (M : Mem) : f_law_under [.dat (ex22 d)] M = .ok (.dat (.bl true)) M := run_rt (by kernel_rfl)
theorem cls23 (d : D) (M : Mem) : f_law_classes [.dat (ex23 d)] M = .ok (.dat (.lst [.int 23])) M := run_rt (by kernel_rfl)
theorem und23 (d : D) (M : Mem) : f_law_under [.dat (ex23 d)] M = .ok (.dat (.bl true)) M := run_rt (by kernel_rfl)
theorem cls24 (d : D) (M : Mem) : f_law_classes [.dat (ex24 d)] M = .ok (.dat (.lst [.int 24])) M := run_rt (by kernel_rfl)
theorem und24 (d : D) (M : Mem) : f_law_under [.dat (ex24 d)] M = .ok (.dat (.bl true)) M := run_rt (by kernel_rfl)
theorem cls25 (d : D) (M : Mem) : f_law_classes [.dat (ex25 d)] M = .ok (.dat (.lst [.int 25])) M := run_rt (by kernel_rfl)
theorem und25 (d : D) (M : Mem) : f_law_under [.dat (ex25 d)] M = .ok (.dat (.bl true)) M := run_rt (by kernel_rfl)
theorem cls26 (d : D) (M : Mem) : f_law_classes [.dat (ex26 d)] M = .ok (.dat (.lst [.int 26])) M := run_rt (by kernel_rfl)
theorem und26 (d : D) (M : Mem) : f_law_under [.dat (ex26 d)] M = .ok (.dat (.bl true)) M := run_rt (by kernel_rfl)
theorem cls27 (d : D) (M : Mem) : f_law_classes [.dat (ex27 d)] M = .ok (.dat (.lst [.int 27])) M := run_rt (by kernel_rfl)
theorem und27 (d : D) (M : Mem) : f_law_under [.dat (ex27 d)] M = .ok (.dat (.bl true)) M := run_rt (by kernel_rfl)
theorem cls28 (d : D) (M : Mem) : f_law_classes [.dat (ex28 d)] M = .ok (.dat (.lst [.int 28])) M := run_rt (by kernel_rfl)
theorem und28 (d : D) (M : Mem) : f_law_under [.dat (ex28 d)] M = .ok (.dat (.bl true)) M := run_rt (by kernel_rfl)
theorem cls29 (d : D) (M : Mem) : f_law_classes [.dat (ex29 d)] M = .ok (.dat (.lst [.int 29])) M := run_rt (by kernel_rfl)
theorem und29 (d : D) (M : Mem) : f_law_under [.dat (ex29 d)] M = .ok (.dat (.bl true)) M := run_rt (by kernel_rfl)
theorem cls30 (d : D) (M : Mem) : f_law_classes [.dat (ex30 d)] M = .ok (.dat (.lst [.int 30])) M := run_rt (by kernel_rfl)
theorem und30 (d : D) (M : Mem) : f_law_under [.dat (ex30 d)] M = .ok (.dat (.bl true)) M := run_rt (by kernel_rfl)
theorem cls31 (d : D) (M : Mem) : f_law_classes [.dat (ex31 d)] M = .ok (.dat (.lst [.int 31])) M := run_rt (by kernel_rfl)
theorem und31 (d : D) (M : Mem) : f_law_under [.dat (ex31 d)] M = .ok (.dat (.bl true)) M := run_rt (by kernel_rfl)
theorem cls32 (d : D) (M : Mem) : f_law_classes [.dat (ex32 d)] M = .ok (.dat (.lst [.int 32])) M := run_rt (by kernel_rfl)
theorem und32 (d : D) (M : Mem) : f_law_under [.dat (ex32 d)] M = .ok (.dat (.bl true)) M := run_rt (by kernel_rfl)
theorem cls33 (d : D) (M : Mem) : f_law_classes [.dat (ex33 d)] M = .ok (.dat (.lst [.int 33])) M := run_rt (by kernel_rfl)
theorem und33 (d : D) (M : Mem) : f_law_under [.dat (ex33 d)] M = .ok (.dat (.bl true)) M := run_rt (by kernel_rfl)
theorem cls34 (d : D) (M : Mem) : f_law_classes [.dat (ex34 d)] M = .ok (.dat (.lst [.int 34])) M := run_rt (by kernel_rfl)
theorem und34 (d : D) (M : Mem) : f_law_under [.dat (ex34 d)] M = .ok (.dat (.bl true)) M := run_rt (by kernel_rfl)
theorem cls35 (d : D) (M : Mem) : f_law_classes [.dat (ex35 d)] M = .ok (.dat (.lst [.int 35])) M := run_rt (by kernel_rfl)
theorem und35 (d : D) (M : Mem) : f_law_under [.dat (ex35 d)] M = .ok (.dat (.bl true)) M := run_rt (by kernel_rfl)
theorem cls36 (d : D) (M : Mem) : f_law_classes [.dat (ex36 d)] M = .ok (.dat (.lst [.int 36])) M := run_rt (by kernel_rfl)
theorem und36 (d : D) (M : Mem) : f_law_under [.dat (ex36 d)] M = .ok (.dat (.bl true)) M := run_rt (by kernel_rfl)
theorem cls37 (d : D) (M : Mem) : f_law_classes [.dat (ex37 d)] M = .ok (.dat (.lst [.int 37])) M := run_rt (by kernel_rfl)
theorem und37 (d : D) (M : Mem) : f_law_under [.dat (ex37 d)] M = .ok (.dat (.bl true)) M := run_rt (by kernel_rfl)
theorem one_at (d : D) (b : Nat) (h : b < 38) : ∃ e, ixD (.lst (madeL d)) (.int b) = some e ∧ (∀ M, f_law_classes [.dat e] M = .ok (.dat (.lst [.int b])) M) ∧ ∀ M, f_law_under [.dat e] M = .ok (.dat (.bl true)) M := by
  match b, h with
  | 0, _ => exact ⟨ex0 d, rfl, cls0 d, und0 d⟩
  | 1, _ => exact ⟨ex1 d, rfl, cls1 d, und1 d⟩
  | 2, _ => exact ⟨ex2 d, rfl, cls2 d, und2 d⟩
  | 3, _ => exact ⟨ex3 d, rfl, cls3 d, und3 d⟩
  | 4, _ => exact ⟨ex4 d, rfl, cls4 d, und4 d⟩
  | 5, _ => exact ⟨ex5 d, rfl, cls5 d, und5 d⟩
  | 6, _ => exact ⟨ex6 d, rfl, cls6 d, und6 d⟩
  | 7, _ => exact ⟨ex7 d, rfl, cls7 d, und7 d⟩
  | 8, _ => exact ⟨ex8 d, rfl, cls8 d, und8 d⟩
  | 9, _ => exact ⟨ex9 d, rfl, cls9 d, und9 d⟩
  | 10, _ => exact ⟨ex10 d, rfl, cls10 d, und10 d⟩
  | 11, _ => exact ⟨ex11 d, rfl, cls11 d, und11 d⟩
  | 12, _ => exact ⟨ex12 d, rfl, cls12 d, und12 d⟩
  | 13, _ => exact ⟨ex13 d, rfl, cls13 d, und13 d⟩
  | 14, _ => exact ⟨ex14 d, rfl, cls14 d, und14 d⟩
  | 15, _ => exact ⟨ex15 d, rfl, cls15 d, und15 d⟩
  | 16, _ => exact ⟨ex16 d, rfl, cls16 d, und16 d⟩
  | 17, _ => exact ⟨ex17 d, rfl, cls17 d, und17 d⟩
  | 18, _ => exact ⟨ex18 d, rfl, cls18 d, und18 d⟩
  | 19, _ => exact ⟨ex19 d, rfl, cls19 d, und19 d⟩
  | 20, _ => exact ⟨ex20 d, rfl, cls20 d, und20 d⟩
  | 21, _ => exact ⟨ex21 d, rfl, cls21 d, und21 d⟩
  | 22, _ => exact ⟨ex22 d, rfl, cls22 d, und22 d⟩
  | 23, _ => exact ⟨ex23 d, rfl, cls23 d, und23 d⟩
  | 24, _ => exact ⟨ex24 d, rfl, cls24 d, und24 d⟩
  | 25, _ => exact ⟨ex25 d, rfl, cls25 d, und25 d⟩
  | 26, _ => exact ⟨ex26 d, rfl, cls26 d, und26 d⟩
  | 27, _ => exact ⟨ex27 d, rfl, cls27 d, und27 d⟩
  | 28, _ => exact ⟨ex28 d, rfl, cls28 d, und28 d⟩
  | 29, _ => exact ⟨ex29 d, rfl, cls29 d, und29 d⟩
  | 30, _ => exact ⟨ex30 d, rfl, cls30 d, und30 d⟩
  | 31, _ => exact ⟨ex31 d, rfl, cls31 d, und31 d⟩
  | 32, _ => exact ⟨ex32 d, rfl, cls32 d, und32 d⟩
  | 33, _ => exact ⟨ex33 d, rfl, cls33 d, und33 d⟩
  | 34, _ => exact ⟨ex34 d, rfl, cls34 d, und34 d⟩
  | 35, _ => exact ⟨ex35 d, rfl, cls35 d, und35 d⟩
  | 36, _ => exact ⟨ex36 d, rfl, cls36 d, und36 d⟩
  | 37, _ => exact ⟨ex37 d, rfl, cls37 d, und37 d⟩
  | n + 38, h => omega
theorem neD_self1 (j : Nat) : neD (.lst [.int j]) (.lst [.int j]) = some (.bl false) := by
  unfold neD
  have e : eqO eqN (.lst [.int j]) (.lst [.int j]) = some ((j : Int) == (j : Int)) := by
    show andAll [some ((j : Int) == (j : Int))] = _
    cases (j : Int) == (j : Int) <;> rfl
  rw [e]
  simp
def bigI : Int := 10 ^ 29
def things : List D := [.non, .int 5, .bl true, .str [97], .lst [.int 1], .lst [.str [97], .lst [.int 2]], .dct [(.inr (mkS [97]), .int 1)], .tup [.int 1, .int 2], .str [], .int bigI]
theorem things_len : (things.length : Int) = 10 := rfl
theorem things_ok : ∀ d ∈ things, neD d d = some (.bl false) ∧ noEx d = true ∧ ∀ b : Bool, neD (.bl (isiB "bool" d)) (.bl (isiB "bool" d)) = some (.bl false) := by
  intro d h
  unfold things at h
  simp only [List.mem_cons, List.not_mem_nil, or_false] at h
  rcases h with rfl | rfl | rfl | rfl | rfl | rfl | rfl | rfl | rfl | rfl <;> exact ⟨by kernel_rfl, rfl, fun _ => rfl⟩
theorem ten_at {i : Int} (h0 : 0 ≤ i) (h1 : i < 10) : ∃ d, d ∈ things ∧ ixD (.lst [.non, .int 5, .bl true, .str [97], .lst [.int 1], .lst [.str [97], .lst [.int 2]], .dct [(.inr (mkS [97]), .int 1)], .tup [.int 1, .int 2], .str [], .int bigI]) (.int i) = some d := by
  have h := ix_l (ds := things) (k := fun d => d ∈ things) h0 (by rw [things_len]; exact h1) (fun d hd => hd)
  show ∃ d, d ∈ things ∧ ixD (.lst things) (.int i) = some d
  cases e : ixD (.lst things) (.int i) with
  | none => rw [e] at h; exact h.elim
  | some d => rw [e] at h; exact ⟨d, h, rfl⟩
theorem wp_made {d : D} {M : Mem} {Q : U → Mem → Prop} {X : XP} : Wp (f_law_made [.dat d] M) Q X = Q (.dat (.lst (madeL d))) M := by rw [made_run]; rfl
def toldL (d : D) : List D := List.replicate 33 d
theorem wp_fields {d : D} {M : Mem} {Q : U → Mem → Prop} {X : XP} : Wp (f_law_fields [.dat (.lst (madeL d))] M) Q X = Q (.dat (.lst (toldL d))) M := by rw [fields_run]; rfl
theorem wp_clsP {M : Mem} {Q : U → Mem → Prop} {X : XP} : Wp (f_law_classes [.dat (.exv "PartsError" [])] M) Q X = Q (.dat (.lst [])) M := by rw [cls_parts]; rfl
theorem ml {d : D} : lenD (.lst (madeL d)) = some (.int 38) := rfl
theorem lc1g {a b c e g : Option U} {o : U} {L ds : List D} {M : Mem} (hL : ∀ j : Nat, j < 38 → ∃ e, ixD (.lst L) (.int j) = some e ∧ (∀ M, f_law_classes [.dat e] M = .ok (.dat (.lst [.int j])) M) ∧ ∀ M, f_law_under [.dat e] M = .ok (.dat (.bl true)) M)
    (hd : ∀ k ∈ ds, ∃ j : Nat, k = .int j ∧ j < 38) : lcL (.name 6) (bOr (tOf (e2 (lift2 neD) (eFn 1 [] f_law_classes (aCons (e2 (lift2 ixD) (eVar 4) (eVar 6)) aNil)) (eLst false (aCons (eVar 6) aNil)))) (bNot (tOf (eFn 1 [] f_law_under (aCons (e2 (lift2 ixD) (eVar 4) (eVar 6)) aNil))))) (eVar 6) [a, b, c, some o, some (.dat (.lst L)), e, none, g] ds M = .ok [] M := by
  have w : Wp (lcL (.name 6) (bOr (tOf (e2 (lift2 neD) (eFn 1 [] f_law_classes (aCons (e2 (lift2 ixD) (eVar 4) (eVar 6)) aNil)) (eLst false (aCons (eVar 6) aNil)))) (bNot (tOf (eFn 1 [] f_law_under (aCons (e2 (lift2 ixD) (eVar 4) (eVar 6)) aNil))))) (eVar 6) [a, b, c, some o, some (.dat (.lst L)), e, none, g] ds M) (fun es M' => es = [] ∧ M' = M) x0 := by
    refine wp_lcP (fun _ => false) id _ (fun k hk => ?_) ⟨by simp, rfl⟩
    obtain ⟨j, rfl, hj⟩ := hd k hk
    obtain ⟨x, e1, e2, e3⟩ := hL j hj
    have c1 : ∀ {M Q X}, Wp (f_law_classes [.dat x] M) Q X = Q (.dat (.lst [.int j])) M := fun {M Q X} => by rw [e2]; rfl
    have c2 : ∀ {M Q X}, Wp (f_law_under [.dat x] M) Q X = Q (.dat (.bl true)) M := fun {M Q X} => by rw [e3]; rfl
    have c3 : neD (.lst [.int j]) (.lst [.int j]) = some (.bl false) := neD_self1 j
    simp (config := {dsimp := false}) only [↓ws_nil, ↓ws_cons, ↓ws_asg, ↓ws_setIx, ↓ws_ret, ↓ws_retN, ↓ws_if, ↓ws_drop, ↓ws_brk, ↓ws_cnt, ↓ws_for, ↓wp_tOf, ↓wp_not, ↓wp_and, ↓wp_or, ↓wp_vand, ↓wp_vor, ↓wp_eB, ↓wp_eIf, ↓wp_neg, ↓wp_chain, ↓wp_e2, ↓wp_var, ↓wp_c, ↓wp_addI, ↓wp_addS, ↓wp_addL, ↓wp_addT, ↓ws_raise1, ↓ws_raise0, ↓ws_par, ↓ws_par3, uPar3_ok, ↓wp_kin, ↓wp_kix, wo_ks, ↓wp_get1, ↓wp_get2, ↓wp_dget, ↓ws_setKey, uKeyD, keyD, ↓wp_fnK, ↓ws_try, ↓ws_hdN, ↓ws_hdC, ↓ws_suiteN, ↓ws_suiteS, ↓wp_fld, xE, gP_nil, gP_cons, Option.toList, ↓wp_lift2v, ↓wp_aNil, ↓wp_aCons, ↓wp_newF, ↓wp_newT, ↓wp_lst, ↓wp_tup, ↓wp_call, ↓wp_pf1, ↓wp_pf2, ↓wp_pfL, ↓wp_isi, ↓wp_fn, ↓wp_bm, ↓wp_sl, ↓wp_pNone, ↓wp_pSome, ↓wp_slS, ↓wp_slL, ↓wp_disp, ↓wp_newDF, ↓wp_newDT, rf_l, rf_d, ↓wp_prNil, ↓wp_prCons, ↓wp_dnew, ↓wp_iVal, ↓wp_rng1, ↓wp_rng2, ↓wp_lc, ↓wp_ok, ↓wp_exc, ↓wp_bad, ↓wp_join, itD, ↓wp_bYes, ↓rQ_dat, ↓rQ_cell, ↓wo_some, ↓wo_none, ↓wo_ite, ↓wo_map, view_dat, td_nil, td_cons, Option.map_some, bind_name, bind_tup, bind_lst, sa_c, sa_n, toKey, uB, uI, uD, uI1, uI2, ty_s, ty_l, List.map, List.length, List.replicate, Nat.reduceSub, Nat.reduceAdd, Nat.reduceLeDiff, Nat.zero_add, List.cons_append, List.nil_append, List.append_nil, List.getElem?_cons_zero, List.getElem?_cons_succ, Option.join_some, List.set_cons_zero, List.set_cons_succ, decide_eq_true_eq, Bool.not_eq_true', Bool.not_true, Bool.not_false, if_true, if_false, Bool.false_eq_true, eq_self, true_and, and_true, isND_n, notND_n, isi_int, isi_bool, isi_str, isi_tuple, isi_list, isi_dict, dInt, dBl, dStr, dTup, dLst, dDct, wipeE, List.set, subD, ltD, gtD, leD, geD, max2D, min2D, eqD_ii, neD_ii, eqD_ss, neD_ss, eqD_nil, neD_nil, e1, ↓c1, ↓c2, c3]
    simp
  obtain ⟨es, M', e, rfl, rfl⟩ := w.ok
  exact e
theorem ints38 : ∀ k ∈ intsUp 0 (Int.toNat 38), ∃ j : Nat, k = .int j ∧ j < 38 := by
  intro k hk
  unfold intsUp at hk
  obtain ⟨j, hj, rfl⟩ := List.mem_map.mp hk
  refine ⟨j, by simp, ?_⟩
  rw [List.mem_range] at hj
  exact hj
theorem lc1 {a b c e g : Option U} {d : D} {M : Mem} : lcL (.name 6) (bOr (tOf (e2 (lift2 neD) (eFn 1 [] f_law_classes (aCons (e2 (lift2 ixD) (eVar 4) (eVar 6)) aNil)) (eLst false (aCons (eVar 6) aNil)))) (bNot (tOf (eFn 1 [] f_law_under (aCons (e2 (lift2 ixD) (eVar 4) (eVar 6)) aNil))))) (eVar 6) [a, b, c, some (.dat d), some (.dat (.lst (madeL d))), e, none, g] (intsUp 0 (Int.toNat 38)) M = .ok [] M :=
  lc1g (fun j hj => one_at d j hj) ints38
theorem lc2 {a b c e f g : Option U} {d : D} {M : Mem} (n1 : neD d d = some (.bl false)) (n2 : noEx d = true) (n3 : neD (.bl (isiB "bool" d)) (.bl (isiB "bool" d)) = some (.bl false)) : lcL (.name 7) (bOr (tOf (e2 (lift2 neD) (eVar 7) (eVar 3))) (tOf (e2 (lift2 neD) (eIsi "bool" (eVar 7)) (eIsi "bool" (eVar 3))))) (eVar 7) [a, b, c, some (.dat d), e, f, g, none] (toldL d) M = .ok [] M := by
  unfold toldL
  rw [isi_bool] at n3
  have w : Wp (lcL (.name 7) (bOr (tOf (e2 (lift2 neD) (eVar 7) (eVar 3))) (tOf (e2 (lift2 neD) (eIsi "bool" (eVar 7)) (eIsi "bool" (eVar 3))))) (eVar 7) [a, b, c, some (.dat d), e, f, g, none] (List.replicate 33 d) M) (fun es M' => es = [] ∧ M' = M) x0 := by
    refine wp_lcP (fun _ => false) id _ (fun k hk => ?_) ⟨by simp, rfl⟩
    obtain rfl := List.eq_of_mem_replicate hk
    simp (config := {dsimp := false}) only [↓ws_nil, ↓ws_cons, ↓ws_asg, ↓ws_setIx, ↓ws_ret, ↓ws_retN, ↓ws_if, ↓ws_drop, ↓ws_brk, ↓ws_cnt, ↓ws_for, ↓wp_tOf, ↓wp_not, ↓wp_and, ↓wp_or, ↓wp_vand, ↓wp_vor, ↓wp_eB, ↓wp_eIf, ↓wp_neg, ↓wp_chain, ↓wp_e2, ↓wp_var, ↓wp_c, ↓wp_addI, ↓wp_addS, ↓wp_addL, ↓wp_addT, ↓ws_raise1, ↓ws_raise0, ↓ws_par, ↓ws_par3, uPar3_ok, ↓wp_kin, ↓wp_kix, wo_ks, ↓wp_get1, ↓wp_get2, ↓wp_dget, ↓ws_setKey, uKeyD, keyD, ↓wp_fnK, ↓ws_try, ↓ws_hdN, ↓ws_hdC, ↓ws_suiteN, ↓ws_suiteS, ↓wp_fld, xE, gP_nil, gP_cons, Option.toList, ↓wp_lift2v, ↓wp_aNil, ↓wp_aCons, ↓wp_newF, ↓wp_newT, ↓wp_lst, ↓wp_tup, ↓wp_call, ↓wp_pf1, ↓wp_pf2, ↓wp_pfL, ↓wp_isi, ↓wp_fn, ↓wp_bm, ↓wp_sl, ↓wp_pNone, ↓wp_pSome, ↓wp_slS, ↓wp_slL, ↓wp_disp, ↓wp_newDF, ↓wp_newDT, rf_l, rf_d, ↓wp_prNil, ↓wp_prCons, ↓wp_dnew, ↓wp_iVal, ↓wp_rng1, ↓wp_rng2, ↓wp_lc, ↓wp_ok, ↓wp_exc, ↓wp_bad, ↓wp_join, itD, ↓wp_bYes, ↓rQ_dat, ↓rQ_cell, ↓wo_some, ↓wo_none, ↓wo_ite, ↓wo_map, view_dat, td_nil, td_cons, Option.map_some, bind_name, bind_tup, bind_lst, sa_c, sa_n, toKey, uB, uI, uD, uI1, uI2, ty_s, ty_l, List.map, List.length, List.replicate, Nat.reduceSub, Nat.reduceAdd, Nat.reduceLeDiff, Nat.zero_add, List.cons_append, List.nil_append, List.append_nil, List.getElem?_cons_zero, List.getElem?_cons_succ, Option.join_some, List.set_cons_zero, List.set_cons_succ, decide_eq_true_eq, Bool.not_eq_true', Bool.not_true, Bool.not_false, if_true, if_false, Bool.false_eq_true, eq_self, true_and, and_true, isND_n, notND_n, isi_int, isi_bool, isi_str, isi_tuple, isi_list, isi_dict, dInt, dBl, dStr, dTup, dLst, dDct, wipeE, List.set, subD, ltD, gtD, leD, geD, max2D, min2D, eqD_ii, neD_ii, eqD_ss, neD_ss, eqD_nil, neD_nil, n1, n2]
    cases k <;> exact ⟨⟨rfl, rfl⟩, fun h => h.elim⟩
  obtain ⟨es, M', e, rfl, rfl⟩ := w.ok
  exact e
theorem wp_vx {ρ : En} {M : Mem} {Q : U → Mem → Prop} {X : XP} : Wp (eIsX "ValueError" exK (eExvB "PartsError" (eC (.str [97]))) ρ M) Q X = Q (.dat (.bl true)) M := by
  have e : eIsX "ValueError" exK (eExvB "PartsError" (eC (.str [97]))) ρ M = .ok (.dat (.bl true)) M := by kernel_rfl
  rw [e]; rfl
theorem wp_pe {ρ : En} {M : Mem} {Q : U → Mem → Prop} {X : XP} : Wp (eExvB "PartsError" (eC (.str [97])) ρ M) Q X = Q (.dat (.exv "PartsError" [])) M := rfl
theorem ne_nil : neD (.lst []) (.lst []) = some (.bl false) := rfl
theorem law_true : ∀ ns : List Int, ns.length ≤ 63 → ∃ M, f_law [.dat (.scr ns)] [] = .ok (.dat (.bl true)) M := by
  intro ns hns
  suffices h : Wp (f_law [.dat (.scr ns)] []) (fun u M => u = .dat (.bl true)) x0 by
    obtain ⟨u, M, e, rfl⟩ := h.ok
    exact ⟨M, e⟩
  unfold f_law b_law
  rw [wp_run]
  have l1 : lenD (.scr ns) = some (.int ns.length) := rfl
  simp (config := {dsimp := false}) only [↓ws_nil, ↓ws_cons, ↓ws_asg, ↓ws_setIx, ↓ws_ret, ↓ws_retN, ↓ws_if, ↓ws_drop, ↓ws_brk, ↓ws_cnt, ↓ws_for, ↓wp_tOf, ↓wp_not, ↓wp_and, ↓wp_or, ↓wp_vand, ↓wp_vor, ↓wp_eB, ↓wp_eIf, ↓wp_neg, ↓wp_chain, ↓wp_e2, ↓wp_var, ↓wp_c, ↓wp_addI, ↓wp_addS, ↓wp_addL, ↓wp_addT, ↓ws_raise1, ↓ws_raise0, ↓ws_par, ↓ws_par3, uPar3_ok, ↓wp_kin, ↓wp_kix, wo_ks, ↓wp_get1, ↓wp_get2, ↓wp_dget, ↓ws_setKey, uKeyD, keyD, ↓wp_fnK, ↓ws_try, ↓ws_hdN, ↓ws_hdC, ↓ws_suiteN, ↓ws_suiteS, ↓wp_fld, xE, gP_nil, gP_cons, Option.toList, ↓wp_lift2v, ↓wp_aNil, ↓wp_aCons, ↓wp_newF, ↓wp_newT, ↓wp_lst, ↓wp_tup, ↓wp_call, ↓wp_pf1, ↓wp_pf2, ↓wp_pfL, ↓wp_isi, ↓wp_fn, ↓wp_bm, ↓wp_sl, ↓wp_pNone, ↓wp_pSome, ↓wp_slS, ↓wp_slL, ↓wp_disp, ↓wp_newDF, ↓wp_newDT, rf_l, rf_d, ↓wp_prNil, ↓wp_prCons, ↓wp_dnew, ↓wp_iVal, ↓wp_rng1, ↓wp_rng2, ↓wp_lc, ↓wp_ok, ↓wp_exc, ↓wp_bad, ↓wp_join, itD, ↓wp_bYes, ↓rQ_dat, ↓rQ_cell, ↓wo_some, ↓wo_none, ↓wo_ite, ↓wo_map, view_dat, td_nil, td_cons, Option.map_some, bind_name, bind_tup, bind_lst, sa_c, sa_n, toKey, uB, uI, uD, uI1, uI2, ty_s, ty_l, List.map, List.length, List.replicate, Nat.reduceSub, Nat.reduceAdd, Nat.reduceLeDiff, Nat.zero_add, List.cons_append, List.nil_append, List.append_nil, List.getElem?_cons_zero, List.getElem?_cons_succ, Option.join_some, List.set_cons_zero, List.set_cons_succ, decide_eq_true_eq, Bool.not_eq_true', Bool.not_true, Bool.not_false, if_true, if_false, Bool.false_eq_true, eq_self, true_and, and_true, isND_n, notND_n, isi_int, isi_bool, isi_str, isi_tuple, isi_list, isi_dict, dInt, dBl, dStr, dTup, dLst, dDct, wipeE, List.set, subD, ltD, gtD, leD, geD, max2D, min2D, eqD_ii, neD_ii, eqD_ss, neD_ss, eqD_nil, neD_nil, l1]
  refine ⟨⟨by split <;> split <;> omega, by split <;> split <;> omega⟩, ?_⟩
  refine ws_forL (fun _ ρ M => ∃ a b c d e f g, ρ = [some (.dat (.scr ns)), a, b, c, d, e, f, g]) _ [] _ _ ⟨_, _, _, _, _, _, _, rfl⟩ (fun pre d post ρ M he ⟨a, b, c, d1, e, f, g, hr⟩ => ?_) fun ρ M ⟨a, b, c, d1, e, f, g, hr⟩ => ?_
  · subst hr
    have hd : ∃ j : Nat, d = .int j ∧ j < 64 := by
      have hm : d ∈ intsUp 0 (if (if (ns.length : Int) < 12 then (ns.length : Int) else 12) > 2 then (if (ns.length : Int) < 12 then (ns.length : Int) else 12) else 2).toNat := by
        rw [List.nil_append] at he
        rw [he]; simp
      unfold intsUp at hm
      obtain ⟨j, hj, rfl⟩ := List.mem_map.mp hm
      refine ⟨j, by simp, ?_⟩
      rw [List.mem_range] at hj
      revert hj
      split <;> split <;> omega
    obtain ⟨j, rfl, hj⟩ := hd
    simp (config := {dsimp := false}) only [↓ws_nil, ↓ws_cons, ↓ws_asg, ↓ws_setIx, ↓ws_ret, ↓ws_retN, ↓ws_if, ↓ws_drop, ↓ws_brk, ↓ws_cnt, ↓ws_for, ↓wp_tOf, ↓wp_not, ↓wp_and, ↓wp_or, ↓wp_vand, ↓wp_vor, ↓wp_eB, ↓wp_eIf, ↓wp_neg, ↓wp_chain, ↓wp_e2, ↓wp_var, ↓wp_c, ↓wp_addI, ↓wp_addS, ↓wp_addL, ↓wp_addT, ↓ws_raise1, ↓ws_raise0, ↓ws_par, ↓ws_par3, uPar3_ok, ↓wp_kin, ↓wp_kix, wo_ks, ↓wp_get1, ↓wp_get2, ↓wp_dget, ↓ws_setKey, uKeyD, keyD, ↓wp_fnK, ↓ws_try, ↓ws_hdN, ↓ws_hdC, ↓ws_suiteN, ↓ws_suiteS, ↓wp_fld, xE, gP_nil, gP_cons, Option.toList, ↓wp_lift2v, ↓wp_aNil, ↓wp_aCons, ↓wp_newF, ↓wp_newT, ↓wp_lst, ↓wp_tup, ↓wp_call, ↓wp_pf1, ↓wp_pf2, ↓wp_pfL, ↓wp_isi, ↓wp_fn, ↓wp_bm, ↓wp_sl, ↓wp_pNone, ↓wp_pSome, ↓wp_slS, ↓wp_slL, ↓wp_disp, ↓wp_newDF, ↓wp_newDT, rf_l, rf_d, ↓wp_prNil, ↓wp_prCons, ↓wp_dnew, ↓wp_iVal, ↓wp_rng1, ↓wp_rng2, ↓wp_lc, ↓wp_ok, ↓wp_exc, ↓wp_bad, ↓wp_join, itD, ↓wp_bYes, ↓rQ_dat, ↓rQ_cell, ↓wo_some, ↓wo_none, ↓wo_ite, ↓wo_map, view_dat, td_nil, td_cons, Option.map_some, bind_name, bind_tup, bind_lst, sa_c, sa_n, toKey, uB, uI, uD, uI1, uI2, ty_s, ty_l, List.map, List.length, List.replicate, Nat.reduceSub, Nat.reduceAdd, Nat.reduceLeDiff, Nat.zero_add, List.cons_append, List.nil_append, List.append_nil, List.getElem?_cons_zero, List.getElem?_cons_succ, Option.join_some, List.set_cons_zero, List.set_cons_succ, decide_eq_true_eq, Bool.not_eq_true', Bool.not_true, Bool.not_false, if_true, if_false, Bool.false_eq_true, eq_self, true_and, and_true, isND_n, notND_n, isi_int, isi_bool, isi_str, isi_tuple, isi_list, isi_dict, dInt, dBl, dStr, dTup, dLst, dDct, wipeE, List.set, subD, ltD, gtD, leD, geD, max2D, min2D, eqD_ii, neD_ii, eqD_ss, neD_ss, eqD_nil, neD_nil]
    refine wp_cell (by omega) (by omega) fun x => ?_
    simp (config := {dsimp := false}) only [↓ws_nil, ↓ws_cons, ↓ws_asg, ↓ws_setIx, ↓ws_ret, ↓ws_retN, ↓ws_if, ↓ws_drop, ↓ws_brk, ↓ws_cnt, ↓ws_for, ↓wp_tOf, ↓wp_not, ↓wp_and, ↓wp_or, ↓wp_vand, ↓wp_vor, ↓wp_eB, ↓wp_eIf, ↓wp_neg, ↓wp_chain, ↓wp_e2, ↓wp_var, ↓wp_c, ↓wp_addI, ↓wp_addS, ↓wp_addL, ↓wp_addT, ↓ws_raise1, ↓ws_raise0, ↓ws_par, ↓ws_par3, uPar3_ok, ↓wp_kin, ↓wp_kix, wo_ks, ↓wp_get1, ↓wp_get2, ↓wp_dget, ↓ws_setKey, uKeyD, keyD, ↓wp_fnK, ↓ws_try, ↓ws_hdN, ↓ws_hdC, ↓ws_suiteN, ↓ws_suiteS, ↓wp_fld, xE, gP_nil, gP_cons, Option.toList, ↓wp_lift2v, ↓wp_aNil, ↓wp_aCons, ↓wp_newF, ↓wp_newT, ↓wp_lst, ↓wp_tup, ↓wp_call, ↓wp_pf1, ↓wp_pf2, ↓wp_pfL, ↓wp_isi, ↓wp_fn, ↓wp_bm, ↓wp_sl, ↓wp_pNone, ↓wp_pSome, ↓wp_slS, ↓wp_slL, ↓wp_disp, ↓wp_newDF, ↓wp_newDT, rf_l, rf_d, ↓wp_prNil, ↓wp_prCons, ↓wp_dnew, ↓wp_iVal, ↓wp_rng1, ↓wp_rng2, ↓wp_lc, ↓wp_ok, ↓wp_exc, ↓wp_bad, ↓wp_join, itD, ↓wp_bYes, ↓rQ_dat, ↓rQ_cell, ↓wo_some, ↓wo_none, ↓wo_ite, ↓wo_map, view_dat, td_nil, td_cons, Option.map_some, bind_name, bind_tup, bind_lst, sa_c, sa_n, toKey, uB, uI, uD, uI1, uI2, ty_s, ty_l, List.map, List.length, List.replicate, Nat.reduceSub, Nat.reduceAdd, Nat.reduceLeDiff, Nat.zero_add, List.cons_append, List.nil_append, List.append_nil, List.getElem?_cons_zero, List.getElem?_cons_succ, Option.join_some, List.set_cons_zero, List.set_cons_succ, decide_eq_true_eq, Bool.not_eq_true', Bool.not_true, Bool.not_false, if_true, if_false, Bool.false_eq_true, eq_self, true_and, and_true, isND_n, notND_n, isi_int, isi_bool, isi_str, isi_tuple, isi_list, isi_dict, dInt, dBl, dStr, dTup, dLst, dDct, wipeE, List.set, subD, ltD, gtD, leD, geD, max2D, min2D, eqD_ii, neD_ii, eqD_ss, neD_ss, eqD_nil, neD_nil]
    refine wp_box fun M1 hb hl _ => ?_
    have pw : powD (.int 10) (.int 29) = some (.int bigI) := by kernel_rfl
    have md : mergeD [] [(Sum.inr (mkS [97]), D.int 1)] = [(Sum.inr (mkS [97]), D.int 1)] := rfl
    simp (config := {dsimp := false}) only [↓ws_nil, ↓ws_cons, ↓ws_asg, ↓ws_setIx, ↓ws_ret, ↓ws_retN, ↓ws_if, ↓ws_drop, ↓ws_brk, ↓ws_cnt, ↓ws_for, ↓wp_tOf, ↓wp_not, ↓wp_and, ↓wp_or, ↓wp_vand, ↓wp_vor, ↓wp_eB, ↓wp_eIf, ↓wp_neg, ↓wp_chain, ↓wp_e2, ↓wp_var, ↓wp_c, ↓wp_addI, ↓wp_addS, ↓wp_addL, ↓wp_addT, ↓ws_raise1, ↓ws_raise0, ↓ws_par, ↓ws_par3, uPar3_ok, ↓wp_kin, ↓wp_kix, wo_ks, ↓wp_get1, ↓wp_get2, ↓wp_dget, ↓ws_setKey, uKeyD, keyD, ↓wp_fnK, ↓ws_try, ↓ws_hdN, ↓ws_hdC, ↓ws_suiteN, ↓ws_suiteS, ↓wp_fld, xE, gP_nil, gP_cons, Option.toList, ↓wp_lift2v, ↓wp_aNil, ↓wp_aCons, ↓wp_newF, ↓wp_newT, ↓wp_lst, ↓wp_tup, ↓wp_call, ↓wp_pf1, ↓wp_pf2, ↓wp_pfL, ↓wp_isi, ↓wp_fn, ↓wp_bm, ↓wp_sl, ↓wp_pNone, ↓wp_pSome, ↓wp_slS, ↓wp_slL, ↓wp_disp, ↓wp_newDF, ↓wp_newDT, rf_l, rf_d, ↓wp_prNil, ↓wp_prCons, ↓wp_dnew, ↓wp_iVal, ↓wp_rng1, ↓wp_rng2, ↓wp_lc, ↓wp_ok, ↓wp_exc, ↓wp_bad, ↓wp_join, itD, ↓wp_bYes, ↓rQ_dat, ↓rQ_cell, ↓wo_some, ↓wo_none, ↓wo_ite, ↓wo_map, view_dat, td_nil, td_cons, Option.map_some, bind_name, bind_tup, bind_lst, sa_c, sa_n, toKey, uB, uI, uD, uI1, uI2, ty_s, ty_l, List.map, List.length, List.replicate, Nat.reduceSub, Nat.reduceAdd, Nat.reduceLeDiff, Nat.zero_add, List.cons_append, List.nil_append, List.append_nil, List.getElem?_cons_zero, List.getElem?_cons_succ, Option.join_some, List.set_cons_zero, List.set_cons_succ, decide_eq_true_eq, Bool.not_eq_true', Bool.not_true, Bool.not_false, if_true, if_false, Bool.false_eq_true, eq_self, true_and, and_true, isND_n, notND_n, isi_int, isi_bool, isi_str, isi_tuple, isi_list, isi_dict, dInt, dBl, dStr, dTup, dLst, dDct, wipeE, List.set, subD, ltD, gtD, leD, geD, max2D, min2D, eqD_ii, neD_ii, eqD_ss, neD_ss, eqD_nil, neD_nil, pw]
    refine wp_take hb (by decide) (by decide) (by decide) fun i M2 hi0 hi1 hb2 fr => ?_
    simp (config := {dsimp := false}) only [↓ws_nil, ↓ws_cons, ↓ws_asg, ↓ws_setIx, ↓ws_ret, ↓ws_retN, ↓ws_if, ↓ws_drop, ↓ws_brk, ↓ws_cnt, ↓ws_for, ↓wp_tOf, ↓wp_not, ↓wp_and, ↓wp_or, ↓wp_vand, ↓wp_vor, ↓wp_eB, ↓wp_eIf, ↓wp_neg, ↓wp_chain, ↓wp_e2, ↓wp_var, ↓wp_c, ↓wp_addI, ↓wp_addS, ↓wp_addL, ↓wp_addT, ↓ws_raise1, ↓ws_raise0, ↓ws_par, ↓ws_par3, uPar3_ok, ↓wp_kin, ↓wp_kix, wo_ks, ↓wp_get1, ↓wp_get2, ↓wp_dget, ↓ws_setKey, uKeyD, keyD, ↓wp_fnK, ↓ws_try, ↓ws_hdN, ↓ws_hdC, ↓ws_suiteN, ↓ws_suiteS, ↓wp_fld, xE, gP_nil, gP_cons, Option.toList, ↓wp_lift2v, ↓wp_aNil, ↓wp_aCons, ↓wp_newF, ↓wp_newT, ↓wp_lst, ↓wp_tup, ↓wp_call, ↓wp_pf1, ↓wp_pf2, ↓wp_pfL, ↓wp_isi, ↓wp_fn, ↓wp_bm, ↓wp_sl, ↓wp_pNone, ↓wp_pSome, ↓wp_slS, ↓wp_slL, ↓wp_disp, ↓wp_newDF, ↓wp_newDT, rf_l, rf_d, ↓wp_prNil, ↓wp_prCons, ↓wp_dnew, ↓wp_iVal, ↓wp_rng1, ↓wp_rng2, ↓wp_lc, ↓wp_ok, ↓wp_exc, ↓wp_bad, ↓wp_join, itD, ↓wp_bYes, ↓rQ_dat, ↓rQ_cell, ↓wo_some, ↓wo_none, ↓wo_ite, ↓wo_map, view_dat, td_nil, td_cons, Option.map_some, bind_name, bind_tup, bind_lst, sa_c, sa_n, toKey, uB, uI, uD, uI1, uI2, ty_s, ty_l, List.map, List.length, List.replicate, Nat.reduceSub, Nat.reduceAdd, Nat.reduceLeDiff, Nat.zero_add, List.cons_append, List.nil_append, List.append_nil, List.getElem?_cons_zero, List.getElem?_cons_succ, Option.join_some, List.set_cons_zero, List.set_cons_succ, decide_eq_true_eq, Bool.not_eq_true', Bool.not_true, Bool.not_false, if_true, if_false, Bool.false_eq_true, eq_self, true_and, and_true, isND_n, notND_n, isi_int, isi_bool, isi_str, isi_tuple, isi_list, isi_dict, dInt, dBl, dStr, dTup, dLst, dDct, wipeE, List.set, subD, ltD, gtD, leD, geD, max2D, min2D, eqD_ii, neD_ii, eqD_ss, neD_ss, eqD_nil, neD_nil]
    obtain ⟨d, hd, e⟩ := ten_at hi0 hi1
    rw [md, e]
    have n1 := (things_ok d hd).1
    have n2 := (things_ok d hd).2.1
    have n3 := (things_ok d hd).2.2 true
    clear hd
    simp (config := {dsimp := false}) only [↓ws_nil, ↓ws_cons, ↓ws_asg, ↓ws_setIx, ↓ws_ret, ↓ws_retN, ↓ws_if, ↓ws_drop, ↓ws_brk, ↓ws_cnt, ↓ws_for, ↓wp_tOf, ↓wp_not, ↓wp_and, ↓wp_or, ↓wp_vand, ↓wp_vor, ↓wp_eB, ↓wp_eIf, ↓wp_neg, ↓wp_chain, ↓wp_e2, ↓wp_var, ↓wp_c, ↓wp_addI, ↓wp_addS, ↓wp_addL, ↓wp_addT, ↓ws_raise1, ↓ws_raise0, ↓ws_par, ↓ws_par3, uPar3_ok, ↓wp_kin, ↓wp_kix, wo_ks, ↓wp_get1, ↓wp_get2, ↓wp_dget, ↓ws_setKey, uKeyD, keyD, ↓wp_fnK, ↓ws_try, ↓ws_hdN, ↓ws_hdC, ↓ws_suiteN, ↓ws_suiteS, ↓wp_fld, xE, gP_nil, gP_cons, Option.toList, ↓wp_lift2v, ↓wp_aNil, ↓wp_aCons, ↓wp_newF, ↓wp_newT, ↓wp_lst, ↓wp_tup, ↓wp_call, ↓wp_pf1, ↓wp_pf2, ↓wp_pfL, ↓wp_isi, ↓wp_fn, ↓wp_bm, ↓wp_sl, ↓wp_pNone, ↓wp_pSome, ↓wp_slS, ↓wp_slL, ↓wp_disp, ↓wp_newDF, ↓wp_newDT, rf_l, rf_d, ↓wp_prNil, ↓wp_prCons, ↓wp_dnew, ↓wp_iVal, ↓wp_rng1, ↓wp_rng2, ↓wp_lc, ↓wp_ok, ↓wp_exc, ↓wp_bad, ↓wp_join, itD, ↓wp_bYes, ↓rQ_dat, ↓rQ_cell, ↓wo_some, ↓wo_none, ↓wo_ite, ↓wo_map, view_dat, td_nil, td_cons, Option.map_some, bind_name, bind_tup, bind_lst, sa_c, sa_n, toKey, uB, uI, uD, uI1, uI2, ty_s, ty_l, List.map, List.length, List.replicate, Nat.reduceSub, Nat.reduceAdd, Nat.reduceLeDiff, Nat.zero_add, List.cons_append, List.nil_append, List.append_nil, List.getElem?_cons_zero, List.getElem?_cons_succ, Option.join_some, List.set_cons_zero, List.set_cons_succ, decide_eq_true_eq, Bool.not_eq_true', Bool.not_true, Bool.not_false, if_true, if_false, Bool.false_eq_true, eq_self, true_and, and_true, isND_n, notND_n, isi_int, isi_bool, isi_str, isi_tuple, isi_list, isi_dict, dInt, dBl, dStr, dTup, dLst, dDct, wipeE, List.set, subD, ltD, gtD, leD, geD, max2D, min2D, eqD_ii, neD_ii, eqD_ss, neD_ss, eqD_nil, neD_nil, ↓wp_made, ml]
    refine ⟨by decide, by decide, ?_⟩
    rw [lc1]
    simp (config := {dsimp := false}) only [↓ws_nil, ↓ws_cons, ↓ws_asg, ↓ws_setIx, ↓ws_ret, ↓ws_retN, ↓ws_if, ↓ws_drop, ↓ws_brk, ↓ws_cnt, ↓ws_for, ↓wp_tOf, ↓wp_not, ↓wp_and, ↓wp_or, ↓wp_vand, ↓wp_vor, ↓wp_eB, ↓wp_eIf, ↓wp_neg, ↓wp_chain, ↓wp_e2, ↓wp_var, ↓wp_c, ↓wp_addI, ↓wp_addS, ↓wp_addL, ↓wp_addT, ↓ws_raise1, ↓ws_raise0, ↓ws_par, ↓ws_par3, uPar3_ok, ↓wp_kin, ↓wp_kix, wo_ks, ↓wp_get1, ↓wp_get2, ↓wp_dget, ↓ws_setKey, uKeyD, keyD, ↓wp_fnK, ↓ws_try, ↓ws_hdN, ↓ws_hdC, ↓ws_suiteN, ↓ws_suiteS, ↓wp_fld, xE, gP_nil, gP_cons, Option.toList, ↓wp_lift2v, ↓wp_aNil, ↓wp_aCons, ↓wp_newF, ↓wp_newT, ↓wp_lst, ↓wp_tup, ↓wp_call, ↓wp_pf1, ↓wp_pf2, ↓wp_pfL, ↓wp_isi, ↓wp_fn, ↓wp_bm, ↓wp_sl, ↓wp_pNone, ↓wp_pSome, ↓wp_slS, ↓wp_slL, ↓wp_disp, ↓wp_newDF, ↓wp_newDT, rf_l, rf_d, ↓wp_prNil, ↓wp_prCons, ↓wp_dnew, ↓wp_iVal, ↓wp_rng1, ↓wp_rng2, ↓wp_lc, ↓wp_ok, ↓wp_exc, ↓wp_bad, ↓wp_join, itD, ↓wp_bYes, ↓rQ_dat, ↓rQ_cell, ↓wo_some, ↓wo_none, ↓wo_ite, ↓wo_map, view_dat, td_nil, td_cons, Option.map_some, bind_name, bind_tup, bind_lst, sa_c, sa_n, toKey, uB, uI, uD, uI1, uI2, ty_s, ty_l, List.map, List.length, List.replicate, Nat.reduceSub, Nat.reduceAdd, Nat.reduceLeDiff, Nat.zero_add, List.cons_append, List.nil_append, List.append_nil, List.getElem?_cons_zero, List.getElem?_cons_succ, Option.join_some, List.set_cons_zero, List.set_cons_succ, decide_eq_true_eq, Bool.not_eq_true', Bool.not_true, Bool.not_false, if_true, if_false, Bool.false_eq_true, eq_self, true_and, and_true, isND_n, notND_n, isi_int, isi_bool, isi_str, isi_tuple, isi_list, isi_dict, dInt, dBl, dStr, dTup, dLst, dDct, wipeE, List.set, subD, ltD, gtD, leD, geD, max2D, min2D, eqD_ii, neD_ii, eqD_ss, neD_ss, eqD_nil, neD_nil, ne_nil, ↓wp_fields, List.isEmpty_nil, Bool.true_eq_false]
    rw [lc2 n1 n2 n3]
    simp (config := {dsimp := false}) only [↓ws_nil, ↓ws_cons, ↓ws_asg, ↓ws_setIx, ↓ws_ret, ↓ws_retN, ↓ws_if, ↓ws_drop, ↓ws_brk, ↓ws_cnt, ↓ws_for, ↓wp_tOf, ↓wp_not, ↓wp_and, ↓wp_or, ↓wp_vand, ↓wp_vor, ↓wp_eB, ↓wp_eIf, ↓wp_neg, ↓wp_chain, ↓wp_e2, ↓wp_var, ↓wp_c, ↓wp_addI, ↓wp_addS, ↓wp_addL, ↓wp_addT, ↓ws_raise1, ↓ws_raise0, ↓ws_par, ↓ws_par3, uPar3_ok, ↓wp_kin, ↓wp_kix, wo_ks, ↓wp_get1, ↓wp_get2, ↓wp_dget, ↓ws_setKey, uKeyD, keyD, ↓wp_fnK, ↓ws_try, ↓ws_hdN, ↓ws_hdC, ↓ws_suiteN, ↓ws_suiteS, ↓wp_fld, xE, gP_nil, gP_cons, Option.toList, ↓wp_lift2v, ↓wp_aNil, ↓wp_aCons, ↓wp_newF, ↓wp_newT, ↓wp_lst, ↓wp_tup, ↓wp_call, ↓wp_pf1, ↓wp_pf2, ↓wp_pfL, ↓wp_isi, ↓wp_fn, ↓wp_bm, ↓wp_sl, ↓wp_pNone, ↓wp_pSome, ↓wp_slS, ↓wp_slL, ↓wp_disp, ↓wp_newDF, ↓wp_newDT, rf_l, rf_d, ↓wp_prNil, ↓wp_prCons, ↓wp_dnew, ↓wp_iVal, ↓wp_rng1, ↓wp_rng2, ↓wp_lc, ↓wp_ok, ↓wp_exc, ↓wp_bad, ↓wp_join, itD, ↓wp_bYes, ↓rQ_dat, ↓rQ_cell, ↓wo_some, ↓wo_none, ↓wo_ite, ↓wo_map, view_dat, td_nil, td_cons, Option.map_some, bind_name, bind_tup, bind_lst, sa_c, sa_n, toKey, uB, uI, uD, uI1, uI2, ty_s, ty_l, List.map, List.length, List.replicate, Nat.reduceSub, Nat.reduceAdd, Nat.reduceLeDiff, Nat.zero_add, List.cons_append, List.nil_append, List.append_nil, List.getElem?_cons_zero, List.getElem?_cons_succ, Option.join_some, List.set_cons_zero, List.set_cons_succ, decide_eq_true_eq, Bool.not_eq_true', Bool.not_true, Bool.not_false, if_true, if_false, Bool.false_eq_true, eq_self, true_and, and_true, isND_n, notND_n, isi_int, isi_bool, isi_str, isi_tuple, isi_list, isi_dict, dInt, dBl, dStr, dTup, dLst, dDct, wipeE, List.set, subD, ltD, gtD, leD, geD, max2D, min2D, eqD_ii, neD_ii, eqD_ss, neD_ss, eqD_nil, neD_nil, ne_nil, ↓wp_vx, ↓wp_pe, ↓wp_clsP, List.isEmpty_nil, Bool.true_eq_false]
    exact ⟨by unfold toldL; rw [List.length_replicate]; decide, _, _, _, _, _, _, _, rfl⟩
  · subst hr
    simp (config := {dsimp := false}) only [↓ws_nil, ↓ws_cons, ↓ws_asg, ↓ws_setIx, ↓ws_ret, ↓ws_retN, ↓ws_if, ↓ws_drop, ↓ws_brk, ↓ws_cnt, ↓ws_for, ↓wp_tOf, ↓wp_not, ↓wp_and, ↓wp_or, ↓wp_vand, ↓wp_vor, ↓wp_eB, ↓wp_eIf, ↓wp_neg, ↓wp_chain, ↓wp_e2, ↓wp_var, ↓wp_c, ↓wp_addI, ↓wp_addS, ↓wp_addL, ↓wp_addT, ↓ws_raise1, ↓ws_raise0, ↓ws_par, ↓ws_par3, uPar3_ok, ↓wp_kin, ↓wp_kix, wo_ks, ↓wp_get1, ↓wp_get2, ↓wp_dget, ↓ws_setKey, uKeyD, keyD, ↓wp_fnK, ↓ws_try, ↓ws_hdN, ↓ws_hdC, ↓ws_suiteN, ↓ws_suiteS, ↓wp_fld, xE, gP_nil, gP_cons, Option.toList, ↓wp_lift2v, ↓wp_aNil, ↓wp_aCons, ↓wp_newF, ↓wp_newT, ↓wp_lst, ↓wp_tup, ↓wp_call, ↓wp_pf1, ↓wp_pf2, ↓wp_pfL, ↓wp_isi, ↓wp_fn, ↓wp_bm, ↓wp_sl, ↓wp_pNone, ↓wp_pSome, ↓wp_slS, ↓wp_slL, ↓wp_disp, ↓wp_newDF, ↓wp_newDT, rf_l, rf_d, ↓wp_prNil, ↓wp_prCons, ↓wp_dnew, ↓wp_iVal, ↓wp_rng1, ↓wp_rng2, ↓wp_lc, ↓wp_ok, ↓wp_exc, ↓wp_bad, ↓wp_join, itD, ↓wp_bYes, ↓rQ_dat, ↓rQ_cell, ↓wo_some, ↓wo_none, ↓wo_ite, ↓wo_map, view_dat, td_nil, td_cons, Option.map_some, bind_name, bind_tup, bind_lst, sa_c, sa_n, toKey, uB, uI, uD, uI1, uI2, ty_s, ty_l, List.map, List.length, List.replicate, Nat.reduceSub, Nat.reduceAdd, Nat.reduceLeDiff, Nat.zero_add, List.cons_append, List.nil_append, List.append_nil, List.getElem?_cons_zero, List.getElem?_cons_succ, Option.join_some, List.set_cons_zero, List.set_cons_succ, decide_eq_true_eq, Bool.not_eq_true', Bool.not_true, Bool.not_false, if_true, if_false, Bool.false_eq_true, eq_self, true_and, and_true, isND_n, notND_n, isi_int, isi_bool, isi_str, isi_tuple, isi_list, isi_dict, dInt, dBl, dStr, dTup, dLst, dDct, wipeE, List.set, subD, ltD, gtD, leD, geD, max2D, min2D, eqD_ii, neD_ii, eqD_ss, neD_ss, eqD_nil, neD_nil]
end K04
set_option synthInstance.maxHeartbeats 0
set_option synthInstance.maxSize 100000
set_option Elab.async false
set_option linter.all false
set_option maxRecDepth 100000
set_option maxHeartbeats 4000000
namespace K04
open PySem PySem.Spec PyProof.Rows L2 SD
theorem txt_of {w : World} {K : PySem.W.Frag} {h : Heap} {mg : Str → Option Value} (X : K.In h) (G : h.Ns mainGlobals mg) (c : HSays hdD w K) : Txt hdR.prog w K mg := by
  have y := c.b 0 (f := hdB0) rfl
  obtain ⟨anyK, y⟩ := He.ba y
  obtain ⟨a0, y⟩ := He.ba y
  obtain ⟨zl0, y⟩ := He.ba y
  obtain ⟨k0, y⟩ := He.ba y
  obtain ⟨a1, y⟩ := He.ba y
  obtain ⟨zl1, y⟩ := He.ba y
  obtain ⟨k1, y⟩ := He.ba y
  obtain ⟨a2, y⟩ := He.ba y
  obtain ⟨zl2, y⟩ := He.ba y
  obtain ⟨k2, y⟩ := He.ba y
  obtain ⟨a3, y⟩ := He.ba y
  obtain ⟨zl3, y⟩ := He.ba y
  obtain ⟨k3, y⟩ := He.ba y
  have a4 := y
  have y := c.b 1 (f := hdB1) rfl
  obtain ⟨zl4, y⟩ := He.ba y
  obtain ⟨k4, y⟩ := He.ba y
  obtain ⟨a5, y⟩ := He.ba y
  obtain ⟨zl5, y⟩ := He.ba y
  obtain ⟨k5, y⟩ := He.ba y
  obtain ⟨a6, y⟩ := He.ba y
  obtain ⟨zl6, y⟩ := He.ba y
  obtain ⟨k6, y⟩ := He.ba y
  obtain ⟨a7, y⟩ := He.ba y
  obtain ⟨zl7, y⟩ := He.ba y
  obtain ⟨k7, y⟩ := He.ba y
  obtain ⟨nC_Duplicate, y⟩ := He.ba y
  obtain ⟨zlk_Duplicate, y⟩ := He.ba y
  have sa_Duplicate := y
  have y := c.b 2 (f := hdB2) rfl
  obtain ⟨ga_Duplicate, y⟩ := He.ba y
  obtain ⟨gg_Duplicate, y⟩ := He.ba y
  obtain ⟨iC_Duplicate, y⟩ := He.ba y
  obtain ⟨tC_Duplicate, y⟩ := He.ba y
  obtain ⟨kC_Duplicate, y⟩ := He.ba y
  obtain ⟨eC_Duplicate, y⟩ := He.ba y
  obtain ⟨tyC_Duplicate, y⟩ := He.ba y
  obtain ⟨hdC_Duplicate, y⟩ := He.ba y
  obtain ⟨vE_Duplicate, y⟩ := He.ba y
  obtain ⟨ei_Duplicate, y⟩ := He.ba y
  obtain ⟨su_Duplicate, y⟩ := He.ba y
  obtain ⟨mr_Duplicate, y⟩ := He.ba y
  obtain ⟨zfl_Duplicate, y⟩ := He.ba y
  have no_Duplicate := y
  have y := c.b 3 (f := hdB3) rfl
  obtain ⟨nC_Ended, y⟩ := He.ba y
  obtain ⟨zlk_Ended, y⟩ := He.ba y
  obtain ⟨sa_Ended, y⟩ := He.ba y
  obtain ⟨ga_Ended, y⟩ := He.ba y
  obtain ⟨gg_Ended, y⟩ := He.ba y
  obtain ⟨iC_Ended, y⟩ := He.ba y
  obtain ⟨tC_Ended, y⟩ := He.ba y
  obtain ⟨kC_Ended, y⟩ := He.ba y
  obtain ⟨eC_Ended, y⟩ := He.ba y
  obtain ⟨tyC_Ended, y⟩ := He.ba y
  obtain ⟨hdC_Ended, y⟩ := He.ba y
  obtain ⟨vE_Ended, y⟩ := He.ba y
  obtain ⟨ei_Ended, y⟩ := He.ba y
  have su_Ended := y
  have y := c.b 4 (f := hdB4) rfl
  obtain ⟨mr_Ended, y⟩ := He.ba y
  obtain ⟨zfl_Ended, y⟩ := He.ba y
  obtain ⟨no_Ended, y⟩ := He.ba y
  obtain ⟨nC_InvalidCatalog, y⟩ := He.ba y
  obtain ⟨zlk_InvalidCatalog, y⟩ := He.ba y
  obtain ⟨sa_InvalidCatalog, y⟩ := He.ba y
  obtain ⟨ga_InvalidCatalog, y⟩ := He.ba y
  obtain ⟨gg_InvalidCatalog, y⟩ := He.ba y
  obtain ⟨iC_InvalidCatalog, y⟩ := He.ba y
  obtain ⟨tC_InvalidCatalog, y⟩ := He.ba y
  obtain ⟨kC_InvalidCatalog, y⟩ := He.ba y
  obtain ⟨eC_InvalidCatalog, y⟩ := He.ba y
  obtain ⟨tyC_InvalidCatalog, y⟩ := He.ba y
  have hdC_InvalidCatalog := y
  have y := c.b 5 (f := hdB5) rfl
  obtain ⟨vE_InvalidCatalog, y⟩ := He.ba y
  obtain ⟨ei_InvalidCatalog, y⟩ := He.ba y
  obtain ⟨su_InvalidCatalog, y⟩ := He.ba y
  obtain ⟨mr_InvalidCatalog, y⟩ := He.ba y
  obtain ⟨zfl_InvalidCatalog, y⟩ := He.ba y
  obtain ⟨no_InvalidCatalog, y⟩ := He.ba y
  obtain ⟨nC_InvalidChange, y⟩ := He.ba y
  obtain ⟨zlk_InvalidChange, y⟩ := He.ba y
  obtain ⟨sa_InvalidChange, y⟩ := He.ba y
  obtain ⟨ga_InvalidChange, y⟩ := He.ba y
  obtain ⟨gg_InvalidChange, y⟩ := He.ba y
  obtain ⟨iC_InvalidChange, y⟩ := He.ba y
  obtain ⟨tC_InvalidChange, y⟩ := He.ba y
  have kC_InvalidChange := y
  have y := c.b 6 (f := hdB6) rfl
  obtain ⟨eC_InvalidChange, y⟩ := He.ba y
  obtain ⟨tyC_InvalidChange, y⟩ := He.ba y
  obtain ⟨hdC_InvalidChange, y⟩ := He.ba y
  obtain ⟨vE_InvalidChange, y⟩ := He.ba y
  obtain ⟨ei_InvalidChange, y⟩ := He.ba y
  obtain ⟨su_InvalidChange, y⟩ := He.ba y
  obtain ⟨mr_InvalidChange, y⟩ := He.ba y
  obtain ⟨zfl_InvalidChange, y⟩ := He.ba y
  obtain ⟨no_InvalidChange, y⟩ := He.ba y
  obtain ⟨nC_InvalidClash, y⟩ := He.ba y
  obtain ⟨zlk_InvalidClash, y⟩ := He.ba y
  obtain ⟨sa_InvalidClash, y⟩ := He.ba y
  obtain ⟨ga_InvalidClash, y⟩ := He.ba y
  have gg_InvalidClash := y
  have y := c.b 7 (f := hdB7) rfl
  obtain ⟨iC_InvalidClash, y⟩ := He.ba y
  obtain ⟨tC_InvalidClash, y⟩ := He.ba y
  obtain ⟨kC_InvalidClash, y⟩ := He.ba y
  obtain ⟨eC_InvalidClash, y⟩ := He.ba y
  obtain ⟨tyC_InvalidClash, y⟩ := He.ba y
  obtain ⟨hdC_InvalidClash, y⟩ := He.ba y
  obtain ⟨vE_InvalidClash, y⟩ := He.ba y
  obtain ⟨ei_InvalidClash, y⟩ := He.ba y
  obtain ⟨su_InvalidClash, y⟩ := He.ba y
  obtain ⟨mr_InvalidClash, y⟩ := He.ba y
  obtain ⟨zfl_InvalidClash, y⟩ := He.ba y
  obtain ⟨no_InvalidClash, y⟩ := He.ba y
  obtain ⟨nC_InvalidCommand, y⟩ := He.ba y
  have zlk_InvalidCommand := y
  have y := c.b 8 (f := hdB8) rfl
  obtain ⟨sa_InvalidCommand, y⟩ := He.ba y
  obtain ⟨ga_InvalidCommand, y⟩ := He.ba y
  obtain ⟨gg_InvalidCommand, y⟩ := He.ba y
  obtain ⟨iC_InvalidCommand, y⟩ := He.ba y
  obtain ⟨tC_InvalidCommand, y⟩ := He.ba y
  obtain ⟨kC_InvalidCommand, y⟩ := He.ba y
  obtain ⟨eC_InvalidCommand, y⟩ := He.ba y
  obtain ⟨tyC_InvalidCommand, y⟩ := He.ba y
  obtain ⟨hdC_InvalidCommand, y⟩ := He.ba y
  obtain ⟨vE_InvalidCommand, y⟩ := He.ba y
  obtain ⟨ei_InvalidCommand, y⟩ := He.ba y
  obtain ⟨su_InvalidCommand, y⟩ := He.ba y
  obtain ⟨mr_InvalidCommand, y⟩ := He.ba y
  have zfl_InvalidCommand := y
  have y := c.b 9 (f := hdB9) rfl
  obtain ⟨no_InvalidCommand, y⟩ := He.ba y
  obtain ⟨nC_InvalidKey, y⟩ := He.ba y
  obtain ⟨zlk_InvalidKey, y⟩ := He.ba y
  obtain ⟨sa_InvalidKey, y⟩ := He.ba y
  obtain ⟨ga_InvalidKey, y⟩ := He.ba y
  obtain ⟨gg_InvalidKey, y⟩ := He.ba y
  obtain ⟨iC_InvalidKey, y⟩ := He.ba y
  obtain ⟨tC_InvalidKey, y⟩ := He.ba y
  obtain ⟨kC_InvalidKey, y⟩ := He.ba y
  obtain ⟨eC_InvalidKey, y⟩ := He.ba y
  obtain ⟨tyC_InvalidKey, y⟩ := He.ba y
  obtain ⟨hdC_InvalidKey, y⟩ := He.ba y
  obtain ⟨vE_InvalidKey, y⟩ := He.ba y
  have ei_InvalidKey := y
  have y := c.b 10 (f := hdB10) rfl
  obtain ⟨su_InvalidKey, y⟩ := He.ba y
  obtain ⟨mr_InvalidKey, y⟩ := He.ba y
  obtain ⟨zfl_InvalidKey, y⟩ := He.ba y
  obtain ⟨no_InvalidKey, y⟩ := He.ba y
  obtain ⟨nC_InvalidLog, y⟩ := He.ba y
  obtain ⟨zlk_InvalidLog, y⟩ := He.ba y
  obtain ⟨sa_InvalidLog, y⟩ := He.ba y
  obtain ⟨ga_InvalidLog, y⟩ := He.ba y
  obtain ⟨gg_InvalidLog, y⟩ := He.ba y
  obtain ⟨iC_InvalidLog, y⟩ := He.ba y
  obtain ⟨tC_InvalidLog, y⟩ := He.ba y
  obtain ⟨kC_InvalidLog, y⟩ := He.ba y
  obtain ⟨eC_InvalidLog, y⟩ := He.ba y
  have tyC_InvalidLog := y
  have y := c.b 11 (f := hdB11) rfl
  obtain ⟨hdC_InvalidLog, y⟩ := He.ba y
  obtain ⟨vE_InvalidLog, y⟩ := He.ba y
  obtain ⟨ei_InvalidLog, y⟩ := He.ba y
  obtain ⟨su_InvalidLog, y⟩ := He.ba y
  obtain ⟨mr_InvalidLog, y⟩ := He.ba y
  obtain ⟨zfl_InvalidLog, y⟩ := He.ba y
  obtain ⟨no_InvalidLog, y⟩ := He.ba y
  obtain ⟨nC_InvalidModes, y⟩ := He.ba y
  obtain ⟨zlk_InvalidModes, y⟩ := He.ba y
  obtain ⟨sa_InvalidModes, y⟩ := He.ba y
  obtain ⟨ga_InvalidModes, y⟩ := He.ba y
  obtain ⟨gg_InvalidModes, y⟩ := He.ba y
  obtain ⟨iC_InvalidModes, y⟩ := He.ba y
  have tC_InvalidModes := y
  have y := c.b 12 (f := hdB12) rfl
  obtain ⟨kC_InvalidModes, y⟩ := He.ba y
  obtain ⟨eC_InvalidModes, y⟩ := He.ba y
  obtain ⟨tyC_InvalidModes, y⟩ := He.ba y
  obtain ⟨hdC_InvalidModes, y⟩ := He.ba y
  obtain ⟨vE_InvalidModes, y⟩ := He.ba y
  obtain ⟨ei_InvalidModes, y⟩ := He.ba y
  obtain ⟨su_InvalidModes, y⟩ := He.ba y
  obtain ⟨mr_InvalidModes, y⟩ := He.ba y
  obtain ⟨zfl_InvalidModes, y⟩ := He.ba y
  obtain ⟨no_InvalidModes, y⟩ := He.ba y
  obtain ⟨nC_InvalidName, y⟩ := He.ba y
  obtain ⟨zlk_InvalidName, y⟩ := He.ba y
  obtain ⟨sa_InvalidName, y⟩ := He.ba y
  have ga_InvalidName := y
  have y := c.b 13 (f := hdB13) rfl
  obtain ⟨gg_InvalidName, y⟩ := He.ba y
  obtain ⟨iC_InvalidName, y⟩ := He.ba y
  obtain ⟨tC_InvalidName, y⟩ := He.ba y
  obtain ⟨kC_InvalidName, y⟩ := He.ba y
  obtain ⟨eC_InvalidName, y⟩ := He.ba y
  obtain ⟨tyC_InvalidName, y⟩ := He.ba y
  obtain ⟨hdC_InvalidName, y⟩ := He.ba y
  obtain ⟨vE_InvalidName, y⟩ := He.ba y
  obtain ⟨ei_InvalidName, y⟩ := He.ba y
  obtain ⟨su_InvalidName, y⟩ := He.ba y
  obtain ⟨mr_InvalidName, y⟩ := He.ba y
  obtain ⟨zfl_InvalidName, y⟩ := He.ba y
  obtain ⟨no_InvalidName, y⟩ := He.ba y
  have nC_InvalidNumber := y
  have y := c.b 14 (f := hdB14) rfl
  obtain ⟨zlk_InvalidNumber, y⟩ := He.ba y
  obtain ⟨sa_InvalidNumber, y⟩ := He.ba y
  obtain ⟨ga_InvalidNumber, y⟩ := He.ba y
  obtain ⟨gg_InvalidNumber, y⟩ := He.ba y
  obtain ⟨iC_InvalidNumber, y⟩ := He.ba y
  obtain ⟨tC_InvalidNumber, y⟩ := He.ba y
  obtain ⟨kC_InvalidNumber, y⟩ := He.ba y
  obtain ⟨eC_InvalidNumber, y⟩ := He.ba y
  obtain ⟨tyC_InvalidNumber, y⟩ := He.ba y
  obtain ⟨hdC_InvalidNumber, y⟩ := He.ba y
  obtain ⟨vE_InvalidNumber, y⟩ := He.ba y
  obtain ⟨ei_InvalidNumber, y⟩ := He.ba y
  obtain ⟨su_InvalidNumber, y⟩ := He.ba y
  have mr_InvalidNumber := y
  have y := c.b 15 (f := hdB15) rfl
  obtain ⟨zfl_InvalidNumber, y⟩ := He.ba y
  obtain ⟨no_InvalidNumber, y⟩ := He.ba y
  obtain ⟨nC_InvalidProgram, y⟩ := He.ba y
  obtain ⟨zlk_InvalidProgram, y⟩ := He.ba y
  obtain ⟨sa_InvalidProgram, y⟩ := He.ba y
  obtain ⟨ga_InvalidProgram, y⟩ := He.ba y
  obtain ⟨gg_InvalidProgram, y⟩ := He.ba y
  obtain ⟨iC_InvalidProgram, y⟩ := He.ba y
  obtain ⟨tC_InvalidProgram, y⟩ := He.ba y
  obtain ⟨kC_InvalidProgram, y⟩ := He.ba y
  obtain ⟨eC_InvalidProgram, y⟩ := He.ba y
  obtain ⟨tyC_InvalidProgram, y⟩ := He.ba y
  obtain ⟨hdC_InvalidProgram, y⟩ := He.ba y
  have vE_InvalidProgram := y
  have y := c.b 16 (f := hdB16) rfl
  obtain ⟨ei_InvalidProgram, y⟩ := He.ba y
  obtain ⟨su_InvalidProgram, y⟩ := He.ba y
  obtain ⟨mr_InvalidProgram, y⟩ := He.ba y
  obtain ⟨zfl_InvalidProgram, y⟩ := He.ba y
  obtain ⟨no_InvalidProgram, y⟩ := He.ba y
  obtain ⟨nC_InvalidPrograms, y⟩ := He.ba y
  obtain ⟨zlk_InvalidPrograms, y⟩ := He.ba y
  obtain ⟨sa_InvalidPrograms, y⟩ := He.ba y
  obtain ⟨ga_InvalidPrograms, y⟩ := He.ba y
  obtain ⟨gg_InvalidPrograms, y⟩ := He.ba y
  obtain ⟨iC_InvalidPrograms, y⟩ := He.ba y
  obtain ⟨tC_InvalidPrograms, y⟩ := He.ba y
  obtain ⟨kC_InvalidPrograms, y⟩ := He.ba y
  have eC_InvalidPrograms := y
  have y := c.b 17 (f := hdB17) rfl
  obtain ⟨tyC_InvalidPrograms, y⟩ := He.ba y
  obtain ⟨hdC_InvalidPrograms, y⟩ := He.ba y
  obtain ⟨vE_InvalidPrograms, y⟩ := He.ba y
  obtain ⟨ei_InvalidPrograms, y⟩ := He.ba y
  obtain ⟨su_InvalidPrograms, y⟩ := He.ba y
  obtain ⟨mr_InvalidPrograms, y⟩ := He.ba y
  obtain ⟨zfl_InvalidPrograms, y⟩ := He.ba y
  obtain ⟨no_InvalidPrograms, y⟩ := He.ba y
  obtain ⟨nC_InvalidProtocol, y⟩ := He.ba y
  obtain ⟨zlk_InvalidProtocol, y⟩ := He.ba y
  obtain ⟨sa_InvalidProtocol, y⟩ := He.ba y
  obtain ⟨ga_InvalidProtocol, y⟩ := He.ba y
  obtain ⟨gg_InvalidProtocol, y⟩ := He.ba y
  have iC_InvalidProtocol := y
  have y := c.b 18 (f := hdB18) rfl
  obtain ⟨tC_InvalidProtocol, y⟩ := He.ba y
  obtain ⟨kC_InvalidProtocol, y⟩ := He.ba y
  obtain ⟨eC_InvalidProtocol, y⟩ := He.ba y
  obtain ⟨tyC_InvalidProtocol, y⟩ := He.ba y
  obtain ⟨hdC_InvalidProtocol, y⟩ := He.ba y
  obtain ⟨vE_InvalidProtocol, y⟩ := He.ba y
  obtain ⟨ei_InvalidProtocol, y⟩ := He.ba y
  obtain ⟨su_InvalidProtocol, y⟩ := He.ba y
  obtain ⟨mr_InvalidProtocol, y⟩ := He.ba y
  obtain ⟨zfl_InvalidProtocol, y⟩ := He.ba y
  obtain ⟨no_InvalidProtocol, y⟩ := He.ba y
  obtain ⟨nC_InvalidRows, y⟩ := He.ba y
  obtain ⟨zlk_InvalidRows, y⟩ := He.ba y
  have sa_InvalidRows := y
  have y := c.b 19 (f := hdB19) rfl
  obtain ⟨ga_InvalidRows, y⟩ := He.ba y
  obtain ⟨gg_InvalidRows, y⟩ := He.ba y
  obtain ⟨iC_InvalidRows, y⟩ := He.ba y
  obtain ⟨tC_InvalidRows, y⟩ := He.ba y
  obtain ⟨kC_InvalidRows, y⟩ := He.ba y
  obtain ⟨eC_InvalidRows, y⟩ := He.ba y
  obtain ⟨tyC_InvalidRows, y⟩ := He.ba y
  obtain ⟨hdC_InvalidRows, y⟩ := He.ba y
  obtain ⟨vE_InvalidRows, y⟩ := He.ba y
  obtain ⟨ei_InvalidRows, y⟩ := He.ba y
  obtain ⟨su_InvalidRows, y⟩ := He.ba y
  obtain ⟨mr_InvalidRows, y⟩ := He.ba y
  obtain ⟨zfl_InvalidRows, y⟩ := He.ba y
  have no_InvalidRows := y
  have y := c.b 20 (f := hdB20) rfl
  obtain ⟨nC_InvalidScene, y⟩ := He.ba y
  obtain ⟨zlk_InvalidScene, y⟩ := He.ba y
  obtain ⟨sa_InvalidScene, y⟩ := He.ba y
  obtain ⟨ga_InvalidScene, y⟩ := He.ba y
  obtain ⟨gg_InvalidScene, y⟩ := He.ba y
  obtain ⟨iC_InvalidScene, y⟩ := He.ba y
  obtain ⟨tC_InvalidScene, y⟩ := He.ba y
  obtain ⟨kC_InvalidScene, y⟩ := He.ba y
  obtain ⟨eC_InvalidScene, y⟩ := He.ba y
  obtain ⟨tyC_InvalidScene, y⟩ := He.ba y
  obtain ⟨hdC_InvalidScene, y⟩ := He.ba y
  obtain ⟨vE_InvalidScene, y⟩ := He.ba y
  obtain ⟨ei_InvalidScene, y⟩ := He.ba y
  have su_InvalidScene := y
  have y := c.b 21 (f := hdB21) rfl
  obtain ⟨mr_InvalidScene, y⟩ := He.ba y
  obtain ⟨zfl_InvalidScene, y⟩ := He.ba y
  obtain ⟨no_InvalidScene, y⟩ := He.ba y
  obtain ⟨nC_InvalidSession, y⟩ := He.ba y
  obtain ⟨zlk_InvalidSession, y⟩ := He.ba y
  obtain ⟨sa_InvalidSession, y⟩ := He.ba y
  obtain ⟨ga_InvalidSession, y⟩ := He.ba y
  obtain ⟨gg_InvalidSession, y⟩ := He.ba y
  obtain ⟨iC_InvalidSession, y⟩ := He.ba y
  obtain ⟨tC_InvalidSession, y⟩ := He.ba y
  obtain ⟨kC_InvalidSession, y⟩ := He.ba y
  obtain ⟨eC_InvalidSession, y⟩ := He.ba y
  obtain ⟨tyC_InvalidSession, y⟩ := He.ba y
  have hdC_InvalidSession := y
  have y := c.b 22 (f := hdB22) rfl
  obtain ⟨vE_InvalidSession, y⟩ := He.ba y
  obtain ⟨ei_InvalidSession, y⟩ := He.ba y
  obtain ⟨su_InvalidSession, y⟩ := He.ba y
  obtain ⟨mr_InvalidSession, y⟩ := He.ba y
  obtain ⟨zfl_InvalidSession, y⟩ := He.ba y
  obtain ⟨no_InvalidSession, y⟩ := He.ba y
  obtain ⟨nC_InvalidSpan, y⟩ := He.ba y
  obtain ⟨zlk_InvalidSpan, y⟩ := He.ba y
  obtain ⟨sa_InvalidSpan, y⟩ := He.ba y
  obtain ⟨ga_InvalidSpan, y⟩ := He.ba y
  obtain ⟨gg_InvalidSpan, y⟩ := He.ba y
  obtain ⟨iC_InvalidSpan, y⟩ := He.ba y
  obtain ⟨tC_InvalidSpan, y⟩ := He.ba y
  have kC_InvalidSpan := y
  have y := c.b 23 (f := hdB23) rfl
  obtain ⟨eC_InvalidSpan, y⟩ := He.ba y
  obtain ⟨tyC_InvalidSpan, y⟩ := He.ba y
  obtain ⟨hdC_InvalidSpan, y⟩ := He.ba y
  obtain ⟨vE_InvalidSpan, y⟩ := He.ba y
  obtain ⟨ei_InvalidSpan, y⟩ := He.ba y
  obtain ⟨su_InvalidSpan, y⟩ := He.ba y
  obtain ⟨mr_InvalidSpan, y⟩ := He.ba y
  obtain ⟨zfl_InvalidSpan, y⟩ := He.ba y
  obtain ⟨no_InvalidSpan, y⟩ := He.ba y
  obtain ⟨nC_InvalidSpans, y⟩ := He.ba y
  obtain ⟨zlk_InvalidSpans, y⟩ := He.ba y
  obtain ⟨sa_InvalidSpans, y⟩ := He.ba y
  obtain ⟨ga_InvalidSpans, y⟩ := He.ba y
  have gg_InvalidSpans := y
  have y := c.b 24 (f := hdB24) rfl
  obtain ⟨iC_InvalidSpans, y⟩ := He.ba y
  obtain ⟨tC_InvalidSpans, y⟩ := He.ba y
  obtain ⟨kC_InvalidSpans, y⟩ := He.ba y
  obtain ⟨eC_InvalidSpans, y⟩ := He.ba y
  obtain ⟨tyC_InvalidSpans, y⟩ := He.ba y
  obtain ⟨hdC_InvalidSpans, y⟩ := He.ba y
  obtain ⟨vE_InvalidSpans, y⟩ := He.ba y
  obtain ⟨ei_InvalidSpans, y⟩ := He.ba y
  obtain ⟨su_InvalidSpans, y⟩ := He.ba y
  obtain ⟨mr_InvalidSpans, y⟩ := He.ba y
  obtain ⟨zfl_InvalidSpans, y⟩ := He.ba y
  obtain ⟨no_InvalidSpans, y⟩ := He.ba y
  obtain ⟨nC_InvalidStore, y⟩ := He.ba y
  have zlk_InvalidStore := y
  have y := c.b 25 (f := hdB25) rfl
  obtain ⟨sa_InvalidStore, y⟩ := He.ba y
  obtain ⟨ga_InvalidStore, y⟩ := He.ba y
  obtain ⟨gg_InvalidStore, y⟩ := He.ba y
  obtain ⟨iC_InvalidStore, y⟩ := He.ba y
  obtain ⟨tC_InvalidStore, y⟩ := He.ba y
  obtain ⟨kC_InvalidStore, y⟩ := He.ba y
  obtain ⟨eC_InvalidStore, y⟩ := He.ba y
  obtain ⟨tyC_InvalidStore, y⟩ := He.ba y
  obtain ⟨hdC_InvalidStore, y⟩ := He.ba y
  obtain ⟨vE_InvalidStore, y⟩ := He.ba y
  obtain ⟨ei_InvalidStore, y⟩ := He.ba y
  obtain ⟨su_InvalidStore, y⟩ := He.ba y
  obtain ⟨mr_InvalidStore, y⟩ := He.ba y
  have zfl_InvalidStore := y
  have y := c.b 26 (f := hdB26) rfl
  obtain ⟨no_InvalidStore, y⟩ := He.ba y
  obtain ⟨nC_InvalidStrengths, y⟩ := He.ba y
  obtain ⟨zlk_InvalidStrengths, y⟩ := He.ba y
  obtain ⟨sa_InvalidStrengths, y⟩ := He.ba y
  obtain ⟨ga_InvalidStrengths, y⟩ := He.ba y
  obtain ⟨gg_InvalidStrengths, y⟩ := He.ba y
  obtain ⟨iC_InvalidStrengths, y⟩ := He.ba y
  obtain ⟨tC_InvalidStrengths, y⟩ := He.ba y
  obtain ⟨kC_InvalidStrengths, y⟩ := He.ba y
  obtain ⟨eC_InvalidStrengths, y⟩ := He.ba y
  obtain ⟨tyC_InvalidStrengths, y⟩ := He.ba y
  obtain ⟨hdC_InvalidStrengths, y⟩ := He.ba y
  obtain ⟨vE_InvalidStrengths, y⟩ := He.ba y
  have ei_InvalidStrengths := y
  have y := c.b 27 (f := hdB27) rfl
  obtain ⟨su_InvalidStrengths, y⟩ := He.ba y
  obtain ⟨mr_InvalidStrengths, y⟩ := He.ba y
  obtain ⟨zfl_InvalidStrengths, y⟩ := He.ba y
  obtain ⟨no_InvalidStrengths, y⟩ := He.ba y
  obtain ⟨nC_InvalidText, y⟩ := He.ba y
  obtain ⟨zlk_InvalidText, y⟩ := He.ba y
  obtain ⟨sa_InvalidText, y⟩ := He.ba y
  obtain ⟨ga_InvalidText, y⟩ := He.ba y
  obtain ⟨gg_InvalidText, y⟩ := He.ba y
  obtain ⟨iC_InvalidText, y⟩ := He.ba y
  obtain ⟨tC_InvalidText, y⟩ := He.ba y
  obtain ⟨kC_InvalidText, y⟩ := He.ba y
  obtain ⟨eC_InvalidText, y⟩ := He.ba y
  have tyC_InvalidText := y
  have y := c.b 28 (f := hdB28) rfl
  obtain ⟨hdC_InvalidText, y⟩ := He.ba y
  obtain ⟨vE_InvalidText, y⟩ := He.ba y
  obtain ⟨ei_InvalidText, y⟩ := He.ba y
  obtain ⟨su_InvalidText, y⟩ := He.ba y
  obtain ⟨mr_InvalidText, y⟩ := He.ba y
  obtain ⟨zfl_InvalidText, y⟩ := He.ba y
  obtain ⟨no_InvalidText, y⟩ := He.ba y
  obtain ⟨nC_InvalidWeaving, y⟩ := He.ba y
  obtain ⟨zlk_InvalidWeaving, y⟩ := He.ba y
  obtain ⟨sa_InvalidWeaving, y⟩ := He.ba y
  obtain ⟨ga_InvalidWeaving, y⟩ := He.ba y
  obtain ⟨gg_InvalidWeaving, y⟩ := He.ba y
  obtain ⟨iC_InvalidWeaving, y⟩ := He.ba y
  have tC_InvalidWeaving := y
  have y := c.b 29 (f := hdB29) rfl
  obtain ⟨kC_InvalidWeaving, y⟩ := He.ba y
  obtain ⟨eC_InvalidWeaving, y⟩ := He.ba y
  obtain ⟨tyC_InvalidWeaving, y⟩ := He.ba y
  obtain ⟨hdC_InvalidWeaving, y⟩ := He.ba y
  obtain ⟨vE_InvalidWeaving, y⟩ := He.ba y
  obtain ⟨ei_InvalidWeaving, y⟩ := He.ba y
  obtain ⟨su_InvalidWeaving, y⟩ := He.ba y
  obtain ⟨mr_InvalidWeaving, y⟩ := He.ba y
  obtain ⟨zfl_InvalidWeaving, y⟩ := He.ba y
  obtain ⟨no_InvalidWeaving, y⟩ := He.ba y
  obtain ⟨nC_NameTaken, y⟩ := He.ba y
  obtain ⟨zlk_NameTaken, y⟩ := He.ba y
  obtain ⟨sa_NameTaken, y⟩ := He.ba y
  have ga_NameTaken := y
  have y := c.b 30 (f := hdB30) rfl
  obtain ⟨gg_NameTaken, y⟩ := He.ba y
  obtain ⟨iC_NameTaken, y⟩ := He.ba y
  obtain ⟨tC_NameTaken, y⟩ := He.ba y
  obtain ⟨kC_NameTaken, y⟩ := He.ba y
  obtain ⟨eC_NameTaken, y⟩ := He.ba y
  obtain ⟨tyC_NameTaken, y⟩ := He.ba y
  obtain ⟨hdC_NameTaken, y⟩ := He.ba y
  obtain ⟨vE_NameTaken, y⟩ := He.ba y
  obtain ⟨ei_NameTaken, y⟩ := He.ba y
  obtain ⟨su_NameTaken, y⟩ := He.ba y
  obtain ⟨mr_NameTaken, y⟩ := He.ba y
  obtain ⟨zfl_NameTaken, y⟩ := He.ba y
  obtain ⟨no_NameTaken, y⟩ := He.ba y
  have nC_NoProgram := y
  have y := c.b 31 (f := hdB31) rfl
  obtain ⟨zlk_NoProgram, y⟩ := He.ba y
  obtain ⟨sa_NoProgram, y⟩ := He.ba y
  obtain ⟨ga_NoProgram, y⟩ := He.ba y
  obtain ⟨gg_NoProgram, y⟩ := He.ba y
  obtain ⟨iC_NoProgram, y⟩ := He.ba y
  obtain ⟨tC_NoProgram, y⟩ := He.ba y
  obtain ⟨kC_NoProgram, y⟩ := He.ba y
  obtain ⟨eC_NoProgram, y⟩ := He.ba y
  obtain ⟨tyC_NoProgram, y⟩ := He.ba y
  obtain ⟨hdC_NoProgram, y⟩ := He.ba y
  obtain ⟨vE_NoProgram, y⟩ := He.ba y
  obtain ⟨ei_NoProgram, y⟩ := He.ba y
  obtain ⟨su_NoProgram, y⟩ := He.ba y
  have mr_NoProgram := y
  have y := c.b 32 (f := hdB32) rfl
  obtain ⟨zfl_NoProgram, y⟩ := He.ba y
  obtain ⟨no_NoProgram, y⟩ := He.ba y
  obtain ⟨nC_NoStore, y⟩ := He.ba y
  obtain ⟨zlk_NoStore, y⟩ := He.ba y
  obtain ⟨sa_NoStore, y⟩ := He.ba y
  obtain ⟨ga_NoStore, y⟩ := He.ba y
  obtain ⟨gg_NoStore, y⟩ := He.ba y
  obtain ⟨iC_NoStore, y⟩ := He.ba y
  obtain ⟨tC_NoStore, y⟩ := He.ba y
  obtain ⟨kC_NoStore, y⟩ := He.ba y
  obtain ⟨eC_NoStore, y⟩ := He.ba y
  obtain ⟨tyC_NoStore, y⟩ := He.ba y
  obtain ⟨hdC_NoStore, y⟩ := He.ba y
  have vE_NoStore := y
  have y := c.b 33 (f := hdB33) rfl
  obtain ⟨ei_NoStore, y⟩ := He.ba y
  obtain ⟨su_NoStore, y⟩ := He.ba y
  obtain ⟨mr_NoStore, y⟩ := He.ba y
  obtain ⟨zfl_NoStore, y⟩ := He.ba y
  obtain ⟨nC_NotInside, y⟩ := He.ba y
  obtain ⟨zlk_NotInside, y⟩ := He.ba y
  obtain ⟨sa_NotInside, y⟩ := He.ba y
  obtain ⟨ga_NotInside, y⟩ := He.ba y
  obtain ⟨gg_NotInside, y⟩ := He.ba y
  obtain ⟨iC_NotInside, y⟩ := He.ba y
  obtain ⟨tC_NotInside, y⟩ := He.ba y
  obtain ⟨kC_NotInside, y⟩ := He.ba y
  obtain ⟨eC_NotInside, y⟩ := He.ba y
  have tyC_NotInside := y
  have y := c.b 34 (f := hdB34) rfl
  obtain ⟨hdC_NotInside, y⟩ := He.ba y
  obtain ⟨vE_NotInside, y⟩ := He.ba y
  obtain ⟨ei_NotInside, y⟩ := He.ba y
  obtain ⟨su_NotInside, y⟩ := He.ba y
  obtain ⟨mr_NotInside, y⟩ := He.ba y
  obtain ⟨zfl_NotInside, y⟩ := He.ba y
  obtain ⟨no_NotInside, y⟩ := He.ba y
  obtain ⟨nC_NotNeighbours, y⟩ := He.ba y
  obtain ⟨zlk_NotNeighbours, y⟩ := He.ba y
  obtain ⟨sa_NotNeighbours, y⟩ := He.ba y
  obtain ⟨ga_NotNeighbours, y⟩ := He.ba y
  obtain ⟨gg_NotNeighbours, y⟩ := He.ba y
  obtain ⟨iC_NotNeighbours, y⟩ := He.ba y
  have tC_NotNeighbours := y
  have y := c.b 35 (f := hdB35) rfl
  obtain ⟨kC_NotNeighbours, y⟩ := He.ba y
  obtain ⟨eC_NotNeighbours, y⟩ := He.ba y
  obtain ⟨tyC_NotNeighbours, y⟩ := He.ba y
  obtain ⟨hdC_NotNeighbours, y⟩ := He.ba y
  obtain ⟨vE_NotNeighbours, y⟩ := He.ba y
  obtain ⟨ei_NotNeighbours, y⟩ := He.ba y
  obtain ⟨su_NotNeighbours, y⟩ := He.ba y
  obtain ⟨mr_NotNeighbours, y⟩ := He.ba y
  obtain ⟨zfl_NotNeighbours, y⟩ := He.ba y
  obtain ⟨no_NotNeighbours, y⟩ := He.ba y
  obtain ⟨nC_NotRight, y⟩ := He.ba y
  obtain ⟨zlk_NotRight, y⟩ := He.ba y
  obtain ⟨sa_NotRight, y⟩ := He.ba y
  have ga_NotRight := y
  have y := c.b 36 (f := hdB36) rfl
  obtain ⟨gg_NotRight, y⟩ := He.ba y
  obtain ⟨iC_NotRight, y⟩ := He.ba y
  obtain ⟨tC_NotRight, y⟩ := He.ba y
  obtain ⟨kC_NotRight, y⟩ := He.ba y
  obtain ⟨eC_NotRight, y⟩ := He.ba y
  obtain ⟨tyC_NotRight, y⟩ := He.ba y
  obtain ⟨hdC_NotRight, y⟩ := He.ba y
  obtain ⟨vE_NotRight, y⟩ := He.ba y
  obtain ⟨ei_NotRight, y⟩ := He.ba y
  obtain ⟨su_NotRight, y⟩ := He.ba y
  obtain ⟨mr_NotRight, y⟩ := He.ba y
  obtain ⟨zfl_NotRight, y⟩ := He.ba y
  obtain ⟨nC_NothingBad, y⟩ := He.ba y
  have zlk_NothingBad := y
  have y := c.b 37 (f := hdB37) rfl
  obtain ⟨sa_NothingBad, y⟩ := He.ba y
  obtain ⟨ga_NothingBad, y⟩ := He.ba y
  obtain ⟨gg_NothingBad, y⟩ := He.ba y
  obtain ⟨iC_NothingBad, y⟩ := He.ba y
  obtain ⟨tC_NothingBad, y⟩ := He.ba y
  obtain ⟨kC_NothingBad, y⟩ := He.ba y
  obtain ⟨eC_NothingBad, y⟩ := He.ba y
  obtain ⟨tyC_NothingBad, y⟩ := He.ba y
  obtain ⟨hdC_NothingBad, y⟩ := He.ba y
  obtain ⟨vE_NothingBad, y⟩ := He.ba y
  obtain ⟨ei_NothingBad, y⟩ := He.ba y
  obtain ⟨su_NothingBad, y⟩ := He.ba y
  obtain ⟨mr_NothingBad, y⟩ := He.ba y
  have zfl_NothingBad := y
  have y := c.b 38 (f := hdB38) rfl
  obtain ⟨nC_NothingToRedo, y⟩ := He.ba y
  obtain ⟨zlk_NothingToRedo, y⟩ := He.ba y
  obtain ⟨sa_NothingToRedo, y⟩ := He.ba y
  obtain ⟨ga_NothingToRedo, y⟩ := He.ba y
  obtain ⟨gg_NothingToRedo, y⟩ := He.ba y
  obtain ⟨iC_NothingToRedo, y⟩ := He.ba y
  obtain ⟨tC_NothingToRedo, y⟩ := He.ba y
  obtain ⟨kC_NothingToRedo, y⟩ := He.ba y
  obtain ⟨eC_NothingToRedo, y⟩ := He.ba y
  obtain ⟨tyC_NothingToRedo, y⟩ := He.ba y
  obtain ⟨hdC_NothingToRedo, y⟩ := He.ba y
  obtain ⟨vE_NothingToRedo, y⟩ := He.ba y
  obtain ⟨ei_NothingToRedo, y⟩ := He.ba y
  have su_NothingToRedo := y
  have y := c.b 39 (f := hdB39) rfl
  obtain ⟨mr_NothingToRedo, y⟩ := He.ba y
  obtain ⟨zfl_NothingToRedo, y⟩ := He.ba y
  obtain ⟨nC_NothingToUndo, y⟩ := He.ba y
  obtain ⟨zlk_NothingToUndo, y⟩ := He.ba y
  obtain ⟨sa_NothingToUndo, y⟩ := He.ba y
  obtain ⟨ga_NothingToUndo, y⟩ := He.ba y
  obtain ⟨gg_NothingToUndo, y⟩ := He.ba y
  obtain ⟨iC_NothingToUndo, y⟩ := He.ba y
  obtain ⟨tC_NothingToUndo, y⟩ := He.ba y
  obtain ⟨kC_NothingToUndo, y⟩ := He.ba y
  obtain ⟨eC_NothingToUndo, y⟩ := He.ba y
  obtain ⟨tyC_NothingToUndo, y⟩ := He.ba y
  obtain ⟨hdC_NothingToUndo, y⟩ := He.ba y
  have vE_NothingToUndo := y
  have y := c.b 40 (f := hdB40) rfl
  obtain ⟨ei_NothingToUndo, y⟩ := He.ba y
  obtain ⟨su_NothingToUndo, y⟩ := He.ba y
  obtain ⟨mr_NothingToUndo, y⟩ := He.ba y
  obtain ⟨zfl_NothingToUndo, y⟩ := He.ba y
  obtain ⟨nC_Overlap, y⟩ := He.ba y
  obtain ⟨zlk_Overlap, y⟩ := He.ba y
  obtain ⟨sa_Overlap, y⟩ := He.ba y
  obtain ⟨ga_Overlap, y⟩ := He.ba y
  obtain ⟨gg_Overlap, y⟩ := He.ba y
  obtain ⟨iC_Overlap, y⟩ := He.ba y
  obtain ⟨tC_Overlap, y⟩ := He.ba y
  obtain ⟨kC_Overlap, y⟩ := He.ba y
  obtain ⟨eC_Overlap, y⟩ := He.ba y
  have tyC_Overlap := y
  have y := c.b 41 (f := hdB41) rfl
  obtain ⟨hdC_Overlap, y⟩ := He.ba y
  obtain ⟨vE_Overlap, y⟩ := He.ba y
  obtain ⟨ei_Overlap, y⟩ := He.ba y
  obtain ⟨su_Overlap, y⟩ := He.ba y
  obtain ⟨mr_Overlap, y⟩ := He.ba y
  obtain ⟨zfl_Overlap, y⟩ := He.ba y
  obtain ⟨no_Overlap, y⟩ := He.ba y
  obtain ⟨nC_TooMany, y⟩ := He.ba y
  obtain ⟨zlk_TooMany, y⟩ := He.ba y
  obtain ⟨sa_TooMany, y⟩ := He.ba y
  obtain ⟨ga_TooMany, y⟩ := He.ba y
  obtain ⟨gg_TooMany, y⟩ := He.ba y
  obtain ⟨iC_TooMany, y⟩ := He.ba y
  have tC_TooMany := y
  have y := c.b 42 (f := hdB42) rfl
  obtain ⟨kC_TooMany, y⟩ := He.ba y
  obtain ⟨eC_TooMany, y⟩ := He.ba y
  obtain ⟨tyC_TooMany, y⟩ := He.ba y
  obtain ⟨hdC_TooMany, y⟩ := He.ba y
  obtain ⟨vE_TooMany, y⟩ := He.ba y
  obtain ⟨ei_TooMany, y⟩ := He.ba y
  obtain ⟨su_TooMany, y⟩ := He.ba y
  obtain ⟨mr_TooMany, y⟩ := He.ba y
  obtain ⟨zfl_TooMany, y⟩ := He.ba y
  obtain ⟨no_TooMany, y⟩ := He.ba y
  obtain ⟨nC_UnknownEntry, y⟩ := He.ba y
  obtain ⟨zlk_UnknownEntry, y⟩ := He.ba y
  obtain ⟨sa_UnknownEntry, y⟩ := He.ba y
  have ga_UnknownEntry := y
  have y := c.b 43 (f := hdB43) rfl
  obtain ⟨gg_UnknownEntry, y⟩ := He.ba y
  obtain ⟨iC_UnknownEntry, y⟩ := He.ba y
  obtain ⟨tC_UnknownEntry, y⟩ := He.ba y
  obtain ⟨kC_UnknownEntry, y⟩ := He.ba y
  obtain ⟨eC_UnknownEntry, y⟩ := He.ba y
  obtain ⟨tyC_UnknownEntry, y⟩ := He.ba y
  obtain ⟨hdC_UnknownEntry, y⟩ := He.ba y
  obtain ⟨vE_UnknownEntry, y⟩ := He.ba y
  obtain ⟨ei_UnknownEntry, y⟩ := He.ba y
  obtain ⟨su_UnknownEntry, y⟩ := He.ba y
  obtain ⟨mr_UnknownEntry, y⟩ := He.ba y
  obtain ⟨zfl_UnknownEntry, y⟩ := He.ba y
  obtain ⟨no_UnknownEntry, y⟩ := He.ba y
  have nC_UnknownMode := y
  have y := c.b 44 (f := hdB44) rfl
  obtain ⟨zlk_UnknownMode, y⟩ := He.ba y
  obtain ⟨sa_UnknownMode, y⟩ := He.ba y
  obtain ⟨ga_UnknownMode, y⟩ := He.ba y
  obtain ⟨gg_UnknownMode, y⟩ := He.ba y
  obtain ⟨iC_UnknownMode, y⟩ := He.ba y
  obtain ⟨tC_UnknownMode, y⟩ := He.ba y
  obtain ⟨kC_UnknownMode, y⟩ := He.ba y
  obtain ⟨eC_UnknownMode, y⟩ := He.ba y
  obtain ⟨tyC_UnknownMode, y⟩ := He.ba y
  obtain ⟨hdC_UnknownMode, y⟩ := He.ba y
  obtain ⟨vE_UnknownMode, y⟩ := He.ba y
  obtain ⟨ei_UnknownMode, y⟩ := He.ba y
  obtain ⟨su_UnknownMode, y⟩ := He.ba y
  have mr_UnknownMode := y
  have y := c.b 45 (f := hdB45) rfl
  obtain ⟨zfl_UnknownMode, y⟩ := He.ba y
  obtain ⟨no_UnknownMode, y⟩ := He.ba y
  obtain ⟨nC_UnknownPart, y⟩ := He.ba y
  obtain ⟨zlk_UnknownPart, y⟩ := He.ba y
  obtain ⟨sa_UnknownPart, y⟩ := He.ba y
  obtain ⟨ga_UnknownPart, y⟩ := He.ba y
  obtain ⟨gg_UnknownPart, y⟩ := He.ba y
  obtain ⟨iC_UnknownPart, y⟩ := He.ba y
  obtain ⟨tC_UnknownPart, y⟩ := He.ba y
  obtain ⟨kC_UnknownPart, y⟩ := He.ba y
  obtain ⟨eC_UnknownPart, y⟩ := He.ba y
  obtain ⟨tyC_UnknownPart, y⟩ := He.ba y
  obtain ⟨hdC_UnknownPart, y⟩ := He.ba y
  have vE_UnknownPart := y
  have y := c.b 46 (f := hdB46) rfl
  obtain ⟨ei_UnknownPart, y⟩ := He.ba y
  obtain ⟨su_UnknownPart, y⟩ := He.ba y
  obtain ⟨mr_UnknownPart, y⟩ := He.ba y
  obtain ⟨zfl_UnknownPart, y⟩ := He.ba y
  obtain ⟨no_UnknownPart, y⟩ := He.ba y
  obtain ⟨nC_Waiting, y⟩ := He.ba y
  obtain ⟨zlk_Waiting, y⟩ := He.ba y
  obtain ⟨sa_Waiting, y⟩ := He.ba y
  obtain ⟨ga_Waiting, y⟩ := He.ba y
  obtain ⟨gg_Waiting, y⟩ := He.ba y
  obtain ⟨iC_Waiting, y⟩ := He.ba y
  obtain ⟨tC_Waiting, y⟩ := He.ba y
  obtain ⟨kC_Waiting, y⟩ := He.ba y
  have eC_Waiting := y
  have y := c.b 47 (f := hdB47) rfl
  obtain ⟨tyC_Waiting, y⟩ := He.ba y
  obtain ⟨hdC_Waiting, y⟩ := He.ba y
  obtain ⟨vE_Waiting, y⟩ := He.ba y
  obtain ⟨ei_Waiting, y⟩ := He.ba y
  obtain ⟨su_Waiting, y⟩ := He.ba y
  obtain ⟨mr_Waiting, y⟩ := He.ba y
  obtain ⟨zfl_Waiting, y⟩ := He.ba y
  obtain ⟨no_Waiting, y⟩ := He.ba y
  obtain ⟨nC_PartsError, y⟩ := He.ba y
  obtain ⟨mb_PartsError, y⟩ := He.ba y
  obtain ⟨zx_Duplicate, y⟩ := He.ba y
  obtain ⟨zx_Ended, y⟩ := He.ba y
  obtain ⟨zx_IndexError, y⟩ := He.ba y
  have zx_InvalidCatalog := y
  have y := c.b 48 (f := hdB48) rfl
  obtain ⟨zx_InvalidChange, y⟩ := He.ba y
  obtain ⟨zx_InvalidClash, y⟩ := He.ba y
  obtain ⟨zx_InvalidCommand, y⟩ := He.ba y
  obtain ⟨zx_InvalidKey, y⟩ := He.ba y
  obtain ⟨zx_InvalidLog, y⟩ := He.ba y
  obtain ⟨zx_InvalidModes, y⟩ := He.ba y
  obtain ⟨zx_InvalidName, y⟩ := He.ba y
  obtain ⟨zx_InvalidNumber, y⟩ := He.ba y
  obtain ⟨zx_InvalidProgram, y⟩ := He.ba y
  obtain ⟨zx_InvalidPrograms, y⟩ := He.ba y
  obtain ⟨zx_InvalidProtocol, y⟩ := He.ba y
  obtain ⟨zx_InvalidRows, y⟩ := He.ba y
  obtain ⟨zx_InvalidScene, y⟩ := He.ba y
  have zx_InvalidSession := y
  have y := c.b 49 (f := hdB49) rfl
  obtain ⟨zx_InvalidSpan, y⟩ := He.ba y
  obtain ⟨zx_InvalidSpans, y⟩ := He.ba y
  obtain ⟨zx_InvalidStore, y⟩ := He.ba y
  obtain ⟨zx_InvalidStrengths, y⟩ := He.ba y
  obtain ⟨zx_InvalidText, y⟩ := He.ba y
  obtain ⟨zx_InvalidWeaving, y⟩ := He.ba y
  obtain ⟨zx_KeyError, y⟩ := He.ba y
  obtain ⟨zx_NameTaken, y⟩ := He.ba y
  obtain ⟨zx_NoProgram, y⟩ := He.ba y
  obtain ⟨zx_NoStore, y⟩ := He.ba y
  obtain ⟨zx_NotInside, y⟩ := He.ba y
  obtain ⟨zx_NotNeighbours, y⟩ := He.ba y
  obtain ⟨zx_NotRight, y⟩ := He.ba y
  have zx_NothingBad := y
  have y := c.b 50 (f := hdB50) rfl
  obtain ⟨zx_NothingToRedo, y⟩ := He.ba y
  obtain ⟨zx_NothingToUndo, y⟩ := He.ba y
  obtain ⟨zx_Overlap, y⟩ := He.ba y
  obtain ⟨zx_PartsError, y⟩ := He.ba y
  obtain ⟨zx_TooMany, y⟩ := He.ba y
  obtain ⟨zx_TypeError, y⟩ := He.ba y
  obtain ⟨zx_UnknownEntry, y⟩ := He.ba y
  obtain ⟨zx_UnknownMode, y⟩ := He.ba y
  obtain ⟨zx_UnknownPart, y⟩ := He.ba y
  obtain ⟨zx_ValueError, y⟩ := He.ba y
  obtain ⟨zx_Waiting, y⟩ := He.ba y
  obtain ⟨n_IndexError, y⟩ := He.ba y
  obtain ⟨n_KeyError, y⟩ := He.ba y
  have n_TypeError := y
  have y := c.b 51 (f := hdB51) rfl
  obtain ⟨n_ValueError, y⟩ := He.ba y
  obtain ⟨n_bool, y⟩ := He.ba y
  obtain ⟨n_isinstance, y⟩ := He.ba y
  obtain ⟨n_len, y⟩ := He.ba y
  obtain ⟨n_max, y⟩ := He.ba y
  obtain ⟨n_min, y⟩ := He.ba y
  obtain ⟨n_range, y⟩ := He.ba y
  have n_super := y
  obtain ⟨_, _, _, _, _, _, _, _, _, l0, c0⟩ := h_fn0 (a := (hG K "_law_box")) (n := "_law_box") (q := "_law_box") (st := st__law_box) (c.f 0 (p := hdF0) rfl) zl0
  obtain ⟨_, _, _, _, _, _, _, _, _, l1, c1⟩ := h_fn0 (a := (hG K "_law_made")) (n := "_law_made") (q := "_law_made") (st := st__law_made) (c.f 1 (p := hdF1) rfl) zl1
  obtain ⟨_, _, _, _, _, _, _, _, _, l2, c2⟩ := h_fn0 (a := (hG K "_law_fields")) (n := "_law_fields") (q := "_law_fields") (st := st__law_fields) (c.f 2 (p := hdF2) rfl) zl2
  obtain ⟨_, _, _, _, _, _, _, _, _, l3, c3⟩ := h_fn0 (a := (hG K "_law_cell")) (n := "_law_cell") (q := "_law_cell") (st := st__law_cell) (c.f 3 (p := hdF3) rfl) zl3
  obtain ⟨_, _, _, _, _, _, _, _, _, l4, c4⟩ := h_fn0 (a := (hG K "_law_take")) (n := "_law_take") (q := "_law_take") (st := st__law_take) (c.f 4 (p := hdF4) rfl) zl4
  obtain ⟨_, _, _, _, _, _, _, _, _, l5, c5⟩ := h_fn0 (a := (hG K "_law_classes")) (n := "_law_classes") (q := "_law_classes") (st := st__law_classes) (c.f 5 (p := hdF5) rfl) zl5
  obtain ⟨_, _, _, _, _, _, _, _, _, l6, c6⟩ := h_fn0 (a := (hG K "_law_under")) (n := "_law_under") (q := "_law_under") (st := st__law_under) (c.f 6 (p := hdF6) rfl) zl6
  obtain ⟨_, _, _, _, _, _, _, _, _, l7, c7⟩ := h_fn0 (a := (hG K "law")) (n := "law") (q := "law") (st := st_law) (c.f 7 (p := hdF7) rfl) zl7
  obtain ⟨_, _, _, _, _, _, _, _, _, _, _, _, _, _, _, lk_Duplicate, rv_Duplicate⟩ := h_ex zlk_Duplicate
  obtain ⟨_, _, _, _, _, _, _, _, _, _, _, _, _, _, _, _, _, _, fl_Duplicate, cd_Duplicate, lc_Duplicate, v2_Duplicate, fe_Duplicate, ce_Duplicate⟩ := h_fn2 (a := (hM K (hG K "Duplicate") "__init__")) (C := (hG K "Duplicate")) (q := "Duplicate.__init__") (st := (clsInit (topS 23))) (c.f 8 (p := hdF8) rfl) zfl_Duplicate
  obtain ⟨_, _, _, _, _, _, _, _, _, _, _, _, _, _, _, lk_Ended, rv_Ended⟩ := h_ex zlk_Ended
  obtain ⟨_, _, _, _, _, _, _, _, _, _, _, _, _, _, _, _, _, _, fl_Ended, cd_Ended, lc_Ended, v2_Ended, fe_Ended, ce_Ended⟩ := h_fn2 (a := (hM K (hG K "Ended") "__init__")) (C := (hG K "Ended")) (q := "Ended.__init__") (st := (clsInit (topS 33))) (c.f 9 (p := hdF9) rfl) zfl_Ended
  obtain ⟨_, _, _, _, _, _, _, _, _, _, _, _, _, _, _, lk_InvalidCatalog, rv_InvalidCatalog⟩ := h_ex zlk_InvalidCatalog
  obtain ⟨_, _, _, _, _, _, _, _, _, _, _, _, _, _, _, _, _, _, fl_InvalidCatalog, cd_InvalidCatalog, lc_InvalidCatalog, v2_InvalidCatalog, fe_InvalidCatalog, ce_InvalidCatalog⟩ := h_fn2 (a := (hM K (hG K "InvalidCatalog") "__init__")) (C := (hG K "InvalidCatalog")) (q := "InvalidCatalog.__init__") (st := (clsInit (topS 6))) (c.f 10 (p := hdF10) rfl) zfl_InvalidCatalog
  obtain ⟨_, _, _, _, _, _, _, _, _, _, _, _, _, _, _, lk_InvalidChange, rv_InvalidChange⟩ := h_ex zlk_InvalidChange
  obtain ⟨_, _, _, _, _, _, _, _, _, _, _, _, _, _, _, _, _, _, fl_InvalidChange, cd_InvalidChange, lc_InvalidChange, v2_InvalidChange, fe_InvalidChange, ce_InvalidChange⟩ := h_fn2 (a := (hM K (hG K "InvalidChange") "__init__")) (C := (hG K "InvalidChange")) (q := "InvalidChange.__init__") (st := (clsInit (topS 7))) (c.f 11 (p := hdF11) rfl) zfl_InvalidChange
  obtain ⟨_, _, _, _, _, _, _, _, _, _, _, _, _, _, _, lk_InvalidClash, rv_InvalidClash⟩ := h_ex zlk_InvalidClash
  obtain ⟨_, _, _, _, _, _, _, _, _, _, _, _, _, _, _, _, _, _, fl_InvalidClash, cd_InvalidClash, lc_InvalidClash, v2_InvalidClash, fe_InvalidClash, ce_InvalidClash⟩ := h_fn2 (a := (hM K (hG K "InvalidClash") "__init__")) (C := (hG K "InvalidClash")) (q := "InvalidClash.__init__") (st := (clsInit (topS 9))) (c.f 12 (p := hdF12) rfl) zfl_InvalidClash
  obtain ⟨_, _, _, _, _, _, _, _, _, _, _, _, _, _, _, lk_InvalidCommand, rv_InvalidCommand⟩ := h_ex zlk_InvalidCommand
  obtain ⟨_, _, _, _, _, _, _, _, _, _, _, _, _, _, _, _, _, _, fl_InvalidCommand, cd_InvalidCommand, lc_InvalidCommand, v2_InvalidCommand, fe_InvalidCommand, ce_InvalidCommand⟩ := h_fn2 (a := (hM K (hG K "InvalidCommand") "__init__")) (C := (hG K "InvalidCommand")) (q := "InvalidCommand.__init__") (st := (clsInit (topS 22))) (c.f 13 (p := hdF13) rfl) zfl_InvalidCommand
  obtain ⟨_, _, _, _, _, _, _, _, _, _, _, _, _, _, _, lk_InvalidKey, rv_InvalidKey⟩ := h_ex zlk_InvalidKey
  obtain ⟨_, _, _, _, _, _, _, _, _, _, _, _, _, _, _, _, _, _, fl_InvalidKey, cd_InvalidKey, lc_InvalidKey, v2_InvalidKey, fe_InvalidKey, ce_InvalidKey⟩ := h_fn2 (a := (hM K (hG K "InvalidKey") "__init__")) (C := (hG K "InvalidKey")) (q := "InvalidKey.__init__") (st := (clsInit (topS 3))) (c.f 14 (p := hdF14) rfl) zfl_InvalidKey
  obtain ⟨_, _, _, _, _, _, _, _, _, _, _, _, _, _, _, lk_InvalidLog, rv_InvalidLog⟩ := h_ex zlk_InvalidLog
  obtain ⟨_, _, _, _, _, _, _, _, _, _, _, _, _, _, _, _, _, _, fl_InvalidLog, cd_InvalidLog, lc_InvalidLog, v2_InvalidLog, fe_InvalidLog, ce_InvalidLog⟩ := h_fn2 (a := (hM K (hG K "InvalidLog") "__init__")) (C := (hG K "InvalidLog")) (q := "InvalidLog.__init__") (st := (clsInit (topS 20))) (c.f 15 (p := hdF15) rfl) zfl_InvalidLog
  obtain ⟨_, _, _, _, _, _, _, _, _, _, _, _, _, _, _, lk_InvalidModes, rv_InvalidModes⟩ := h_ex zlk_InvalidModes
  obtain ⟨_, _, _, _, _, _, _, _, _, _, _, _, _, _, _, _, _, _, fl_InvalidModes, cd_InvalidModes, lc_InvalidModes, v2_InvalidModes, fe_InvalidModes, ce_InvalidModes⟩ := h_fn2 (a := (hM K (hG K "InvalidModes") "__init__")) (C := (hG K "InvalidModes")) (q := "InvalidModes.__init__") (st := (clsInit (topS 8))) (c.f 16 (p := hdF16) rfl) zfl_InvalidModes
  obtain ⟨_, _, _, _, _, _, _, _, _, _, _, _, _, _, _, lk_InvalidName, rv_InvalidName⟩ := h_ex zlk_InvalidName
  obtain ⟨_, _, _, _, _, _, _, _, _, _, _, _, _, _, _, _, _, _, fl_InvalidName, cd_InvalidName, lc_InvalidName, v2_InvalidName, fe_InvalidName, ce_InvalidName⟩ := h_fn2 (a := (hM K (hG K "InvalidName") "__init__")) (C := (hG K "InvalidName")) (q := "InvalidName.__init__") (st := (clsInit (topS 2))) (c.f 17 (p := hdF17) rfl) zfl_InvalidName
  obtain ⟨_, _, _, _, _, _, _, _, _, _, _, _, _, _, _, lk_InvalidNumber, rv_InvalidNumber⟩ := h_ex zlk_InvalidNumber
  obtain ⟨_, _, _, _, _, _, _, _, _, _, _, _, _, _, _, _, _, _, fl_InvalidNumber, cd_InvalidNumber, lc_InvalidNumber, v2_InvalidNumber, fe_InvalidNumber, ce_InvalidNumber⟩ := h_fn2 (a := (hM K (hG K "InvalidNumber") "__init__")) (C := (hG K "InvalidNumber")) (q := "InvalidNumber.__init__") (st := (clsInit (topS 16))) (c.f 18 (p := hdF18) rfl) zfl_InvalidNumber
  obtain ⟨_, _, _, _, _, _, _, _, _, _, _, _, _, _, _, lk_InvalidProgram, rv_InvalidProgram⟩ := h_ex zlk_InvalidProgram
  obtain ⟨_, _, _, _, _, _, _, _, _, _, _, _, _, _, _, _, _, _, fl_InvalidProgram, cd_InvalidProgram, lc_InvalidProgram, v2_InvalidProgram, fe_InvalidProgram, ce_InvalidProgram⟩ := h_fn2 (a := (hM K (hG K "InvalidProgram") "__init__")) (C := (hG K "InvalidProgram")) (q := "InvalidProgram.__init__") (st := (clsInit (topS 11))) (c.f 19 (p := hdF19) rfl) zfl_InvalidProgram
  obtain ⟨_, _, _, _, _, _, _, _, _, _, _, _, _, _, _, lk_InvalidPrograms, rv_InvalidPrograms⟩ := h_ex zlk_InvalidPrograms
  obtain ⟨_, _, _, _, _, _, _, _, _, _, _, _, _, _, _, _, _, _, fl_InvalidPrograms, cd_InvalidPrograms, lc_InvalidPrograms, v2_InvalidPrograms, fe_InvalidPrograms, ce_InvalidPrograms⟩ := h_fn2 (a := (hM K (hG K "InvalidPrograms") "__init__")) (C := (hG K "InvalidPrograms")) (q := "InvalidPrograms.__init__") (st := (clsInit (topS 12))) (c.f 20 (p := hdF20) rfl) zfl_InvalidPrograms
  obtain ⟨_, _, _, _, _, _, _, _, _, _, _, _, _, _, _, lk_InvalidProtocol, rv_InvalidProtocol⟩ := h_ex zlk_InvalidProtocol
  obtain ⟨_, _, _, _, _, _, _, _, _, _, _, _, _, _, _, _, _, _, fl_InvalidProtocol, cd_InvalidProtocol, lc_InvalidProtocol, v2_InvalidProtocol, fe_InvalidProtocol, ce_InvalidProtocol⟩ := h_fn2 (a := (hM K (hG K "InvalidProtocol") "__init__")) (C := (hG K "InvalidProtocol")) (q := "InvalidProtocol.__init__") (st := (clsInit (topS 13))) (c.f 21 (p := hdF21) rfl) zfl_InvalidProtocol
  obtain ⟨_, _, _, _, _, _, _, _, _, _, _, _, _, _, _, lk_InvalidRows, rv_InvalidRows⟩ := h_ex zlk_InvalidRows
  obtain ⟨_, _, _, _, _, _, _, _, _, _, _, _, _, _, _, _, _, _, fl_InvalidRows, cd_InvalidRows, lc_InvalidRows, v2_InvalidRows, fe_InvalidRows, ce_InvalidRows⟩ := h_fn2 (a := (hM K (hG K "InvalidRows") "__init__")) (C := (hG K "InvalidRows")) (q := "InvalidRows.__init__") (st := (clsInit (topS 14))) (c.f 22 (p := hdF22) rfl) zfl_InvalidRows
  obtain ⟨_, _, _, _, _, _, _, _, _, _, _, _, _, _, _, lk_InvalidScene, rv_InvalidScene⟩ := h_ex zlk_InvalidScene
  obtain ⟨_, _, _, _, _, _, _, _, _, _, _, _, _, _, _, _, _, _, fl_InvalidScene, cd_InvalidScene, lc_InvalidScene, v2_InvalidScene, fe_InvalidScene, ce_InvalidScene⟩ := h_fn2 (a := (hM K (hG K "InvalidScene") "__init__")) (C := (hG K "InvalidScene")) (q := "InvalidScene.__init__") (st := (clsInit (topS 19))) (c.f 23 (p := hdF23) rfl) zfl_InvalidScene
  obtain ⟨_, _, _, _, _, _, _, _, _, _, _, _, _, _, _, lk_InvalidSession, rv_InvalidSession⟩ := h_ex zlk_InvalidSession
  obtain ⟨_, _, _, _, _, _, _, _, _, _, _, _, _, _, _, _, _, _, fl_InvalidSession, cd_InvalidSession, lc_InvalidSession, v2_InvalidSession, fe_InvalidSession, ce_InvalidSession⟩ := h_fn2 (a := (hM K (hG K "InvalidSession") "__init__")) (C := (hG K "InvalidSession")) (q := "InvalidSession.__init__") (st := (clsInit (topS 15))) (c.f 24 (p := hdF24) rfl) zfl_InvalidSession
  obtain ⟨_, _, _, _, _, _, _, _, _, _, _, _, _, _, _, lk_InvalidSpan, rv_InvalidSpan⟩ := h_ex zlk_InvalidSpan
  obtain ⟨_, _, _, _, _, _, _, _, _, _, _, _, _, _, _, _, _, _, fl_InvalidSpan, cd_InvalidSpan, lc_InvalidSpan, v2_InvalidSpan, fe_InvalidSpan, ce_InvalidSpan⟩ := h_fn2 (a := (hM K (hG K "InvalidSpan") "__init__")) (C := (hG K "InvalidSpan")) (q := "InvalidSpan.__init__") (st := (clsInit (topS 4))) (c.f 25 (p := hdF25) rfl) zfl_InvalidSpan
  obtain ⟨_, _, _, _, _, _, _, _, _, _, _, _, _, _, _, lk_InvalidSpans, rv_InvalidSpans⟩ := h_ex zlk_InvalidSpans
  obtain ⟨_, _, _, _, _, _, _, _, _, _, _, _, _, _, _, _, _, _, fl_InvalidSpans, cd_InvalidSpans, lc_InvalidSpans, v2_InvalidSpans, fe_InvalidSpans, ce_InvalidSpans⟩ := h_fn2 (a := (hM K (hG K "InvalidSpans") "__init__")) (C := (hG K "InvalidSpans")) (q := "InvalidSpans.__init__") (st := (clsInit (topS 5))) (c.f 26 (p := hdF26) rfl) zfl_InvalidSpans
  obtain ⟨_, _, _, _, _, _, _, _, _, _, _, _, _, _, _, lk_InvalidStore, rv_InvalidStore⟩ := h_ex zlk_InvalidStore
  obtain ⟨_, _, _, _, _, _, _, _, _, _, _, _, _, _, _, _, _, _, fl_InvalidStore, cd_InvalidStore, lc_InvalidStore, v2_InvalidStore, fe_InvalidStore, ce_InvalidStore⟩ := h_fn2 (a := (hM K (hG K "InvalidStore") "__init__")) (C := (hG K "InvalidStore")) (q := "InvalidStore.__init__") (st := (clsInit (topS 18))) (c.f 27 (p := hdF27) rfl) zfl_InvalidStore
  obtain ⟨_, _, _, _, _, _, _, _, _, _, _, _, _, _, _, lk_InvalidStrengths, rv_InvalidStrengths⟩ := h_ex zlk_InvalidStrengths
  obtain ⟨_, _, _, _, _, _, _, _, _, _, _, _, _, _, _, _, _, _, fl_InvalidStrengths, cd_InvalidStrengths, lc_InvalidStrengths, v2_InvalidStrengths, fe_InvalidStrengths, ce_InvalidStrengths⟩ := h_fn2 (a := (hM K (hG K "InvalidStrengths") "__init__")) (C := (hG K "InvalidStrengths")) (q := "InvalidStrengths.__init__") (st := (clsInit (topS 10))) (c.f 28 (p := hdF28) rfl) zfl_InvalidStrengths
  obtain ⟨_, _, _, _, _, _, _, _, _, _, _, _, _, _, _, lk_InvalidText, rv_InvalidText⟩ := h_ex zlk_InvalidText
  obtain ⟨_, _, _, _, _, _, _, _, _, _, _, _, _, _, _, _, _, _, fl_InvalidText, cd_InvalidText, lc_InvalidText, v2_InvalidText, fe_InvalidText, ce_InvalidText⟩ := h_fn2 (a := (hM K (hG K "InvalidText") "__init__")) (C := (hG K "InvalidText")) (q := "InvalidText.__init__") (st := (clsInit (topS 21))) (c.f 29 (p := hdF29) rfl) zfl_InvalidText
  obtain ⟨_, _, _, _, _, _, _, _, _, _, _, _, _, _, _, lk_InvalidWeaving, rv_InvalidWeaving⟩ := h_ex zlk_InvalidWeaving
  obtain ⟨_, _, _, _, _, _, _, _, _, _, _, _, _, _, _, _, _, _, fl_InvalidWeaving, cd_InvalidWeaving, lc_InvalidWeaving, v2_InvalidWeaving, fe_InvalidWeaving, ce_InvalidWeaving⟩ := h_fn2 (a := (hM K (hG K "InvalidWeaving") "__init__")) (C := (hG K "InvalidWeaving")) (q := "InvalidWeaving.__init__") (st := (clsInit (topS 17))) (c.f 30 (p := hdF30) rfl) zfl_InvalidWeaving
  obtain ⟨_, _, _, _, _, _, _, _, _, _, _, _, _, _, _, lk_NameTaken, rv_NameTaken⟩ := h_ex zlk_NameTaken
  obtain ⟨_, _, _, _, _, _, _, _, _, _, _, _, _, _, _, _, _, _, fl_NameTaken, cd_NameTaken, lc_NameTaken, v2_NameTaken, fe_NameTaken, ce_NameTaken⟩ := h_fn2 (a := (hM K (hG K "NameTaken") "__init__")) (C := (hG K "NameTaken")) (q := "NameTaken.__init__") (st := (clsInit (topS 27))) (c.f 31 (p := hdF31) rfl) zfl_NameTaken
  obtain ⟨_, _, _, _, _, _, _, _, _, _, _, _, _, _, _, lk_NoProgram, rv_NoProgram⟩ := h_ex zlk_NoProgram
  obtain ⟨_, _, _, _, _, _, _, _, _, _, _, _, _, _, _, _, _, _, fl_NoProgram, cd_NoProgram, lc_NoProgram, v2_NoProgram, fe_NoProgram, ce_NoProgram⟩ := h_fn2 (a := (hM K (hG K "NoProgram") "__init__")) (C := (hG K "NoProgram")) (q := "NoProgram.__init__") (st := (clsInit (topS 31))) (c.f 32 (p := hdF32) rfl) zfl_NoProgram
  obtain ⟨_, _, _, _, _, _, _, _, _, _, _, _, _, _, _, lk_NoStore, rv_NoStore⟩ := h_ex zlk_NoStore
  obtain ⟨_, _, _, _, _, _, _, _, _, _, _, _, _, _, _, _, _, _, fl_NoStore, cd_NoStore, lc_NoStore, v2_NoStore, fe_NoStore, ce_NoStore⟩ := h_fn2 (a := (hM K (hG K "NoStore") "__init__")) (C := (hG K "NoStore")) (q := "NoStore.__init__") (st := (clsInit (topS 37))) (c.f 33 (p := hdF33) rfl) zfl_NoStore
  obtain ⟨_, _, _, _, _, _, _, _, _, _, _, _, _, _, _, lk_NotInside, rv_NotInside⟩ := h_ex zlk_NotInside
  obtain ⟨_, _, _, _, _, _, _, _, _, _, _, _, _, _, _, _, _, _, fl_NotInside, cd_NotInside, lc_NotInside, v2_NotInside, fe_NotInside, ce_NotInside⟩ := h_fn2 (a := (hM K (hG K "NotInside") "__init__")) (C := (hG K "NotInside")) (q := "NotInside.__init__") (st := (clsInit (topS 29))) (c.f 34 (p := hdF34) rfl) zfl_NotInside
  obtain ⟨_, _, _, _, _, _, _, _, _, _, _, _, _, _, _, lk_NotNeighbours, rv_NotNeighbours⟩ := h_ex zlk_NotNeighbours
  obtain ⟨_, _, _, _, _, _, _, _, _, _, _, _, _, _, _, _, _, _, fl_NotNeighbours, cd_NotNeighbours, lc_NotNeighbours, v2_NotNeighbours, fe_NotNeighbours, ce_NotNeighbours⟩ := h_fn2 (a := (hM K (hG K "NotNeighbours") "__init__")) (C := (hG K "NotNeighbours")) (q := "NotNeighbours.__init__") (st := (clsInit (topS 30))) (c.f 35 (p := hdF35) rfl) zfl_NotNeighbours
  obtain ⟨_, _, _, _, _, _, _, _, _, _, _, _, _, _, _, lk_NotRight, rv_NotRight⟩ := h_ex zlk_NotRight
  obtain ⟨_, _, _, _, _, _, _, _, _, _, _, _, _, _, _, _, _, _, fl_NotRight, cd_NotRight, lc_NotRight, v2_NotRight, fe_NotRight, ce_NotRight⟩ := h_fn2 (a := (hM K (hG K "NotRight") "__init__")) (C := (hG K "NotRight")) (q := "NotRight.__init__") (st := (clsInit (topS 36))) (c.f 36 (p := hdF36) rfl) zfl_NotRight
  obtain ⟨_, _, _, _, _, _, _, _, _, _, _, _, _, _, _, lk_NothingBad, rv_NothingBad⟩ := h_ex zlk_NothingBad
  obtain ⟨_, _, _, _, _, _, _, _, _, _, _, _, _, _, _, _, _, _, fl_NothingBad, cd_NothingBad, lc_NothingBad, v2_NothingBad, fe_NothingBad, ce_NothingBad⟩ := h_fn2 (a := (hM K (hG K "NothingBad") "__init__")) (C := (hG K "NothingBad")) (q := "NothingBad.__init__") (st := (clsInit (topS 35))) (c.f 37 (p := hdF37) rfl) zfl_NothingBad
  obtain ⟨_, _, _, _, _, _, _, _, _, _, _, _, _, _, _, lk_NothingToRedo, rv_NothingToRedo⟩ := h_ex zlk_NothingToRedo
  obtain ⟨_, _, _, _, _, _, _, _, _, _, _, _, _, _, _, _, _, _, fl_NothingToRedo, cd_NothingToRedo, lc_NothingToRedo, v2_NothingToRedo, fe_NothingToRedo, ce_NothingToRedo⟩ := h_fn2 (a := (hM K (hG K "NothingToRedo") "__init__")) (C := (hG K "NothingToRedo")) (q := "NothingToRedo.__init__") (st := (clsInit (topS 39))) (c.f 38 (p := hdF38) rfl) zfl_NothingToRedo
  obtain ⟨_, _, _, _, _, _, _, _, _, _, _, _, _, _, _, lk_NothingToUndo, rv_NothingToUndo⟩ := h_ex zlk_NothingToUndo
  obtain ⟨_, _, _, _, _, _, _, _, _, _, _, _, _, _, _, _, _, _, fl_NothingToUndo, cd_NothingToUndo, lc_NothingToUndo, v2_NothingToUndo, fe_NothingToUndo, ce_NothingToUndo⟩ := h_fn2 (a := (hM K (hG K "NothingToUndo") "__init__")) (C := (hG K "NothingToUndo")) (q := "NothingToUndo.__init__") (st := (clsInit (topS 38))) (c.f 39 (p := hdF39) rfl) zfl_NothingToUndo
  obtain ⟨_, _, _, _, _, _, _, _, _, _, _, _, _, _, _, lk_Overlap, rv_Overlap⟩ := h_ex zlk_Overlap
  obtain ⟨_, _, _, _, _, _, _, _, _, _, _, _, _, _, _, _, _, _, fl_Overlap, cd_Overlap, lc_Overlap, v2_Overlap, fe_Overlap, ce_Overlap⟩ := h_fn2 (a := (hM K (hG K "Overlap") "__init__")) (C := (hG K "Overlap")) (q := "Overlap.__init__") (st := (clsInit (topS 28))) (c.f 40 (p := hdF40) rfl) zfl_Overlap
  obtain ⟨_, _, _, _, _, _, _, _, _, _, _, _, _, _, _, lk_TooMany, rv_TooMany⟩ := h_ex zlk_TooMany
  obtain ⟨_, _, _, _, _, _, _, _, _, _, _, _, _, _, _, _, _, _, fl_TooMany, cd_TooMany, lc_TooMany, v2_TooMany, fe_TooMany, ce_TooMany⟩ := h_fn2 (a := (hM K (hG K "TooMany") "__init__")) (C := (hG K "TooMany")) (q := "TooMany.__init__") (st := (clsInit (topS 32))) (c.f 41 (p := hdF41) rfl) zfl_TooMany
  obtain ⟨_, _, _, _, _, _, _, _, _, _, _, _, _, _, _, lk_UnknownEntry, rv_UnknownEntry⟩ := h_ex zlk_UnknownEntry
  obtain ⟨_, _, _, _, _, _, _, _, _, _, _, _, _, _, _, _, _, _, fl_UnknownEntry, cd_UnknownEntry, lc_UnknownEntry, v2_UnknownEntry, fe_UnknownEntry, ce_UnknownEntry⟩ := h_fn2 (a := (hM K (hG K "UnknownEntry") "__init__")) (C := (hG K "UnknownEntry")) (q := "UnknownEntry.__init__") (st := (clsInit (topS 26))) (c.f 42 (p := hdF42) rfl) zfl_UnknownEntry
  obtain ⟨_, _, _, _, _, _, _, _, _, _, _, _, _, _, _, lk_UnknownMode, rv_UnknownMode⟩ := h_ex zlk_UnknownMode
  obtain ⟨_, _, _, _, _, _, _, _, _, _, _, _, _, _, _, _, _, _, fl_UnknownMode, cd_UnknownMode, lc_UnknownMode, v2_UnknownMode, fe_UnknownMode, ce_UnknownMode⟩ := h_fn2 (a := (hM K (hG K "UnknownMode") "__init__")) (C := (hG K "UnknownMode")) (q := "UnknownMode.__init__") (st := (clsInit (topS 25))) (c.f 43 (p := hdF43) rfl) zfl_UnknownMode
  obtain ⟨_, _, _, _, _, _, _, _, _, _, _, _, _, _, _, lk_UnknownPart, rv_UnknownPart⟩ := h_ex zlk_UnknownPart
  obtain ⟨_, _, _, _, _, _, _, _, _, _, _, _, _, _, _, _, _, _, fl_UnknownPart, cd_UnknownPart, lc_UnknownPart, v2_UnknownPart, fe_UnknownPart, ce_UnknownPart⟩ := h_fn2 (a := (hM K (hG K "UnknownPart") "__init__")) (C := (hG K "UnknownPart")) (q := "UnknownPart.__init__") (st := (clsInit (topS 24))) (c.f 44 (p := hdF44) rfl) zfl_UnknownPart
  obtain ⟨_, _, _, _, _, _, _, _, _, _, _, _, _, _, _, lk_Waiting, rv_Waiting⟩ := h_ex zlk_Waiting
  obtain ⟨_, _, _, _, _, _, _, _, _, _, _, _, _, _, _, _, _, _, fl_Waiting, cd_Waiting, lc_Waiting, v2_Waiting, fe_Waiting, ce_Waiting⟩ := h_fn2 (a := (hM K (hG K "Waiting") "__init__")) (C := (hG K "Waiting")) (q := "Waiting.__init__") (st := (clsInit (topS 34))) (c.f 45 (p := hdF45) rfl) zfl_Waiting
  exact txt_mk X G (of_decide_eq_true anyK) (by decide +kernel) (of_decide_eq_true a0) l0 c0 k0 (of_decide_eq_true a1) l1 c1 k1 (of_decide_eq_true a2) l2 c2 k2 (of_decide_eq_true a3) l3 c3 k3 (of_decide_eq_true a4) l4 c4 k4 (of_decide_eq_true a5) l5 c5 k5 (of_decide_eq_true a6) l6 c6 k6 (of_decide_eq_true a7) l7 c7 k7 (of_decide_eq_true nC_Duplicate) lk_Duplicate rv_Duplicate (of_decide_eq_true sa_Duplicate) (of_decide_eq_true ga_Duplicate) (of_decide_eq_true gg_Duplicate) (of_decide_eq_true iC_Duplicate) (of_decide_eq_true tC_Duplicate) kC_Duplicate (of_decide_eq_true eC_Duplicate) (of_decide_eq_true tyC_Duplicate) hdC_Duplicate (of_decide_eq_true vE_Duplicate) ei_Duplicate (of_decide_eq_true su_Duplicate) (of_decide_eq_true mr_Duplicate) fl_Duplicate cd_Duplicate lc_Duplicate v2_Duplicate fe_Duplicate ce_Duplicate (of_decide_eq_true no_Duplicate) (of_decide_eq_true nC_Ended) lk_Ended rv_Ended (of_decide_eq_true sa_Ended) (of_decide_eq_true ga_Ended) (of_decide_eq_true gg_Ended) (of_decide_eq_true iC_Ended) (of_decide_eq_true tC_Ended) kC_Ended (of_decide_eq_true eC_Ended) (of_decide_eq_true tyC_Ended) hdC_Ended (of_decide_eq_true vE_Ended) ei_Ended (of_decide_eq_true su_Ended) (of_decide_eq_true mr_Ended) fl_Ended cd_Ended lc_Ended v2_Ended fe_Ended ce_Ended (of_decide_eq_true no_Ended) (of_decide_eq_true nC_InvalidCatalog) lk_InvalidCatalog rv_InvalidCatalog (of_decide_eq_true sa_InvalidCatalog) (of_decide_eq_true ga_InvalidCatalog) (of_decide_eq_true gg_InvalidCatalog) (of_decide_eq_true iC_InvalidCatalog) (of_decide_eq_true tC_InvalidCatalog) kC_InvalidCatalog (of_decide_eq_true eC_InvalidCatalog) (of_decide_eq_true tyC_InvalidCatalog) hdC_InvalidCatalog (of_decide_eq_true vE_InvalidCatalog) ei_InvalidCatalog (of_decide_eq_true su_InvalidCatalog) (of_decide_eq_true mr_InvalidCatalog) fl_InvalidCatalog cd_InvalidCatalog lc_InvalidCatalog v2_InvalidCatalog fe_InvalidCatalog ce_InvalidCatalog (of_decide_eq_true no_InvalidCatalog) (of_decide_eq_true nC_InvalidChange) lk_InvalidChange rv_InvalidChange (of_decide_eq_true sa_InvalidChange) (of_decide_eq_true ga_InvalidChange) (of_decide_eq_true gg_InvalidChange) (of_decide_eq_true iC_InvalidChange) (of_decide_eq_true tC_InvalidChange) kC_InvalidChange (of_decide_eq_true eC_InvalidChange) (of_decide_eq_true tyC_InvalidChange) hdC_InvalidChange (of_decide_eq_true vE_InvalidChange) ei_InvalidChange (of_decide_eq_true su_InvalidChange) (of_decide_eq_true mr_InvalidChange) fl_InvalidChange cd_InvalidChange lc_InvalidChange v2_InvalidChange fe_InvalidChange ce_InvalidChange (of_decide_eq_true no_InvalidChange) (of_decide_eq_true nC_InvalidClash) lk_InvalidClash rv_InvalidClash (of_decide_eq_true sa_InvalidClash) (of_decide_eq_true ga_InvalidClash) (of_decide_eq_true gg_InvalidClash) (of_decide_eq_true iC_InvalidClash) (of_decide_eq_true tC_InvalidClash) kC_InvalidClash (of_decide_eq_true eC_InvalidClash) (of_decide_eq_true tyC_InvalidClash) hdC_InvalidClash (of_decide_eq_true vE_InvalidClash) ei_InvalidClash (of_decide_eq_true su_InvalidClash) (of_decide_eq_true mr_InvalidClash) fl_InvalidClash cd_InvalidClash lc_InvalidClash v2_InvalidClash fe_InvalidClash ce_InvalidClash (of_decide_eq_true no_InvalidClash) (of_decide_eq_true nC_InvalidCommand) lk_InvalidCommand rv_InvalidCommand (of_decide_eq_true sa_InvalidCommand) (of_decide_eq_true ga_InvalidCommand) (of_decide_eq_true gg_InvalidCommand) (of_decide_eq_true iC_InvalidCommand) (of_decide_eq_true tC_InvalidCommand) kC_InvalidCommand (of_decide_eq_true eC_InvalidCommand) (of_decide_eq_true tyC_InvalidCommand) hdC_InvalidCommand (of_decide_eq_true vE_InvalidCommand) ei_InvalidCommand (of_decide_eq_true su_InvalidCommand) (of_decide_eq_true mr_InvalidCommand) fl_InvalidCommand cd_InvalidCommand lc_InvalidCommand v2_InvalidCommand fe_InvalidCommand ce_InvalidCommand (of_decide_eq_true no_InvalidCommand) (of_decide_eq_true nC_InvalidKey) lk_InvalidKey rv_InvalidKey (of_decide_eq_true sa_InvalidKey) (of_decide_eq_true ga_InvalidKey) (of_decide_eq_true gg_InvalidKey) (of_decide_eq_true iC_InvalidKey) (of_decide_eq_true tC_InvalidKey) kC_InvalidKey (of_decide_eq_true eC_InvalidKey) (of_decide_eq_true tyC_InvalidKey) hdC_InvalidKey (of_decide_eq_true vE_InvalidKey) ei_InvalidKey (of_decide_eq_true su_InvalidKey) (of_decide_eq_true mr_InvalidKey) fl_InvalidKey cd_InvalidKey lc_InvalidKey v2_InvalidKey fe_InvalidKey ce_InvalidKey (of_decide_eq_true no_InvalidKey) (of_decide_eq_true nC_InvalidLog) lk_InvalidLog rv_InvalidLog (of_decide_eq_true sa_InvalidLog) (of_decide_eq_true ga_InvalidLog) (of_decide_eq_true gg_InvalidLog) (of_decide_eq_true iC_InvalidLog) (of_decide_eq_true tC_InvalidLog) kC_InvalidLog (of_decide_eq_true eC_InvalidLog) (of_decide_eq_true tyC_InvalidLog) hdC_InvalidLog (of_decide_eq_true vE_InvalidLog) ei_InvalidLog (of_decide_eq_true su_InvalidLog) (of_decide_eq_true mr_InvalidLog) fl_InvalidLog cd_InvalidLog lc_InvalidLog v2_InvalidLog fe_InvalidLog ce_InvalidLog (of_decide_eq_true no_InvalidLog) (of_decide_eq_true nC_InvalidModes) lk_InvalidModes rv_InvalidModes (of_decide_eq_true sa_InvalidModes) (of_decide_eq_true ga_InvalidModes) (of_decide_eq_true gg_InvalidModes) (of_decide_eq_true iC_InvalidModes) (of_decide_eq_true tC_InvalidModes) kC_InvalidModes (of_decide_eq_true eC_InvalidModes) (of_decide_eq_true tyC_InvalidModes) hdC_InvalidModes (of_decide_eq_true vE_InvalidModes) ei_InvalidModes (of_decide_eq_true su_InvalidModes) (of_decide_eq_true mr_InvalidModes) fl_InvalidModes cd_InvalidModes lc_InvalidModes v2_InvalidModes fe_InvalidModes ce_InvalidModes (of_decide_eq_true no_InvalidModes) (of_decide_eq_true nC_InvalidName) lk_InvalidName rv_InvalidName (of_decide_eq_true sa_InvalidName) (of_decide_eq_true ga_InvalidName) (of_decide_eq_true gg_InvalidName) (of_decide_eq_true iC_InvalidName) (of_decide_eq_true tC_InvalidName) kC_InvalidName (of_decide_eq_true eC_InvalidName) (of_decide_eq_true tyC_InvalidName) hdC_InvalidName (of_decide_eq_true vE_InvalidName) ei_InvalidName (of_decide_eq_true su_InvalidName) (of_decide_eq_true mr_InvalidName) fl_InvalidName cd_InvalidName lc_InvalidName v2_InvalidName fe_InvalidName ce_InvalidName (of_decide_eq_true no_InvalidName) (of_decide_eq_true nC_InvalidNumber) lk_InvalidNumber rv_InvalidNumber (of_decide_eq_true sa_InvalidNumber) (of_decide_eq_true ga_InvalidNumber) (of_decide_eq_true gg_InvalidNumber) (of_decide_eq_true iC_InvalidNumber) (of_decide_eq_true tC_InvalidNumber) kC_InvalidNumber (of_decide_eq_true eC_InvalidNumber) (of_decide_eq_true tyC_InvalidNumber) hdC_InvalidNumber (of_decide_eq_true vE_InvalidNumber) ei_InvalidNumber (of_decide_eq_true su_InvalidNumber) (of_decide_eq_true mr_InvalidNumber) fl_InvalidNumber cd_InvalidNumber lc_InvalidNumber v2_InvalidNumber fe_InvalidNumber ce_InvalidNumber (of_decide_eq_true no_InvalidNumber) (of_decide_eq_true nC_InvalidProgram) lk_InvalidProgram rv_InvalidProgram (of_decide_eq_true sa_InvalidProgram) (of_decide_eq_true ga_InvalidProgram) (of_decide_eq_true gg_InvalidProgram) (of_decide_eq_true iC_InvalidProgram) (of_decide_eq_true tC_InvalidProgram) kC_InvalidProgram (of_decide_eq_true eC_InvalidProgram) (of_decide_eq_true tyC_InvalidProgram) hdC_InvalidProgram (of_decide_eq_true vE_InvalidProgram) ei_InvalidProgram (of_decide_eq_true su_InvalidProgram) (of_decide_eq_true mr_InvalidProgram) fl_InvalidProgram cd_InvalidProgram lc_InvalidProgram v2_InvalidProgram fe_InvalidProgram ce_InvalidProgram (of_decide_eq_true no_InvalidProgram) (of_decide_eq_true nC_InvalidPrograms) lk_InvalidPrograms rv_InvalidPrograms (of_decide_eq_true sa_InvalidPrograms) (of_decide_eq_true ga_InvalidPrograms) (of_decide_eq_true gg_InvalidPrograms) (of_decide_eq_true iC_InvalidPrograms) (of_decide_eq_true tC_InvalidPrograms) kC_InvalidPrograms (of_decide_eq_true eC_InvalidPrograms) (of_decide_eq_true tyC_InvalidPrograms) hdC_InvalidPrograms (of_decide_eq_true vE_InvalidPrograms) ei_InvalidPrograms (of_decide_eq_true su_InvalidPrograms) (of_decide_eq_true mr_InvalidPrograms) fl_InvalidPrograms cd_InvalidPrograms lc_InvalidPrograms v2_InvalidPrograms fe_InvalidPrograms ce_InvalidPrograms (of_decide_eq_true no_InvalidPrograms) (of_decide_eq_true nC_InvalidProtocol) lk_InvalidProtocol rv_InvalidProtocol (of_decide_eq_true sa_InvalidProtocol) (of_decide_eq_true ga_InvalidProtocol) (of_decide_eq_true gg_InvalidProtocol) (of_decide_eq_true iC_InvalidProtocol) (of_decide_eq_true tC_InvalidProtocol) kC_InvalidProtocol (of_decide_eq_true eC_InvalidProtocol) (of_decide_eq_true tyC_InvalidProtocol) hdC_InvalidProtocol (of_decide_eq_true vE_InvalidProtocol) ei_InvalidProtocol (of_decide_eq_true su_InvalidProtocol) (of_decide_eq_true mr_InvalidProtocol) fl_InvalidProtocol cd_InvalidProtocol lc_InvalidProtocol v2_InvalidProtocol fe_InvalidProtocol ce_InvalidProtocol (of_decide_eq_true no_InvalidProtocol) (of_decide_eq_true nC_InvalidRows) lk_InvalidRows rv_InvalidRows (of_decide_eq_true sa_InvalidRows) (of_decide_eq_true ga_InvalidRows) (of_decide_eq_true gg_InvalidRows) (of_decide_eq_true iC_InvalidRows) (of_decide_eq_true tC_InvalidRows) kC_InvalidRows (of_decide_eq_true eC_InvalidRows) (of_decide_eq_true tyC_InvalidRows) hdC_InvalidRows (of_decide_eq_true vE_InvalidRows) ei_InvalidRows (of_decide_eq_true su_InvalidRows) (of_decide_eq_true mr_InvalidRows) fl_InvalidRows cd_InvalidRows lc_InvalidRows v2_InvalidRows fe_InvalidRows ce_InvalidRows (of_decide_eq_true no_InvalidRows) (of_decide_eq_true nC_InvalidScene) lk_InvalidScene rv_InvalidScene (of_decide_eq_true sa_InvalidScene) (of_decide_eq_true ga_InvalidScene) (of_decide_eq_true gg_InvalidScene) (of_decide_eq_true iC_InvalidScene) (of_decide_eq_true tC_InvalidScene) kC_InvalidScene (of_decide_eq_true eC_InvalidScene) (of_decide_eq_true tyC_InvalidScene) hdC_InvalidScene (of_decide_eq_true vE_InvalidScene) ei_InvalidScene (of_decide_eq_true su_InvalidScene) (of_decide_eq_true mr_InvalidScene) fl_InvalidScene cd_InvalidScene lc_InvalidScene v2_InvalidScene fe_InvalidScene ce_InvalidScene (of_decide_eq_true no_InvalidScene) (of_decide_eq_true nC_InvalidSession) lk_InvalidSession rv_InvalidSession (of_decide_eq_true sa_InvalidSession) (of_decide_eq_true ga_InvalidSession) (of_decide_eq_true gg_InvalidSession) (of_decide_eq_true iC_InvalidSession) (of_decide_eq_true tC_InvalidSession) kC_InvalidSession (of_decide_eq_true eC_InvalidSession) (of_decide_eq_true tyC_InvalidSession) hdC_InvalidSession (of_decide_eq_true vE_InvalidSession) ei_InvalidSession (of_decide_eq_true su_InvalidSession) (of_decide_eq_true mr_InvalidSession) fl_InvalidSession cd_InvalidSession lc_InvalidSession v2_InvalidSession fe_InvalidSession ce_InvalidSession (of_decide_eq_true no_InvalidSession) (of_decide_eq_true nC_InvalidSpan) lk_InvalidSpan rv_InvalidSpan (of_decide_eq_true sa_InvalidSpan) (of_decide_eq_true ga_InvalidSpan) (of_decide_eq_true gg_InvalidSpan) (of_decide_eq_true iC_InvalidSpan) (of_decide_eq_true tC_InvalidSpan) kC_InvalidSpan (of_decide_eq_true eC_InvalidSpan) (of_decide_eq_true tyC_InvalidSpan) hdC_InvalidSpan (of_decide_eq_true vE_InvalidSpan) ei_InvalidSpan (of_decide_eq_true su_InvalidSpan) (of_decide_eq_true mr_InvalidSpan) fl_InvalidSpan cd_InvalidSpan lc_InvalidSpan v2_InvalidSpan fe_InvalidSpan ce_InvalidSpan (of_decide_eq_true no_InvalidSpan) (of_decide_eq_true nC_InvalidSpans) lk_InvalidSpans rv_InvalidSpans (of_decide_eq_true sa_InvalidSpans) (of_decide_eq_true ga_InvalidSpans) (of_decide_eq_true gg_InvalidSpans) (of_decide_eq_true iC_InvalidSpans) (of_decide_eq_true tC_InvalidSpans) kC_InvalidSpans (of_decide_eq_true eC_InvalidSpans) (of_decide_eq_true tyC_InvalidSpans) hdC_InvalidSpans (of_decide_eq_true vE_InvalidSpans) ei_InvalidSpans (of_decide_eq_true su_InvalidSpans) (of_decide_eq_true mr_InvalidSpans) fl_InvalidSpans cd_InvalidSpans lc_InvalidSpans v2_InvalidSpans fe_InvalidSpans ce_InvalidSpans (of_decide_eq_true no_InvalidSpans) (of_decide_eq_true nC_InvalidStore) lk_InvalidStore rv_InvalidStore (of_decide_eq_true sa_InvalidStore) (of_decide_eq_true ga_InvalidStore) (of_decide_eq_true gg_InvalidStore) (of_decide_eq_true iC_InvalidStore) (of_decide_eq_true tC_InvalidStore) kC_InvalidStore (of_decide_eq_true eC_InvalidStore) (of_decide_eq_true tyC_InvalidStore) hdC_InvalidStore (of_decide_eq_true vE_InvalidStore) ei_InvalidStore (of_decide_eq_true su_InvalidStore) (of_decide_eq_true mr_InvalidStore) fl_InvalidStore cd_InvalidStore lc_InvalidStore v2_InvalidStore fe_InvalidStore ce_InvalidStore (of_decide_eq_true no_InvalidStore) (of_decide_eq_true nC_InvalidStrengths) lk_InvalidStrengths rv_InvalidStrengths (of_decide_eq_true sa_InvalidStrengths) (of_decide_eq_true ga_InvalidStrengths) (of_decide_eq_true gg_InvalidStrengths) (of_decide_eq_true iC_InvalidStrengths) (of_decide_eq_true tC_InvalidStrengths) kC_InvalidStrengths (of_decide_eq_true eC_InvalidStrengths) (of_decide_eq_true tyC_InvalidStrengths) hdC_InvalidStrengths (of_decide_eq_true vE_InvalidStrengths) ei_InvalidStrengths (of_decide_eq_true su_InvalidStrengths) (of_decide_eq_true mr_InvalidStrengths) fl_InvalidStrengths cd_InvalidStrengths lc_InvalidStrengths v2_InvalidStrengths fe_InvalidStrengths ce_InvalidStrengths (of_decide_eq_true no_InvalidStrengths) (of_decide_eq_true nC_InvalidText) lk_InvalidText rv_InvalidText (of_decide_eq_true sa_InvalidText) (of_decide_eq_true ga_InvalidText) (of_decide_eq_true gg_InvalidText) (of_decide_eq_true iC_InvalidText) (of_decide_eq_true tC_InvalidText) kC_InvalidText (of_decide_eq_true eC_InvalidText) (of_decide_eq_true tyC_InvalidText) hdC_InvalidText (of_decide_eq_true vE_InvalidText) ei_InvalidText (of_decide_eq_true su_InvalidText) (of_decide_eq_true mr_InvalidText) fl_InvalidText cd_InvalidText lc_InvalidText v2_InvalidText fe_InvalidText ce_InvalidText (of_decide_eq_true no_InvalidText) (of_decide_eq_true nC_InvalidWeaving) lk_InvalidWeaving rv_InvalidWeaving (of_decide_eq_true sa_InvalidWeaving) (of_decide_eq_true ga_InvalidWeaving) (of_decide_eq_true gg_InvalidWeaving) (of_decide_eq_true iC_InvalidWeaving) (of_decide_eq_true tC_InvalidWeaving) kC_InvalidWeaving (of_decide_eq_true eC_InvalidWeaving) (of_decide_eq_true tyC_InvalidWeaving) hdC_InvalidWeaving (of_decide_eq_true vE_InvalidWeaving) ei_InvalidWeaving (of_decide_eq_true su_InvalidWeaving) (of_decide_eq_true mr_InvalidWeaving) fl_InvalidWeaving cd_InvalidWeaving lc_InvalidWeaving v2_InvalidWeaving fe_InvalidWeaving ce_InvalidWeaving (of_decide_eq_true no_InvalidWeaving) (of_decide_eq_true nC_NameTaken) lk_NameTaken rv_NameTaken (of_decide_eq_true sa_NameTaken) (of_decide_eq_true ga_NameTaken) (of_decide_eq_true gg_NameTaken) (of_decide_eq_true iC_NameTaken) (of_decide_eq_true tC_NameTaken) kC_NameTaken (of_decide_eq_true eC_NameTaken) (of_decide_eq_true tyC_NameTaken) hdC_NameTaken (of_decide_eq_true vE_NameTaken) ei_NameTaken (of_decide_eq_true su_NameTaken) (of_decide_eq_true mr_NameTaken) fl_NameTaken cd_NameTaken lc_NameTaken v2_NameTaken fe_NameTaken ce_NameTaken (of_decide_eq_true no_NameTaken) (of_decide_eq_true nC_NoProgram) lk_NoProgram rv_NoProgram (of_decide_eq_true sa_NoProgram) (of_decide_eq_true ga_NoProgram) (of_decide_eq_true gg_NoProgram) (of_decide_eq_true iC_NoProgram) (of_decide_eq_true tC_NoProgram) kC_NoProgram (of_decide_eq_true eC_NoProgram) (of_decide_eq_true tyC_NoProgram) hdC_NoProgram (of_decide_eq_true vE_NoProgram) ei_NoProgram (of_decide_eq_true su_NoProgram) (of_decide_eq_true mr_NoProgram) fl_NoProgram cd_NoProgram lc_NoProgram v2_NoProgram fe_NoProgram ce_NoProgram (of_decide_eq_true no_NoProgram) (of_decide_eq_true nC_NoStore) lk_NoStore rv_NoStore (of_decide_eq_true sa_NoStore) (of_decide_eq_true ga_NoStore) (of_decide_eq_true gg_NoStore) (of_decide_eq_true iC_NoStore) (of_decide_eq_true tC_NoStore) kC_NoStore (of_decide_eq_true eC_NoStore) (of_decide_eq_true tyC_NoStore) hdC_NoStore (of_decide_eq_true vE_NoStore) ei_NoStore (of_decide_eq_true su_NoStore) (of_decide_eq_true mr_NoStore) fl_NoStore cd_NoStore lc_NoStore v2_NoStore fe_NoStore ce_NoStore (of_decide_eq_true nC_NotInside) lk_NotInside rv_NotInside (of_decide_eq_true sa_NotInside) (of_decide_eq_true ga_NotInside) (of_decide_eq_true gg_NotInside) (of_decide_eq_true iC_NotInside) (of_decide_eq_true tC_NotInside) kC_NotInside (of_decide_eq_true eC_NotInside) (of_decide_eq_true tyC_NotInside) hdC_NotInside (of_decide_eq_true vE_NotInside) ei_NotInside (of_decide_eq_true su_NotInside) (of_decide_eq_true mr_NotInside) fl_NotInside cd_NotInside lc_NotInside v2_NotInside fe_NotInside ce_NotInside (of_decide_eq_true no_NotInside) (of_decide_eq_true nC_NotNeighbours) lk_NotNeighbours rv_NotNeighbours (of_decide_eq_true sa_NotNeighbours) (of_decide_eq_true ga_NotNeighbours) (of_decide_eq_true gg_NotNeighbours) (of_decide_eq_true iC_NotNeighbours) (of_decide_eq_true tC_NotNeighbours) kC_NotNeighbours (of_decide_eq_true eC_NotNeighbours) (of_decide_eq_true tyC_NotNeighbours) hdC_NotNeighbours (of_decide_eq_true vE_NotNeighbours) ei_NotNeighbours (of_decide_eq_true su_NotNeighbours) (of_decide_eq_true mr_NotNeighbours) fl_NotNeighbours cd_NotNeighbours lc_NotNeighbours v2_NotNeighbours fe_NotNeighbours ce_NotNeighbours (of_decide_eq_true no_NotNeighbours) (of_decide_eq_true nC_NotRight) lk_NotRight rv_NotRight (of_decide_eq_true sa_NotRight) (of_decide_eq_true ga_NotRight) (of_decide_eq_true gg_NotRight) (of_decide_eq_true iC_NotRight) (of_decide_eq_true tC_NotRight) kC_NotRight (of_decide_eq_true eC_NotRight) (of_decide_eq_true tyC_NotRight) hdC_NotRight (of_decide_eq_true vE_NotRight) ei_NotRight (of_decide_eq_true su_NotRight) (of_decide_eq_true mr_NotRight) fl_NotRight cd_NotRight lc_NotRight v2_NotRight fe_NotRight ce_NotRight (of_decide_eq_true nC_NothingBad) lk_NothingBad rv_NothingBad (of_decide_eq_true sa_NothingBad) (of_decide_eq_true ga_NothingBad) (of_decide_eq_true gg_NothingBad) (of_decide_eq_true iC_NothingBad) (of_decide_eq_true tC_NothingBad) kC_NothingBad (of_decide_eq_true eC_NothingBad) (of_decide_eq_true tyC_NothingBad) hdC_NothingBad (of_decide_eq_true vE_NothingBad) ei_NothingBad (of_decide_eq_true su_NothingBad) (of_decide_eq_true mr_NothingBad) fl_NothingBad cd_NothingBad lc_NothingBad v2_NothingBad fe_NothingBad ce_NothingBad (of_decide_eq_true nC_NothingToRedo) lk_NothingToRedo rv_NothingToRedo (of_decide_eq_true sa_NothingToRedo) (of_decide_eq_true ga_NothingToRedo) (of_decide_eq_true gg_NothingToRedo) (of_decide_eq_true iC_NothingToRedo) (of_decide_eq_true tC_NothingToRedo) kC_NothingToRedo (of_decide_eq_true eC_NothingToRedo) (of_decide_eq_true tyC_NothingToRedo) hdC_NothingToRedo (of_decide_eq_true vE_NothingToRedo) ei_NothingToRedo (of_decide_eq_true su_NothingToRedo) (of_decide_eq_true mr_NothingToRedo) fl_NothingToRedo cd_NothingToRedo lc_NothingToRedo v2_NothingToRedo fe_NothingToRedo ce_NothingToRedo (of_decide_eq_true nC_NothingToUndo) lk_NothingToUndo rv_NothingToUndo (of_decide_eq_true sa_NothingToUndo) (of_decide_eq_true ga_NothingToUndo) (of_decide_eq_true gg_NothingToUndo) (of_decide_eq_true iC_NothingToUndo) (of_decide_eq_true tC_NothingToUndo) kC_NothingToUndo (of_decide_eq_true eC_NothingToUndo) (of_decide_eq_true tyC_NothingToUndo) hdC_NothingToUndo (of_decide_eq_true vE_NothingToUndo) ei_NothingToUndo (of_decide_eq_true su_NothingToUndo) (of_decide_eq_true mr_NothingToUndo) fl_NothingToUndo cd_NothingToUndo lc_NothingToUndo v2_NothingToUndo fe_NothingToUndo ce_NothingToUndo (of_decide_eq_true nC_Overlap) lk_Overlap rv_Overlap (of_decide_eq_true sa_Overlap) (of_decide_eq_true ga_Overlap) (of_decide_eq_true gg_Overlap) (of_decide_eq_true iC_Overlap) (of_decide_eq_true tC_Overlap) kC_Overlap (of_decide_eq_true eC_Overlap) (of_decide_eq_true tyC_Overlap) hdC_Overlap (of_decide_eq_true vE_Overlap) ei_Overlap (of_decide_eq_true su_Overlap) (of_decide_eq_true mr_Overlap) fl_Overlap cd_Overlap lc_Overlap v2_Overlap fe_Overlap ce_Overlap (of_decide_eq_true no_Overlap) (of_decide_eq_true nC_TooMany) lk_TooMany rv_TooMany (of_decide_eq_true sa_TooMany) (of_decide_eq_true ga_TooMany) (of_decide_eq_true gg_TooMany) (of_decide_eq_true iC_TooMany) (of_decide_eq_true tC_TooMany) kC_TooMany (of_decide_eq_true eC_TooMany) (of_decide_eq_true tyC_TooMany) hdC_TooMany (of_decide_eq_true vE_TooMany) ei_TooMany (of_decide_eq_true su_TooMany) (of_decide_eq_true mr_TooMany) fl_TooMany cd_TooMany lc_TooMany v2_TooMany fe_TooMany ce_TooMany (of_decide_eq_true no_TooMany) (of_decide_eq_true nC_UnknownEntry) lk_UnknownEntry rv_UnknownEntry (of_decide_eq_true sa_UnknownEntry) (of_decide_eq_true ga_UnknownEntry) (of_decide_eq_true gg_UnknownEntry) (of_decide_eq_true iC_UnknownEntry) (of_decide_eq_true tC_UnknownEntry) kC_UnknownEntry (of_decide_eq_true eC_UnknownEntry) (of_decide_eq_true tyC_UnknownEntry) hdC_UnknownEntry (of_decide_eq_true vE_UnknownEntry) ei_UnknownEntry (of_decide_eq_true su_UnknownEntry) (of_decide_eq_true mr_UnknownEntry) fl_UnknownEntry cd_UnknownEntry lc_UnknownEntry v2_UnknownEntry fe_UnknownEntry ce_UnknownEntry (of_decide_eq_true no_UnknownEntry) (of_decide_eq_true nC_UnknownMode) lk_UnknownMode rv_UnknownMode (of_decide_eq_true sa_UnknownMode) (of_decide_eq_true ga_UnknownMode) (of_decide_eq_true gg_UnknownMode) (of_decide_eq_true iC_UnknownMode) (of_decide_eq_true tC_UnknownMode) kC_UnknownMode (of_decide_eq_true eC_UnknownMode) (of_decide_eq_true tyC_UnknownMode) hdC_UnknownMode (of_decide_eq_true vE_UnknownMode) ei_UnknownMode (of_decide_eq_true su_UnknownMode) (of_decide_eq_true mr_UnknownMode) fl_UnknownMode cd_UnknownMode lc_UnknownMode v2_UnknownMode fe_UnknownMode ce_UnknownMode (of_decide_eq_true no_UnknownMode) (of_decide_eq_true nC_UnknownPart) lk_UnknownPart rv_UnknownPart (of_decide_eq_true sa_UnknownPart) (of_decide_eq_true ga_UnknownPart) (of_decide_eq_true gg_UnknownPart) (of_decide_eq_true iC_UnknownPart) (of_decide_eq_true tC_UnknownPart) kC_UnknownPart (of_decide_eq_true eC_UnknownPart) (of_decide_eq_true tyC_UnknownPart) hdC_UnknownPart (of_decide_eq_true vE_UnknownPart) ei_UnknownPart (of_decide_eq_true su_UnknownPart) (of_decide_eq_true mr_UnknownPart) fl_UnknownPart cd_UnknownPart lc_UnknownPart v2_UnknownPart fe_UnknownPart ce_UnknownPart (of_decide_eq_true no_UnknownPart) (of_decide_eq_true nC_Waiting) lk_Waiting rv_Waiting (of_decide_eq_true sa_Waiting) (of_decide_eq_true ga_Waiting) (of_decide_eq_true gg_Waiting) (of_decide_eq_true iC_Waiting) (of_decide_eq_true tC_Waiting) kC_Waiting (of_decide_eq_true eC_Waiting) (of_decide_eq_true tyC_Waiting) hdC_Waiting (of_decide_eq_true vE_Waiting) ei_Waiting (of_decide_eq_true su_Waiting) (of_decide_eq_true mr_Waiting) fl_Waiting cd_Waiting lc_Waiting v2_Waiting fe_Waiting ce_Waiting (of_decide_eq_true no_Waiting) (of_decide_eq_true nC_PartsError) mb_PartsError zx_Duplicate zx_Ended zx_IndexError zx_InvalidCatalog zx_InvalidChange zx_InvalidClash zx_InvalidCommand zx_InvalidKey zx_InvalidLog zx_InvalidModes zx_InvalidName zx_InvalidNumber zx_InvalidProgram zx_InvalidPrograms zx_InvalidProtocol zx_InvalidRows zx_InvalidScene zx_InvalidSession zx_InvalidSpan zx_InvalidSpans zx_InvalidStore zx_InvalidStrengths zx_InvalidText zx_InvalidWeaving zx_KeyError zx_NameTaken zx_NoProgram zx_NoStore zx_NotInside zx_NotNeighbours zx_NotRight zx_NothingBad zx_NothingToRedo zx_NothingToUndo zx_Overlap zx_PartsError zx_TooMany zx_TypeError zx_UnknownEntry zx_UnknownMode zx_UnknownPart zx_ValueError zx_Waiting (of_decide_eq_true n_IndexError) (of_decide_eq_true n_KeyError) (of_decide_eq_true n_TypeError) (of_decide_eq_true n_ValueError) (of_decide_eq_true n_bool) (of_decide_eq_true n_isinstance) (of_decide_eq_true n_len) (of_decide_eq_true n_max) (of_decide_eq_true n_min) (of_decide_eq_true n_range) (of_decide_eq_true n_super)
end K04
open PySem PySem.W PySem.Calls PyProof.Rows
set_option maxRecDepth 100000 in
set_option maxHeartbeats 0 in
theorem PySem.Challenge.cw_hungparts_k04_exceptions_and_their_field_holds : PySem.Challenge.rw_hungparts_k04_exceptions_and_their_field.Holds := by
  w_on; o_law
  refine HandSHeadRun.head_any (r := OpenLaw.row PySem.Challenge.rw_hungparts_k04_exceptions_and_their_field) (q := view (OpenLaw.row PySem.Challenge.rw_hungparts_k04_exceptions_and_their_field).prog [48]) (H := SD.hHook K04.hdN K04.hdD) (ob := fun s => SD.hOb K04.hdN K04.hdD (HandSHeadRun.getT s)) (M := 20000) (loose := (K04.hdL0 ++ K04.hdL1 ++ K04.hdL2)) (d := HandSHeadRun.topDef (OpenLaw.row PySem.Challenge.rw_hungparts_k04_exceptions_and_their_field).prog 48) (kwd := [])
    (fun s => SD.hOb_eq (HandSHeadRun.getT_eq s)) (by kernel_rfl) (fun s => by kernel_rfl) K04.hdRun (by kernel_rfl) (by kernel_rfl) (by kernel_rfl) (by rfl) (by first | assumption | decide +kernel) (by decide +kernel) ⟨rfl, rfl, rfl, rfl, rfl, by decide +kernel⟩ ?hw ?hc
  case hw => w_witness2
  case hc =>
    refine SD.walk_lawE (l := PySem.Challenge.rw_hungparts_k04_exceptions_and_their_field) (p := "_law_script") (k := 2) (F := K04.f_law) rfl (by kernel_rfl) ⟨rfl, by decide, by decide⟩ ?F K04.law_true
    intro w mg fa h Y G hmg0
    obtain ⟨K, KX, c⟩ := Y
    have hmg : mg ("law" : PySem.Str) = some (.ref fa) := by
      have e : (HandSHeadRun.topDef (OpenLaw.row PySem.Challenge.rw_hungparts_k04_exceptions_and_their_field).prog 48).name = ("law" : PySem.Str) := by kernel_rfl
      rw [← e]
      exact hmg0
    exact ⟨K, KX, K04.ok_law (K04.txt_of KX G c) hmg⟩
