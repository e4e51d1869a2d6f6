import PyProof.Rows.All
import Wide.All
import OpenK.AllK
import Wide.FinOn
import PyProof.EqAt
import PyProof.EqKinds
import PyProof.TupleCall
import HandS.ForMost
import HandS.Exc
import HandS.TryOnly
import HandS.ExcOwn
import HandS.WordsExc
import HandS.CallSlots
import HandS.TryMany
import HandS.IsInst
import HandS.FStr
import HandS.Walk
import KE.KEqNest
import KE.KEqDict
import PyProof.NeKinds
import HandS.TupAny
import KE.KExcSuper
import HandS.ExcField
import HandS.ExcInit
import HandS.Defaults
import HandS.RaiseMore
import HandS.Dict
import HandS.WordsDict
import HandS.Small
import HandS.More
import HandS.Style
import KE.IntTextText
import PySem.Challenge.RW_hungparts_k21_steps_of_kinds
set_option Elab.async false
set_option linter.all false
set_option maxRecDepth 100000
set_option maxHeartbeats 4000000
namespace SD
open PySem PySem.Spec PyProof.Rows L2

/-! ### data, cells, results -/
abbrev Cs := List Nat
def mkS (s : Cs) : Str := ⟨s.toArray⟩
inductive D where
  | non | bl (b : Bool) | int (i : Int) | str (x : Cs) | tup (ds : List D) | lst (ds : List D) | dct (kvs : List (Key × D)) | scr (ns : List Int) | obj (c : Str) (fs : List (Str × D))
inductive U where
  | dat (d : D) | cell (k : Nat) | exn (a dd : Addr) (fs : List (Str × D)) | tup (us : List U)
/-- what stands in a cell: a list or a dict of data, an instance, a list of anything -/
inductive O where
  | lst (ds : List D) | dct (kvs : List (Key × D)) | obj (c : Str) (fs : List (Str × U)) | lsu (us : List U)
abbrev Mem := List O
abbrev En := List (Option U)
inductive Out (α : Type) where
  | ok (a : α) (m : Mem) | exc (c : Str) (fs : List (Str × D)) (m : Mem) | bad
inductive SOut where
  | nx (ρ : En) (m : Mem) | rt (u : U) (m : Mem) | bk (ρ : En) (m : Mem) | ct (ρ : En) (m : Mem) | exc (c : Str) (fs : List (Str × D)) (ρ : En) (m : Mem) | bad
def Out.bind {α β : Type} (o : Out α) (k : α → Mem → Out β) : Out β := match o with
  | .ok a m => k a m
  | .exc c fs m => .exc c fs m
  | .bad => .bad
abbrev Ev := En → Mem → Out U
abbrev Tv := En → Mem → Out Bool
abbrev Av := En → Mem → Out (List U)
abbrev Lv := En → Mem → Out (List D)
abbrev Sv := En → Mem → SOut

/-! ### how data lie in the heap -/
/-- the class named c stands at C; it is none of the built-in ones -/
structure CInfo (K : PySem.W.Frag) (c : Str) (C : Addr) : Prop where
  ns : PySem.W.nsIn K mainGlobals c = some (some (.ref C))
  cls : Cls K C
  isi : ∀ T ∈ (["int", "bool", "str", "tuple", "list", "dict"] : List String), PySem.W.kitOne K (.ref C) (.type T) = some false
  ca : PySem.W.findIn K (.ref C) "__class__" = some (some (.builtin "object.__class__"))
  cg : PySem.W.specialIn K (.builtin "object.__class__") "__get__" = some (some (.builtin "getset_descriptor.__get__"))
  ct : PySem.W.takesIn K (.builtin "object.__class__") = some true
  cm : PySem.W.mroIn K C (.type "object") = some true
theorem CInfo.inj {K : PySem.W.Frag} {c : Str} {C C' : Addr} (a : CInfo K c C) (b : CInfo K c C') : C = C' := by
  have := a.ns.symm.trans b.ns
  cases this; rfl
section
variable (K : PySem.W.Frag) (ξ : List Addr)
mutual
inductive Rep (H : Hp) (μ : List Addr) : V → D → Prop
  | non : Rep H μ .non .non
  | bl (b : Bool) : Rep H μ (.bl b) (.bl b)
  | int (i : Int) : Rep H μ (.int i) (.int i)
  | str (x : Cs) : Rep H μ (.str (mkS x)) (.str x)
  | tup {a : Addr} {xs : List V} {ds : List D} : a ∉ ξ ++ μ → Rd H a (.tup xs) → RepL H μ xs ds → Rep H μ (.ref a) (.tup ds)
  | ktup {a : Addr} {xs : List V} {ds : List D} : (∀ G : Hp, SqT K G a xs) → RepL H μ xs ds → Rep H μ (.ref a) (.tup ds)
  | lst {a : Addr} {xs : List V} {ds : List D} : a ∉ ξ ++ μ → H a = some (.lst xs) → RepL H μ xs ds → Rep H μ (.ref a) (.lst ds)
  | dct {a : Addr} {o : Obj} {kvs : List (Key × V)} {ds : List (Key × D)} : a ∉ ξ ++ μ → H a = some (.frz o (.dK kvs)) → RepK H μ kvs ds → Rep H μ (.ref a) (.dct ds)
  | scr {a : Addr} {ns : List Int} : a ∉ ξ ++ μ → Rd H a (.lst (ns.map V.int)) → Rep H μ (.ref a) (.scr ns)
  | kscr {a : Addr} {ns : List Int} : (∀ G : Hp, SqL K G a (ns.map V.int)) → Rep H μ (.ref a) (.scr ns)
  | obj {a C dx : Addr} {c : Str} {vs : List (Str × V)} {fs : List (Str × D)} : a ∉ ξ ++ μ → CInfo K c C → H a = some (.ins C dx vs) → RepF H μ vs fs → Rep H μ (.ref a) (.obj c fs)
inductive RepL (H : Hp) (μ : List Addr) : List V → List D → Prop
  | nil : RepL H μ [] []
  | cons {v : V} {d : D} {vs : List V} {ds : List D} : Rep H μ v d → RepL H μ vs ds → RepL H μ (v :: vs) (d :: ds)
inductive RepK (H : Hp) (μ : List Addr) : List (Key × V) → List (Key × D) → Prop
  | nil : RepK H μ [] []
  | cons {k : Key} {v : V} {d : D} {vs : List (Key × V)} {ds : List (Key × D)} : Rep H μ v d → RepK H μ vs ds → RepK H μ ((k, v) :: vs) ((k, d) :: ds)
/-- fields by name -/
inductive RepF (H : Hp) (μ : List Addr) : List (Str × V) → List (Str × D) → Prop
  | nil : RepF H μ [] []
  | cons {f : Str} {v : V} {d : D} {vs : List (Str × V)} {ds : List (Str × D)} : Rep H μ v d → RepF H μ vs ds → RepF H μ ((f, v) :: vs) ((f, d) :: ds)
end
mutual
inductive RepU (H : Hp) (μ : List Addr) : V → U → Prop
  | dat {v : V} {d : D} : Rep K ξ H μ v d → RepU H μ v (.dat d)
  | cell {a : Addr} {k : Nat} : μ[k]? = some a → RepU H μ (.ref a) (.cell k)
  | exn {a dd : Addr} {vs : List (Str × V)} {fs : List (Str × D)} : dd ∉ ξ ++ μ → H dd = some (.xd vs) → RepF K ξ H μ vs fs → RepU H μ (.ref a) (.exn a dd fs)
  | tup {a : Addr} {xs : List V} {us : List U} : a ∉ ξ ++ μ → Rd H a (.tup xs) → RepUs H μ xs us → RepU H μ (.ref a) (.tup us)
inductive RepUs (H : Hp) (μ : List Addr) : List V → List U → Prop
  | nil : RepUs H μ [] []
  | cons {v : V} {u : U} {vs : List V} {us : List U} : RepU H μ v u → RepUs H μ vs us → RepUs H μ (v :: vs) (u :: us)
end
inductive RepFU (H : Hp) (μ : List Addr) : List (Str × V) → List (Str × U) → Prop
  | nil : RepFU H μ [] []
  | cons {f : Str} {v : V} {u : U} {vs : List (Str × V)} {us : List (Str × U)} : RepU K ξ H μ v u → RepFU H μ vs us → RepFU H μ ((f, v) :: vs) ((f, u) :: us)
/-- nothing of the written part is tracked -/
def KH (H : Hp) : Prop := ∀ b o, K.lookup b = some o → H b = none
/-- a step: what was tracked outside the cells stands; new cells are new -/
structure Nxt (H : Hp) (μ : List Addr) (H' : Hp) (μ' : List Addr) : Prop where
  same : ∀ b o, b ∉ μ → H b = some o → H' b = some o
  pre : ∃ ν, μ' = μ ++ ν ∧ ∀ a ∈ ν, a ∉ μ ∧ H a = none ∧ K.lookup a = none
inductive RepO (H : Hp) (μ : List Addr) : Addr → O → Prop
  | lst {a : Addr} {xs : List V} {ds : List D} : H a = some (.lst xs) → RepL K ξ H μ xs ds → RepO H μ a (.lst ds)
  | dct {a : Addr} {xs : List (Key × V)} {ds : List (Key × D)} : H a = some (.dK xs) → RepK K ξ H μ xs ds → RepO H μ a (.dct ds)
  | obj {a C dx : Addr} {c : Str} {vs : List (Str × V)} {fs : List (Str × U)} : CInfo K c C → H a = some (.ins C dx vs) → RepFU K ξ H μ vs fs → RepO H μ a (.obj c fs)
  | lsu {a : Addr} {xs : List V} {us : List U} : H a = some (.lst xs) → RepUs K ξ H μ xs us → RepO H μ a (.lsu us)
structure RelM (H : Hp) (μ : List Addr) (M : Mem) : Prop where
  len : μ.length = M.length
  nd : μ.Nodup
  xt : ∀ a ∈ ξ, (∃ o, H a = some o) ∧ a ∉ μ
  at_ : ∀ (k : Nat) (a : Addr) (o : O), μ[k]? = some a → M[k]? = some o → RepO K ξ H μ a o
structure RelE (H : Hp) (μ : List Addr) (σ : L2.St) (ρ : En) : Prop where
  len : σ.length = ρ.length
  at_ : ∀ (i : Nat) (u : U), ρ[i]? = some (some u) → ∃ v, σ[i]? = some (some v) ∧ RepU K ξ H μ v u
/-- .. no dict, or one with fields -/
def RepX (H : Hp) (μ : List Addr) (d : Option Addr) (fs : List (Str × D)) : Prop := (d = none ∧ fs = []) ∨ ∃ dd vs, d = some dd ∧ dd ∉ ξ ++ μ ∧ H dd = some (.xd vs) ∧ RepF K ξ H μ vs fs
end

section
variable {K : PySem.W.Frag} {ξ : List Addr} {H H' H1 H2 : Hp} {μ μ' μ1 μ2 : List Addr}
theorem Nxt.refl : Nxt K H μ H μ := ⟨fun _ _ _ e => e, [], by simp, fun _ h => by simp at h⟩
theorem nm {b : Addr} (h : b ∉ ξ ++ μ) : b ∉ ξ ∧ b ∉ μ := ⟨fun z => h (List.mem_append_left _ z), fun z => h (List.mem_append_right _ z)⟩
theorem nm_of {b : Addr} (h1 : b ∉ ξ) (h2 : b ∉ μ) : b ∉ ξ ++ μ := fun z => (List.mem_append.mp z).elim h1 h2
theorem Nxt.keep0 (n : Nxt K H μ H' μ') {b : Addr} {o : HO} (hb : b ∉ μ) (e : H b = some o) : H' b = some o ∧ b ∉ μ' := by
  refine ⟨n.same b o hb e, fun h => ?_⟩
  obtain ⟨ν, rfl, hν⟩ := n.pre
  rcases List.mem_append.mp h with h | h
  · exact hb h
  · rw [(hν b h).2.1] at e; cases e
/-- the weak step: what is excluded may change, too -/
structure Nw (ξ : List Addr) (H : Hp) (μ : List Addr) (H' : Hp) (μ' : List Addr) : Prop where
  same : ∀ b o, b ∉ ξ ++ μ → H b = some o → H' b = some o
  pre : ∃ ν, μ' = μ ++ ν ∧ ∀ a ∈ ν, a ∉ μ ∧ H a = none
theorem Nxt.w (n : Nxt K H μ H' μ') : Nw ξ H μ H' μ' := ⟨fun b o h e => n.same b o (nm h).2 e, let ⟨ν, e, h⟩ := n.pre; ⟨ν, e, fun a ha => ⟨(h a ha).1, (h a ha).2.1⟩⟩⟩
theorem Nw.keep (n : Nw ξ H μ H' μ') {b : Addr} {o : HO} (hb : b ∉ ξ ++ μ) (e : H b = some o) : H' b = some o ∧ b ∉ ξ ++ μ' := by
  refine ⟨n.same b o hb e, nm_of (nm hb).1 fun h => ?_⟩
  obtain ⟨ν, rfl, hν⟩ := n.pre
  rcases List.mem_append.mp h with h | h
  · exact (nm hb).2 h
  · rw [(hν b h).2] at e; cases e
theorem Nw.cell (n : Nw ξ H μ H' μ') {k : Nat} {a : Addr} (e : μ[k]? = some a) : μ'[k]? = some a := by
  obtain ⟨ν, rfl, _⟩ := n.pre
  rw [List.getElem?_append_left (List.getElem?_eq_some_iff.mp e).1]; exact e
/-- an excluded object is written -/
theorem Nw.own {p : Addr} {o : HO} (h : p ∈ ξ) : Nw ξ H μ (upd H p o) μ :=
  ⟨fun b u hb e => by rw [upd_ne (show b ≠ p from fun z => (nm hb).1 (by rw [z]; exact h))]; exact e, [], by simp, fun _ h => by simp at h⟩
theorem Nxt.cell (n : Nxt K H μ H' μ') {k : Nat} {a : Addr} (e : μ[k]? = some a) : μ'[k]? = some a := by
  obtain ⟨ν, rfl, _⟩ := n.pre
  rw [List.getElem?_append_left (List.getElem?_eq_some_iff.mp e).1]; exact e
theorem Nxt.trans (a : Nxt K H μ H1 μ1) (b : Nxt K H1 μ1 H2 μ2) : Nxt K H μ H2 μ2 := by
  refine ⟨fun c o hc e => ?_, ?_⟩
  · obtain ⟨e1, h1⟩ := a.keep0 hc e
    exact b.same c o h1 e1
  · obtain ⟨ν1, rfl, h1⟩ := a.pre
    obtain ⟨ν2, rfl, h2⟩ := b.pre
    refine ⟨ν1 ++ ν2, by simp, fun c hc => ?_⟩
    rcases List.mem_append.mp hc with hc | hc
    · exact h1 c hc
    · obtain ⟨g1, g2, g3⟩ := h2 c hc
      have hm : c ∉ μ := fun z => g1 (List.mem_append_left _ z)
      refine ⟨hm, ?_, g3⟩
      cases e : H c with
      | none => rfl
      | some o =>
        have := (a.keep0 hm e).1
        rw [g2] at this; cases this
theorem Rd.nextW (n : Nw ξ H μ H' μ') {a : Addr} {u : HO} (ha : a ∉ ξ ++ μ) (r : Rd H a u) : Rd H' a u ∧ a ∉ ξ ++ μ' := by
  rcases r with r | ⟨o, r⟩
  · exact ⟨.inl (n.keep ha r).1, (n.keep ha r).2⟩
  · exact ⟨.inr ⟨o, (n.keep ha r).1⟩, (n.keep ha r).2⟩
mutual
theorem Rep.nextW (n : Nw ξ H μ H' μ') : ∀ {v : V} {d : D}, Rep K ξ H μ v d → Rep K ξ H' μ' v d
  | _, _, .non => .non
  | _, _, .bl b => .bl b
  | _, _, .int b => .int b
  | _, _, .str b => .str b
  | _, _, .tup h e r => .tup (Rd.nextW n h e).2 (Rd.nextW n h e).1 (RepL.nextW n r)
  | _, _, .ktup e r => .ktup e (RepL.nextW n r)
  | _, _, .lst h e r => .lst (n.keep h e).2 (n.keep h e).1 (RepL.nextW n r)
  | _, _, .dct h e r => .dct (n.keep h e).2 (n.keep h e).1 (RepK.nextW n r)
  | _, _, .scr h e => .scr (Rd.nextW n h e).2 (Rd.nextW n h e).1
  | _, _, .kscr e => .kscr e
  | _, _, .obj h e1 e r => .obj (n.keep h e).2 e1 (n.keep h e).1 (RepF.nextW n r)
theorem RepL.nextW (n : Nw ξ H μ H' μ') : ∀ {v : List V} {d : List D}, RepL K ξ H μ v d → RepL K ξ H' μ' v d
  | _, _, .nil => .nil
  | _, _, .cons a b => .cons (Rep.nextW n a) (RepL.nextW n b)
theorem RepK.nextW (n : Nw ξ H μ H' μ') : ∀ {v : List (Key × V)} {d : List (Key × D)}, RepK K ξ H μ v d → RepK K ξ H' μ' v d
  | _, _, .nil => .nil
  | _, _, .cons a b => .cons (Rep.nextW n a) (RepK.nextW n b)
theorem RepF.nextW (n : Nw ξ H μ H' μ') : ∀ {v : List (Str × V)} {d : List (Str × D)}, RepF K ξ H μ v d → RepF K ξ H' μ' v d
  | _, _, .nil => .nil
  | _, _, .cons a b => .cons (Rep.nextW n a) (RepF.nextW n b)
end
mutual
theorem RepU.nextW (n : Nw ξ H μ H' μ') : ∀ {v : V} {u : U}, RepU K ξ H μ v u → RepU K ξ H' μ' v u
  | _, _, .dat r => .dat (Rep.nextW n r)
  | _, _, .cell e => .cell (n.cell e)
  | _, _, .exn h e r => .exn (n.keep h e).2 (n.keep h e).1 (RepF.nextW n r)
  | _, _, .tup h e r => .tup (Rd.nextW n h e).2 (Rd.nextW n h e).1 (RepUs.nextW n r)
theorem RepUs.nextW (n : Nw ξ H μ H' μ') : ∀ {v : List V} {u : List U}, RepUs K ξ H μ v u → RepUs K ξ H' μ' v u
  | _, _, .nil => .nil
  | _, _, .cons a b => .cons (RepU.nextW n a) (RepUs.nextW n b)
end
theorem RepFU.nextW (n : Nw ξ H μ H' μ') : ∀ {v : List (Str × V)} {d : List (Str × U)}, RepFU K ξ H μ v d → RepFU K ξ H' μ' v d
  | _, _, .nil => .nil
  | _, _, .cons a b => .cons (RepU.nextW n a) (RepFU.nextW n b)
theorem RelE.nextW (n : Nw ξ H μ H' μ') {σ : L2.St} {ρ : En} (r : RelE K ξ H μ σ ρ) : RelE K ξ H' μ' σ ρ :=
  ⟨r.len, fun i u e => let ⟨v, e1, e2⟩ := r.at_ i u e; ⟨v, e1, RepU.nextW n e2⟩⟩
theorem RepO.next_at {a : Addr} {o : O} (r : RepO K ξ H μ a o) (n : Nw ξ H μ H' μ') (e : H' a = H a) : RepO K ξ H' μ' a o := by
  cases r with
  | lst h r => exact .lst (e.trans h) (RepL.nextW n r)
  | dct h r => exact .dct (e.trans h) (RepK.nextW n r)
  | obj h1 h r => exact .obj h1 (e.trans h) (RepFU.nextW n r)
  | lsu h r => exact .lsu (e.trans h) (RepUs.nextW n r)
theorem Rd.next (n : Nxt K H μ H' μ') {a : Addr} {u : HO} (ha : a ∉ ξ ++ μ) (r : Rd H a u) : Rd H' a u ∧ a ∉ ξ ++ μ' := Rd.nextW n.w ha r
theorem Rep.next (n : Nxt K H μ H' μ') {v : V} {d : D} (r : Rep K ξ H μ v d) : Rep K ξ H' μ' v d := Rep.nextW n.w r
theorem RepL.next (n : Nxt K H μ H' μ') {v : List V} {d : List D} (r : RepL K ξ H μ v d) : RepL K ξ H' μ' v d := RepL.nextW n.w r
theorem RepK.next (n : Nxt K H μ H' μ') {v : List (Key × V)} {d : List (Key × D)} (r : RepK K ξ H μ v d) : RepK K ξ H' μ' v d := RepK.nextW n.w r
theorem RepF.next (n : Nxt K H μ H' μ') {v : List (Str × V)} {d : List (Str × D)} (r : RepF K ξ H μ v d) : RepF K ξ H' μ' v d := RepF.nextW n.w r
theorem RepU.next (n : Nxt K H μ H' μ') {v : V} {u : U} (r : RepU K ξ H μ v u) : RepU K ξ H' μ' v u := RepU.nextW n.w r
theorem RepUs.next (n : Nxt K H μ H' μ') {v : List V} {u : List U} (r : RepUs K ξ H μ v u) : RepUs K ξ H' μ' v u := RepUs.nextW n.w r
theorem RelE.next (n : Nxt K H μ H' μ') {σ : L2.St} {ρ : En} (r : RelE K ξ H μ σ ρ) : RelE K ξ H' μ' σ ρ := RelE.nextW n.w r
/-- the cells after a step that leaves them as they were -/
theorem RelM.next (r : RelM K ξ H μ M) (n : Nxt K H μ H' μ) (e : ∀ a ∈ μ, H' a = H a) : RelM K ξ H' μ M :=
  ⟨r.len, r.nd, fun a ha => ⟨let ⟨o, h⟩ := (r.xt a ha).1; ⟨o, n.same a o (r.xt a ha).2 h⟩, (r.xt a ha).2⟩, fun k a o h1 h2 => (r.at_ k a o h1 h2).next_at n.w (e a (List.mem_of_getElem? h1))⟩
/-- a new object beside -/
theorem Nxt.laid {p : Addr} {o : HO} (hp : H p = none) : Nxt K H μ (upd H p o) μ :=
  ⟨fun b u _ e => by rw [upd_ne (ne_of_none e hp)]; exact e, [], by simp, fun _ h => by simp at h⟩
theorem RelM.tracked (r : RelM K ξ H μ M) {a : Addr} (h : a ∈ μ) : ∃ o, H a = some o := by
  obtain ⟨k, e⟩ := List.mem_iff_getElem?.mp h
  have hk : k < M.length := by rw [← r.len]; exact (List.getElem?_eq_some_iff.mp e).1
  obtain ⟨o, ho⟩ : ∃ o, M[k]? = some o := ⟨_, List.getElem?_eq_getElem hk⟩
  cases r.at_ k a o e ho with
  | lst h _ => exact ⟨_, h⟩
  | dct h _ => exact ⟨_, h⟩
  | obj _ h _ => exact ⟨_, h⟩
  | lsu h _ => exact ⟨_, h⟩
theorem RelM.new0 (r : RelM K ξ H μ M) {p : Addr} (hp : H p = none) : p ∉ μ := fun h => by
  obtain ⟨o, e⟩ := r.tracked h
  rw [hp] at e; cases e
theorem RelM.new (r : RelM K ξ H μ M) {p : Addr} (hp : H p = none) : p ∉ ξ ++ μ := nm_of (fun h => by
  obtain ⟨⟨o, e⟩, _⟩ := r.xt p h
  rw [hp] at e; cases e) (r.new0 hp)
theorem RelM.laid (r : RelM K ξ H μ M) {p : Addr} {o : HO} (hp : H p = none) : RelM K ξ (upd H p o) μ M :=
  r.next (Nxt.laid hp) fun a ha => upd_ne fun z => r.new0 hp (z ▸ ha)
/-- a new object becomes a cell -/
theorem Nxt.laidC {p : Addr} {o : HO} (r : RelM K ξ H μ M) (hp : H p = none) (hk : K.lookup p = none) : Nxt K H μ (upd H p o) (μ ++ [p]) :=
  ⟨fun b u _ e => by rw [upd_ne (ne_of_none e hp)]; exact e, [p], rfl, fun a h => by
    have : a = p := by simpa using h
    subst this
    exact ⟨r.new0 hp, hp, hk⟩⟩
theorem RelM.laidO (r : RelM K ξ H μ M) {p : Addr} {w : HO} {oo : O} (hp : H p = none) (hk : K.lookup p = none) (hx : RepO K ξ (upd H p w) (μ ++ [p]) p oo) : RelM K ξ (upd H p w) (μ ++ [p]) (M ++ [oo]) := by
  have n : Nxt K H μ (upd H p w) (μ ++ [p]) := Nxt.laidC r hp hk
  refine ⟨by simp [r.len], ?_, fun a ha => ?_, fun k a o h1 h2 => ?_⟩
  · rw [List.nodup_append]
    refine ⟨r.nd, by simp, fun a ha b hb z => ?_⟩
    have : b = p := by simpa using hb
    subst this z
    exact r.new0 hp ha
  · obtain ⟨⟨o, e⟩, hn⟩ := r.xt a ha
    refine ⟨⟨o, n.same a o hn e⟩, fun z => ?_⟩
    rcases List.mem_append.mp z with z | z
    · exact hn z
    · have : a = p := by simpa using z
      subst this
      rw [hp] at e; cases e
  · by_cases hk' : k < μ.length
    · rw [List.getElem?_append_left hk'] at h1
      rw [List.getElem?_append_left (by rw [← r.len]; exact hk')] at h2
      refine (r.at_ k a o h1 h2).next_at n.w (upd_ne fun z => ?_)
      subst z
      exact r.new0 hp (List.mem_of_getElem? h1)
    · have e : k = μ.length := by
        have := (List.getElem?_eq_some_iff.mp h1).1
        simp at this; omega
      subst e
      rw [List.getElem?_append_right (Nat.le_refl _)] at h1
      rw [r.len, List.getElem?_append_right (Nat.le_refl _)] at h2
      simp at h1 h2
      subst h1 h2
      exact hx
theorem RelM.laidC (r : RelM K ξ H μ M) {p : Addr} {xs : List V} {ds : List D} (hp : H p = none) (hk : K.lookup p = none) (hx : RepL K ξ H μ xs ds) : RelM K ξ (upd H p (.lst xs)) (μ ++ [p]) (M ++ [.lst ds]) :=
  r.laidO hp hk (.lst upd_same (RepL.next (Nxt.laidC r hp hk) hx))
theorem ix_inj {α : Type} {l : List α} (nd : l.Nodup) {i j : Nat} {x : α} (a : l[i]? = some x) (b : l[j]? = some x) : i = j := by
  obtain ⟨h1, e1⟩ := List.getElem?_eq_some_iff.mp a
  obtain ⟨h2, e2⟩ := List.getElem?_eq_some_iff.mp b
  exact (List.getElem_inj nd).mp (e1.trans e2.symm)
/-- a cell is written -/
theorem Nxt.wr {p : Addr} {o : HO} (h : p ∈ μ) : Nxt K H μ (upd H p o) μ :=
  ⟨fun b u hb e => by rw [upd_ne (show b ≠ p from fun z => hb (by rw [z]; exact h))]; exact e, [], by simp, fun _ h => by simp at h⟩
theorem RelM.wrO (r : RelM K ξ H μ M) {p : Addr} {k : Nat} {w : HO} {oo : O} (e : μ[k]? = some p) (hx : RepO K ξ (upd H p w) μ p oo) : RelM K ξ (upd H p w) μ (M.set k oo) := by
  have hp := List.mem_of_getElem? e
  have n : Nxt K H μ (upd H p w) μ := Nxt.wr hp
  refine ⟨by simp [r.len], r.nd, fun a ha => ⟨let ⟨o, h⟩ := (r.xt a ha).1; ⟨o, n.same a o (r.xt a ha).2 h⟩, (r.xt a ha).2⟩, fun j a o h1 h2 => ?_⟩
  by_cases hj : j = k
  · subst hj
    rw [e] at h1; cases h1
    rw [List.getElem?_set_self (by rw [← r.len]; exact (List.getElem?_eq_some_iff.mp e).1)] at h2
    cases h2
    exact hx
  · rw [List.getElem?_set_ne (Ne.symm hj)] at h2
    refine (r.at_ j a o h1 h2).next_at n.w (upd_ne fun z => hj ?_)
    subst z
    exact ix_inj r.nd h1 e
theorem RelM.wr (r : RelM K ξ H μ M) {p : Addr} {k : Nat} {xs : List V} {ds : List D} (e : μ[k]? = some p) (hx : RepL K ξ H μ xs ds) : RelM K ξ (upd H p (.lst xs)) μ (M.set k (.lst ds)) :=
  r.wrO e (.lst upd_same (RepL.next (Nxt.wr (List.mem_of_getElem? e)) hx))
theorem RelM.own (r : RelM K ξ H μ M) {p : Addr} {o : HO} (h : p ∈ ξ) : RelM K ξ (upd H p o) μ M :=
  ⟨r.len, r.nd, fun a ha => ⟨by
    by_cases hp : a = p
    · subst hp; exact ⟨o, upd_same⟩
    · obtain ⟨u, e⟩ := (r.xt a ha).1
      exact ⟨u, by rw [upd_ne hp]; exact e⟩, (r.xt a ha).2⟩, fun k a o' h1 h2 => (r.at_ k a o' h1 h2).next_at (Nw.own h) (upd_ne fun z => (r.xt p h).2 (z ▸ List.mem_of_getElem? h1))⟩
theorem RepL.length : ∀ {vs : List V} {ds : List D}, RepL K ξ H μ vs ds → vs.length = ds.length
  | _, _, .nil => rfl
  | _, _, .cons _ r => by simp [RepL.length r]
theorem RepL.get : ∀ {vs : List V} {ds : List D} {i : Nat} {d : D}, RepL K ξ H μ vs ds → ds[i]? = some d → ∃ v, vs[i]? = some v ∧ Rep K ξ H μ v d
  | _, _, _, _, .nil, e => by simp at e
  | _, _, 0, _, .cons r _, e => by simp at e; subst e; exact ⟨_, rfl, r⟩
  | _, _, i + 1, d, .cons _ t, e => by
    obtain ⟨v, h1, h2⟩ := RepL.get (i := i) (d := d) t (by simpa using e)
    exact ⟨v, by simpa using h1, h2⟩
theorem RepL.append : ∀ {vs vs' : List V} {ds ds' : List D}, RepL K ξ H μ vs ds → RepL K ξ H μ vs' ds' → RepL K ξ H μ (vs ++ vs') (ds ++ ds')
  | _, _, _, _, .nil, s => s
  | _, _, _, _, .cons r t, s => .cons r (RepL.append t s)
theorem RepL.drop : ∀ {vs : List V} {ds : List D} (n : Nat), RepL K ξ H μ vs ds → RepL K ξ H μ (vs.drop n) (ds.drop n)
  | _, _, 0, r => r
  | _, _, _ + 1, .nil => .nil
  | _, _, n + 1, .cons _ t => RepL.drop n t
theorem RepL.take : ∀ {vs : List V} {ds : List D} (n : Nat), RepL K ξ H μ vs ds → RepL K ξ H μ (vs.take n) (ds.take n)
  | _, _, 0, _ => .nil
  | _, _, _ + 1, .nil => .nil
  | _, _, n + 1, .cons r t => .cons r (RepL.take n t)
theorem RepL.set {x : V} {d : D} (r : Rep K ξ H μ x d) : ∀ {vs : List V} {ds : List D} (i : Nat), RepL K ξ H μ vs ds → RepL K ξ H μ (vs.set i x) (ds.set i d)
  | _, _, _, .nil => .nil
  | _, _, 0, .cons _ t => .cons r t
  | _, _, i + 1, .cons q t => .cons q (RepL.set r i t)
theorem RepL.erase : ∀ {vs : List V} {ds : List D} (i : Nat), RepL K ξ H μ vs ds → RepL K ξ H μ (vs.eraseIdx i) (ds.eraseIdx i)
  | _, _, _, .nil => .nil
  | _, _, 0, .cons _ t => t
  | _, _, i + 1, .cons q t => .cons q (RepL.erase i t)
/-! other excluded addresses -/
mutual
theorem Rep.sub {ξ' : List Addr} (h : ∀ b, b ∉ ξ ++ μ → b ∉ ξ' ++ μ') : ∀ {v : V} {d : D}, Rep K ξ H μ v d → Rep K ξ' H μ' v d
  | _, _, .non => .non
  | _, _, .bl b => .bl b
  | _, _, .int b => .int b
  | _, _, .str b => .str b
  | _, _, .tup a e r => .tup (h _ a) e (RepL.sub h r)
  | _, _, .ktup e r => .ktup e (RepL.sub h r)
  | _, _, .lst a e r => .lst (h _ a) e (RepL.sub h r)
  | _, _, .dct a e r => .dct (h _ a) e (RepK.sub h r)
  | _, _, .scr a e => .scr (h _ a) e
  | _, _, .kscr e => .kscr e
  | _, _, .obj a e1 e r => .obj (h _ a) e1 e (RepF.sub h r)
theorem RepL.sub {ξ' : List Addr} (h : ∀ b, b ∉ ξ ++ μ → b ∉ ξ' ++ μ') : ∀ {v : List V} {d : List D}, RepL K ξ H μ v d → RepL K ξ' H μ' v d
  | _, _, .nil => .nil
  | _, _, .cons a b => .cons (Rep.sub h a) (RepL.sub h b)
theorem RepK.sub {ξ' : List Addr} (h : ∀ b, b ∉ ξ ++ μ → b ∉ ξ' ++ μ') : ∀ {v : List (Key × V)} {d : List (Key × D)}, RepK K ξ H μ v d → RepK K ξ' H μ' v d
  | _, _, .nil => .nil
  | _, _, .cons a b => .cons (Rep.sub h a) (RepK.sub h b)
theorem RepF.sub {ξ' : List Addr} (h : ∀ b, b ∉ ξ ++ μ → b ∉ ξ' ++ μ') : ∀ {v : List (Str × V)} {d : List (Str × D)}, RepF K ξ H μ v d → RepF K ξ' H μ' v d
  | _, _, .nil => .nil
  | _, _, .cons a b => .cons (Rep.sub h a) (RepF.sub h b)
end
/-- one more address is excluded, one where nothing is -/
theorem rd_ne {p a : Addr} {u : HO} (hp : H p = none) (e : Rd H a u) : a ≠ p := by
  rintro rfl
  rcases e with e | ⟨o, e⟩
  · rw [hp] at e; cases e
  · rw [hp] at e; cases e
theorem nm_more {p a : Addr} (h : a ∉ ξ ++ μ) (n : a ≠ p) : a ∉ (p :: ξ) ++ μ := nm_of (fun z => (List.mem_cons.mp z).elim n (nm h).1) (nm h).2
mutual
theorem Rep.more {p : Addr} (hp : H p = none) : ∀ {v : V} {d : D}, Rep K ξ H μ v d → Rep K (p :: ξ) H μ v d
  | _, _, .non => .non
  | _, _, .bl b => .bl b
  | _, _, .int b => .int b
  | _, _, .str b => .str b
  | _, _, .tup a e r => .tup (nm_more a (rd_ne hp e)) e (RepL.more hp r)
  | _, _, .ktup e r => .ktup e (RepL.more hp r)
  | _, _, .lst a e r => .lst (nm_more a (ne_of_none e hp)) e (RepL.more hp r)
  | _, _, .dct a e r => .dct (nm_more a (ne_of_none e hp)) e (RepK.more hp r)
  | _, _, .scr a e => .scr (nm_more a (rd_ne hp e)) e
  | _, _, .kscr e => .kscr e
  | _, _, .obj a e1 e r => .obj (nm_more a (ne_of_none e hp)) e1 e (RepF.more hp r)
theorem RepL.more {p : Addr} (hp : H p = none) : ∀ {v : List V} {d : List D}, RepL K ξ H μ v d → RepL K (p :: ξ) H μ v d
  | _, _, .nil => .nil
  | _, _, .cons a b => .cons (Rep.more hp a) (RepL.more hp b)
theorem RepK.more {p : Addr} (hp : H p = none) : ∀ {v : List (Key × V)} {d : List (Key × D)}, RepK K ξ H μ v d → RepK K (p :: ξ) H μ v d
  | _, _, .nil => .nil
  | _, _, .cons a b => .cons (Rep.more hp a) (RepK.more hp b)
theorem RepF.more {p : Addr} (hp : H p = none) : ∀ {v : List (Str × V)} {d : List (Str × D)}, RepF K ξ H μ v d → RepF K (p :: ξ) H μ v d
  | _, _, .nil => .nil
  | _, _, .cons a b => .cons (Rep.more hp a) (RepF.more hp b)
end
mutual
theorem RepU.more {p : Addr} (hp : H p = none) : ∀ {v : V} {u : U}, RepU K ξ H μ v u → RepU K (p :: ξ) H μ v u
  | _, _, .dat r => .dat (r.more hp)
  | _, _, .cell e => .cell e
  | _, _, .exn h e r => .exn (nm_more h (ne_of_none e hp)) e (r.more hp)
  | _, _, .tup h e r => .tup (nm_more h (rd_ne hp e)) e (RepUs.more hp r)
theorem RepUs.more {p : Addr} (hp : H p = none) : ∀ {v : List V} {u : List U}, RepUs K ξ H μ v u → RepUs K (p :: ξ) H μ v u
  | _, _, .nil => .nil
  | _, _, .cons a b => .cons (RepU.more hp a) (RepUs.more hp b)
end
theorem RepFU.more {p : Addr} (hp : H p = none) : ∀ {v : List (Str × V)} {u : List (Str × U)}, RepFU K ξ H μ v u → RepFU K (p :: ξ) H μ v u
  | _, _, .nil => .nil
  | _, _, .cons a b => .cons (RepU.more hp a) (RepFU.more hp b)
/-- the cells that a thing tells of -/
def refsU : U → List Nat
  | .cell k => [k]
  | .tup us => refsUs us
  | _ => []
where refsUs : List U → List Nat
  | [] => []
  | u :: us => refsU u ++ refsUs us
def refsF : List (Str × U) → List Nat
  | [] => []
  | p :: fs => refsU p.2 ++ refsF fs
def O.refs : O → List Nat
  | .obj _ fs => refsF fs
  | .lsu us => refsU.refsUs us
  | _ => []
mutual
theorem RepU.subC {ξ' : List Addr} (h : ∀ b, b ∉ ξ ++ μ → b ∉ ξ' ++ μ') : ∀ {v : V} {u : U}, (∀ k ∈ refsU u, ∀ a, μ[k]? = some a → μ'[k]? = some a) → RepU K ξ H μ v u → RepU K ξ' H μ' v u
  | _, _, _, .dat r => .dat (r.sub h)
  | _, _, hc, .cell e => .cell (hc _ (by simp [refsU]) _ e)
  | _, _, _, .exn a e r => .exn (h _ a) e (RepF.sub h r)
  | _, _, hc, .tup a e r => .tup (h _ a) e (RepUs.subC h (fun k hk => hc k (by simpa [refsU] using hk)) r)
theorem RepUs.subC {ξ' : List Addr} (h : ∀ b, b ∉ ξ ++ μ → b ∉ ξ' ++ μ') : ∀ {v : List V} {u : List U}, (∀ k ∈ refsU.refsUs u, ∀ a, μ[k]? = some a → μ'[k]? = some a) → RepUs K ξ H μ v u → RepUs K ξ' H μ' v u
  | _, _, _, .nil => .nil
  | _, _, hc, .cons a b => .cons (RepU.subC h (fun k hk => hc k (by simp [refsU.refsUs, hk])) a) (RepUs.subC h (fun k hk => hc k (by simp [refsU.refsUs, hk])) b)
end
theorem RepFU.subC {ξ' : List Addr} (h : ∀ b, b ∉ ξ ++ μ → b ∉ ξ' ++ μ') : ∀ {v : List (Str × V)} {u : List (Str × U)}, (∀ k ∈ refsF u, ∀ a, μ[k]? = some a → μ'[k]? = some a) → RepFU K ξ H μ v u → RepFU K ξ' H μ' v u
  | _, _, _, .nil => .nil
  | _, _, hc, .cons a b => .cons (RepU.subC h (fun k hk => hc k (by simp [refsF, hk])) a) (RepFU.subC h (fun k hk => hc k (by simp [refsF, hk])) b)
mutual
theorem RepU.refs_lt : ∀ {v : V} {u : U}, RepU K ξ H μ v u → ∀ k ∈ refsU u, k < μ.length
  | _, _, .dat _, k, hk => by simp [refsU] at hk
  | _, _, .cell e, k, hk => by simp [refsU] at hk; subst hk; exact (List.getElem?_eq_some_iff.mp e).1
  | _, _, .exn _ _ _, k, hk => by simp [refsU] at hk
  | _, _, .tup _ _ r, k, hk => RepUs.refs_lt r k (by simpa [refsU] using hk)
theorem RepUs.refs_lt : ∀ {v : List V} {u : List U}, RepUs K ξ H μ v u → ∀ k ∈ refsU.refsUs u, k < μ.length
  | _, _, .nil, k, hk => by simp [refsU.refsUs] at hk
  | _, _, .cons a b, k, hk => by
    simp [refsU.refsUs] at hk
    exact hk.elim (RepU.refs_lt a k) (RepUs.refs_lt b k)
end
theorem RepFU.refs_lt : ∀ {v : List (Str × V)} {u : List (Str × U)}, RepFU K ξ H μ v u → ∀ k ∈ refsF u, k < μ.length
  | _, _, .nil, k, hk => by simp [refsF] at hk
  | _, _, .cons a b, k, hk => by
    simp [refsF] at hk
    exact hk.elim (RepU.refs_lt a k) (RepFU.refs_lt b k)
theorem RepO.refs_lt {a : Addr} {o : O} (r : RepO K ξ H μ a o) : ∀ k ∈ o.refs, k < μ.length := by
  cases r with
  | lst => intro k hk; simp [O.refs] at hk
  | dct => intro k hk; simp [O.refs] at hk
  | obj _ _ r => exact RepFU.refs_lt r
  | lsu _ r => exact RepUs.refs_lt r
theorem RepU.sub {ξ' : List Addr} (h : ∀ b, b ∉ ξ ++ μ → b ∉ ξ' ++ μ) {v : V} {u : U} (r : RepU K ξ H μ v u) : RepU K ξ' H μ v u := r.subC h fun _ _ _ e => e
theorem RepO.subC {ξ' : List Addr} (h : ∀ b, b ∉ ξ ++ μ → b ∉ ξ' ++ μ') {a : Addr} {o : O} (hc : ∀ k ∈ o.refs, ∀ a, μ[k]? = some a → μ'[k]? = some a) (r : RepO K ξ H μ a o) : RepO K ξ' H μ' a o := by
  cases r with
  | lst e r => exact .lst e (r.sub h)
  | dct e r => exact .dct e (r.sub h)
  | obj e1 e r => exact .obj e1 e (RepFU.subC h hc r)
  | lsu e r => exact .lsu e (RepUs.subC h hc r)
theorem RelE.more {p : Addr} (hp : H p = none) {σ : L2.St} {ρ : En} (r : RelE K ξ H μ σ ρ) : RelE K (p :: ξ) H μ σ ρ :=
  ⟨r.len, fun i u e => let ⟨v, e1, e2⟩ := r.at_ i u e; ⟨v, e1, e2.more hp⟩⟩
theorem RepO.more {p : Addr} (hp : H p = none) {a : Addr} {o : O} (r : RepO K ξ H μ a o) : RepO K (p :: ξ) H μ a o := by
  cases r with
  | lst e r => exact .lst e (r.more hp)
  | dct e r => exact .dct e (r.more hp)
  | obj e1 e r => exact .obj e1 e (r.more hp)
  | lsu e r => exact .lsu e (r.more hp)
theorem RepO.sub {ξ' : List Addr} (h : ∀ b, b ∉ ξ ++ μ → b ∉ ξ' ++ μ) {a : Addr} {o : O} (r : RepO K ξ H μ a o) : RepO K ξ' H μ a o := r.subC h fun _ _ _ e => e
/-! what a step may do to old cells so that new ones can be dropped: no old cell tells of a new one -/
def Fl (M M' : Mem) : Prop := M.length ≤ M'.length ∧ ∀ (k : Nat) (o' : O), k < M.length → M'[k]? = some o' → ∃ o, M[k]? = some o ∧ ∀ j ∈ o'.refs, j ∈ o.refs
theorem Fl.refl {M : Mem} : Fl M M := ⟨Nat.le_refl _, fun k o h e => ⟨o, e, fun _ h => h⟩⟩
theorem Fl.trans {M M1 M2 : Mem} (a : Fl M M1) (b : Fl M1 M2) : Fl M M2 := ⟨Nat.le_trans a.1 b.1, fun k o h e => by
  obtain ⟨o1, e1, h1⟩ := b.2 k o (Nat.lt_of_lt_of_le h a.1) e
  obtain ⟨o2, e2, h2⟩ := a.2 k o1 h e1
  exact ⟨o2, e2, fun j hj => h2 j (h1 j hj)⟩⟩
theorem Fl.app {M L : Mem} : Fl M (M ++ L) := ⟨by simp, fun k o h e => ⟨o, by rwa [List.getElem?_append_left h] at e, fun _ h => h⟩⟩
theorem Fl.set {M : Mem} {k : Nat} {o : O} (h : o.refs = []) : Fl M (M.set k o) := ⟨by simp, fun j o' hj e => by
  by_cases z : k = j
  · subst z
    rw [List.getElem?_set_self hj] at e
    cases e
    exact ⟨M[k], List.getElem?_eq_getElem hj, fun i hi => by rw [h] at hi; cases hi⟩
  · rw [List.getElem?_set_ne z] at e
    exact ⟨o', e, fun _ h => h⟩⟩
theorem Fl.take {M M' : Mem} (h : Fl M M') : Fl M (M'.take M.length) := ⟨by rw [List.length_take]; have := h.1; omega, fun k o hk e => h.2 k o hk (by rwa [List.getElem?_take_of_lt hk] at e)⟩
end
end SD

set_option Elab.async false
set_option linter.all false
set_option maxRecDepth 100000
set_option maxHeartbeats 4000000
namespace SD
open PySem PySem.Spec PyProof.Rows L2

/-! ### what a piece of code is to reach, by its result -/
def Post {α β : Type} (K : PySem.W.Frag) (ξ : List Addr) (mg : Str → Option Value) (W : WX) (R : Hp → List Addr → β → α → Prop) (σ : L2.St) (H : Hp) (μ : List Addr) (o : Out α) (Q : β → Hp → Prop) : Prop := match o with
  | .ok a M => ∀ b H' μ', Nxt K H μ H' μ' → RelM K ξ H' μ' M → KH K H' → R H' μ' b a → Q b H'
  | .exc c fs M => ∀ (C : Addr) (dd : Option Addr) H' μ', Nxt K H μ H' μ' → RelM K ξ H' μ' M → mg c = some (.ref C) → RepX K ξ H' μ' dd fs → W (.ref C) dd σ H'
  | .bad => False
def tg {α β : Type} (K : PySem.W.Frag) (mg : Str → Option Value) (W : WX) (R : List Addr → Hp → List Addr → β → α → Prop) (f : En → Mem → Out α) : L2.St → Hp → (β → Hp → Prop) → Prop :=
  fun σ H Q => ∃ ξ ρ μ M, RelE K ξ H μ σ ρ ∧ RelM K ξ H μ M ∧ Post K ξ mg W (R ξ) σ H μ (f ρ M) Q
abbrev tE (K : PySem.W.Frag) (mg : Str → Option Value) (W : WX) (f : Ev) : TE := tg K mg W (RepU K) f
abbrev tB' (K : PySem.W.Frag) (mg : Str → Option Value) (W : WX) (f : Tv) : TT := tg K mg W (fun _ _ _ (b b' : Bool) => b = b') f
abbrev tA (K : PySem.W.Frag) (mg : Str → Option Value) (W : WX) (f : Av) : TA := tg K mg W (RepUs K) f
/-- the code e reckons f; an exception goes to W -/
abbrev SE (X : Cx) (W : WX) (e : Expr) (f : Ev) : Prop := PE X e (tE X.K X.mg W f)
abbrev ST (X : Cx) (W : WX) (e : Expr) (f : Tv) : Prop := PT X e (tB' X.K X.mg W f)
abbrev SW (X : Cx) (W : WX) (e : Expr) (f : Tv) : Prop := PW X e (tB' X.K X.mg W f)
abbrev SA (X : Cx) (W : WX) (es : List Expr) (f : Av) : Prop := PA X es (tA X.K X.mg W f)

section
variable {α β γ δ : Type} {K : PySem.W.Frag} {ξ : List Addr} {mg : Str → Option Value} {W : WX} {R : Hp → List Addr → β → α → Prop} {R' : Hp → List Addr → δ → γ → Prop} {σ : L2.St} {H H1 : Hp} {μ μ1 : List Addr}
theorem Post.next {o : Out α} {Q : β → Hp → Prop} (h : Post K ξ mg W R σ H μ o Q) (n : Nxt K H μ H1 μ1) : Post K ξ mg W R σ H1 μ1 o Q := by
  cases o with
  | ok a M => exact fun b H' μ' n' => h b H' μ' (n.trans n')
  | exc c fs M => exact fun C dd H' μ' n' => h C dd H' μ' (n.trans n')
  | bad => exact h
theorem Post.mono {o : Out α} {Q Q' : β → Hp → Prop} (h : Post K ξ mg W R σ H μ o Q) (hq : ∀ b H', Q b H' → Q' b H') : Post K ξ mg W R σ H μ o Q' := by
  cases o with
  | ok a M => exact fun b H' μ' n m k r => hq b H' (h b H' μ' n m k r)
  | exc c fs M => exact h
  | bad => exact h
theorem Post.bind {o : Out α} {k : α → Mem → Out γ} {Q : δ → Hp → Prop} (h : Post K ξ mg W R' σ H μ (o.bind k) Q) :
    Post K ξ mg W R σ H μ o (fun b H1 => ∃ a M1 μ1, Nxt K H μ H1 μ1 ∧ RelM K ξ H1 μ1 M1 ∧ KH K H1 ∧ R H1 μ1 b a ∧ Post K ξ mg W R' σ H1 μ1 (k a M1) Q) := by
  cases o with
  | ok a M => exact fun b H1 μ1 n m kh r => ⟨a, M, μ1, n, m, kh, r, Post.next h n⟩
  | exc c fs M => exact h
  | bad => exact h
theorem tg.of {S : List Addr → Hp → List Addr → β → α → Prop} {f : En → Mem → Out α} {ρ : En} {M : Mem} {Q : β → Hp → Prop} (e : RelE K ξ H μ σ ρ) (m : RelM K ξ H μ M) (p : Post K ξ mg W (S ξ) σ H μ (f ρ M) Q) : tg K mg W S f σ H Q := ⟨ξ, ρ, μ, M, e, m, p⟩
theorem Post.here {a : α} {M : Mem} {b : β} {Q : β → Hp → Prop} (h : Post K ξ mg W R σ H μ (.ok a M) Q) (m : RelM K ξ H μ M) (kh : KH K H) (r : R H μ b a) : Q b H := h b H μ .refl m kh r
end

section
variable {X : Cx} {W : WX}
theorem Inv.kh {pins : List (Addr × Obj)} {σ : L2.St} {H : Hp} {s : Shared} (I : Inv X pins σ H s) : KH X.K H := fun b o e => (I.bs b o (I.ok.mod.kin b o e)).2
theorem pe_sd {e : Expr} {t : TE} {f : Ev} (h : PE X e t) (hi : ∀ σ H Q, KH X.K H → tE X.K X.mg W f σ H Q → t σ H (fun v H' => KH X.K H' → Q v H')) : SE X W e f :=
  ⟨fun pins s σ H Q I ht => thn (h.run pins s σ H _ I (hi σ H Q (Inv.kh I) ht)) fun u s1 ⟨v, H', I', r, q⟩ => ⟨v, H', I', r, q (Inv.kh I')⟩⟩
theorem pt_sd {e : Expr} {t : TT} {f : Tv} (h : PT X e t) (hi : ∀ σ H Q, KH X.K H → tB' X.K X.mg W f σ H Q → t σ H (fun v H' => KH X.K H' → Q v H')) : ST X W e f :=
  ⟨fun pins s σ H Q I ht => thn (h.run pins s σ H _ I (hi σ H Q (Inv.kh I) ht)) fun u s1 ⟨H', I', q⟩ => ⟨H', I', q (Inv.kh I')⟩⟩
theorem pw_sd {e : Expr} {t : TT} {f : Tv} (h : PW X e t) (hi : ∀ σ H Q, KH X.K H → tB' X.K X.mg W f σ H Q → t σ H (fun v H' => KH X.K H' → Q v H')) : SW X W e f :=
  ⟨fun wh pins s σ H Q I ht => thn (h.run wh pins s σ H _ I (hi σ H Q (Inv.kh I) ht)) fun u s1 ⟨H', I', q⟩ => ⟨H', I', q (Inv.kh I')⟩⟩
theorem pa_sd {es : List Expr} {t : TA} {f : Av} (h : PA X es t) (hi : ∀ σ H Q, KH X.K H → tA X.K X.mg W f σ H Q → t σ H (fun v H' => KH X.K H' → Q v H')) : SA X W es f :=
  ⟨fun pos pins s σ H Q I ht => thn (h.run pos pins s σ H _ I (hi σ H Q (Inv.kh I) ht)) fun u s1 ⟨v, H', I', r, q⟩ => ⟨v, H', I', r, q (Inv.kh I')⟩⟩

/-- what was made last may be locked for good -/
def orLock (Q : VK) : VK := fun v H => Q v H ∨ ∃ d u, H d = some u ∧ Mut (some u) ∧ ∀ od, Q v (upd H d (.frz od u))
theorem pe_lockEnd {e : Expr} {t : TE} (h : PE X e t) : PE X e (fun σ H Q => t σ H (orLock Q)) :=
  ⟨fun pins s σ H Q I ht => thn (h.run pins s σ H _ I ht) fun u s1 ⟨v, H', I', r, q⟩ => by
    rcases q with q | ⟨d, o, hd, mu, q⟩
    · exact ⟨v, H', I', r, q⟩
    · obtain ⟨od, I2⟩ := I'.lock hd mu
      exact ⟨v, _, I2, r, q od⟩⟩

/-! ### names, constants -/
def eVar (i : Nat) : Ev := fun ρ M => match ρ[i]? with
  | some (some u) => .ok u M
  | _ => .bad
def eC (d : D) : Ev := fun _ M => .ok (.dat d) M
theorem se_v (i : Nat) {x : Str} {pos : Pos} (hN : X.N[i]? = some x := by rfl) (hv : Vis X.env.scope x := by first | exact Or.inl rfl | exact Or.inr (Or.inl rfl) | exact Or.inr (Or.inr rfl)) (hd : (x == ("__debug__" : Str)) = false := by decide)
    (hcd : (x == ("__classdict__" : Str)) = false := by decide) : SE X W (.Name x pos) (eVar i) := by
  refine pe_sd (pe_var hN hv hd hcd) fun σ H Q kh ⟨ξ, ρ, μ, M, e, m, p⟩ => ?_
  unfold eVar at p
  split at p
  · rename_i u hu
    obtain ⟨v, h1, h2⟩ := e.at_ i u hu
    exact ⟨v, h1, fun kh => p.here m kh h2⟩
  · exact p.elim
theorem se_int {i : Int} {j pos} : SE X W (.Constant (.int i) j pos) (eC (.int i)) := pe_sd pe_int fun σ H Q kh ⟨ξ, ρ, μ, M, e, m, p⟩ kh' => p.here m kh' (.dat (.int i))
theorem se_bl {b : Bool} {j pos} : SE X W (.Constant (.bool b) j pos) (eC (.bl b)) := pe_sd pe_bl fun σ H Q kh ⟨ξ, ρ, μ, M, e, m, p⟩ kh' => p.here m kh' (.dat (.bl b))
theorem se_non {j pos} : SE X W (.Constant .none j pos) (eC .non) := pe_sd pe_non fun σ H Q kh ⟨ξ, ρ, μ, M, e, m, p⟩ kh' => p.here m kh' (.dat .non)
theorem se_str (s : Cs) {x : Str} {j pos} (h : x = mkS s := by decide +kernel) : SE X W (.Constant (.str x) j pos) (eC (.str s)) := by
  subst h
  exact pe_sd pe_str fun σ H Q kh ⟨ξ, ρ, μ, M, e, m, p⟩ kh' => p.here m kh' (.dat (.str s))
/-- a module's constant -/
theorem se_gstr (s : Cs) {x : Str} {t : Tok} {pos : Pos} (hm : X.mg x = some (.str (mkS s) t)) (hg : Gl X x := by rfl) (hd : (x == ("__debug__" : Str)) = false := by decide) : SE X W (.Name x pos) (eC (.str s)) :=
  pe_sd (pe_glob (v := .str (mkS s)) hg hm ⟨t, rfl⟩ hd) fun σ H Q kh ⟨ξ, ρ, μ, M, e, m, p⟩ kh' => p.here m kh' (.dat (.str s))
theorem se_gint (i : Int) {x : Str} {t : Tok} {pos : Pos} (hm : X.mg x = some (.int i t)) (hg : Gl X x := by rfl) (hd : (x == ("__debug__" : Str)) = false := by decide) : SE X W (.Name x pos) (eC (.int i)) :=
  pe_sd (pe_glob (v := .int i) hg hm ⟨t, rfl⟩ hd) fun σ H Q kh ⟨ξ, ρ, μ, M, e, m, p⟩ kh' => p.here m kh' (.dat (.int i))

/-! ### what a value shows, be it data or a cell -/
def view (u : U) (M : Mem) : Option D := match u with
  | .dat d => some d
  | .cell k => match M[k]? with
    | some (.lst ds) => some (.lst ds)
    | some (.dct ds) => some (.dct ds)
    | _ => none
  | _ => none
inductive RepV (K : PySem.W.Frag) (ξ : List Addr) (H : Hp) (μ : List Addr) : V → D → Prop
  | of {v : V} {d : D} : Rep K ξ H μ v d → RepV K ξ H μ v d
  | lst {a : Addr} {xs : List V} {ds : List D} : H a = some (.lst xs) → RepL K ξ H μ xs ds → RepV K ξ H μ (.ref a) (.lst ds)
  | dct {a : Addr} {xs : List (Key × V)} {ds : List (Key × D)} : H a = some (.dK xs) → RepK K ξ H μ xs ds → RepV K ξ H μ (.ref a) (.dct ds)
theorem RepU.view {K : PySem.W.Frag} {ξ : List Addr} {H : Hp} {μ : List Addr} {M : Mem} {v : V} {u : U} {d : D} (m : RelM K ξ H μ M) (r : RepU K ξ H μ v u) (h : view u M = some d) : RepV K ξ H μ v d := by
  cases r with
  | exn => cases h
  | tup => cases h
  | dat r => cases h; exact .of r
  | @cell a k e =>
    unfold SD.view at h
    cases q : M[k]? with
    | none => simp [q] at h
    | some o =>
      simp only [q] at h
      cases o with
      | lst ds =>
        cases h
        cases m.at_ k a _ e q with
        | lst h r => exact .lst h r
      | dct ds =>
        cases h
        cases m.at_ k a _ e q with
        | dct h r => exact .dct h r
      | obj => cases h
      | lsu => cases h
section
variable {K : PySem.W.Frag} {ξ : List Addr} {H : Hp} {μ : List Addr} {v : V}
theorem RepV.int {i : Int} (r : RepV K ξ H μ v (.int i)) : v = .int i := by cases r with | of r => cases r; rfl
theorem RepV.bl {i : Bool} (r : RepV K ξ H μ v (.bl i)) : v = .bl i := by cases r with | of r => cases r; rfl
theorem RepV.str {i : Cs} (r : RepV K ξ H μ v (.str i)) : v = .str (mkS i) := by cases r with | of r => cases r; rfl
theorem RepV.non (r : RepV K ξ H μ v .non) : v = .non := by cases r with | of r => cases r; rfl
theorem RepV.lstv {ds : List D} (r : RepV K ξ H μ v (.lst ds)) : ∃ a xs, v = .ref a ∧ H a = some (.lst xs) ∧ RepL K ξ H μ xs ds := by
  cases r with
  | of r => cases r with | lst h e r => exact ⟨_, _, rfl, e, r⟩
  | lst e r => exact ⟨_, _, rfl, e, r⟩
theorem RepV.tup {ds : List D} (r : RepV K ξ H μ v (.tup ds)) : ∃ a xs, v = .ref a ∧ True ∧ SqT K H a xs ∧ RepL K ξ H μ xs ds := by
  cases r with | of r => cases r with
    | tup h e r => exact ⟨_, _, rfl, trivial, .inl e, r⟩
    | ktup e r => exact ⟨_, _, rfl, trivial, e H, r⟩
theorem RepV.dctv {ds : List (Key × D)} (r : RepV K ξ H μ v (.dct ds)) : ∃ a xs, v = .ref a ∧ Rd H a (.dK xs) ∧ RepK K ξ H μ xs ds := by
  cases r with
  | of r => cases r with | dct h e r => exact ⟨_, _, rfl, .inr ⟨_, e⟩, r⟩
  | dct e r => exact ⟨_, _, rfl, .inl e, r⟩
theorem rd_dk {a : Addr} {xs ys : List (Key × V)} (h1 : Rd H a (.dK xs)) (h2 : Rd H a (.dK ys)) : xs = ys := by
  rcases h1 with h1 | ⟨o, h1⟩ <;> rcases h2 with h2 | ⟨o', h2⟩ <;> rw [h1] at h2 <;> cases h2 <;> rfl
theorem rd_lst_dk {a : Addr} {xs : List V} {ys : List (Key × V)} (h1 : H a = some (.lst xs)) (h2 : Rd H a (.dK ys)) : False := by
  rcases h2 with h2 | ⟨o, h2⟩ <;> rw [h1] at h2 <;> cases h2
theorem RepV.objv {c : Str} {fs : List (Str × D)} (r : RepV K ξ H μ v (.obj c fs)) : ∃ a C dx vs, v = .ref a ∧ CInfo K c C ∧ H a = some (.ins C dx vs) ∧ RepF K ξ H μ vs fs := by
  cases r with | of r => cases r with | obj h e1 e r => exact ⟨_, _, _, _, rfl, e1, e, r⟩
theorem RepV.scr {ns : List Int} (r : RepV K ξ H μ v (.scr ns)) : ∃ a, v = .ref a ∧ True ∧ SqL K H a (ns.map V.int) := by
  cases r with | of r => cases r with
    | scr h e => exact ⟨_, rfl, trivial, .inl e⟩
    | kscr e => exact ⟨_, rfl, trivial, e H⟩
end

/-! ### operators by values -/
abbrev P2 := U → U → Mem → Out U
def lift2 (g : D → D → Option D) : P2 := fun u w M => match view u M, view w M with
  | some d, some e => match g d e with
    | some c => .ok (.dat c) M
    | none => .bad
  | _, _ => .bad
def e2 (p : P2) (f g : Ev) : Ev := fun ρ M => (f ρ M).bind fun u M1 => (g ρ M1).bind fun w M2 => p u w M2
/-- the rule r of the operator serves p -/
def Op2 (K : PySem.W.Frag) (p : P2) (r : R2) : Prop := ∀ (ξ : List Addr) (mg : Str → Option Value) (W : WX) (x y : V) (u w : U) (σ : L2.St) (H : Hp) (μ : List Addr) (M : Mem) (Q : VK), RelM K ξ H μ M → KH K H → RepU K ξ H μ x u → RepU K ξ H μ y w →
  Post K ξ mg W (RepU K ξ) σ H μ (p u w M) Q → r x y H (fun v H' => KH K H' → Q v H')
theorem tg.e2 {K : PySem.W.Frag} {mg : Str → Option Value} {p : P2} {r : R2} {f g : Ev} {σ : L2.St} {H : Hp} {Q : VK} (hp : Op2 K p r) (h : tE K mg W (e2 p f g) σ H Q) :
    tOp r (tE K mg W f) (tE K mg W g) σ H (fun v H' => KH K H' → Q v H') := by
  obtain ⟨ξ, ρ, μ, M, e, m, q⟩ := h
  refine tg.of e m ((Post.bind (R := RepU K ξ) q).mono fun x H1 ⟨u, M1, μ1, n1, m1, kh1, r1, q1⟩ => ?_)
  refine tg.of (e.next n1) m1 ((Post.bind (R := RepU K ξ) q1).mono fun y H2 ⟨w, M2, μ2, n2, m2, kh2, r2, q2⟩ => ?_)
  exact hp ξ mg W x y u w σ H2 μ2 M2 Q m2 kh2 (r1.next n2) r2 q2
theorem Op2.or {K : PySem.W.Frag} {p : P2} {r r' : R2} (h : ∀ (ξ : List Addr) (mg : Str → Option Value) (W : WX) (x y : V) (u w : U) (σ : L2.St) (H : Hp) (μ : List Addr) (M : Mem) (Q : VK), RelM K ξ H μ M → KH K H → RepU K ξ H μ x u → RepU K ξ H μ y w →
    Post K ξ mg W (RepU K ξ) σ H μ (p u w M) Q → r x y H (fun v H' => KH K H' → Q v H') ∨ r' x y H (fun v H' => KH K H' → Q v H')) : Op2 K p (fun x y H Q => r x y H Q ∨ r' x y H Q) := h
/-- data rules by cases on the two data -/
theorem Op2.lift {K : PySem.W.Frag} {g : D → D → Option D} {r : R2}
    (h : ∀ (ξ : List Addr) (mg : Str → Option Value) (W : WX) (x y : V) (d e c : D) (σ : L2.St) (H : Hp) (μ : List Addr) (M : Mem) (Q : VK), RelM K ξ H μ M → KH K H → RepV K ξ H μ x d → RepV K ξ H μ y e → g d e = some c →
      Post K ξ mg W (RepU K ξ) σ H μ (.ok (.dat c) M) Q → r x y H (fun v H' => KH K H' → Q v H')) : Op2 K (lift2 g) r := by
  intro ξ mg W x y u w σ H μ M Q m kh ru rw p
  unfold lift2 at p
  split at p
  · rename_i d e hd he
    split at p
    · rename_i c hc
      exact h ξ mg W x y d e c σ H μ M Q m kh (ru.view m hd) (rw.view m he) hc p
    · exact p.elim
  · exact p.elim
theorem se_op {op : Operator} {r : R2} {p : P2} {a b : Expr} {f g : Ev} {pos : Pos} (ho : OpR X (binaryOp op) r) (hp : Op2 X.K p r) (ha : SE X W a f) (hb : SE X W b g) : SE X W (.BinOp a op b pos) (e2 p f g) :=
  pe_sd (pe_op ho ha hb) fun σ H Q kh h => tg.e2 hp h
theorem pc_sd {op : CmpOp} {r : R2} {p : P2} {a b : Expr} {f g : Ev} (ho : OpR X (compareOp op) r) (hp : Op2 X.K p r) (ha : SE X W a f) (hb : SE X W b g) : PC X op a b (tE X.K X.mg W (e2 p f g)) :=
  ⟨fun pins s σ H Q I h => thn (ha.run pins s σ H _ I (tg.e2 hp h)) fun v s1 ⟨x, H1, I1, r1, q1⟩ => thn (hb.run pins s1 σ H1 _ I1 q1) fun u s2 ⟨y, H2, I2, r2, q2⟩ =>
    thn (ho pins s2 σ H2 x y v u _ I2 r1 r2 q2) fun c s3 ⟨z, H3, I3, r3, q3⟩ => ⟨z, H3, I3, r3, q3 (Inv.kh I3)⟩⟩
theorem se_cmp {op : CmpOp} {r : R2} {p : P2} {a b : Expr} {f g : Ev} {pos : Pos} (ho : OpR X (compareOp op) r) (hp : Op2 X.K p r) (ha : SE X W a f) (hb : SE X W b g)
    (hm : behindInMarks op b = false := by first | exact nobehind _ (by decide) (by decide) | rfl) : SE X W (.Compare a [op] [b] pos) (e2 p f g) :=
  pe_cmp (pc_sd ho hp ha hb) hm
/-- a value as a test -/
def tOf (f : Ev) : Tv := fun ρ M => (f ρ M).bind fun u M1 => match u with
  | .dat (.bl b) => .ok b M1
  | _ => .bad
theorem tg.tOf {K : PySem.W.Frag} {mg : Str → Option Value} {f : Ev} {σ : L2.St} {H : Hp} {Q : Bool → Hp → Prop} (h : tB' K mg W (tOf f) σ H Q) : tE K mg W f σ H (fun v H' => ∃ k, v = .bl k ∧ Q k H') := by
  obtain ⟨ξ, ρ, μ, M, e, m, q⟩ := h
  refine tg.of e m ((Post.bind (R := RepU K ξ) q).mono fun x H1 ⟨u, M1, μ1, n1, m1, kh1, r1, q1⟩ => ?_)
  split at q1
  · rename_i b
    cases r1 with | dat r1 => cases r1; exact ⟨b, rfl, q1.here m1 kh1 rfl⟩
  · exact q1.elim
theorem st_cmp {op : CmpOp} {r : R2} {p : P2} {a b : Expr} {f g : Ev} {pos : Pos} (ho : OpR X (compareOp op) r) (hp : Op2 X.K p r) (ha : SE X W a f) (hb : SE X W b g)
    (hm : behindInMarks op b = false := by first | exact nobehind _ (by decide) (by decide) | rfl) : ST X W (.Compare a [op] [b] pos) (tOf (e2 p f g)) :=
  ⟨fun pins s σ H Q I h => (pt_cmp (pc_sd ho hp ha hb) hm).run pins s σ H Q I (tg.tOf h)⟩
theorem st_val {e : Expr} {f : Ev} (h : SE X W e f) (he : ∀ whole, isTrue e X.env whole = (do let v ← whole; standAt e.pos; holding [v] (truthy v)) := by intro _; rfl) : ST X W e (tOf f) :=
  ⟨fun pins s σ H Q I hh => (pt_val h he).run pins s σ H Q I (tg.tOf hh)⟩

/-! ### and, or, not, if .. else -/
def bNot (f : Tv) : Tv := fun ρ M => (f ρ M).bind fun b M1 => .ok (!b) M1
def bAnd (f g : Tv) : Tv := fun ρ M => (f ρ M).bind fun b M1 => if b then g ρ M1 else .ok false M1
def bOr (f g : Tv) : Tv := fun ρ M => (f ρ M).bind fun b M1 => if b then .ok true M1 else g ρ M1
def eIf (c : Tv) (f g : Ev) : Ev := fun ρ M => (c ρ M).bind fun b M1 => if b then f ρ M1 else g ρ M1
def eB (f : Tv) : Ev := fun ρ M => (f ρ M).bind fun b M1 => .ok (.dat (.bl b)) M1
variable {a b c : Expr} {rest : List Expr} {f g : Tv} {pos : Pos}
theorem st_not (ha : ST X W a f) : ST X W (.UnaryOp .Not a pos) (bNot f) :=
  pt_sd (pt_not ha) fun σ H Q kh ⟨ξ, ρ, μ, M, e, m, q⟩ => tg.of e m ((Post.bind (R := fun _ _ (b b' : Bool) => b = b') q).mono fun x H1 ⟨u, M1, μ1, n1, m1, kh1, r1, q1⟩ kh => by
    subst r1
    exact q1.here m1 kh1 rfl)
theorem sw_and1 (ha : ST X W a f) : SW X W (.BoolOp .And [a] pos) f := pw_and1 ha
theorem sw_or1 (ha : ST X W a f) : SW X W (.BoolOp .Or [a] pos) f := pw_or1 ha
theorem sw_and (ha : ST X W a f) (hb : SW X W (.BoolOp .And (b :: rest) pos) g) : SW X W (.BoolOp .And (a :: b :: rest) pos) (bAnd f g) :=
  pw_sd (pw_and ha hb) fun σ H Q kh ⟨ξ, ρ, μ, M, e, m, q⟩ => tg.of e m ((Post.bind (R := fun _ _ (b b' : Bool) => b = b') q).mono fun x H1 ⟨u, M1, μ1, n1, m1, kh1, r1, q1⟩ => by
    subst r1
    cases x with
    | true => exact iteT (tg.of (e.next n1) m1 (Post.mono q1 fun _ _ q _ => q))
    | false => exact iteF fun _ => q1.here m1 kh1 rfl)
theorem sw_or (ha : ST X W a f) (hb : SW X W (.BoolOp .Or (b :: rest) pos) g) : SW X W (.BoolOp .Or (a :: b :: rest) pos) (bOr f g) :=
  pw_sd (pw_or ha hb) fun σ H Q kh ⟨ξ, ρ, μ, M, e, m, q⟩ => tg.of e m ((Post.bind (R := fun _ _ (b b' : Bool) => b = b') q).mono fun x H1 ⟨u, M1, μ1, n1, m1, kh1, r1, q1⟩ => by
    subst r1
    cases x with
    | true => exact iteT fun _ => q1.here m1 kh1 rfl
    | false => exact iteF (tg.of (e.next n1) m1 (Post.mono q1 fun _ _ q _ => q)))
theorem st_w {e : Expr} {f : Tv} (h : SW X W e f) : ST X W e f := h.pt
/-- values: not, and, or of truths -/
theorem se_not {f : Ev} (ha : SE X W a f) : SE X W (.UnaryOp .Not a pos) (eB (bNot (tOf f))) :=
  pe_sd (pe_not ha) fun σ H Q kh ⟨ξ, ρ, μ, M, e, m, q⟩ => by
    have q2 : tB' X.K X.mg W (tOf f) σ H (fun c H' => KH X.K H' → Q (.bl (!c)) H') := tg.of e m (by
      unfold eB bNot at q
      refine Post.mono (Post.bind (R := fun _ _ (b b' : Bool) => b = b') (k := fun b M1 => Out.ok (U.dat (.bl (!b))) M1) (Q := Q) (R' := RepU X.K ξ) ?_) fun x H1 ⟨u, M1, μ1, n1, m1, kh1, r1, q1⟩ _ => ?_
      · revert q
        cases tOf f ρ M <;> exact id
      · subst r1
        exact q1.here m1 kh1 (.dat (.bl _)))
    exact tg.tOf q2
theorem se_one {op} {f : Ev} (ha : SE X W a f) : SE X W (.BoolOp op [a] pos) f := pe_one ha
def vAnd (f g : Ev) : Ev := fun ρ M => (tOf f ρ M).bind fun b M1 => if b then g ρ M1 else .ok (.dat (.bl false)) M1
def vOr (f g : Ev) : Ev := fun ρ M => (tOf f ρ M).bind fun b M1 => if b then .ok (.dat (.bl true)) M1 else g ρ M1
theorem se_and {f g : Ev} (ha : SE X W a f) (hb : SE X W (.BoolOp .And (b :: rest) pos) g) : SE X W (.BoolOp .And (a :: b :: rest) pos) (vAnd f g) :=
  pe_sd (pe_and ha hb) fun σ H Q kh ⟨ξ, ρ, μ, M, e, m, q⟩ => by
    have q2 : tB' X.K X.mg W (tOf f) σ H (fun c H1 => if c = true then tE X.K X.mg W g σ H1 (fun v H' => KH X.K H' → Q v H') else (KH X.K H1 → Q (.bl false) H1)) :=
      tg.of e m ((Post.bind (R := fun _ _ (b b' : Bool) => b = b') q).mono fun x H1 ⟨u, M1, μ1, n1, m1, kh1, r1, q1⟩ => by
        subst r1
        cases x with
        | true => exact iteT (tg.of (e.next n1) m1 (Post.mono q1 fun _ _ q _ => q))
        | false => exact iteF fun _ => q1.here m1 kh1 (.dat (.bl _)))
    exact tg.tOf q2
theorem se_or {f g : Ev} (ha : SE X W a f) (hb : SE X W (.BoolOp .Or (b :: rest) pos) g) : SE X W (.BoolOp .Or (a :: b :: rest) pos) (vOr f g) :=
  pe_sd (pe_or ha hb) fun σ H Q kh ⟨ξ, ρ, μ, M, e, m, q⟩ => by
    have q2 : tB' X.K X.mg W (tOf f) σ H (fun c H1 => if c = true then (KH X.K H1 → Q (.bl true) H1) else tE X.K X.mg W g σ H1 (fun v H' => KH X.K H' → Q v H')) :=
      tg.of e m ((Post.bind (R := fun _ _ (b b' : Bool) => b = b') q).mono fun x H1 ⟨u, M1, μ1, n1, m1, kh1, r1, q1⟩ => by
        subst r1
        cases x with
        | true => exact iteT fun _ => q1.here m1 kh1 (.dat (.bl _))
        | false => exact iteF (tg.of (e.next n1) m1 (Post.mono q1 fun _ _ q _ => q)))
    exact tg.tOf q2
theorem se_if {t : Tv} {f g : Ev} (hc : ST X W c t) (ha : SE X W a f) (hb : SE X W b g) : SE X W (.IfExp c a b pos) (eIf t f g) :=
  pe_sd (pe_ifExp hc ha hb) fun σ H Q kh ⟨ξ, ρ, μ, M, e, m, q⟩ => tg.of e m ((Post.bind (R := fun _ _ (b b' : Bool) => b = b') q).mono fun x H1 ⟨u, M1, μ1, n1, m1, kh1, r1, q1⟩ => by
    subst r1
    cases x with
    | true => exact iteT (tg.of (e.next n1) m1 (Post.mono q1 fun _ _ q _ => q))
    | false => exact iteF (tg.of (e.next n1) m1 (Post.mono q1 fun _ _ q _ => q)))
end
end SD

set_option Elab.async false
set_option linter.all false
set_option maxRecDepth 100000
set_option maxHeartbeats 4000000
namespace SD
open PySem PySem.SeqAt
open AutoSeq1 (wpAny_loadPart')
open MeetsSeq MeetsSeq2 MeetsSeq3

/-! ### == and != within one model (a dict of texts is known in its own world alone) -/
def RcIn (P : Program) (w : World) (A : Around) (s : Shared) (y x : Value) (b : Bool) : Prop := ∀ (E Q : Value → Shared → Prop), Q (.bool b) s → wpAny (model P w) A (richCompare .Eq y x) Q E s
def NeIn (P : Program) (w : World) (A : Around) (s : Shared) (y x : Value) (b : Bool) : Prop := ∀ (E Q : Value → Shared → Prop), Q (.bool b) s → wpAny (model P w) A (richCompare .NotEq y x) Q E s
section
variable {P : Program} {w : World}
theorem neL_loop (p q : Addr) (xs ys : Array Value) (c1 c2 : Nat) (e1 e2 : Option Addr) (t1 t2 : Array (Option Value)) (hz : xs.size = ys.size) (f : Nat → Bool) (m : Nat) :
    ∀ i : Nat, xs.size - i = m → MeetsIn P w (Builtin.«list.__eq__.loop» ⟨[.ref p, .ref q, rawInt i, rawInt 3], []⟩)
      (fun A R s => s.heap.get? p = some { cls := .type "list", dict := e1, data := .seq xs c1, slots := t1 } ∧ s.heap.get? q = some { cls := .type "list", dict := e2, data := .seq ys c2, slots := t2 } ∧
        (∀ j (g1 : j < xs.size) (g2 : j < ys.size), EqIn P w A.in1 s xs[j] ys[j] (f j)) ∧ R (.ok (.ret (.bool (!((List.range xs.size).drop i).all f)))) s) := by
  induction m with
  | zero =>
    intro i hm A R s ⟨gp, gq, hf, hr⟩
    obtain ⟨hp, g, d, tk, os⟩ := s
    wp_walk using wpAny_loadPart' gp, wpAny_loadPart' gq
    have n1 : xs[((i : Nat) : Int).toNat]? = none := by simp; omega
    have n2 : ys[((i : Nat) : Int).toNat]? = none := by simp; omega
    have nd : (List.range xs.size).drop i = [] := by simp; omega
    rw [nd] at hr
    rw [n1, n2]
    wp_walk using wpAny_loadPart' gp, wpAny_loadPart' gq
    show R (.ok (.ret (.bool (xs.size != ys.size)))) _
    rw [hz]; simpa using hr
  | succ m ih =>
    intro i hm A R s ⟨gp, gq, hf, hr⟩
    obtain ⟨hp, g, d, tk, os⟩ := s
    wp_walk using wpAny_loadPart' gp, wpAny_loadPart' gq
    have k1 : i < xs.size := by omega
    have k2 : i < ys.size := by omega
    have n1 : xs[((i : Nat) : Int).toNat]? = some xs[i] := by simp [k1]
    have n2 : ys[((i : Nat) : Int).toNat]? = some ys[i] := by simp [k2]
    have nd : (List.range xs.size).drop i = i :: (List.range xs.size).drop (i + 1) := by simp [List.drop_eq_getElem_cons, k1]
    have nc : ((i : Int) + 1) = ((i + 1 : Nat) : Int) := by push_cast; rfl
    rw [nd, List.all_cons] at hr
    rw [n1, n2]
    refine wpAny_bind (hf i k1 k2 _ _ ?_)
    cases hfi : f i with
    | true =>
      rw [hfi] at hr
      wp_walk
      rw [nc]
      exact ⟨plainId_quiet plain_eq_loop _, codeAny_builtin entry_eq_loop (by rw [Around.under_plainId plain_eq_loop _]; exact ih (i + 1) (by omega) A R _ ⟨gp, gq, hf, by simpa using hr⟩)⟩
    | false =>
      rw [hfi] at hr
      wp_walk using wpAny_loadPart' gp, wpAny_loadPart' gq
      rw [n1, n2]
      wp_walk
      simpa using hr
theorem neL (p q : Addr) (xs ys : Array Value) (c1 c2 : Nat) (e1 e2 : Option Addr) (t1 t2 : Array (Option Value)) (hz : xs.size = ys.size) (f : Nat → Bool) :
    MeetsIn P w (Builtin.«list.__ne__» ⟨[.ref p, .ref q], []⟩)
      (fun A R s => s.heap.get? p = some { cls := .type "list", dict := e1, data := .seq xs c1, slots := t1 } ∧ s.heap.get? q = some { cls := .type "list", dict := e2, data := .seq ys c2, slots := t2 } ∧
        (∀ j (g1 : j < xs.size) (g2 : j < ys.size), EqIn P w A.in1 s xs[j] ys[j] (f j)) ∧ R (.ok (.ret (.bool (!(List.range xs.size).all f)))) s) := by
  intro A R s ⟨gp, gq, hf, hr⟩
  obtain ⟨hp, g, d, tk, os⟩ := s
  have sub3 := AutoSeq1.sub_list_list
  have nz : ¬ (xs.size != ys.size) = true := by simp [hz]
  wp_walk using wpAny_loadPart' gp, wpAny_loadPart' gq
  exact ⟨plainId_quiet plain_eq_loop _, codeAny_builtin entry_eq_loop (by rw [Around.under_plainId plain_eq_loop _]; exact neL_loop p q xs ys c1 c2 e1 e2 t1 t2 hz f _ 0 rfl A R _ ⟨gp, gq, hf, by simpa using hr⟩)⟩
theorem neT (p q : Addr) (xs ys : Array Value) (c1 c2 : Nat) (e1 e2 : Option Addr) (t1 t2 : Array (Option Value)) (f : Nat → Bool) :
    MeetsIn P w (Builtin.«tuple.__ne__» ⟨[.ref p, .ref q], []⟩)
      (fun A R s => s.heap.get? p = some { cls := .type "tuple", dict := e1, data := .seq xs c1, slots := t1 } ∧ s.heap.get? q = some { cls := .type "tuple", dict := e2, data := .seq ys c2, slots := t2 } ∧
        (∀ j (g1 : j < xs.size) (g2 : j < ys.size), EqIn P w A.in1 s xs[j] ys[j] (f j)) ∧ R (.ok (.ret (.bool (!((List.range (min xs.size ys.size)).all f && xs.size == ys.size))))) s) :=
  .of_wp fun A R s ⟨gp, gq, hf, hr⟩ => by
    obtain ⟨hp, g, d, tk, os⟩ := s
    have sub2 := AutoSeq1.sub_tuple_tuple
    have hZ : (xs.toList.zip ys.toList).length = min xs.size ys.size := by simp
    wp_walk using wpAny_loadPart' gp, wpAny_loadPart' gq, wpAny_forIn_list _ (fun rest b s' => b.1 = none ∧ s' = ⟨hp, g, d, tk, os⟩ ∧ ∃ i, rest = (xs.toList.zip ys.toList).drop i ∧
      R (.ok (.ret (.bool (!(((List.range (min xs.size ys.size)).drop i).all f && xs.size == ys.size))))) ⟨hp, g, d, tk, os⟩) _
    case turn =>
      rintro ⟨y, x⟩ rest b s' ⟨hb', rfl, i, zr, hR⟩
      have li : i < (xs.toList.zip ys.toList).length := by
        rcases Nat.lt_or_ge i (xs.toList.zip ys.toList).length with z | z
        · exact z
        · rw [List.drop_of_length_le z] at zr; cases zr
      have lm : i < min xs.size ys.size := hZ ▸ li
      have k1 : i < xs.size := Nat.lt_of_lt_of_le lm (Nat.min_le_left _ _)
      have k2 : i < ys.size := Nat.lt_of_lt_of_le lm (Nat.min_le_right _ _)
      rw [List.drop_eq_getElem_cons li] at zr
      injection zr with zyx zrest
      have ey : y = xs[i] := by simpa using congrArg Prod.fst zyx
      have ex : x = ys[i] := by simpa using congrArg Prod.snd zyx
      subst ey ex
      have nd : (List.range (min xs.size ys.size)).drop i = i :: (List.range (min xs.size ys.size)).drop (i + 1) := by simp [List.drop_eq_getElem_cons, lm]
      rw [nd, List.all_cons] at hR
      refine wpAny_bind (hf i k1 k2 _ _ ?_)
      cases hfi : f i with
      | true =>
        rw [hfi] at hR
        wp_walk
        exact ⟨rfl, rfl, i + 1, zrest, by simpa using hR⟩
      | false =>
        rw [hfi] at hR
        wp_walk
        exact ⟨_, rfl, by simpa using hR⟩
    case fin =>
      rintro ⟨b1, b2⟩ s' ⟨hb', rfl, i, zr, hR⟩
      simp only at hb'
      subst hb'
      have ge : min xs.size ys.size ≤ i := by
        rcases Nat.lt_or_ge i (xs.toList.zip ys.toList).length with z | z
        · rw [List.drop_eq_getElem_cons z] at zr; cases zr
        · exact hZ ▸ z
      rw [List.drop_of_length_le (by simpa using ge)] at hR
      wp_walk
      exact ⟨_, rfl, by simpa [Builtin.Tuple.tupleCompareSizes, bne] using hR⟩
    case h => exact ⟨rfl, rfl, 0, rfl, by simpa using hr⟩
variable {A : Around} {s : Shared} {p q : Addr} {xs ys : Array Value} {f : Nat → Bool}
theorem NeIn.lists (hl : s.heap.IsList p xs) (hb : s.heap.IsList q ys) (hz : xs.size = ys.size) (hu : A.units < cLine) (hf : ∀ j (g1 : j < xs.size) (g2 : j < ys.size), EqIn P w A.in1 s xs[j] ys[j] (f j)) : NeIn P w A s (.ref p) (.ref q) (!(List.range xs.size).all f) := fun E Q h => by
  obtain ⟨⟨k1, e1, d1, t1⟩, o1, c1, n1, f1⟩ := id hl
  obtain ⟨⟨k2, e2, d2, t2⟩, o2, c2, n2, f2⟩ := id hb
  simp only at c1 f1 c2 f2
  subst c1 f1 c2 f2
  exact wpAny_richCompare_same_room (T := "list") (op := .NotEq) ⟨_, o1, rfl⟩ ⟨_, o2, rfl⟩ F.slot_list_ne (call_meetsIn F.slot_list_ne ⟨_, o1, rfl⟩ F.entry_list_ne (F.args_list_ne_2 _ _) (neL p q xs ys n1 n2 e1 e2 t1 t2 hz f)
    ⟨o1, o2, hf, show Value.bool (!(List.range xs.size).all f) ≠ Value.notImplemented ∧ Q (.bool (!(List.range xs.size).all f)) s from ⟨(fun x => nomatch x), h⟩⟩) hu
theorem NeIn.tuples (hl : s.heap.IsTuple p xs) (hb : s.heap.IsTuple q ys) (hu : A.units < cLine) (hf : ∀ j (g1 : j < xs.size) (g2 : j < ys.size), EqIn P w A.in1 s xs[j] ys[j] (f j)) :
    NeIn P w A s (.ref p) (.ref q) (!((List.range (min xs.size ys.size)).all f && xs.size == ys.size)) := fun E Q h => by
  obtain ⟨⟨k1, e1, d1, t1⟩, o1, c1, n1, f1⟩ := id hl
  obtain ⟨⟨k2, e2, d2, t2⟩, o2, c2, n2, f2⟩ := id hb
  simp only at c1 f1 c2 f2
  subst c1 f1 c2 f2
  exact wpAny_richCompare_same_room (T := "tuple") (op := .NotEq) ⟨_, o1, rfl⟩ ⟨_, o2, rfl⟩ F.slot_tuple_ne (call_meetsIn F.slot_tuple_ne ⟨_, o1, rfl⟩ F.entry_tuple_ne (F.args_tuple_ne_2 _ _) (neT p q xs ys n1 n2 e1 e2 t1 t2 f)
    ⟨o1, o2, hf, show Value.bool (!((List.range (min xs.size ys.size)).all f && xs.size == ys.size)) ≠ Value.notImplemented ∧ Q (.bool (!((List.range (min xs.size ys.size)).all f && xs.size == ys.size))) s from ⟨(fun x => nomatch x), h⟩⟩) hu
theorem NeIn.dicts {K : Type} [DecidableEq K] {knd : KeyKind P w K} {ka kb : List (K × Value)} {r : Bool} (hp : (p == sysModules) = false) (hq : (q == sysModules) = false) (dp : s.heap.DictOf knd p ka) (dq : s.heap.DictOf knd q kb) (hu : A.units < cLine)
    (hits : ka.length = kb.length → PySem.W.KeqHitsIn P w A.in1 s kb ka r) : NeIn P w A s (.ref p) (.ref q) (!(ka.length == kb.length && r)) := fun E Q h => by
  refine wpAny_richCompare_same_room (op := .NotEq) dp.typeIs dq.typeIs PySem.F.slot_dict_ne (wpAny_call_entry PySem.F.slot_dict_ne dp.typeIs PySem.F.entry_dict_ne ?_ (PySem.F.args_dict_ne_2 _ _)) hu
  show wpAny _ _ (Builtin.Dict.dictSlotArgs "__ne__" ⟨[.ref p, .ref q], []⟩ >>= _) _ _ s
  refine wpAny_bind (by
    unfold Builtin.Dict.dictSlotArgs
    exact wpAny_bind (wpAny_notOrdered_dict dp.typeIs (show wpAny _ _ (pure (Value.ref p, Value.ref q)) _ _ s from wpAny_pure (wpAny_bind (wpAny_isInstance (T := "dict") dq.typeIs PySem.F.sub_dict_dict (by
      simp only [Bool.not_true, Bool.false_eq_true, if_false]
      exact wpAny_bind (wpAny_pure (wpAny_bind (wpAny_pure (wpAny_bind (PySem.W.keq_samePairsIn hp hq dp dq hits (wpAny_pure ⟨_, rfl, (fun x => nomatch x), by simpa using h⟩))))))))))))
end
end SD

set_option Elab.async false
set_option linter.all false
set_option maxRecDepth 100000
set_option maxHeartbeats 4000000
namespace SD
open PySem PySem.Spec PyProof.Rows L2 PySem.SeqAt

/-! ### == and != of data -/
def andAll : List (Option Bool) → Option Bool
  | [] => some true
  | o :: r => match o, andAll r with
    | some b, some c => some (b && c)
    | _, _ => none
def eqS : D → D → Option Bool
  | .non, .non => some true
  | .bl a, .bl b => some (a == b)
  | .bl a, .int j => some ((if a then 1 else 0) == j)
  | .int i, .bl b => some (i == (if b then 1 else 0))
  | .int i, .int j => some (i == j)
  | .str s, .str t => some (s == t)
  | .lst _, .lst _ => none
  | .tup _, .tup _ => none
  | .dct _, _ => none
  | _, .dct _ => none
  | .scr _, _ => none
  | _, .scr _ => none
  | .obj _ _, _ => none
  | _, .obj _ _ => none
  | _, _ => some false
def lookK (ls : List (Key × D)) (k : Key) : Option D := (ls.find? fun kv => decide (kv.1 = k)).map (·.2)
/-- no deeper than n -/
def eqO : Nat → D → D → Option Bool
  | 0, d, e => eqS d e
  | n + 1, d, e => match d, e with
    | .lst ds, .lst es => if ds.length = es.length then andAll (List.zipWith (eqO n) ds es) else some false
    | .tup ds, .tup es => (andAll (List.zipWith (eqO n) ds es)).map fun b => b && ds.length == es.length
    | .dct ks, .dct ls => if ks.length = ls.length then andAll (ks.map fun p => match lookK ls p.1 with
        | some d => eqO n p.2 d
        | none => some false) else some false
    | d, e => eqS d e
theorem mkS_beq (a b : Cs) : (mkS a == mkS b) = (a == b) := by
  have h : (mkS a = mkS b) ↔ a = b := ⟨fun h => by simpa [mkS] using congrArg (fun x : Str => x.cps.toList) h, fun h => h ▸ rfl⟩
  by_cases e : a = b
  · subst e; simp
  · rw [beq_eq_false_iff_ne.mpr e, beq_eq_false_iff_ne.mpr (fun z => e (h.mp z))]
theorem andAll_some : ∀ {l : List (Option Bool)} {b : Bool}, andAll l = some b → ∃ e : Nat → Bool, (∀ j o, l[j]? = some o → o = some (e j)) ∧ b = (List.range l.length).all e
  | [], b, h => by
    cases h
    exact ⟨fun _ => true, fun j o h => by simp at h, rfl⟩
  | o :: r, b, h => by
    unfold andAll at h
    split at h
    · rename_i b1 c hc
      cases h
      obtain ⟨e, h1, h2⟩ := andAll_some hc
      refine ⟨fun j => match j with | 0 => b1 | j + 1 => e j, fun j o h => ?_, ?_⟩
      · cases j with
        | zero => simp at h; exact h.symm
        | succ j => exact h1 j o (by simpa using h)
      · rw [h2, List.length_cons, List.range_succ_eq_map, List.all_cons, List.all_map]
        rfl
    · cases h
inductive Sh (s : Shared) : D → Value → Prop
  | non : Sh s .non .none
  | bl (b : Bool) : Sh s (.bl b) (.bool b)
  | int (i : Int) (t : Tok) : Sh s (.int i) (.int i t)
  | str (x : Cs) (t : Tok) : Sh s (.str x) (.str (mkS x) t)
  | lst {ds : List D} {a : Addr} {items : Array Value} : s.heap.IsList a items → Sh s (.lst ds) (.ref a)
  | tup {ds : List D} {a : Addr} {items : Array Value} : s.heap.IsTuple a items → Sh s (.tup ds) (.ref a)
theorem sh_eqS {A : Around} {s : Shared} {d e : D} {v u : Value} {b : Bool} (h1 : Sh s d v) (h2 : Sh s e u) (hu : A.units < cLine) (h : eqS d e = some b) : EqAt A s v u b ∧ RcAt A s v u b ∧ RcNeAt A s v u (!b) := by
  cases h1 with
  | non =>
    cases h2 with
    | non => cases h; exact ⟨EqAt.same _, RcAt.none_none, RcNeAt.none_none⟩
    | bl x2 => cases h; exact ⟨EqAt.none_bool x2, RcAt.none_bool x2, RcNeAt.none_bool x2⟩
    | int x2 t2 => cases h; exact ⟨EqAt.none_int x2 t2, RcAt.none_int x2 t2, RcNeAt.none_int x2 t2⟩
    | str x2 t2 => cases h; exact ⟨EqAt.none_str (mkS x2) t2, RcAt.none_str (mkS x2) t2, RcNeAt.none_str (mkS x2) t2⟩
    | lst h2 => cases h; exact ⟨EqAt.none_list h2 hu, RcAt.none_list h2 hu, RcNeAt.none_list h2 hu⟩
    | tup h2 => cases h; exact ⟨EqAt.none_tuple h2 hu, RcAt.none_tuple h2 hu, RcNeAt.none_tuple h2 hu⟩
  | bl x1 =>
    cases h2 with
    | non => cases h; exact ⟨EqAt.bool_none x1, RcAt.bool_none x1, RcNeAt.bool_none x1⟩
    | bl x2 => cases h; exact ⟨EqAt.bool_bool x1 x2, RcAt.bool_bool x1 x2, RcNeAt.bool_bool x1 x2⟩
    | int x2 t2 => cases h; exact ⟨EqAt.bool_int x1 x2 t2, RcAt.bool_int x1 x2 t2, RcNeAt.bool_int x1 x2 t2⟩
    | str x2 t2 => cases h; exact ⟨EqAt.bool_str x1 (mkS x2) t2, RcAt.bool_str x1 (mkS x2) t2, RcNeAt.bool_str x1 (mkS x2) t2⟩
    | lst h2 => cases h; exact ⟨EqAt.bool_list x1 h2 hu, RcAt.bool_list x1 h2 hu, RcNeAt.bool_list x1 h2 hu⟩
    | tup h2 => cases h; exact ⟨EqAt.bool_tuple x1 h2 hu, RcAt.bool_tuple x1 h2 hu, RcNeAt.bool_tuple x1 h2 hu⟩
  | int x1 t1 =>
    cases h2 with
    | non => cases h; exact ⟨EqAt.int_none x1 t1, RcAt.int_none x1 t1, RcNeAt.int_none x1 t1⟩
    | bl x2 => cases h; exact ⟨EqAt.int_bool x1 t1 x2, RcAt.int_bool x1 t1 x2, RcNeAt.int_bool x1 t1 x2⟩
    | int x2 t2 => cases h; exact ⟨EqAt.int_int x1 t1 x2 t2, RcAt.int_int x1 t1 x2 t2, RcNeAt.int_int x1 t1 x2 t2⟩
    | str x2 t2 => cases h; exact ⟨EqAt.int_str x1 t1 (mkS x2) t2, RcAt.int_str x1 t1 (mkS x2) t2, RcNeAt.int_str x1 t1 (mkS x2) t2⟩
    | lst h2 => cases h; exact ⟨EqAt.int_list x1 t1 h2 hu, RcAt.int_list x1 t1 h2 hu, RcNeAt.int_list x1 t1 h2 hu⟩
    | tup h2 => cases h; exact ⟨EqAt.int_tuple x1 t1 h2 hu, RcAt.int_tuple x1 t1 h2 hu, RcNeAt.int_tuple x1 t1 h2 hu⟩
  | str x1 t1 =>
    cases h2 with
    | non => cases h; exact ⟨EqAt.str_none (mkS x1) t1, RcAt.str_none (mkS x1) t1, RcNeAt.str_none (mkS x1) t1⟩
    | bl x2 => cases h; exact ⟨EqAt.str_bool (mkS x1) t1 x2, RcAt.str_bool (mkS x1) t1 x2, RcNeAt.str_bool (mkS x1) t1 x2⟩
    | int x2 t2 => cases h; exact ⟨EqAt.str_int (mkS x1) t1 x2 t2, RcAt.str_int (mkS x1) t1 x2 t2, RcNeAt.str_int (mkS x1) t1 x2 t2⟩
    | str x2 t2 => cases h; rw [← mkS_beq]; exact ⟨EqAt.str_str (mkS x1) t1 (mkS x2) t2, RcAt.str_str (mkS x1) t1 (mkS x2) t2, RcNeAt.str_str (mkS x1) t1 (mkS x2) t2⟩
    | lst h2 => cases h; exact ⟨EqAt.str_list (mkS x1) t1 h2 hu, RcAt.str_list (mkS x1) t1 h2 hu, RcNeAt.str_list (mkS x1) t1 h2 hu⟩
    | tup h2 => cases h; exact ⟨EqAt.str_tuple (mkS x1) t1 h2 hu, RcAt.str_tuple (mkS x1) t1 h2 hu, RcNeAt.str_tuple (mkS x1) t1 h2 hu⟩
  | lst h1 =>
    cases h2 with
    | non => cases h; exact ⟨EqAt.list_none h1 hu, RcAt.list_none h1 hu, RcNeAt.list_none h1 hu⟩
    | bl x2 => cases h; exact ⟨EqAt.list_bool x2 h1 hu, RcAt.list_bool x2 h1 hu, RcNeAt.list_bool x2 h1 hu⟩
    | int x2 t2 => cases h; exact ⟨EqAt.list_int x2 t2 h1 hu, RcAt.list_int x2 t2 h1 hu, RcNeAt.list_int x2 t2 h1 hu⟩
    | str x2 t2 => cases h; exact ⟨EqAt.list_str (mkS x2) t2 h1 hu, RcAt.list_str (mkS x2) t2 h1 hu, RcNeAt.list_str (mkS x2) t2 h1 hu⟩
    | lst h2 => cases h
    | tup h2 => cases h; exact ⟨EqAt.list_tuple h1 h2 hu, RcAt.list_tuple h1 h2 hu, RcNeAt.list_tuple h1 h2 hu⟩
  | tup h1 =>
    cases h2 with
    | non => cases h; exact ⟨EqAt.tuple_none h1 hu, RcAt.tuple_none h1 hu, RcNeAt.tuple_none h1 hu⟩
    | bl x2 => cases h; exact ⟨EqAt.tuple_bool x2 h1 hu, RcAt.tuple_bool x2 h1 hu, RcNeAt.tuple_bool x2 h1 hu⟩
    | int x2 t2 => cases h; exact ⟨EqAt.tuple_int x2 t2 h1 hu, RcAt.tuple_int x2 t2 h1 hu, RcNeAt.tuple_int x2 t2 h1 hu⟩
    | str x2 t2 => cases h; exact ⟨EqAt.tuple_str (mkS x2) t2 h1 hu, RcAt.tuple_str (mkS x2) t2 h1 hu, RcNeAt.tuple_str (mkS x2) t2 h1 hu⟩
    | lst h2 => cases h; exact ⟨EqAt.tuple_list h1 h2 hu, RcAt.tuple_list h1 h2 hu, RcNeAt.tuple_list h1 h2 hu⟩
    | tup h2 => cases h
section
variable {X : Cx} {pins : List (Addr × Obj)} {σ : L2.St} {H : Hp} {s : Shared} {ξ : List Addr} {μ : List Addr}
def plainK : D → Bool
  | .dct _ => false
  | .scr _ => false
  | .obj _ _ => false
  | _ => true
theorem RepV.sh (I : Inv X pins σ H s) {x : V} {d : D} {v : Value} (r : RepV X.K ξ H μ x d) (rv : RelV x v) (hp : plainK d = true) : Sh s d v := by
  cases d with
  | non => cases r.non; cases (show v = Value.none from rv); exact .non
  | bl b => cases r.bl; cases (show v = Value.bool b from rv); exact .bl b
  | int i => cases r.int; obtain ⟨t, rfl⟩ := (show ∃ t, v = Value.int i t from rv); exact .int i t
  | str x => cases r.str; obtain ⟨t, rfl⟩ := (show ∃ t, v = Value.str (mkS x) t from rv); exact .str x t
  | lst ds =>
    obtain ⟨a, xs, rfl, e, _⟩ := r.lstv
    cases (show v = Value.ref a from rv)
    obtain ⟨its, _, p, _⟩ := I.list (SqL.of e)
    exact .lst p.isList
  | tup ds =>
    obtain ⟨a, xs, rfl, _, e, _⟩ := r.tup
    cases (show v = Value.ref a from rv)
    obtain ⟨its, _, p, _⟩ := I.tuple e
    exact .tup (show s.heap.IsTuple a its.toArray from p)
  | dct ds => cases hp
  | scr ns => cases hp
  | obj c fs => cases hp
theorem eqS_plain {d e : D} {b : Bool} (h : eqS d e = some b) : plainK d = true ∧ plainK e = true := by
  cases d <;> cases e <;> first | exact ⟨rfl, rfl⟩ | cases h
theorem rep_self_all (n : Nat) (ih : ∀ (d e : D) (b : Bool) (x : V), eqO n d e = some b → Rep X.K ξ H μ x d → Rep X.K ξ H μ x e → b = true) :
    ∀ {xs : List V} {ds es : List D} {b : Bool}, RepL X.K ξ H μ xs ds → RepL X.K ξ H μ xs es → andAll (List.zipWith (eqO n) ds es) = some b → b = true
  | _, _, _, _, .nil, .nil, h => by cases h; rfl
  | _, _, _, _, .cons r1 t1, .cons r2 t2, h => by
    rw [List.zipWith_cons_cons] at h
    unfold andAll at h
    split at h
    · rename_i b1 c h1 h2
      cases h
      rw [ih _ _ _ _ h1 r1 r2, rep_self_all n ih t1 t2 h2]; rfl
    · cases h
theorem tup_lst (I : Inv X pins σ H s) {a : Addr} {xs ys : List V} (q1 : SqT X.K H a xs) (e : H a = some (.lst ys)) : False := by
  obtain ⟨its, _, p1, _⟩ := I.tuple q1
  obtain ⟨its2, _, p2, _⟩ := I.list (SqL.of e)
  obtain ⟨o, e1, c1, _⟩ := p1
  obtain ⟨o2, e2, c2, _⟩ := p2.isList
  rw [e1] at e2; cases e2; rw [c1] at c2; exact absurd (Value.type.inj c2) (by decide)
theorem self_tup (I : Inv X pins σ H s) {a : Addr} {xs : List V} {ds : List D} {e : D} {b : Bool} (q1 : SqT X.K H a xs) (r2 : Rep X.K ξ H μ (.ref a) e) (h : eqS (.tup ds) e = some b) : b = true := by
  cases r2 with
  | lst h' e r => exact (tup_lst I q1 e).elim
  | _ => cases h
theorem self_lst (I : Inv X pins σ H s) {a : Addr} {xs : List V} {ds : List D} {e : D} {b : Bool} (q1 : H a = some (.lst xs)) (r2 : Rep X.K ξ H μ (.ref a) e) (h : eqS (.lst ds) e = some b) : b = true := by
  cases r2 with
  | tup h' e r => exact (tup_lst I (.inl e) q1).elim
  | ktup e r => exact (tup_lst I (e H) q1).elim
  | _ => cases h
theorem eqS_self {d e : D} {b : Bool} {x : V} (h : eqS d e = some b) (r1 : Rep X.K ξ H μ x d) (r2 : Rep X.K ξ H μ x e) (I : Inv X pins σ H s) : b = true := by
  cases r1 with
  | non => cases r2; cases h; rfl
  | bl b => cases r2; cases h; simp
  | int i => cases r2; cases h; simp
  | str z =>
    generalize hy : V.str (mkS z) = y at r2
    cases r2 with
    | str z' =>
      have e1 : z = z' := by
        have := congrArg (fun q => match q with | V.str w => w.cps.toList | _ => []) hy
        simpa [mkS] using this
      subst e1
      cases h; simp
    | _ => cases hy
  | tup _ q1 _ => exact self_tup I (.inl q1) r2 h
  | ktup q1 _ => exact self_tup I (q1 H) r2 h
  | lst _ q1 _ => exact self_lst I q1 r2 h
  | dct => cases e <;> cases h
  | scr => cases e <;> cases h
  | obj => cases e <;> cases h
  | kscr => cases e <;> cases h
theorem lookK_ne {k0 k : Key} {d : D} {ls : List (Key × D)} (h : ¬ k0 = k) : lookK ((k0, d) :: ls) k = lookK ls k := by unfold lookK; rw [List.find?_cons_of_neg (by simpa using h)]
theorem valueAt_ne {k0 k : Key} {d : Value} {ls : List (Key × Value)} (h : ¬ k0 = k) : valueAt ((k0, d) :: ls) k = valueAt ls k := by unfold valueAt; rw [List.find?_cons_of_neg (by simpa using h)]
theorem KV.find {k : Key} {xs : List (Key × V)} : ∀ {vs : List (Key × Value)} {ks : List (Key × D)}, KV xs vs → RepK X.K ξ H μ xs ks → (valueAt vs k = none ∧ lookK ks k = none) ∨ ∃ v x d, valueAt vs k = some v ∧ lookK ks k = some d ∧ RelV x v ∧ Rep X.K ξ H μ x d := by
  induction xs with
  | nil => intro vs ks h r; cases h; cases r; exact .inl ⟨rfl, rfl⟩
  | cons p xs ih =>
    intro vs ks h r
    obtain ⟨k0, x0⟩ := p
    cases h with
    | @cons _ q _ vs' h t =>
    obtain ⟨k1, v1⟩ := q
    obtain ⟨e1, e2⟩ := h
    simp only at e1 e2
    subst e1
    cases r with
    | cons r t2 =>
    by_cases hk : k0 = k
    · exact .inr ⟨v1, _, _, by simp [valueAt, hk], by simp [lookK, hk], e2, r⟩
    · rw [lookK_ne hk, valueAt_ne hk]; exact ih t t2
theorem KV.mem {k : Key} {v : Value} {xs : List (Key × V)} : ∀ {vs : List (Key × Value)} {ks : List (Key × D)}, KV xs vs → RepK X.K ξ H μ xs ks → (k, v) ∈ vs → ∃ x d, (k, d) ∈ ks ∧ RelV x v ∧ Rep X.K ξ H μ x d := by
  induction xs with
  | nil => intro vs ks h r hm; cases h; simp at hm
  | cons p xs ih =>
    intro vs ks h r hm
    obtain ⟨k0, x0⟩ := p
    cases h with
    | @cons _ q _ vs' h t =>
    obtain ⟨k1, v1⟩ := q
    obtain ⟨e1, e2⟩ := h
    simp only at e1 e2
    subst e1
    cases r with
    | cons r t2 =>
    rcases List.mem_cons.mp hm with z | z
    · cases z; exact ⟨_, _, .head _, e2, r⟩
    · obtain ⟨x, d, a, b⟩ := ih t t2 z; exact ⟨x, d, .tail _ a, b⟩
theorem KV.keys {xs : List (Key × V)} : ∀ {vs : List (Key × Value)} {ks : List (Key × D)}, KV xs vs → RepK X.K ξ H μ xs ks → vs.map (·.1) = ks.map (·.1) := by
  induction xs with
  | nil => intro vs ks h r; cases h; cases r; rfl
  | cons p xs ih =>
    intro vs ks h r
    obtain ⟨k0, x0⟩ := p
    cases h with
    | @cons _ q _ vs' h t =>
    obtain ⟨k1, v1⟩ := q
    obtain ⟨e1, _⟩ := h
    simp only at e1
    subst e1
    cases r with
    | cons r t2 => rw [List.map_cons, List.map_cons, ih t t2]
theorem lookK_mem {k : Key} {d : D} : ∀ {ks : List (Key × D)}, (ks.map (·.1)).Nodup → (k, d) ∈ ks → lookK ks k = some d
  | (k0, d0) :: ks, hn, hm => by
    rw [List.map_cons, List.nodup_cons] at hn
    rcases List.mem_cons.mp hm with z | z
    · cases z; simp [lookK]
    · have hk : ¬ k0 = k := fun e => hn.1 (e ▸ List.mem_map.mpr ⟨(k, d), z, rfl⟩)
      rw [lookK_ne hk]; exact lookK_mem hn.2 z
theorem repK_same : ∀ {xs : List (Key × V)} {ks ls : List (Key × D)} {k : Key} {d e : D}, RepK X.K ξ H μ xs ks → RepK X.K ξ H μ xs ls → (k, d) ∈ ks → lookK ls k = some e → (ks.map (·.1)).Nodup → ∃ x, Rep X.K ξ H μ x d ∧ Rep X.K ξ H μ x e
  | _, _, _, _, _, _, .nil, .nil, h, _, _ => by simp at h
  | _, _, _, k, d, e, .cons (k := k0) r t, .cons r2 t2, hm, hl, hn => by
    rw [List.map_cons, List.nodup_cons] at hn
    rcases List.mem_cons.mp hm with z | z
    · cases z
      simp [lookK] at hl
      subst hl
      exact ⟨_, r, r2⟩
    · have hk : ¬ k0 = k := fun q => hn.1 (q ▸ List.mem_map.mpr ⟨(k, d), z, rfl⟩)
      rw [lookK_ne hk] at hl
      exact repK_same t t2 z hl hn.2
theorem repK_len : ∀ {xs : List (Key × V)} {ks : List (Key × D)}, RepK X.K ξ H μ xs ks → xs.length = ks.length
  | _, _, .nil => rfl
  | _, _, .cons _ t => by rw [List.length_cons, List.length_cons, repK_len t]
theorem lookK_some {k : Key} : ∀ {xs : List (Key × V)} {ks ls : List (Key × D)} {d : D}, RepK X.K ξ H μ xs ks → RepK X.K ξ H μ xs ls → (k, d) ∈ ks → ∃ e, lookK ls k = some e
  | _, _, _, _, .nil, .nil, h => by simp at h
  | _, _, _, d, .cons (k := k0) r t, .cons r2 t2, hm => by
    by_cases hk : k0 = k
    · exact ⟨_, by simp [lookK, hk]; rfl⟩
    · rcases List.mem_cons.mp hm with z | z
      · cases z; exact absurd rfl hk
      · rw [lookK_ne hk]; exact lookK_some t t2 z
theorem andAll_all : ∀ {l : List (Option Bool)} {b : Bool}, andAll l = some b → b = l.all (fun o => o.getD false) ∧ ∀ o ∈ l, ∃ c, o = some c
  | [], b, h => by cases h; exact ⟨rfl, fun o h => by simp at h⟩
  | o :: r, b, h => by
    unfold andAll at h
    split at h
    · rename_i b1 c hc
      cases h
      obtain ⟨e, q⟩ := andAll_all hc
      refine ⟨by rw [List.all_cons, e]; rfl, fun o ho => ?_⟩
      rcases List.mem_cons.mp ho with z | z
      · exact ⟨_, z⟩
      · exact q o z
    · cases h
theorem self_dct (I : Inv X pins σ H s) (n : Nat) (ih : ∀ (d e : D) (b : Bool) (x : V), eqO n d e = some b → Rep X.K ξ H μ x d → Rep X.K ξ H μ x e → b = true) {a : Addr} {xs : List (Key × V)} {ks ls : List (Key × D)} {b : Bool} (ha : Rd H a (.dK xs)) (t1 : RepK X.K ξ H μ xs ks) (t2 : RepK X.K ξ H μ xs ls)
    (h : (if ks.length = ls.length then andAll (ks.map fun p => match lookK ls p.1 with | some d => eqO n p.2 d | none => some false) else some false) = some b) : b = true := by
  rw [if_pos (by rw [← repK_len t1, ← repK_len t2])] at h
  obtain ⟨e, q⟩ := andAll_all h
  obtain ⟨_, _, vs, kv, dk⟩ := dk_rd I.hok ha
  obtain ⟨_, _, _, _, _, _, _, _, nd⟩ := dk
  rw [KV.keys kv t1] at nd
  rw [e, List.all_eq_true]
  intro o ho
  obtain ⟨⟨k, d⟩, hp, rfl⟩ := List.mem_map.mp ho
  obtain ⟨d', hd'⟩ := lookK_some t1 t2 hp
  obtain ⟨x, r1, r2⟩ := repK_same t1 t2 hp hd' nd
  simp only [hd'] at ho ⊢
  obtain ⟨c, hc⟩ := q _ ho
  rw [hc]
  exact ih _ _ _ _ hc r1 r2
theorem eqO_self (I : Inv X pins σ H s) : ∀ (n : Nat) (d e : D) (b : Bool) (x : V), eqO n d e = some b → Rep X.K ξ H μ x d → Rep X.K ξ H μ x e → b = true
  | 0, d, e, b, x, h, r1, r2 => eqS_self h r1 r2 I
  | n + 1, d, e, b, x, h, r1, r2 => by
    unfold eqO at h
    split at h
    · rename_i ds es
      obtain ⟨a, xs, rfl, e1, t1⟩ := (RepV.of r1).lstv
      obtain ⟨a', ys, q, e2, t2⟩ := (RepV.of r2).lstv
      cases q
      rw [e1] at e2; cases e2
      rw [if_pos (by rw [← t1.length, ← t2.length])] at h
      exact rep_self_all n (eqO_self I n) t1 t2 h
    · rename_i ds es
      obtain ⟨a, xs, rfl, _, e1, t1⟩ := (RepV.of r1).tup
      obtain ⟨a', ys, q, _, e2, t2⟩ := (RepV.of r2).tup
      cases q
      cases I.tuple_inj e1 e2
      cases hz : andAll (List.zipWith (eqO n) ds es) with
      | none => rw [hz] at h; cases h
      | some c =>
        rw [hz] at h
        cases h
        rw [rep_self_all n (eqO_self I n) t1 t2 hz]
        simp [← t1.length, ← t2.length]
    · rename_i ks ls
      obtain ⟨a, xs, rfl, e1, t1⟩ := (RepV.of r1).dctv
      obtain ⟨a', ys, q, e2, t2⟩ := (RepV.of r2).dctv
      cases q
      cases rd_dk e1 e2
      exact self_dct I n (eqO_self I n) e1 t1 t2 h
    · exact eqS_self h r1 r2 I
theorem zip_get {f : D → D → Option Bool} {ds es : List D} {j : Nat} {d e : D} (h1 : ds[j]? = some d) (h2 : es[j]? = some e) : (List.zipWith f ds es)[j]? = some (f d e) := by
  rw [List.getElem?_zipWith, h1, h2]
/-- the items of two sequences -/
theorem eq_items {n : Nat} {A : Around} (ih : ∀ (d e : D) (b : Bool) (x y : V) (v u : Value), eqO n d e = some b → RepV X.K ξ H μ x d → RepV X.K ξ H μ y e → RelV x v → RelV y u → EqIn X.prog X.w A s v u b)
    {xs ys : List V} {ds es : List D} {its jts : List Value} {e : Nat → Bool} (t1 : RepL X.K ξ H μ xs ds) (t2 : RepL X.K ξ H μ ys es) (v1 : Vals xs its) (v2 : Vals ys jts) (he : ∀ j o, (List.zipWith (eqO n) ds es)[j]? = some o → o = some (e j)) :
    ∀ j (h1 : j < its.toArray.size) (h2 : j < jts.toArray.size), EqIn X.prog X.w A s its.toArray[j] jts.toArray[j] (e j) := by
  intro j h1 h2
  have l1 : j < ds.length := by rw [← t1.length, v1.length]; simpa using h1
  have l2 : j < es.length := by rw [← t2.length, v2.length]; simpa using h2
  have e1 : ds[j]? = some ds[j] := List.getElem?_eq_getElem l1
  have e2 : es[j]? = some es[j] := List.getElem?_eq_getElem l2
  obtain ⟨x, hx, rx⟩ := t1.get e1
  obtain ⟨y, hy, ry⟩ := t2.get e2
  obtain ⟨v, hv, rv⟩ := v1.get hx
  obtain ⟨u, hu, ru⟩ := v2.get hy
  have q := he j _ (zip_get e1 e2)
  have a1 : its.toArray[j] = v := by
    have : its[j]? = some its[j] := List.getElem?_eq_getElem (by simpa using h1)
    rw [this] at hv
    simpa using Option.some.inj hv
  have a2 : jts.toArray[j] = u := by
    have : jts[j]? = some jts[j] := List.getElem?_eq_getElem (by simpa using h2)
    rw [this] at hu
    simpa using Option.some.inj hu
  rw [a1, a2]
  exact ih _ _ _ _ _ _ _ q (.of rx) (.of ry) rv ru
theorem eq_leaf {A : Around} {v u : Value} {b : Bool} (h : EqAt A s v u b ∧ RcAt A s v u b ∧ RcNeAt A s v u (!b)) : EqIn X.prog X.w A s v u b ∧ RcIn X.prog X.w A s v u b ∧ NeIn X.prog X.w A s v u (!b) :=
  ⟨h.1.inModel _ _, fun E Q hq => h.2.1 _ _ E Q hq, fun E Q hq => h.2.2 _ _ E Q hq⟩
theorem eq_data (I : Inv X pins σ H s) : ∀ (n : Nat) (A : Around), A.units + n < cLine → ∀ (d e : D) (b : Bool) (x y : V) (v u : Value), eqO n d e = some b → RepV X.K ξ H μ x d → RepV X.K ξ H μ y e → RelV x v → RelV y u →
    EqIn X.prog X.w A s v u b ∧ RcIn X.prog X.w A s v u b ∧ NeIn X.prog X.w A s v u (!b)
  | 0, A, hu, d, e, b, x, y, v, u, h, r1, r2, rv, ru => eq_leaf (sh_eqS (r1.sh I rv (eqS_plain h).1) (r2.sh I ru (eqS_plain h).2) (by omega) h)
  | n + 1, A, hu, d, e, b, x, y, v, u, h, r1, r2, rv, ru => by
    have h0 := h
    unfold eqO at h
    have hin : A.in1.units + n < cLine := by show A.units + 1 + n < cLine; omega
    have hA : A.units < cLine := by omega
    split at h
    · rename_i ds es
      obtain ⟨a, xs, rfl, e1, t1⟩ := id r1.lstv
      obtain ⟨c, ys, rfl, e2, t2⟩ := id r2.lstv
      cases (show v = Value.ref a from rv)
      cases (show u = Value.ref c from ru)
      obtain ⟨its, v1, p1, _⟩ := I.list (SqL.of e1)
      obtain ⟨jts, v2, p2, _⟩ := I.list (SqL.of e2)
      have q1 := p1.isList
      have q2 := p2.isList
      have n1 : its.length = ds.length := by rw [← v1.length, t1.length]
      have n2 : jts.length = es.length := by rw [← v2.length, t2.length]
      have both : RcIn X.prog X.w A s (.ref a) (.ref c) b ∧ NeIn X.prog X.w A s (.ref a) (.ref c) (!b) := by
        by_cases hl : ds.length = es.length
        · rw [if_pos hl] at h
          obtain ⟨e, he, hb⟩ := andAll_some h
          have hit := eq_items (A := A.in1) (fun d e b x y v u q r1 r2 rv ru => (eq_data I n A.in1 hin d e b x y v u q r1 r2 rv ru).1) t1 t2 v1 v2 he
          have hs : its.toArray.size = jts.toArray.size := by simp; omega
          have hz : (List.zipWith (eqO n) ds es).length = its.toArray.size := by simp; omega
          rw [hz] at hb
          subst hb
          exact ⟨fun E Q hq => rcIn_lists q1 q2 hs hA hit hq, NeIn.lists q1 q2 hs hA hit⟩
        · rw [if_neg hl] at h
          cases h
          have hs : (its.toArray.size != jts.toArray.size) = true := by simp; omega
          exact ⟨fun E Q hq => RcAt.lists_lengths q1 q2 hs hA _ _ E Q hq, fun E Q hq => RcNeAt.lists_lengths q1 q2 hs hA _ _ E Q hq⟩
      refine ⟨?_, both⟩
      by_cases hac : a = c
      · subst hac
        rw [e1] at e2; cases e2
        have : b = true := by
          rw [if_pos (by rw [← t1.length, ← t2.length])] at h
          exact rep_self_all n (eqO_self I n) t1 t2 h
        subst this
        exact (EqAt.same _).inModel _ _
      · exact EqIn.of_refs hac fun E Q hq => both.1 E Q hq
    · rename_i ds es
      obtain ⟨a, xs, rfl, _, e1, t1⟩ := id r1.tup
      obtain ⟨c, ys, rfl, _, e2, t2⟩ := id r2.tup
      cases (show v = Value.ref a from rv)
      cases (show u = Value.ref c from ru)
      obtain ⟨its, v1, p1, _⟩ := I.tuple e1
      obtain ⟨jts, v2, p2, _⟩ := I.tuple e2
      have q1 : s.heap.IsTuple a its.toArray := p1
      have q2 : s.heap.IsTuple c jts.toArray := p2
      have n1 : its.length = ds.length := by rw [← v1.length, t1.length]
      have n2 : jts.length = es.length := by rw [← v2.length, t2.length]
      cases hz0 : andAll (List.zipWith (eqO n) ds es) with
      | none => rw [hz0] at h; cases h
      | some c0 =>
        rw [hz0] at h
        cases h
        have both : RcIn X.prog X.w A s (.ref a) (.ref c) (c0 && ds.length == es.length) ∧ NeIn X.prog X.w A s (.ref a) (.ref c) (!(c0 && ds.length == es.length)) := by
          obtain ⟨e, he, hb⟩ := andAll_some hz0
          have hit := eq_items (A := A.in1) (fun d e b x y v u q r1 r2 rv ru => (eq_data I n A.in1 hin d e b x y v u q r1 r2 rv ru).1) t1 t2 v1 v2 he
          have hz : (List.zipWith (eqO n) ds es).length = min its.toArray.size jts.toArray.size := by simp; omega
          rw [hz] at hb
          have hl : (ds.length == es.length) = (its.toArray.size == jts.toArray.size) := by simp [n1, n2]
          rw [hl, hb]
          exact ⟨fun E Q hq => rcIn_tuples q1 q2 hA hit hq, NeIn.tuples q1 q2 hA hit⟩
        refine ⟨?_, both⟩
        by_cases hac : a = c
        · subst hac
          cases I.tuple_inj e1 e2
          have : c0 = true := rep_self_all n (eqO_self I n) t1 t2 hz0
          subst this
          show EqIn X.prog X.w A s _ _ (true && ds.length == es.length)
          rw [show (true && ds.length == es.length) = true by simp [← t1.length, ← t2.length]]
          exact (EqAt.same _).inModel _ _
        · exact EqIn.of_refs hac fun E Q hq => both.1 E Q hq
    · rename_i ks ls
      obtain ⟨a, xs, rfl, e1, t1⟩ := id r1.dctv
      obtain ⟨c, ys, rfl, e2, t2⟩ := id r2.dctv
      cases (show v = Value.ref a from rv)
      cases (show u = Value.ref c from ru)
      obtain ⟨_, y1, vs, kv1, d1⟩ := dk_rd I.hok e1
      obtain ⟨_, y2, ws, kv2, d2⟩ := dk_rd I.hok e2
      have nd1 : (vs.map (·.1)).Nodup := by obtain ⟨_, _, _, _, _, _, _, _, nd⟩ := id d1; exact nd
      have l1 : vs.length = ks.length := by rw [← repK_len t1]; exact kv1.length.symm
      have l2 : ws.length = ls.length := by rw [← repK_len t2]; exact kv2.length.symm
      have both : RcIn X.prog X.w A s (.ref a) (.ref c) b ∧ NeIn X.prog X.w A s (.ref a) (.ref c) (!b) := by
        by_cases hl : ks.length = ls.length
        · rw [if_pos hl] at h
          obtain ⟨eb, hall⟩ := andAll_all h
          -- what each key answers
          have nd : (ks.map (·.1)).Nodup := by rw [← KV.keys kv1 t1]; exact nd1
          let g : Key → Bool := fun k => match lookK ks k, lookK ls k with
            | some d, some d' => (eqO n d d').getD false
            | _, _ => false
          have hits : PySem.W.KeqHitsIn X.prog X.w A.in1 s ws vs (vs.all fun p => (valueAt ws p.1).isSome && g p.1) := PySem.W.KeqHitsIn.of vs fun k v0 w0 hm hw => by
            obtain ⟨x, d, hd, rx, rd⟩ := KV.mem kv1 t1 hm
            rcases KV.find (k := k) kv2 t2 with ⟨z, _⟩ | ⟨w1, y, d', z1, z2, ry, rd'⟩
            · rw [hw] at z; cases z
            · rw [hw] at z1; cases z1
              have lk := lookK_mem nd hd
              have hmem : (match lookK ls k with | some d' => eqO n d d' | none => some false) ∈ ks.map fun p => match lookK ls p.1 with | some d => eqO n p.2 d | none => some false := List.mem_map.mpr ⟨(k, d), hd, rfl⟩
              obtain ⟨c0, hc0⟩ := hall _ hmem
              simp only [z2] at hc0
              have hg : g k = c0 := by simp only [g, lk, z2, hc0, Option.getD_some]
              rw [hg]
              exact (eq_data I n A.in1 hin d d' c0 x y v0 w0 hc0 (.of rd) (.of rd') rx ry).1
          have hr : b = (vs.length == ws.length && vs.all fun p => (valueAt ws p.1).isSome && g p.1) := by
            rw [l1, l2, eb]
            have : (ks.length == ls.length) = true := by simpa using hl
            rw [this, Bool.true_and, List.all_map]
            have m1 : ∀ (ps : List (Key × D)) (qs : List (Key × Value)), (∀ p ∈ ps, p ∈ ks) → ps.map (·.1) = qs.map (·.1) → (ps.all ((fun o => o.getD false) ∘ fun p => match lookK ls p.1 with | some d => eqO n p.2 d | none => some false)) = qs.all fun p => (valueAt ws p.1).isSome && g p.1 := by
              intro ps
              induction ps with
              | nil => intro qs _ hq; cases qs with
                | nil => rfl
                | cons => cases hq
              | cons p ps ihp =>
                intro qs hp hq
                cases qs with
                | nil => cases hq
                | cons q qs =>
                  obtain ⟨k, d⟩ := p
                  obtain ⟨k', v'⟩ := q
                  rw [List.map_cons, List.map_cons] at hq
                  injection hq with hk hq
                  simp only at hk
                  subst hk
                  rw [List.all_cons, List.all_cons, ihp qs (fun p h => hp p (.tail _ h)) hq]
                  congr 1
                  have lk := lookK_mem nd (hp (k, d) (.head _))
                  show ((match lookK ls k with | some d' => eqO n d d' | none => some false).getD false) = ((valueAt ws k).isSome && g k)
                  rcases KV.find (k := k) kv2 t2 with ⟨z, z'⟩ | ⟨w1, y, d', z1, z2, _, _⟩
                  · simp [z, z']
                  · simp [z1, z2, g, lk]
            exact m1 ks vs (fun p h => h) (KV.keys kv1 t1).symm
          rw [hr]
          exact ⟨fun E Q hq => PySem.W.keq_eqIn y1 y2 d1 d2 hA (fun _ => hits) hq, NeIn.dicts y1 y2 d1 d2 hA fun _ => hits⟩
        · rw [if_neg hl] at h
          cases h
          have hr : false = (vs.length == ws.length && false) := by simp
          rw [hr]
          exact ⟨fun E Q hq => PySem.W.keq_eqIn y1 y2 d1 d2 hA (fun z => absurd (l1.symm.trans (z.trans l2)) hl) hq, NeIn.dicts y1 y2 d1 d2 hA fun z => absurd (l1.symm.trans (z.trans l2)) hl⟩
      refine ⟨?_, both⟩
      by_cases hac : a = c
      · subst hac
        cases rd_dk e1 e2
        have : b = true := self_dct I n (eqO_self I n) e1 t1 t2 h
        subst this
        exact (EqAt.same _).inModel _ _
      · exact EqIn.of_refs hac fun E Q hq => both.1 E Q hq
    · exact eq_leaf (sh_eqS (r1.sh I rv (eqS_plain h).1) (r2.sh I ru (eqS_plain h).2) (by omega) h)
def eqN : Nat := 24
def rEqO (K : PySem.W.Frag) : R2 := fun x y H Q => ∃ ξ μ d e b, RepV K ξ H μ x d ∧ RepV K ξ H μ y e ∧ eqO eqN d e = some b ∧ Q (.bl b) H
def rNeO (K : PySem.W.Frag) : R2 := fun x y H Q => ∃ ξ μ d e b, RepV K ξ H μ x d ∧ RepV K ξ H μ y e ∧ eqO eqN d e = some b ∧ Q (.bl (!b)) H
theorem op_eqO (hu : X.A.units + 64 < cLine) : OpR X (compareOp .Eq) (rEqO X.K) := by
  intro pins s σ H x y v u Q I rx ry ⟨ξ, μ, d, e, b, r1, r2, h, q⟩
  exact (eq_data I eqN X.A (by unfold eqN; omega) d e b x y v u h r1 r2 rx ry).2.1 _ _ ⟨.bl b, H, I, rfl, q⟩
theorem op_neO (hu : X.A.units + 64 < cLine) : OpR X (compareOp .NotEq) (rNeO X.K) := by
  intro pins s σ H x y v u Q I rx ry ⟨ξ, μ, d, e, b, r1, r2, h, q⟩
  exact (eq_data I eqN X.A (by unfold eqN; omega) d e b x y v u h r1 r2 rx ry).2.2 _ _ ⟨.bl (!b), H, I, rfl, q⟩
end
def eqD (d e : D) : Option D := (eqO eqN d e).map .bl
def neD (d e : D) : Option D := (eqO eqN d e).map fun b => .bl (!b)
theorem o_eq {K : PySem.W.Frag} : Op2 K (lift2 eqD) (rEqO K) := Op2.lift fun ξ mg W x y d e c σ H μ M Q m kh r1 r2 h p => by
  unfold eqD at h
  cases q : eqO eqN d e with
  | none => rw [q] at h; cases h
  | some b => rw [q] at h; cases h; exact ⟨ξ, μ, d, e, b, r1, r2, q, fun kh => p.here m kh (.dat (.bl b))⟩
theorem o_ne {K : PySem.W.Frag} : Op2 K (lift2 neD) (rNeO K) := Op2.lift fun ξ mg W x y d e c σ H μ M Q m kh r1 r2 h p => by
  unfold neD at h
  cases q : eqO eqN d e with
  | none => rw [q] at h; cases h
  | some b => rw [q] at h; cases h; exact ⟨ξ, μ, d, e, b, r1, r2, q, fun kh => p.here m kh (.dat (.bl _))⟩
end SD

set_option Elab.async false
set_option linter.all false
set_option maxRecDepth 100000
set_option maxHeartbeats 4000000
namespace SD
open PySem PySem.Spec PyProof.Rows L2

/-! ### new lists -/
/-- a new list: as data, or (c) as a cell -/
def newL (c : Bool) (ds : List D) (M : Mem) : Out U := if c then .ok (.cell M.length) (M ++ [.lst ds]) else .ok (.dat (.lst ds)) M
theorem newL_post {K : PySem.W.Frag} {ξ : List Addr} {mg : Str → Option Value} {W : WX} {σ : L2.St} {H : Hp} {μ : List Addr} {M : Mem} {Q : VK} {c : Bool} {ds : List D} {xs : List V} (h : Post K ξ mg W (RepU K ξ) σ H μ (newL c ds M) Q) (m : RelM K ξ H μ M) (r : RepL K ξ H μ xs ds)
    {p : Addr} (hp : H p = none) (kh : KH K (upd H p (.lst xs))) : Q (.ref p) (upd H p (.lst xs)) := by
  unfold newL at h
  cases c with
  | false => exact h _ _ μ (Nxt.laid hp) (m.laid hp) kh (.dat (.lst (m.new hp) upd_same (RepL.next (Nxt.laid hp) r)))
  | true =>
    have hk : K.lookup p = none := by
      cases e : K.lookup p with
      | none => rfl
      | some o =>
        have := kh p o e
        rw [upd_same] at this; cases this
    refine h _ _ (μ ++ [p]) (Nxt.laidC m hp hk) (m.laidC hp hk r) kh (.cell ?_)
    rw [← m.len, List.getElem?_append_right (Nat.le_refl _)]; simp
/-- a new tuple -/
theorem newT_post {K : PySem.W.Frag} {ξ : List Addr} {mg : Str → Option Value} {W : WX} {σ : L2.St} {H : Hp} {μ : List Addr} {M : Mem} {Q : VK} {ds : List D} {xs : List V} (h : Post K ξ mg W (RepU K ξ) σ H μ (.ok (.dat (.tup ds)) M) Q) (m : RelM K ξ H μ M) (r : RepL K ξ H μ xs ds)
    {p : Addr} (hp : H p = none) (kh : KH K (upd H p (.tup xs))) : Q (.ref p) (upd H p (.tup xs)) :=
  h _ _ μ (Nxt.laid hp) (m.laid hp) kh (.dat (.tup (m.new hp) (.inl upd_same) (RepL.next (Nxt.laid hp) r)))

/-! ### arithmetic -/
def addD : D → D → Option D
  | .int i, .int j => some (.int (i + j))
  | .str s, .str t => if s.length + t.length ≤ 16777216 then some (.str (s ++ t)) else none
  | .tup ds, .tup es => if ds.length + es.length ≤ 16777216 then some (.tup (ds ++ es)) else none
  | _, _ => none
def subD : D → D → Option D
  | .int i, .int j => some (.int (i - j))
  | _, _ => none
def mulD : D → D → Option D
  | .int i, .int j => if (-(2 ^ 64) < i ∧ i < 2 ^ 64) ∨ (-(2 ^ 64) < j ∧ j < 2 ^ 64) then some (.int (i * j)) else none
  | _, _ => none
def fdivD : D → D → Option D
  | .int i, .int j => if 0 < j ∧ j < 1073741824 then some (.int (i / j)) else none
  | _, _ => none
def modD : D → D → Option D
  | .int i, .int j => if 0 < j then some (.int (i % j)) else none
  | _, _ => none
def powD : D → D → Option D
  | .int i, .int j => if 0 ≤ j ∧ j ≤ 1000000 ∧ i.natAbs < 2 ^ 64 then some (.int (i ^ j.toNat)) else none
  | _, _ => none
theorem mkS_app (s t : Cs) : mkS s ++ mkS t = mkS (s ++ t) := by
  show Str.mk (s.toArray ++ t.toArray) = _
  simp [mkS]
theorem mkS_len (s : Cs) : (mkS s).length = s.length := by simp [mkS, Str.length]
section
variable {K : PySem.W.Frag}
/-- + : numbers, texts; lists (c: the sum is a cell) -/
def pAdd (c : Bool) : P2 := fun u w M => match view u M, view w M with
  | some (.lst ds), some (.lst es) => if ds.length + es.length ≤ 16777216 then newL c (ds ++ es) M else .bad
  | _, _ => lift2 addD u w M
def rAddB (K : PySem.W.Frag) : R2 := fun x y H Q => rCatA K x y H Q ∨ (rI0 (fun i j => .int (i + j)) x y H Q ∨ ∃ i j, x = .str i ∧ y = .str j ∧ i.length + j.length ≤ sizeLine ∧ Q (.str (i ++ j)) H)
def rAddA (K : PySem.W.Frag) : R2 := fun x y H Q => rCat x y H Q ∨ rAddB K x y H Q
theorem or_add {X : Cx} : OpR X (binaryOp .Add) (rAddA X.K) := op_cat.or (op_catA.or (op_add.or op_add_str))
theorem o_add {c : Bool} : Op2 K (pAdd c) (rAddA K) := by
  intro ξ mg W x y u w σ H μ M Q m kh ru rw p
  unfold pAdd at p
  split at p
  · rename_i ds es hd he
    split at p
    · rename_i hl
      obtain ⟨a, xs, rfl, e1, t1⟩ := (ru.view m hd).lstv
      obtain ⟨b, ys, rfl, e2, t2⟩ := (rw.view m he).lstv
      refine .inl ⟨a, b, xs, ys, rfl, rfl, e1, e2, ?_, fun q hq kh' => newL_post p m (t1.append t2) hq kh'⟩
      rw [sizeLine_eq, t1.length, t2.length]; exact hl
    · exact p.elim
  · refine .inr ((Op2.lift (K := K) (g := addD) (r := rAddB K) ?_) ξ mg W x y u w σ H μ M Q m kh ru rw p)
    intro ξ mg W x y d e c σ H μ M Q m kh r1 r2 h p
    unfold addD at h
    split at h
    · cases h; cases r1.int; cases r2.int
      exact .inr (.inl ⟨_, _, rfl, rfl, fun kh => p.here m kh (.dat (.int _))⟩)
    · split at h
      · rename_i hl
        cases h; cases r1.str; cases r2.str
        refine .inr (.inr ⟨_, _, rfl, rfl, by rw [sizeLine_eq, mkS_len, mkS_len]; exact hl, fun kh => p.here m kh ?_⟩)
        rw [mkS_app]; exact .dat (.str _)
      · cases h
    · split at h
      · rename_i hl
        cases h
        cases r1 with | of r1 => cases r2 with | of r2 =>
        obtain ⟨a, xs, rfl, _, e1, t1⟩ := (RepV.of r1).tup
        obtain ⟨b, ys, rfl, _, e2, t2⟩ := (RepV.of r2).tup
        refine .inl ⟨a, b, xs, ys, rfl, rfl, e1, e2, by rw [sizeLine_eq, t1.length, t2.length]; exact hl, fun z kh' => ?_, fun _ z kh' => ?_, fun _ _ q hq kh' => newT_post p m (t1.append t2) hq kh'⟩
        · subst z; cases t1; exact p.here m kh' (.dat r2)
        · subst z; cases t2; rw [List.append_nil] at p; exact p.here m kh' (.dat r1)
      · cases h
    · cases h
theorem o_int {g : D → D → Option D} {C : Int → Int → Prop} {f : Int → Int → Int} (hg : ∀ d e c, g d e = some c → ∃ i j, d = .int i ∧ e = .int j ∧ C i j ∧ c = .int (f i j)) : Op2 K (lift2 g) (rI C fun i j => .int (f i j)) :=
  Op2.lift fun ξ mg W x y d e c σ H μ M Q m kh r1 r2 h p => by
    obtain ⟨i, j, rfl, rfl, hc, rfl⟩ := hg d e c h
    cases r1.int; cases r2.int
    exact ⟨i, j, rfl, rfl, hc, fun kh => p.here m kh (.dat (.int _))⟩
theorem o_sub : Op2 K (lift2 subD) (rI0 fun i j => .int (i - j)) := Op2.lift fun ξ mg W x y d e c σ H μ M Q m kh r1 r2 h p => by
  unfold subD at h
  split at h
  · cases h; cases r1.int; cases r2.int
    exact ⟨_, _, rfl, rfl, fun kh => p.here m kh (.dat (.int _))⟩
  · cases h
theorem o_mul : Op2 K (lift2 mulD) (rI CMul fun i j => .int (i * j)) := o_int fun d e c h => by
  unfold mulD at h
  split at h
  · split at h
    · rename_i hc; cases h; exact ⟨_, _, rfl, rfl, hc, rfl⟩
    · cases h
  · cases h
theorem o_fdiv : Op2 K (lift2 fdivD) (rI CDiv fun i j => .int (i / j)) := o_int fun d e c h => by
  unfold fdivD at h
  split at h
  · split at h
    · rename_i hc; cases h; exact ⟨_, _, rfl, rfl, hc, rfl⟩
    · cases h
  · cases h
theorem o_mod : Op2 K (lift2 modD) (rI (fun _ j => 0 < j) fun i j => .int (i % j)) := o_int fun d e c h => by
  unfold modD at h
  split at h
  · split at h
    · rename_i hc; cases h; exact ⟨_, _, rfl, rfl, hc, rfl⟩
    · cases h
  · cases h
theorem o_pow : Op2 K (lift2 powD) (rI CPow fun i j => .int (i ^ j.toNat)) := o_int fun d e c h => by
  unfold powD at h
  split at h
  · split at h
    · rename_i hc; cases h; exact ⟨_, _, rfl, rfl, hc, rfl⟩
    · cases h
  · cases h

/-! ### order -/
def csLt (s t : Cs) : Bool := decide (s < t)
def ltD : D → D → Option D
  | .int i, .int j => some (.bl (decide (i < j)))
  | .str s, .str t => some (.bl (csLt s t))
  | _, _ => none
def leD : D → D → Option D
  | .int i, .int j => some (.bl (decide (i ≤ j)))
  | .str s, .str t => some (.bl (!csLt t s))
  | _, _ => none
def gtD (d e : D) : Option D := ltD e d
def geD (d e : D) : Option D := leD e d
def rOrd (f : Int → Int → Bool) (g : Str → Str → Bool) : R2 := fun x y H Q => rI0 (fun i j => .bl (f i j)) x y H Q ∨ ∃ i j, x = .str i ∧ y = .str j ∧ Q (.bl (g i j)) H
theorem or_lt {X : Cx} : OpR X (compareOp .Lt) (rOrd (fun i j => decide (i < j)) fun i j => decide (i.cps.toList < j.cps.toList)) := op_lt.or op_lt_str
theorem or_le {X : Cx} : OpR X (compareOp .LtE) (rOrd (fun i j => decide (i ≤ j)) fun i j => !decide (j.cps.toList < i.cps.toList)) := op_le.or op_le_str
theorem or_gt {X : Cx} : OpR X (compareOp .Gt) (rOrd (fun i j => decide (j < i)) fun i j => decide (j.cps.toList < i.cps.toList)) := op_gt.or op_gt_str
theorem or_ge {X : Cx} : OpR X (compareOp .GtE) (rOrd (fun i j => decide (j ≤ i)) fun i j => !decide (i.cps.toList < j.cps.toList)) := op_ge.or op_ge_str
theorem o_ord {g : D → D → Option D} {f : Int → Int → Bool} {h : Str → Str → Bool} (hg : ∀ d e c, g d e = some c → (∃ i j, d = .int i ∧ e = .int j ∧ c = .bl (f i j)) ∨ ∃ s t, d = .str s ∧ e = .str t ∧ c = .bl (h (mkS s) (mkS t))) : Op2 K (lift2 g) (rOrd f h) :=
  Op2.lift fun ξ mg W x y d e c σ H μ M Q m kh r1 r2 q p => by
    rcases hg d e c q with ⟨i, j, rfl, rfl, rfl⟩ | ⟨i, j, rfl, rfl, rfl⟩
    · cases r1.int; cases r2.int
      exact .inl ⟨i, j, rfl, rfl, fun kh => p.here m kh (.dat (.bl _))⟩
    · cases r1.str; cases r2.str
      exact .inr ⟨_, _, rfl, rfl, fun kh => p.here m kh (.dat (.bl _))⟩
theorem o_lt : Op2 K (lift2 ltD) (rOrd (fun i j => decide (i < j)) fun i j => decide (i.cps.toList < j.cps.toList)) := o_ord fun d e c h => by
  unfold ltD at h; split at h <;> first | (cases h; exact .inl ⟨_, _, rfl, rfl, rfl⟩) | (cases h; exact .inr ⟨_, _, rfl, rfl, rfl⟩) | cases h
theorem o_le : Op2 K (lift2 leD) (rOrd (fun i j => decide (i ≤ j)) fun i j => !decide (j.cps.toList < i.cps.toList)) := o_ord fun d e c h => by
  unfold leD at h; split at h <;> first | (cases h; exact .inl ⟨_, _, rfl, rfl, rfl⟩) | (cases h; exact .inr ⟨_, _, rfl, rfl, rfl⟩) | cases h
theorem o_gt : Op2 K (lift2 gtD) (rOrd (fun i j => decide (j < i)) fun i j => decide (j.cps.toList < i.cps.toList)) := o_ord fun d e c h => by
  unfold gtD ltD at h; split at h <;> first | (cases h; exact .inl ⟨_, _, rfl, rfl, rfl⟩) | (cases h; exact .inr ⟨_, _, rfl, rfl, rfl⟩) | cases h
theorem o_ge : Op2 K (lift2 geD) (rOrd (fun i j => decide (j ≤ i)) fun i j => !decide (i.cps.toList < j.cps.toList)) := o_ord fun d e c h => by
  unfold geD leD at h; split at h <;> first | (cases h; exact .inl ⟨_, _, rfl, rfl, rfl⟩) | (cases h; exact .inr ⟨_, _, rfl, rfl, rfl⟩) | cases h

/-! ### is None, in -/
def isNone : D → Bool
  | .non => true
  | _ => false
def isND : D → D → Option D
  | d, .non => some (.bl (isNone d))
  | _, _ => none
def notND : D → D → Option D
  | d, .non => some (.bl (!isNone d))
  | _, _ => none
theorem RepV.isNone {ξ : List Addr} {H : Hp} {μ : List Addr} {x : V} {d : D} (r : RepV K ξ H μ x d) : decide (x = .non) = isNone d := by
  cases r with
  | of r => cases r <;> first | rfl | simp [SD.isNone]
  | lst => simp [SD.isNone]
  | dct => simp [SD.isNone]
theorem o_isN : Op2 K (lift2 isND) (fun x y H Q => y = .non ∧ Q (.bl (decide (x = .non))) H) := Op2.lift fun ξ mg W x y d e c σ H μ M Q m kh r1 r2 q p => by
  unfold isND at q
  split at q
  · cases q; cases r2.non
    refine ⟨rfl, fun kh => ?_⟩
    rw [r1.isNone]; exact p.here m kh (.dat (.bl _))
  · cases q
theorem o_notN : Op2 K (lift2 notND) (fun x y H Q => y = .non ∧ Q (.bl (!decide (x = .non))) H) := Op2.lift fun ξ mg W x y d e c σ H μ M Q m kh r1 r2 q p => by
  unfold notND at q
  split at q
  · cases q; cases r2.non
    refine ⟨rfl, fun kh => ?_⟩
    rw [r1.isNone]; exact p.here m kh (.dat (.bl _))
  · cases q
/-- s in t, texts -/
def subS (s t : Cs) : Bool := !(Builtin.Str.occurrences (mkS t) (mkS s) 0 (mkS t).length 1).isEmpty
def flatD : D → Bool
  | .non => true
  | .bl _ => true
  | .int _ => true
  | .str _ => true
  | _ => false
/-- == of flat data -/
def eqF : D → D → Bool
  | .non, .non => true
  | .bl a, .bl b => a == b
  | .bl a, .int j => (if a then 1 else 0) == j
  | .int i, .bl b => i == (if b then 1 else 0)
  | .int i, .int j => i == j
  | .str s, .str t => s == t
  | _, _ => false
def memF (d : D) (ds : List D) : Bool := ds.any fun e => eqF e d
def inD : D → D → Option D
  | .str s, .str t => some (.bl (subS s t))
  | d, .lst ds => if flatD d && ds.all flatD then some (.bl (memF d ds)) else none
  | d, .tup ds => if flatD d && ds.all flatD then some (.bl (memF d ds)) else none
  | _, _ => none
def notInD (d e : D) : Option D := match inD d e with
  | some (.bl b) => some (.bl (!b))
  | _ => none
theorem Rep.flat {ξ : List Addr} {H : Hp} {μ : List Addr} {x : V} {d : D} (r : Rep K ξ H μ x d) (h : flatD d = true) : flatV x = true := by
  cases r <;> first | rfl | cases h
theorem RepV.flat {ξ : List Addr} {H : Hp} {μ : List Addr} {x : V} {d : D} (r : RepV K ξ H μ x d) (h : flatD d = true) : Rep K ξ H μ x d ∧ flatV x = true := by
  cases r with
  | of r => exact ⟨r, r.flat h⟩
  | lst => cases h
  | dct => cases h
theorem RepL.flat {ξ : List Addr} {H : Hp} {μ : List Addr} : ∀ {xs : List V} {ds : List D}, RepL K ξ H μ xs ds → ds.all flatD = true → xs.all flatV = true
  | _, _, .nil, _ => rfl
  | _, _, .cons r t, h => by
    rw [List.all_cons, Bool.and_eq_true] at h
    rw [List.all_cons, r.flat h.1, t.flat h.2]; rfl
theorem Rep.eqF {ξ : List Addr} {H : Hp} {μ : List Addr} {x y : V} {d e : D} (r : Rep K ξ H μ x d) (q : Rep K ξ H μ y e) (h1 : flatD d = true) (h2 : flatD e = true) : eqV x y = SD.eqF d e := by
  cases r <;> cases q <;> first | rfl | exact mkS_beq _ _ | (cases h1; done) | (cases h2; done)
theorem RepL.inV {ξ : List Addr} {H : Hp} {μ : List Addr} {x : V} {d : D} (r : Rep K ξ H μ x d) (h1 : flatD d = true) : ∀ {xs : List V} {ds : List D}, RepL K ξ H μ xs ds → ds.all flatD = true → L2.inV x xs = memF d ds
  | _, _, .nil, _ => rfl
  | _, _, .cons q t, h => by
    rw [List.all_cons, Bool.and_eq_true] at h
    have := RepL.inV r h1 t h.2
    unfold L2.inV memF at this ⊢
    rw [List.any_cons, List.any_cons, this, q.eqF r h.1 h1]
def rInA (K : PySem.W.Frag) (neg : Bool) : R2 := fun x y H Q => rIn K neg x y H Q ∨ ∃ i j, x = .str i ∧ y = .str j ∧ Q (.bl (if neg then !(!(Builtin.Str.occurrences j i 0 j.length 1).isEmpty) else (!(Builtin.Str.occurrences j i 0 j.length 1).isEmpty))) H
theorem or_in {X : Cx} : OpR X (compareOp .In) (rInA X.K false) := op_in_seq.or op_in_str
theorem or_notIn {X : Cx} : OpR X (compareOp .NotIn) (rInA X.K true) := op_notIn_seq.or op_notin_str
theorem o_inA (neg : Bool) : Op2 K (lift2 (if neg then notInD else inD)) (rInA K neg) := Op2.lift fun ξ mg W x y d e c σ H μ M Q m kh r1 r2 q p => by
  have key : ∀ b, inD d e = some (.bl b) → c = .bl (if neg then !b else b) → rInA K neg x y H (fun v H' => KH K H' → Q v H') := by
    intro b hb hc
    subst hc
    unfold inD at hb
    split at hb
    · cases hb; cases r1.str; cases r2.str
      refine .inr ⟨_, _, rfl, rfl, fun kh => ?_⟩
      have := p.here m kh (.dat (.bl _))
      unfold subS at this
      exact this
    · split at hb
      · rename_i hf
        rw [Bool.and_eq_true] at hf
        cases hb
        obtain ⟨a, ys, rfl, e2, t2⟩ := r2.lstv
        obtain ⟨r1', f1⟩ := r1.flat hf.1
        refine .inl ⟨a, ys, rfl, .inl (SqL.of e2), f1, t2.flat hf.2, fun kh => ?_⟩
        have := p.here m kh (.dat (.bl _))
        rw [t2.inV r1' hf.1 hf.2]
        cases neg <;> exact this
      · cases hb
    · split at hb
      · rename_i hf
        rw [Bool.and_eq_true] at hf
        cases hb
        obtain ⟨a, ys, rfl, _, e2, t2⟩ := r2.tup
        obtain ⟨r1', f1⟩ := r1.flat hf.1
        refine .inl ⟨a, ys, rfl, .inr e2, f1, t2.flat hf.2, fun kh => ?_⟩
        have := p.here m kh (.dat (.bl _))
        rw [t2.inV r1' hf.1 hf.2]
        cases neg <;> exact this
      · cases hb
    · cases hb
  cases neg with
  | false =>
    have q : inD d e = some c := q
    have : ∃ b, c = .bl b := by
      unfold inD at q
      split at q
      · cases q; exact ⟨_, rfl⟩
      · split at q
        · cases q; exact ⟨_, rfl⟩
        · cases q
      · split at q
        · cases q; exact ⟨_, rfl⟩
        · cases q
      · cases q
    obtain ⟨b, rfl⟩ := this
    exact key b q rfl
  | true =>
    have q : notInD d e = some c := q
    unfold notInD at q
    split at q
    · rename_i b hb
      cases q
      exact key b hb rfl
    · cases q
theorem o_in : Op2 K (lift2 inD) (rInA K false) := o_inA false
theorem o_notIn : Op2 K (lift2 notInD) (rInA K true) := o_inA true
end
end SD

set_option Elab.async false
set_option linter.all false
set_option maxRecDepth 100000
set_option maxHeartbeats 4000000
namespace SD
open PySem PySem.Spec PyProof.Rows L2

/-! ### arguments, displays -/
def aNil : Av := fun _ M => .ok [] M
def aCons (f : Ev) (g : Av) : Av := fun ρ M => (f ρ M).bind fun u M1 => (g ρ M1).bind fun us M2 => .ok (u :: us) M2
def toDs : List U → Option (List D)
  | [] => some []
  | .dat d :: r => (toDs r).map (d :: ·)
  | .cell _ :: _ => none
  | .exn _ _ _ :: _ => none
  | .tup _ :: _ => none
section
variable {K : PySem.W.Frag} {ξ : List Addr} {H : Hp} {μ : List Addr}
theorem RepUs.toL : ∀ {vs : List V} {us : List U} {ds : List D}, RepUs K ξ H μ vs us → toDs us = some ds → RepL K ξ H μ vs ds
  | _, _, _, .nil, h => by cases h; exact .nil
  | _, _, ds, .cons (us := us) r t, h => by
    cases r with
    | dat r =>
      unfold toDs at h
      cases q : toDs us with
      | none => rw [q] at h; cases h
      | some es => rw [q] at h; cases h; exact .cons r (RepUs.toL t q)
    | cell => cases h
    | exn => cases h
    | tup => cases h
theorem RepUs.length : ∀ {vs : List V} {us : List U}, RepUs K ξ H μ vs us → vs.length = us.length
  | _, _, .nil => rfl
  | _, _, .cons _ t => by simp [RepUs.length t]
end
section
variable {X : Cx} {W : WX}
theorem sa_nil : SA X W [] aNil := pa_sd pa_nil fun σ H Q kh ⟨ξ, ρ, μ, M, e, m, p⟩ kh' => p.here m kh' .nil
theorem sa_cons {e : Expr} {es : List Expr} {f : Ev} {g : Av} (ha : SE X W e f) (hr : SA X W es g) (hs : starEach (e :: es) X.env = (false, eval e X.env) :: starEach es X.env := by rfl) : SA X W (e :: es) (aCons f g) :=
  pa_sd (pa_cons ha hr hs) fun σ H Q kh ⟨ξ, ρ, μ, M, e, m, q⟩ => tg.of e m ((Post.bind (R := RepU X.K ξ) q).mono fun x H1 ⟨u, M1, μ1, n1, m1, kh1, r1, q1⟩ =>
    tg.of (e.next n1) m1 ((Post.bind (R := RepUs X.K ξ) q1).mono fun xs H2 ⟨us, M2, μ2, n2, m2, kh2, r2, q2⟩ kh => q2.here m2 kh (.cons (r1.next n2) r2)))
def eLst (c : Bool) (f : Av) : Ev := fun ρ M => (f ρ M).bind fun us M1 => match toDs us with
  | some ds => if ds.length ≤ 16777216 then newL c ds M1 else .bad
  | none => .bad
def eTup (f : Av) : Ev := fun ρ M => (f ρ M).bind fun us M1 => match toDs us with
  | some ds => if ds.length ≤ 16777216 then .ok (.dat (.tup ds)) M1 else .bad
  | none => .bad
theorem se_lst (c : Bool) {es : List Expr} {f : Av} {pos : Pos} (h : SA X W es f) : SE X W (.List es pos) (eLst c f) :=
  pe_sd (pe_lst h) fun σ H Q kh ⟨ξ, ρ, μ, M, e, m, q⟩ => tg.of e m ((Post.bind (R := RepUs X.K ξ) q).mono fun xs H1 ⟨us, M1, μ1, n1, m1, kh1, r1, q1⟩ => by
    split at q1
    · rename_i ds hd
      split at q1
      · rename_i hl
        have r := r1.toL hd
        exact ⟨by rw [sizeLine_eq, r.length]; exact hl, fun p hp kh => newL_post q1 m1 r hp kh⟩
      · exact q1.elim
    · exact q1.elim)
theorem se_tup {es : List Expr} {f : Av} {x1} {pos : Pos} (h : SA X W es f) : SE X W (.Tuple es x1 pos) (eTup f) :=
  pe_sd (pe_tup h) fun σ H Q kh ⟨ξ, ρ, μ, M, e, m, q⟩ => tg.of e m ((Post.bind (R := RepUs X.K ξ) q).mono fun xs H1 ⟨us, M1, μ1, n1, m1, kh1, r1, q1⟩ => by
    split at q1
    · rename_i ds hd
      split at q1
      · rename_i hl
        have r := r1.toL hd
        exact ⟨by rw [sizeLine_eq, r.length]; exact hl, fun p hp kh => newT_post q1 m1 r hp kh⟩
      · exact q1.elim
    · exact q1.elim)

/-! ### subscripts -/
def strAt (s : Cs) (i : Int) : Option D := (atI s i).map fun c => .str [c]
def ixD : D → D → Option D
  | .lst ds, .int i => atI ds i
  | .tup ds, .int i => atI ds i
  | .scr ns, .int i => (atI ns i).map .int
  | .str s, .int i => if s.length ≤ 16777216 then strAt s i else none
  | _, _ => none
theorem atI_len {α β : Type} {xs : List α} {ys : List β} (h : xs.length = ys.length) {i : Int} {y : β} (e : atI ys i = some y) : ∃ j : Nat, ys[j]? = some y ∧ ∀ x : α, xs[j]? = some x → atI xs i = some x := by
  unfold atI at e ⊢
  cases q : ixN ys.length i with
  | none => rw [q] at e; cases e
  | some j =>
    rw [q] at e
    refine ⟨j, e, fun x hx => ?_⟩
    rw [h, q]; exact hx
theorem RepL.atI {K : PySem.W.Frag} {ξ : List Addr} {H : Hp} {μ : List Addr} {vs : List V} {ds : List D} {i : Int} {d : D} (r : RepL K ξ H μ vs ds) (h : atI ds i = some d) : ∃ v, L2.atI vs i = some v ∧ Rep K ξ H μ v d := by
  obtain ⟨j, h1, h2⟩ := atI_len r.length h
  obtain ⟨v, h3, h4⟩ := r.get h1
  exact ⟨v, h2 v h3, h4⟩
theorem o_ix {K : PySem.W.Frag} : Op2 K (lift2 ixD) (rIx K) := Op2.lift fun ξ mg W x y d e c σ H μ M Q m kh r1 r2 q p => by
  unfold ixD at q
  split at q
  · obtain ⟨a, xs, rfl, e1, t1⟩ := r1.lstv
    cases r2.int
    obtain ⟨v, h1, h2⟩ := t1.atI q
    exact .inl ⟨a, xs, _, v, rfl, rfl, SqL.of e1, h1, fun kh => p.here m kh (.dat h2)⟩
  · obtain ⟨a, xs, rfl, _, e1, t1⟩ := r1.tup
    cases r2.int
    obtain ⟨v, h1, h2⟩ := t1.atI q
    exact .inr (.inl ⟨a, xs, _, v, rfl, rfl, e1, h1, fun kh => p.here m kh (.dat h2)⟩)
  · rename_i ns i
    obtain ⟨a, rfl, _, e1⟩ := r1.scr
    cases r2.int
    cases hz : atI ns i with
    | none => rw [hz] at q; cases q
    | some z =>
      rw [hz] at q; cases q
      obtain ⟨j, h1, h2⟩ := atI_len (xs := ns.map V.int) (by simp) hz
      exact .inl ⟨a, _, _, .int z, rfl, rfl, e1, h2 _ (by simp [h1]), fun kh => p.here m kh (.dat (.int z))⟩
  · rename_i s i
    split at q
    · rename_i hl
      cases r1.str; cases r2.int
      unfold strAt at q
      cases hz : atI s i with
      | none => rw [hz] at q; cases q
      | some z =>
        rw [hz] at q; cases q
        refine .inr (.inr ⟨_, _, z, rfl, rfl, by rw [sizeLine_eq, mkS_len]; exact hl, by simpa [mkS] using hz, fun kh => p.here m kh (.dat (.str [z]))⟩)
    · cases q
  · cases q
theorem se_ix {a b : Expr} {f g : Ev} {pos : Pos} (ha : SE X W a f) (hb : SE X W b g) (hs : PlainIx b := by exact fun _ _ => rfl) : SE X W (.Subscript a b pos) (e2 (lift2 ixD) f g) :=
  pe_sd (pe_ix ix_seq ha hb hs) fun σ H Q kh h => tg.e2 o_ix h
/-- parts of a slice -/
abbrev Pv := En → Mem → Out (Option Int)
abbrev SO (X : Cx) (W : WX) (e : Option Expr) (f : Pv) : Prop := PO X e (tg X.K X.mg W (fun _ _ _ (o o' : Option Int) => o = o') f)
def pNone : Pv := fun _ M => .ok none M
def pSome (f : Ev) : Pv := fun ρ M => (f ρ M).bind fun u M1 => match u with
  | .dat (.int i) => .ok (some i) M1
  | _ => .bad
theorem po_sd {e : Option Expr} {t : TO} {f : Pv} (h : PO X e t) (hi : ∀ σ H Q, KH X.K H → tg X.K X.mg W (fun _ _ _ (o o' : Option Int) => o = o') f σ H Q → t σ H (fun v H' => KH X.K H' → Q v H')) : SO X W e f :=
  ⟨fun pins s σ H Q I ht => thn (h.run pins s σ H _ I (hi σ H Q (Inv.kh I) ht)) fun u s1 ⟨v, H', I', r, q⟩ => ⟨v, H', I', r, q (Inv.kh I')⟩⟩
theorem so_none : SO X W none pNone := po_sd po_none fun σ H Q kh ⟨ξ, ρ, μ, M, e, m, p⟩ kh' => p.here m kh' rfl
theorem so_some {e : Expr} {f : Ev} (h : SE X W e f) : SO X W (some e) (pSome f) := po_sd (po_some h) fun σ H Q kh ⟨ξ, ρ, μ, M, e, m, q⟩ => tg.of e m ((Post.bind (R := RepU X.K ξ) q).mono fun x H1 ⟨u, M1, μ1, n1, m1, kh1, r1, q1⟩ => by
    split at q1
    · rename_i i
      cases r1 with | dat r1 => cases r1; exact ⟨i, rfl, fun kh => q1.here m1 kh rfl⟩
    · exact q1.elim)
def cutL {α : Type} (xs : List α) (lo hi : Option Int) : List α := (xs.drop (HT.sIx xs.length 0 lo)).take (HT.sIx xs.length xs.length hi - HT.sIx xs.length 0 lo)
def pSl (c : Bool) (u : U) (lo hi : Option Int) (M : Mem) : Out U := match view u M with
  | some (.lst ds) => newL c (cutL ds lo hi) M
  | some (.str s) => if s.length ≤ 16777216 then .ok (.dat (.str (cutL s lo hi))) M else .bad
  | some (.tup ds) => if HT.sIx ds.length 0 lo = 0 ∧ HT.sIx ds.length ds.length hi = ds.length then .bad else .ok (.dat (.tup (cutL ds lo hi))) M
  | _ => .bad
def eSl (c : Bool) (f : Ev) (lo hi : Pv) : Ev := fun ρ M => (f ρ M).bind fun u M1 => (lo ρ M1).bind fun l M2 => (hi ρ M2).bind fun h M3 => pSl c u l h M3
theorem RepL.cut {K : PySem.W.Frag} {ξ : List Addr} {H : Hp} {μ : List Addr} {vs : List V} {ds : List D} (r : RepL K ξ H μ vs ds) (lo hi : Option Int) : RepL K ξ H μ (cutV vs lo hi) (cutL ds lo hi) := by
  unfold cutV cutL
  rw [r.length]
  exact (r.drop _).take _
theorem cutS_cs (s : Cs) (lo hi : Option Int) : cutS (mkS s) lo hi = mkS (cutL s lo hi) := by
  unfold cutS cutL
  simp [mkS, Str.length]
def rSlA (K : PySem.W.Frag) : V → Option Int → Option Int → Hp → VK → Prop := fun x lo hi H Q => rSlL K x lo hi H Q ∨ (rSlS x lo hi H Q ∨ rSlT K x lo hi H Q)
theorem se_sl (c : Bool) {a : Expr} {lo hi : Option Expr} {f : Ev} {l h : Pv} {pos p2 : Pos} (ha : SE X W a f) (hl : SO X W lo l) (hh : SO X W hi h) : SE X W (.Subscript a (.Slice lo hi none p2) pos) (eSl c f l h) :=
  pe_sd (pe_slice (r := rSlA X.K) (sl_list.or (sl_str.or sl_tup)) ha hl hh) fun σ H Q kh ⟨ξ, ρ, μ, M, e, m, q⟩ => tg.of e m ((Post.bind (R := RepU X.K ξ) q).mono fun x H1 ⟨u, M1, μ1, n1, m1, kh1, r1, q1⟩ =>
    tg.of (e.next n1) m1 ((Post.bind (R := fun _ _ (o o' : Option Int) => o = o') q1).mono fun o1 H2 ⟨o1', M2, μ2, n2, m2, kh2, r2, q2⟩ => tg.of ((e.next n1).next n2) m2 ((Post.bind (R := fun _ _ (o o' : Option Int) => o = o') q2).mono fun o2 H3 ⟨o2', M3, μ3, n3, m3, kh3, r3, q3⟩ => by
      subst r2 r3
      have r := (r1.next n2).next n3
      unfold pSl at q3
      split at q3
      · rename_i ds hv
        obtain ⟨a, xs, rfl, e1, t1⟩ := (r.view m3 hv).lstv
        exact .inl ⟨a, xs, rfl, SqL.of e1, fun p hp kh => newL_post q3 m3 (t1.cut _ _) hp kh⟩
      · rename_i s hv
        split at q3
        · rename_i hl
          cases (r.view m3 hv).str
          refine .inr (.inl ⟨_, rfl, by rw [sizeLine_eq, mkS_len]; exact hl, fun kh => ?_⟩)
          rw [cutS_cs]
          exact q3.here m3 kh (.dat (.str _))
        · exact q3.elim
      · rename_i ds hv
        split at q3
        · exact q3.elim
        · rename_i hn
          obtain ⟨a, xs, rfl, _, e1, t1⟩ := (r.view m3 hv).tup
          exact .inr (.inr ⟨a, xs, rfl, e1, by rw [t1.length]; exact hn, fun p hp kh => newT_post q3 m3 (t1.cut _ _) hp kh⟩)
      · exact q3.elim)))

/-! ### built-ins -/
abbrev Pf := List U → Mem → Out U
def eCall (p : Pf) (f : Av) : Ev := fun ρ M => (f ρ M).bind p
def Cl (K : PySem.W.Frag) (p : Pf) (r : List V → Hp → VK → Prop) : Prop := ∀ (ξ : List Addr) (mg : Str → Option Value) (W : WX) (xs : List V) (us : List U) (σ : L2.St) (H : Hp) (μ : List Addr) (M : Mem) (Q : VK), RelM K ξ H μ M → KH K H → RepUs K ξ H μ xs us →
  Post K ξ mg W (RepU K ξ) σ H μ (p us M) Q → r xs H (fun v H' => KH K H' → Q v H')
theorem tg.call {K : PySem.W.Frag} {mg : Str → Option Value} {p : Pf} {r : List V → Hp → VK → Prop} {f : Av} {σ : L2.St} {H : Hp} {Q : VK} (hp : Cl K p r) (h : tE K mg W (eCall p f) σ H Q) : tCB r (tA K mg W f) σ H (fun v H' => KH K H' → Q v H') := by
  obtain ⟨ξ, ρ, μ, M, e, m, q⟩ := h
  exact tg.of e m ((Post.bind (R := RepUs K ξ) q).mono fun xs H1 ⟨us, M1, μ1, n1, m1, kh1, r1, q1⟩ => hp ξ mg W xs us σ H1 μ1 M1 Q m1 kh1 r1 q1)
theorem se_callB {x : Str} {p pos : Pos} {e : Expr} {es : List Expr} {f : Av} {id : String} {r : List V → Hp → VK → Prop} {pf : Pf} (hc : CallR X (.builtin id) r) (hp : Cl X.K pf r) (hm : X.mg x = none) (ha : SA X W (e :: es) f)
    (hv : bootBuiltins x = some (.builtin id) := by decide +kernel) (hg : Gl X x := by rfl) (hn : x ≠ "__name__" := by decide) (hdb : (x == ("__debug__" : Str)) = false := by decide)
    (he : starEach (e :: es) X.env = (false, eval e X.env) :: starEach es X.env := by rfl) (hpl : (backTo pos (starEach es X.env)).any (·.1) = false := by rfl) : SE X W (.Call (.Name x p) (e :: es) [] pos) (eCall pf f) :=
  pe_sd (pe_callB hc hg hm hv ha hn hdb he hpl) fun σ H Q kh h => tg.call hp h
theorem se_callTy {x : Str} {p pos : Pos} {e : Expr} {es : List Expr} {f : Av} {id : String} {r : List V → Hp → VK → Prop} {pf : Pf} (hc : CallR X (.type id) r) (hp : Cl X.K pf r) (hm : X.mg x = none) (ha : SA X W (e :: es) f)
    (hv : bootBuiltins x = some (.type id) := by decide +kernel) (hg : Gl X x := by rfl) (hn : x ≠ "__name__" := by decide) (hdb : (x == ("__debug__" : Str)) = false := by decide)
    (he : starEach (e :: es) X.env = (false, eval e X.env) :: starEach es X.env := by rfl) (hpl : (backTo pos (starEach es X.env)).any (·.1) = false := by rfl) : SE X W (.Call (.Name x p) (e :: es) [] pos) (eCall pf f) :=
  pe_sd (pe_callTy hc hg hm hv ha hn hdb he hpl) fun σ H Q kh h => tg.call hp h
/-- functions of one datum, of two -/
def pf1 (g : D → Option D) : Pf := fun us M => match us with
  | [u] => match view u M with
    | some d => match g d with
      | some c => .ok (.dat c) M
      | none => .bad
    | none => .bad
  | _ => .bad
def pf2 (g : D → D → Option D) : Pf := fun us M => match us with
  | [u, w] => match view u M, view w M with
    | some d, some e => match g d e with
      | some c => .ok (.dat c) M
      | none => .bad
    | _, _ => .bad
  | _ => .bad
/-- .. that give a new list -/
def pfL (c : Bool) (g : D → Option (List D)) : Pf := fun us M => match us with
  | [u] => match view u M with
    | some d => match g d with
      | some ds => newL c ds M
      | none => .bad
    | none => .bad
  | _ => .bad
section
variable {K : PySem.W.Frag}
theorem Cl.one {g : D → Option D} {r : List V → Hp → VK → Prop} (h : ∀ (ξ : List Addr) (mg : Str → Option Value) (W : WX) (x : V) (d c : D) (σ : L2.St) (H : Hp) (μ : List Addr) (M : Mem) (Q : VK), RelM K ξ H μ M → KH K H → RepV K ξ H μ x d → g d = some c →
    Post K ξ mg W (RepU K ξ) σ H μ (.ok (.dat c) M) Q → r [x] H (fun v H' => KH K H' → Q v H')) : Cl K (pf1 g) r := by
  intro ξ mg W xs us σ H μ M Q m kh r p
  unfold pf1 at p
  split at p
  · cases r with
    | cons r1 r2 =>
      cases r2
      split at p
      · rename_i d hd
        split at p
        · rename_i c hc
          exact h ξ mg W _ d c σ H μ M Q m kh (r1.view m hd) hc p
        · exact p.elim
      · exact p.elim
  · exact p.elim
theorem Cl.two {g : D → D → Option D} {r : List V → Hp → VK → Prop} (h : ∀ (ξ : List Addr) (mg : Str → Option Value) (W : WX) (x y : V) (d e c : D) (σ : L2.St) (H : Hp) (μ : List Addr) (M : Mem) (Q : VK), RelM K ξ H μ M → KH K H → RepV K ξ H μ x d → RepV K ξ H μ y e → g d e = some c →
    Post K ξ mg W (RepU K ξ) σ H μ (.ok (.dat c) M) Q → r [x, y] H (fun v H' => KH K H' → Q v H')) : Cl K (pf2 g) r := by
  intro ξ mg W xs us σ H μ M Q m kh r p
  unfold pf2 at p
  split at p
  · cases r with
    | cons r1 r2 => cases r2 with
      | cons r2 r3 =>
        cases r3
        split at p
        · rename_i d e hd he
          split at p
          · rename_i c hc
            exact h ξ mg W _ _ d e c σ H μ M Q m kh (r1.view m hd) (r2.view m he) hc p
          · exact p.elim
        · exact p.elim
  · exact p.elim
theorem Cl.lst {c : Bool} {g : D → Option (List D)} {r : List V → Hp → VK → Prop} (h : ∀ (ξ : List Addr) (mg : Str → Option Value) (W : WX) (x : V) (d : D) (ds : List D) (σ : L2.St) (H : Hp) (μ : List Addr) (M : Mem) (Q : VK), RelM K ξ H μ M → KH K H → RepV K ξ H μ x d → g d = some ds →
    (∀ xs p, RepL K ξ H μ xs ds → H p = none → KH K (upd H p (.lst xs)) → Q (.ref p) (upd H p (.lst xs))) → r [x] H (fun v H' => KH K H' → Q v H')) : Cl K (pfL c g) r := by
  intro ξ mg W xs us σ H μ M Q m kh r p
  unfold pfL at p
  split at p
  · cases r with
    | cons r1 r2 =>
      cases r2
      split at p
      · rename_i d hd
        split at p
        · rename_i ds hc
          exact h ξ mg W _ d ds σ H μ M Q m kh (r1.view m hd) hc fun xs q r hq kh' => newL_post p m r hq kh'
        · exact p.elim
      · exact p.elim
  · exact p.elim
def lenD : D → Option D
  | .str s => if s.length ≤ 16777216 then some (.int s.length) else none
  | .lst ds => some (.int ds.length)
  | .tup ds => some (.int ds.length)
  | .scr ns => some (.int ns.length)
  | _ => none
theorem c_len : Cl K (pf1 lenD) (fun xs H Q => ∃ x n, xs = [x] ∧ LenV K x H n ∧ Q (.int n) H) := Cl.one fun ξ mg W x d c σ H μ M Q m kh r h p => by
  unfold lenD at h
  split at h
  · split at h
    · rename_i s hl
      cases h; cases r.str
      refine ⟨_, _, rfl, ⟨by rw [sizeLine_eq, mkS_len]; exact hl, rfl⟩, fun kh => ?_⟩
      rw [mkS_len]; exact p.here m kh (.dat (.int _))
    · cases h
  · cases h
    obtain ⟨a, xs, rfl, e1, t1⟩ := r.lstv
    exact ⟨_, _, rfl, .inl ⟨xs, SqL.of e1, t1.length.symm⟩, fun kh => p.here m kh (.dat (.int _))⟩
  · cases h
    obtain ⟨a, xs, rfl, _, e1, t1⟩ := r.tup
    exact ⟨_, _, rfl, .inr ⟨xs, e1, t1.length.symm⟩, fun kh => p.here m kh (.dat (.int _))⟩
  · cases h
    obtain ⟨a, rfl, _, e1⟩ := r.scr
    exact ⟨_, _, rfl, .inl ⟨_, e1, by simp⟩, fun kh => p.here m kh (.dat (.int _))⟩
  · cases h
def max2D : D → D → Option D
  | .int i, .int j => some (.int (if j > i then j else i))
  | _, _ => none
def min2D : D → D → Option D
  | .int i, .int j => some (.int (if j < i then j else i))
  | _, _ => none
theorem c_max2 : Cl K (pf2 max2D) (fun xs H Q => ∃ i j, xs = [.int i, .int j] ∧ Q (.int (if j > i then j else i)) H) := Cl.two fun ξ mg W x y d e c σ H μ M Q m kh r1 r2 h p => by
  unfold max2D at h
  split at h
  · cases h; cases r1.int; cases r2.int
    exact ⟨_, _, rfl, fun kh => p.here m kh (.dat (.int _))⟩
  · cases h
theorem c_min2 : Cl K (pf2 min2D) (fun xs H Q => ∃ i j, xs = [.int i, .int j] ∧ Q (.int (if j < i then j else i)) H) := Cl.two fun ξ mg W x y d e c σ H μ M Q m kh r1 r2 h p => by
  unfold min2D at h
  split at h
  · cases h; cases r1.int; cases r2.int
    exact ⟨_, _, rfl, fun kh => p.here m kh (.dat (.int _))⟩
  · cases h
def toBs : List D → Option (List Bool)
  | [] => some []
  | .bl b :: r => (toBs r).map (b :: ·)
  | _ :: _ => none
theorem RepL.bls {ξ : List Addr} {H : Hp} {μ : List Addr} : ∀ {xs : List V} {ds : List D} {bs : List Bool}, RepL K ξ H μ xs ds → toBs ds = some bs → xs = bs.map V.bl
  | _, _, _, .nil, h => by cases h; rfl
  | _, _, bs, .cons (ds := ds) r t, h => by
    cases r with
    | bl b =>
      unfold toBs at h
      cases q : toBs ds with
      | none => rw [q] at h; cases h
      | some cs => rw [q] at h; cases h; rw [RepL.bls t q]; rfl
    | _ => cases h
def allD : D → Option D
  | .lst ds => (toBs ds).map fun bs => .bl (bs.all id)
  | _ => none
def anyD : D → Option D
  | .lst ds => (toBs ds).map fun bs => .bl (bs.any id)
  | _ => none
theorem c_all : Cl K (pf1 allD) (rAll K) := Cl.one fun ξ mg W x d c σ H μ M Q m kh r h p => by
  unfold allD at h
  split at h
  · rename_i ds
    obtain ⟨a, xs, rfl, e1, t1⟩ := r.lstv
    cases q : toBs ds with
    | none => rw [q] at h; cases h
    | some bs =>
      rw [q] at h; cases h
      have := t1.bls q
      subst this
      exact ⟨a, bs, rfl, SqL.of e1, fun kh => p.here m kh (.dat (.bl _))⟩
  · cases h
theorem c_any : Cl K (pf1 anyD) (rAny K) := Cl.one fun ξ mg W x d c σ H μ M Q m kh r h p => by
  unfold anyD at h
  split at h
  · rename_i ds
    obtain ⟨a, xs, rfl, e1, t1⟩ := r.lstv
    cases q : toBs ds with
    | none => rw [q] at h; cases h
    | some bs =>
      rw [q] at h; cases h
      have := t1.bls q
      subst this
      exact ⟨a, bs, rfl, SqL.of e1, fun kh => p.here m kh (.dat (.bl _))⟩
  · cases h
def seqD : D → Option (List D)
  | .lst ds => some ds
  | .tup ds => some ds
  | _ => none
theorem c_list {c : Bool} : Cl K (pfL c seqD) (fun xs H Q => ∃ p ys, xs = [.ref p] ∧ (SqL K H p ys ∨ SqT K H p ys) ∧ ∀ l, H l = none → Q (.ref l) (upd H l (.lst ys))) := Cl.lst fun ξ mg W x d ds σ H μ M Q m kh r h p => by
  unfold seqD at h
  split at h
  · cases h
    obtain ⟨a, xs, rfl, e1, t1⟩ := r.lstv
    exact ⟨a, xs, rfl, .inl (SqL.of e1), fun l hl kh => p xs l t1 hl kh⟩
  · cases h
    obtain ⟨a, xs, rfl, _, e1, t1⟩ := r.tup
    exact ⟨a, xs, rfl, .inr e1, fun l hl kh => p xs l t1 hl kh⟩
  · cases h
/-! ### isinstance -/
def tyN : D → String
  | .non => "NoneType"
  | .bl _ => "bool"
  | .int _ => "int"
  | .str _ => "str"
  | .tup _ => "tuple"
  | .lst _ => "list"
  | .dct _ => "dict"
  | .scr _ => "list"
  | .obj _ _ => "object"
def isiB (T : String) (d : D) : Bool := match d with
  | .non => T == "NoneType"
  | .bl _ => T == "bool" || T == "int"
  | .int _ => T == "int"
  | .str _ => T == "str"
  | .tup _ => T == "tuple"
  | .lst _ => T == "list"
  | .dct _ => T == "dict"
  | .scr _ => T == "list"
  | .obj _ _ => false
def eIsi (T : String) (f : Ev) : Ev := fun ρ M => (f ρ M).bind fun u M1 => match view u M1 with
  | some d => .ok (.dat (.bl (isiB T d))) M1
  | none => .bad
structure IsiT (T : String) : Prop where
  non : kitB "NoneType" T = some (isiB T .non)
  bl : kitB "bool" T = some (T == "bool" || T == "int")
  int : kitB "int" T = some (T == "int")
  str : kitB "str" T = some (T == "str")
  tup : kitB "tuple" T = some (T == "tuple")
  lst : kitB "list" T = some (T == "list")
  dct : kitB "dict" T = some (T == "dict")
  mem : T ∈ (["int", "bool", "str", "tuple", "list", "dict"] : List String)
theorem RepV.ty {ξ : List Addr} {H : Hp} {μ : List Addr} {x : V} {d : D} {T : String} (h : IsiT T) (r : RepV K ξ H μ x d) : ∃ t, TyX K H x t ∧ PySem.W.kitOne K t (.type T) = some (isiB T d) := by
  cases d with
  | non => cases r.non; exact ⟨_, .base .non, kit_ty h.non⟩
  | bl b => cases r.bl; exact ⟨_, .base (.bl b), kit_ty h.bl⟩
  | int i => cases r.int; exact ⟨_, .base (.int i), kit_ty h.int⟩
  | str s => cases r.str; exact ⟨_, .base (.str _), kit_ty h.str⟩
  | lst ds => obtain ⟨a, xs, rfl, e, _⟩ := r.lstv; exact ⟨_, .base (.lst e), kit_ty h.lst⟩
  | tup ds =>
    obtain ⟨a, xs, rfl, _, e, _⟩ := r.tup
    refine ⟨.type "tuple", ?_, kit_ty h.tup⟩
    rcases e with (e | ⟨o, e⟩) | ⟨o, its, n, e, c, _⟩
    · exact .base (.tup e)
    · exact .fTuple e
    · exact .kTuple e c
  | dct ds =>
    obtain ⟨a, xs, rfl, e, _⟩ := r.dctv
    rcases e with e | ⟨o, e⟩
    · exact ⟨_, .base (.dK e), kit_ty h.dct⟩
    · exact ⟨_, .fDict e, kit_ty h.dct⟩
  | scr ns =>
    obtain ⟨a, rfl, _, e⟩ := r.scr
    refine ⟨.type "list", ?_, kit_ty h.lst⟩
    rcases e with (e | ⟨o, e⟩) | ⟨o, its, n, e, c, _⟩
    · exact .base (.lst e)
    · exact .base (.frz e)
    · exact .kList e c
  | obj c fs =>
    obtain ⟨a, C, dx, vs, rfl, hc, e, _⟩ := r.objv
    exact ⟨_, .base (.ins e hc.cls hc.ca hc.cg hc.ct hc.cm), hc.isi T h.mem⟩
theorem ii_int : IsiT "int" := ⟨by decide +kernel, by decide +kernel, by decide +kernel, by decide +kernel, by decide +kernel, by decide +kernel, by decide +kernel, by decide +kernel⟩
theorem ii_bool : IsiT "bool" := ⟨by decide +kernel, by decide +kernel, by decide +kernel, by decide +kernel, by decide +kernel, by decide +kernel, by decide +kernel, by decide +kernel⟩
theorem ii_str : IsiT "str" := ⟨by decide +kernel, by decide +kernel, by decide +kernel, by decide +kernel, by decide +kernel, by decide +kernel, by decide +kernel, by decide +kernel⟩
theorem ii_tuple : IsiT "tuple" := ⟨by decide +kernel, by decide +kernel, by decide +kernel, by decide +kernel, by decide +kernel, by decide +kernel, by decide +kernel, by decide +kernel⟩
theorem ii_list : IsiT "list" := ⟨by decide +kernel, by decide +kernel, by decide +kernel, by decide +kernel, by decide +kernel, by decide +kernel, by decide +kernel, by decide +kernel⟩
theorem ii_dict : IsiT "dict" := ⟨by decide +kernel, by decide +kernel, by decide +kernel, by decide +kernel, by decide +kernel, by decide +kernel, by decide +kernel, by decide +kernel⟩
end
theorem se_isi {T : String} {x : Str} {e : Expr} {f : Ev} {p pos pt : Pos} (hT : IsiT T) (hmi : X.mg "isinstance" = none) (hm : X.mg x = none) (he : SE X W e f) (hv : bootBuiltins x = some (.type T) := by decide +kernel) (hg : Gl X x := by rfl) (hgi : Gl X "isinstance" := by rfl)
    (hn : x ≠ "__name__" := by decide) (hdb : (x == ("__debug__" : Str)) = false := by decide)
    (h1 : starEach [e, .Name x pt] X.env = (false, eval e X.env) :: starEach [.Name x pt] X.env := by rfl) (h2 : starEach [.Name x pt] X.env = (false, eval (.Name x pt) X.env) :: starEach [] X.env := by rfl) (hpl : (backTo pos (starEach [.Name x pt] X.env)).any (·.1) = false := by rfl) :
    SE X W (.Call (.Name "isinstance" p) [e, .Name x pt] [] pos) (eIsi T f) :=
  pe_sd (pe_callB (r := rIsi X.K) call_isi hgi hmi (by decide +kernel) (pa_cons he (pa_cons (pe_bltn (v := .ty T) hg hm hv rfl hn hdb) pa_nil h2) h1) (by decide) (by decide) h1 hpl)
    fun σ H Q kh ⟨ξ, ρ, μ, M, e, m, q⟩ => tg.of e m ((Post.bind (R := RepU X.K ξ) q).mono fun x H1 ⟨u, M1, μ1, n1, m1, kh1, r1, q1⟩ => by
      split at q1
      · rename_i d hd
        obtain ⟨t, ht, hk⟩ := (r1.view m1 hd).ty hT
        exact ⟨x, .ty T, _, _, _, rfl, .ty T, ht, hk, fun kh => q1.here m1 kh (.dat (.bl _))⟩
      · exact q1.elim)
end
end SD

set_option Elab.async false
set_option linter.all false
set_option maxRecDepth 100000
set_option maxHeartbeats 4000000
namespace SD
open PySem PySem.Spec PyProof.Rows L2

/-! ### statements -/
def PostS (K : PySem.W.Frag) (ξ : List Addr) (mg : Str → Option Value) (W : WX) (H : Hp) (μ : List Addr) (o : SOut) (E : Ends) : Prop := match o with
  | .nx ρ M => ∀ σ H' μ', Nxt K H μ H' μ' → RelE K ξ H' μ' σ ρ → RelM K ξ H' μ' M → KH K H' → E.nx σ H'
  | .rt u M => ∀ v H' μ', Nxt K H μ H' μ' → RelM K ξ H' μ' M → KH K H' → RepU K ξ H' μ' v u → E.rt v H'
  | .bk ρ M => ∀ σ H' μ', Nxt K H μ H' μ' → RelE K ξ H' μ' σ ρ → RelM K ξ H' μ' M → KH K H' → E.bk σ H'
  | .ct ρ M => ∀ σ H' μ', Nxt K H μ H' μ' → RelE K ξ H' μ' σ ρ → RelM K ξ H' μ' M → KH K H' → E.ct σ H'
  | .exc c fs ρ M => ∀ (C : Addr) (dd : Option Addr) σ H' μ', Nxt K H μ H' μ' → RelE K ξ H' μ' σ ρ → RelM K ξ H' μ' M → mg c = some (.ref C) → RepX K ξ H' μ' dd fs → W (.ref C) dd σ H'
  | .bad => False
def tS (K : PySem.W.Frag) (mg : Str → Option Value) (W : WX) (f : Sv) : TS := fun E σ H => ∃ ξ ρ μ M, RelE K ξ H μ σ ρ ∧ RelM K ξ H μ M ∧ PostS K ξ mg W H μ (f ρ M) E
abbrev S1 (X : Cx) (W : WX) (st : Stmt) (f : Sv) : Prop := PS X st (tS X.K X.mg W f)
abbrev SS (X : Cx) (W : WX) (sts : List Stmt) (f : Sv) : Prop := PSs X sts (tS X.K X.mg W f)
def EK (K : PySem.W.Frag) (E : Ends) : Ends := ⟨fun σ H => KH K H → E.nx σ H, fun v H => KH K H → E.rt v H, fun σ H => KH K H → E.bk σ H, fun σ H => KH K H → E.ct σ H⟩
def SOut.ofE {α : Type} (ρ : En) (o : Out α) (k : α → Mem → SOut) : SOut := match o with
  | .ok a m => k a m
  | .exc c fs m => .exc c fs ρ m
  | .bad => .bad
section
variable {α β : Type} {K : PySem.W.Frag} {ξ : List Addr} {mg : Str → Option Value} {W : WX} {R : Hp → List Addr → β → α → Prop} {σ : L2.St} {H H1 : Hp} {μ μ1 : List Addr} {E E' : Ends}
theorem PostS.next {o : SOut} (h : PostS K ξ mg W H μ o E) (n : Nxt K H μ H1 μ1) : PostS K ξ mg W H1 μ1 o E := by
  cases o with
  | nx ρ M => exact fun σ H' μ' n' => h σ H' μ' (n.trans n')
  | rt u M => exact fun σ H' μ' n' => h σ H' μ' (n.trans n')
  | bk ρ M => exact fun σ H' μ' n' => h σ H' μ' (n.trans n')
  | ct ρ M => exact fun σ H' μ' n' => h σ H' μ' (n.trans n')
  | exc c fs ρ M => exact fun C dd σ H' μ' n' => h C dd σ H' μ' (n.trans n')
  | bad => exact h
theorem PostS.mono {o : SOut} (h : PostS K ξ mg W H μ o E) (h1 : ∀ σ H, E.nx σ H → E'.nx σ H) (h2 : ∀ v H, E.rt v H → E'.rt v H) (h3 : ∀ σ H, E.bk σ H → E'.bk σ H) (h4 : ∀ σ H, E.ct σ H → E'.ct σ H) : PostS K ξ mg W H μ o E' := by
  cases o with
  | nx ρ M => exact fun σ H' μ' a b c d => h1 _ _ (h σ H' μ' a b c d)
  | rt u M => exact fun σ H' μ' a b c d => h2 _ _ (h σ H' μ' a b c d)
  | bk ρ M => exact fun σ H' μ' a b c d => h3 _ _ (h σ H' μ' a b c d)
  | ct ρ M => exact fun σ H' μ' a b c d => h4 _ _ (h σ H' μ' a b c d)
  | exc c fs ρ M => exact h
  | bad => exact h
theorem PostS.ek {o : SOut} (h : PostS K ξ mg W H μ o E) : PostS K ξ mg W H μ o (EK K E) := h.mono (fun _ _ q _ => q) (fun _ _ q _ => q) (fun _ _ q _ => q) (fun _ _ q _ => q)
theorem PostS.here {ρ : En} {M : Mem} (h : PostS K ξ mg W H μ (.nx ρ M) E) (e : RelE K ξ H μ σ ρ) (m : RelM K ξ H μ M) (kh : KH K H) : E.nx σ H := h σ H μ .refl e m kh
theorem PostS.bindE {ρ : En} {o : Out α} {k : α → Mem → SOut} (h : PostS K ξ mg W H μ (SOut.ofE ρ o k) E) (e : RelE K ξ H μ σ ρ) :
    Post K ξ mg W R σ H μ o (fun b H1 => ∃ a M1 μ1, Nxt K H μ H1 μ1 ∧ RelM K ξ H1 μ1 M1 ∧ KH K H1 ∧ R H1 μ1 b a ∧ PostS K ξ mg W H1 μ1 (k a M1) E) := by
  cases o with
  | ok a M => exact fun b H1 μ1 n m kh r => ⟨a, M, μ1, n, m, kh, r, PostS.next h n⟩
  | exc c fs M => exact fun C dd H' μ' n m hc hx => h C dd σ H' μ' n (e.next n) m hc hx
  | bad => exact h
end
section
variable {X : Cx} {W : WX}
theorem ps_sd {st : Stmt} {t : TS} {f : Sv} (h : PS X st t) (hi : ∀ E σ H, KH X.K H → tS X.K X.mg W f E σ H → t (EK X.K E) σ H) : S1 X W st f :=
  ⟨fun pins s σ H E I ht => thn (h.run pins s σ H _ I (hi E σ H (Inv.kh I) ht)) fun fl s1 q => by
    cases fl with
    | next => obtain ⟨σ', H', I', q⟩ := q; exact ⟨σ', H', I', q (Inv.kh I')⟩
    | brk => obtain ⟨σ', H', I', q⟩ := q; exact ⟨σ', H', I', q (Inv.kh I')⟩
    | cont => obtain ⟨σ', H', I', q⟩ := q; exact ⟨σ', H', I', q (Inv.kh I')⟩
    | ret u => obtain ⟨v, σ', H', I', r, q⟩ := q; exact ⟨v, σ', H', I', r, q (Inv.kh I')⟩⟩
theorem pss_sd {st : List Stmt} {t : TS} {f : Sv} (h : PSs X st t) (hi : ∀ E σ H, KH X.K H → tS X.K X.mg W f E σ H → t (EK X.K E) σ H) : SS X W st f :=
  ⟨fun pins s σ H E I ht => thn (h.run pins s σ H _ I (hi E σ H (Inv.kh I) ht)) fun fl s1 q => by
    cases fl with
    | next => obtain ⟨σ', H', I', q⟩ := q; exact ⟨σ', H', I', q (Inv.kh I')⟩
    | brk => obtain ⟨σ', H', I', q⟩ := q; exact ⟨σ', H', I', q (Inv.kh I')⟩
    | cont => obtain ⟨σ', H', I', q⟩ := q; exact ⟨σ', H', I', q (Inv.kh I')⟩
    | ret u => obtain ⟨v, σ', H', I', r, q⟩ := q; exact ⟨v, σ', H', I', r, q (Inv.kh I')⟩⟩
/-! ### blocks -/
def sNil : Sv := fun ρ M => .nx ρ M
def sCons (f g : Sv) : Sv := fun ρ M => match f ρ M with
  | .nx ρ' M' => g ρ' M'
  | o => o
theorem ss_nil : SS X W [] sNil := pss_sd pss_nil fun E σ H kh ⟨ξ, ρ, μ, M, e, m, p⟩ kh' => p.here e m kh'
theorem ss_cons {st : Stmt} {rest : List Stmt} {f g : Sv} (h1 : S1 X W st f) (h2 : SS X W rest g) : SS X W (st :: rest) (sCons f g) :=
  pss_sd (pss_cons h1 h2) fun E σ H kh ⟨ξ, ρ, μ, M, e, m, p⟩ => by
    refine ⟨ξ, ρ, μ, M, e, m, ?_⟩
    unfold sCons at p
    cases q : f ρ M with
    | nx ρ' M' =>
      rw [q] at p
      exact fun σ' H' μ' n' e' m' kh' => ⟨ξ, ρ', μ', M', e', m', (PostS.next p n').ek⟩
    | rt u M' => rw [q] at p; exact fun v H' μ' n' m' kh' r _ => p v H' μ' n' m' kh' r
    | bk ρ' M' => rw [q] at p; exact fun σ' H' μ' n' e' m' kh' _ => p σ' H' μ' n' e' m' kh'
    | ct ρ' M' => rw [q] at p; exact fun σ' H' μ' n' e' m' kh' _ => p σ' H' μ' n' e' m' kh'
    | exc c fs ρ' M' => rw [q] at p; exact p
    | bad => rw [q] at p; exact p
theorem ss_one {st : Stmt} {f : Sv} (h1 : S1 X W st f) : SS X W [st] f := pss_sd (pss_one h1) fun E σ H kh ⟨ξ, ρ, μ, M, e, m, p⟩ => ⟨ξ, ρ, μ, M, e, m, p.ek⟩
theorem s_pass {pos : Pos} : S1 X W (.Pass pos) sNil := ps_sd ps_pass fun E σ H kh ⟨ξ, ρ, μ, M, e, m, p⟩ kh' => p.here e m kh'
theorem s_doc {x j pos pos'} : S1 X W (.Expr (.Constant (.str x) j pos) pos') sNil := ps_sd ps_doc fun E σ H kh ⟨ξ, ρ, μ, M, e, m, p⟩ kh' => p.here e m kh'
def sBrk : Sv := fun ρ M => .bk ρ M
def sCnt : Sv := fun ρ M => .ct ρ M
theorem s_break {pos : Pos} : S1 X W (.Break pos) sBrk := ps_sd ps_break fun E σ H kh ⟨ξ, ρ, μ, M, e, m, p⟩ kh' => p σ H μ .refl e m kh'
theorem s_continue {pos : Pos} : S1 X W (.Continue pos) sCnt := ps_sd ps_continue fun E σ H kh ⟨ξ, ρ, μ, M, e, m, p⟩ kh' => p σ H μ .refl e m kh'
def sRet (f : Ev) : Sv := fun ρ M => SOut.ofE ρ (f ρ M) fun u M1 => .rt u M1
theorem s_ret {e : Expr} {f : Ev} {pos : Pos} (h : SE X W e f) : S1 X W (.Return (some e) pos) (sRet f) :=
  ps_sd (ps_ret h) fun E σ H kh ⟨ξ, ρ, μ, M, e, m, p⟩ => tg.of e m ((PostS.bindE (R := RepU X.K ξ) p e).mono fun v H1 ⟨u, M1, μ1, n1, m1, kh1, r1, q1⟩ kh' => q1 v H1 μ1 .refl m1 kh' r1)
def sRetN : Sv := fun ρ M => .rt (.dat .non) M
theorem s_retN {pos : Pos} : S1 X W (.Return none pos) sRetN := ps_sd ps_retN fun E σ H kh ⟨ξ, ρ, μ, M, e, m, p⟩ kh' => p .non H μ .refl m kh' (.dat .non)
def sIf (c : Tv) (f g : Sv) : Sv := fun ρ M => SOut.ofE ρ (c ρ M) fun b M1 => if b then f ρ M1 else g ρ M1
theorem s_if {c : Expr} {a b : List Stmt} {t : Tv} {f g : Sv} {pos : Pos} (hc : ST X W c t) (ha : SS X W a f) (hb : SS X W b g) : S1 X W (.If c a b pos) (sIf t f g) :=
  ps_sd (ps_if hc ha hb) fun E σ H kh ⟨ξ, ρ, μ, M, e, m, p⟩ => tg.of e m ((PostS.bindE (R := fun _ _ (b b' : Bool) => b = b') p e).mono fun v H1 ⟨u, M1, μ1, n1, m1, kh1, r1, q1⟩ => by
    subst r1
    cases v with
    | true => exact iteT ⟨ξ, ρ, μ1, M1, e.next n1, m1, PostS.ek q1⟩
    | false => exact iteF ⟨ξ, ρ, μ1, M1, e.next n1, m1, PostS.ek q1⟩)
def sDrop (f : Ev) : Sv := fun ρ M => SOut.ofE ρ (f ρ M) fun _ M1 => .nx ρ M1
theorem s_expr {e : Expr} {f : Ev} {pos : Pos} (h : SE X W e f) (hs : swapsWith e none pos.line X.env = pure false := by rfl) : S1 X W (.Expr e pos) (sDrop f) :=
  ps_sd (ps_expr h hs) fun E σ H kh ⟨ξ, ρ, μ, M, e, m, p⟩ => tg.of e m ((PostS.bindE (R := RepU X.K ξ) p e).mono fun v H1 ⟨u, M1, μ1, n1, m1, kh1, r1, q1⟩ kh' => q1.here (e.next n1) m1 kh')

/-! ### targets -/
inductive Tgt where
  | name (i : Nat) | tup (is : List Nat)
def setAll : List Nat → List D → En → En
  | i :: is, d :: ds, ρ => setAll is ds (ρ.set i (some (.dat d)))
  | _, _, ρ => ρ
def Tgt.bind (t : Tgt) (u : U) (ρ : En) : Option En := match t with
  | .name i => some (ρ.set i (some u))
  | .tup is => match u with
    | .dat (.tup ds) => if ds.length = is.length then some (setAll is ds ρ) else none
    | _ => none
def Tgt.slots : Tgt → List Nat
  | .name i => [i]
  | .tup is => is
theorem RelE.set {K : PySem.W.Frag} {ξ : List Addr} {H : Hp} {μ : List Addr} {σ : L2.St} {ρ : En} {v : V} {u : U} (e : RelE K ξ H μ σ ρ) (i : Nat) (r : RepU K ξ H μ v u) : RelE K ξ H μ (σ.set i (some v)) (ρ.set i (some u)) := by
  refine ⟨by simp [e.len], fun j w h => ?_⟩
  by_cases hj : j = i
  · subst hj
    have hl : j < ρ.length := by
      have := (List.getElem?_eq_some_iff.mp h).1
      simpa using this
    rw [List.getElem?_set_self hl] at h
    cases h
    exact ⟨v, by rw [List.getElem?_set_self (by rw [e.len]; exact hl)], r⟩
  · rw [List.getElem?_set_ne (Ne.symm hj)] at h
    obtain ⟨v', h1, h2⟩ := e.at_ j w h
    exact ⟨v', by rw [List.getElem?_set_ne (Ne.symm hj)]; exact h1, h2⟩
theorem wipe_set {σ : L2.St} {i : Nat} {v : Option V} : ∀ {vs : List Nat}, i ∈ vs → wipe (σ.set i v) vs = wipe σ vs
  | j :: vs, h => by
    unfold wipe
    by_cases hm : i ∈ vs
    · rw [wipe_set hm]
    · have : i = j := by
        rcases List.mem_cons.mp h with h | h
        · exact h
        · exact absurd h hm
      subst this
      have comm : ∀ ws : List Nat, i ∉ ws → wipe (σ.set i v) ws = (wipe σ ws).set i v := by
        intro ws
        induction ws with
        | nil => intro _; rfl
        | cons w ws ih =>
          intro hw
          rw [List.mem_cons, not_or] at hw
          unfold wipe
          rw [ih hw.2, List.set_comm _ _ hw.1]
      rw [comm vs hm, List.set_set]
/-- a list, a tuple that stands still -/
def StL (K : PySem.W.Frag) (ξ : List Addr) (H : Hp) (μ : List Addr) (a : Addr) (xs : List V) : Prop := (a ∉ ξ ++ μ ∧ Rd H a (.lst xs)) ∨ ∀ G : Hp, SqL K G a xs
def StT (K : PySem.W.Frag) (ξ : List Addr) (H : Hp) (μ : List Addr) (a : Addr) (xs : List V) : Prop := (a ∉ ξ ++ μ ∧ Rd H a (.tup xs)) ∨ ∀ G : Hp, SqT K G a xs
section
variable {K : PySem.W.Frag} {ξ : List Addr} {H H' : Hp} {μ μ' : List Addr} {a : Addr} {xs : List V}
theorem StL.sq (h : StL K ξ H μ a xs) : SqL K H a xs := h.elim (fun h => .inl h.2) fun h => h H
theorem StT.sq (h : StT K ξ H μ a xs) : SqT K H a xs := h.elim (fun h => .inl h.2) fun h => h H
theorem StL.next (h : StL K ξ H μ a xs) (n : Nw ξ H μ H' μ') : StL K ξ H' μ' a xs := h.elim (fun h => .inl ⟨(Rd.nextW n h.1 h.2).2, (Rd.nextW n h.1 h.2).1⟩) .inr
theorem StT.next (h : StT K ξ H μ a xs) (n : Nw ξ H μ H' μ') : StT K ξ H' μ' a xs := h.elim (fun h => .inl ⟨(Rd.nextW n h.1 h.2).2, (Rd.nextW n h.1 h.2).1⟩) .inr
theorem StL.more (h : StL K ξ H μ a xs) {p : Addr} (hp : H p = none) : StL K (p :: ξ) H μ a xs := h.elim (fun h => .inl ⟨nm_more h.1 (rd_ne hp h.2), h.2⟩) .inr
theorem StT.more (h : StT K ξ H μ a xs) {p : Addr} (hp : H p = none) : StT K (p :: ξ) H μ a xs := h.elim (fun h => .inl ⟨nm_more h.1 (rd_ne hp h.2), h.2⟩) .inr
theorem Rep.tupS {ds : List D} {v : V} (r : Rep K ξ H μ v (.tup ds)) : ∃ a xs, v = .ref a ∧ StT K ξ H μ a xs ∧ RepL K ξ H μ xs ds := by
  cases r with
  | tup h e r => exact ⟨_, _, rfl, .inl ⟨h, e⟩, r⟩
  | ktup e r => exact ⟨_, _, rfl, .inr e, r⟩
end
def gNs : List Nat → TGs
  | [] => gNil
  | i :: is => gCons (gName i) (gNs is)
def gT (K : PySem.W.Frag) : Tgt → TG
  | .name i => gName i
  | .tup is => gTup K is.length (gNs is)
/-- the target tg of the text is t -/
abbrev GD (X : Cx) (tg0 : Expr) (t : Tgt) : Prop := PG X tg0 (gT X.K t)
abbrev GDs (X : Cx) (tgs : List Expr) (is : List Nat) : Prop := PGs X tgs (gNs is)
section
variable {K : PySem.W.Frag} {ξ : List Addr} {H : Hp} {μ : List Addr}
theorem gNs_ok : ∀ (is : List Nat) {vs : List V} {ds : List D} {σ : L2.St} {ρ : En} {Q : L2.St → Hp → Prop}, RelE K ξ H μ σ ρ → RepL K ξ H μ vs ds → ds.length = is.length →
    (∀ σ', RelE K ξ H μ σ' (setAll is ds ρ) → (∀ ws, (∀ i ∈ is, i ∈ ws) → wipe σ' ws = wipe σ ws) → Q σ' H) → gNs is vs σ H Q
  | [], _, _, σ, ρ, Q, e, r, h, q => by
    cases r with
    | nil => exact ⟨rfl, q σ e fun _ _ => rfl⟩
    | cons => cases h
  | i :: is, _, _, σ, ρ, Q, e, r, h, q => by
    cases r with
    | nil => cases h
    | cons r t =>
      refine ⟨_, _, rfl, ?_⟩
      refine gNs_ok is (e.set i (.dat r)) t (by simpa using h) fun σ' e' w => q σ' e' fun ws hw => ?_
      rw [w ws fun j hj => hw j (List.mem_cons_of_mem _ hj), wipe_set (hw i List.mem_cons_self)]
theorem gT_ok (t : Tgt) {v : V} {u : U} {σ : L2.St} {ρ ρ' : En} {Q : L2.St → Hp → Prop} (e : RelE K ξ H μ σ ρ) (r : RepU K ξ H μ v u) (h : t.bind u ρ = some ρ')
    (q : ∀ σ', RelE K ξ H μ σ' ρ' → (∀ vs, (∀ i ∈ t.slots, i ∈ vs) → wipe σ' vs = wipe σ vs) → Q σ' H) : gT K t v σ H Q := by
  cases t with
  | name i =>
    cases h
    exact q _ (e.set i r) fun vs hv => wipe_set (hv i (List.mem_singleton.mpr rfl))
  | tup is =>
    simp only [Tgt.bind] at h
    split at h
    · rename_i ds
      split at h
      · rename_i hl
        cases h
        cases r with | dat r =>
          obtain ⟨a, xs, rfl, e1, t1⟩ := r.tupS
          exact ⟨_, _, rfl, e1.sq, t1.length.trans hl, gNs_ok is e t1 hl fun σ' e' w => q σ' e' w⟩
      · cases h
    · cases h
end
theorem g_name (i : Nat) {x : Str} {pos : Pos} (hN : X.N.Nodup) (hi : X.N[i]? = some x := by rfl) (hx : Loc X.env.scope x := by first | exact Or.inl rfl | exact Or.inr rfl)
    (hf : X.fn x = true ∨ X.env.scope.names.lookup x = some .local := by first | exact .inl rfl | exact .inr rfl | assumption) : GD X (.Name x pos) (.name i) := pg_name hN hi hx hf
theorem gs_nil : GDs X [] [] := pgs_nil
theorem gs_cons (i : Nat) {x : Str} {pos : Pos} {es : List Expr} {is : List Nat} (hN : X.N.Nodup) (h2 : GDs X es is) (hi : X.N[i]? = some x := by rfl) (hx : Loc X.env.scope x := by first | exact Or.inl rfl | exact Or.inr rfl)
    (hf : X.fn x = true ∨ X.env.scope.names.lookup x = some .local := by first | exact .inl rfl | exact .inr rfl | assumption)
    (hs : (assignEach (.Name x pos :: es) X.env).map (·.2) = assign (.Name x pos) X.env :: (assignEach es X.env).map (·.2) := by rfl) : GDs X (.Name x pos :: es) (i :: is) := pgs_cons (pg_name hN hi hx hf) h2 hs
theorem g_tup {es : List Expr} {k : Nat} {is : List Nat} {pos : Pos} (hc : X.calm = true) (h : GDs X es is) (hn : (assignEach es X.env).length = is.length := by rfl) (hst : (assignEach es X.env).findIdx? (·.1) = none := by rfl) : GD X (.Tuple es k pos) (.tup is) := pg_tup hc h hn hst
def sAsg (t : Tgt) (f : Ev) : Sv := fun ρ M => SOut.ofE ρ (f ρ M) fun u M1 => match t.bind u ρ with
  | some ρ' => .nx ρ' M1
  | none => .bad
theorem s_set (i : Nat) {x : Str} {e : Expr} {f : Ev} {pos pos' : Pos} (hN : X.N.Nodup) (he : SE X W e f) (hi : X.N[i]? = some x := by rfl) (hx : Loc X.env.scope x := by first | exact Or.inl rfl | exact Or.inr rfl) (hs : swapsWith e (some (.Name x pos')) pos.line X.env = pure false := by rfl)
    (hf : X.fn x = true ∨ X.env.scope.names.lookup x = some .local := by first | exact .inl rfl | exact .inr rfl | assumption) : S1 X W (.Assign [.Name x pos'] e pos) (sAsg (.name i) f) :=
  ps_sd (ps_set hN hi hx he hs hf) fun E σ H kh ⟨ξ, ρ, μ, M, e, m, p⟩ => tg.of e m ((PostS.bindE (R := RepU X.K ξ) p e).mono fun v H1 ⟨u, M1, μ1, n1, m1, kh1, r1, q1⟩ kh' => q1.here ((e.next n1).set i r1) m1 kh')
theorem s_asg {tg0 e : Expr} {t : Tgt} {f : Ev} {pos : Pos} (he : SE X W e f) (hg : GD X tg0 t) (hs : swapsWithSole [tg0] e pos.line X.env = pure false := by rfl) (hw : swappedStores [tg0] e X.env = pure none := by rfl)
    (h1 : (assignEach [tg0] X.env).map (·.2) = [assign tg0 X.env] := by rfl) : S1 X W (.Assign [tg0] e pos) (sAsg t f) := by
  refine ps_sd (ps_asg he hg hs hw h1) fun E σ H kh ⟨ξ, ρ, μ, M, e, m, p⟩ => tg.of e m ((PostS.bindE (R := RepU X.K ξ) p e).mono fun v H1 ⟨u, M1, μ1, n1, m1, kh1, r1, q1⟩ => ?_)
  cases hb : t.bind u ρ with
  | none => rw [hb] at q1; exact q1.elim
  | some ρ' =>
    rw [hb] at q1
    exact gT_ok t (e.next n1) r1 hb fun σ' e' _ kh' => q1.here e' m1 kh'
end

/-! ### what is walked -/
structure WkD (K : PySem.W.Frag) (J : It) (ds : List D) (I0 : List Addr → Hp → List Addr → Prop) : Prop where
  walk : ∃ G Y, Walk J ds.length G Y ∧ (∀ ξ H μ, I0 ξ H μ → G H) ∧ ∀ (ξ : List Addr) (i : Nat) (H : Hp) (μ : List Addr) (x : V) (H' : Hp) (M : Mem), i < ds.length → I0 ξ H μ → RelM K ξ H μ M → Y i H x H' → Nxt K H μ H' μ ∧ RelM K ξ H' μ M ∧ ∃ d, ds[i]? = some d ∧ Rep K ξ H' μ x d
  next : ∀ ξ H μ H' μ', I0 ξ H μ → Nw ξ H μ H' μ' → I0 ξ H' μ'
  more : ∀ ξ H μ p, H p = none → I0 ξ H μ → I0 (p :: ξ) H μ
def RIt (K : PySem.W.Frag) (ξ : List Addr) : Hp → List Addr → It → List D → Prop := fun H μ J ds => ∃ I0, WkD K J ds I0 ∧ I0 ξ H μ
abbrev SI (X : Cx) (W : WX) (tg' iter : Expr) (f : Lv) : Prop := PI X tg' iter (tg X.K X.mg W (RIt X.K) f)
def forL (t : Tgt) (body : Sv) : List D → Sv
  | [], ρ, M => .nx ρ M
  | d :: ds, ρ, M => match t.bind (.dat d) ρ with
    | none => .bad
    | some ρ1 => match body ρ1 M with
      | .nx ρ2 M2 => forL t body ds ρ2 M2
      | .ct ρ2 M2 => forL t body ds ρ2 M2
      | .bk ρ2 M2 => .nx ρ2 M2
      | .rt u M2 => .rt u M2
      | .exc c fs ρ2 M2 => .exc c fs ρ2 M2
      | .bad => .bad
def sFor (t : Tgt) (src : Lv) (body : Sv) : Sv := fun ρ M => SOut.ofE ρ (src ρ M) fun ds M1 => forL t body ds ρ M1
section
variable {X : Cx} {W : WX}
theorem s_for {tg' iter : Expr} {sts : List Stmt} {t : Tgt} {src : Lv} {body : Sv} {pos : Pos} (hp : PassesOwn (model X.prog X.w) X.A X.env X.xe) (hc : X.calm = true) (hi : SI X W tg' iter src) (hg : GD X tg' t) (hb : SS X W sts body)
    (hs : ∀ x, foldedSetIterable iter X.env x = pure x := by intro _; rfl) : S1 X W (.For tg' iter sts [] pos) (sFor t src body) := by
  refine ps_sd (ps_for hp hc hi hg hb hs) fun E σ H kh ⟨ξ, ρ, μ, M, e, m, p⟩ => tg.of e m ((PostS.bindE (R := RIt X.K ξ) p e).mono fun J H1 ⟨ds, M1, μ1, n1, m1, kh1, ⟨I0, wk, i0⟩, q1⟩ => ?_)
  obtain ⟨G, Y, w, hG, hY⟩ := wk.walk
  refine for_it w (fun i σ H => ∃ ρ μ M, RelE X.K ξ H μ σ ρ ∧ RelM X.K ξ H μ M ∧ I0 ξ H μ ∧ PostS X.K ξ X.mg W H μ (forL t body (ds.drop i) ρ M) E) ⟨ρ, μ1, M1, e.next n1, m1, i0, q1⟩ (fun i σ H _ ⟨ρ, μ, M, _, _, i0, _⟩ => hG ξ H μ i0) ?_ ?_
  · rintro i x σ H H' hi' ⟨ρ, μ, M, e, m, i0, q⟩ y
    obtain ⟨n, m', d, hd, r⟩ := hY ξ i H μ x H' M hi' i0 m y
    have i0' := wk.next _ _ _ _ _ i0 n.w
    have e' := e.next n
    have q' := PostS.next q n
    have hdr : ds.drop i = d :: ds.drop (i + 1) := by
      obtain ⟨h1, h2⟩ := List.getElem?_eq_some_iff.mp hd
      rw [List.drop_eq_getElem_cons h1, h2]
    rw [hdr] at q'
    unfold forL at q'
    cases hb1 : t.bind (.dat d) ρ with
    | none => simp only [hb1] at q'; exact q'.elim
    | some ρ1 =>
      simp only [hb1] at q'
      refine gT_ok t e' (.dat r) hb1 fun σ2 e2 _ => ⟨ξ, ρ1, μ, M, e2, m', ?_⟩
      cases hbd : body ρ1 M with
      | nx ρ2 M2 => simp only [hbd] at q'; exact fun σ3 H3 μ3 n3 e3 m3 k3 => ⟨ρ2, μ3, M2, e3, m3, wk.next _ _ _ _ _ i0' n3.w, PostS.next q' n3⟩
      | ct ρ2 M2 => simp only [hbd] at q'; exact fun σ3 H3 μ3 n3 e3 m3 k3 => ⟨ρ2, μ3, M2, e3, m3, wk.next _ _ _ _ _ i0' n3.w, PostS.next q' n3⟩
      | bk ρ2 M2 => simp only [hbd] at q'; exact fun σ3 H3 μ3 n3 e3 m3 k3 _ => q' σ3 H3 μ3 n3 e3 m3 k3
      | rt u M2 => simp only [hbd] at q'; exact fun v H3 μ3 n3 m3 k3 r3 _ => q' v H3 μ3 n3 m3 k3 r3
      | exc c fs ρ2 M2 => simp only [hbd] at q'; exact q'
      | bad => simp only [hbd] at q'; exact q'.elim
  · rintro σ H ⟨ρ, μ, M, e, m, i0, q⟩ kh'
    rw [List.drop_length] at q
    exact PostS.here q e m kh'
/-! sources: lists, tuples, texts, ranges -/
theorem pi_sd {tg' iter : Expr} {t : TI} {f : Lv} (h : PI X tg' iter t) (hi : ∀ σ H R, KH X.K H → tg X.K X.mg W (RIt X.K) f σ H R → t σ H (fun J H' => KH X.K H' → R J H')) : SI X W tg' iter f :=
  ⟨fun pins s σ H R I ht => thn (h.run pins s σ H _ I (hi σ H R (Inv.kh I) ht)) fun v s1 q => thn q fun itv s2 ⟨it, fp, tn, J, H', e, I', T, st, hf, r⟩ => ⟨it, fp, tn, J, H', e, I', T, st, hf, r (Inv.kh I')⟩⟩
theorem pi_or {tg' iter : Expr} {t u : TI} (h : PI X tg' iter t) (h' : PI X tg' iter u) : PI X tg' iter (fun σ H R => t σ H R ∨ u σ H R) :=
  ⟨fun pins s σ H R I q => q.elim (h.run pins s σ H R I) (h'.run pins s σ H R I)⟩
def itD : D → Option (List D)
  | .lst ds => some ds
  | .tup ds => some ds
  | .str s => some (s.map fun c => .str [c])
  | .scr ns => some (ns.map .int)
  | _ => none
/-- the items of data (no cells) -/
def iVal (f : Ev) : Lv := fun ρ M => (f ρ M).bind fun u M1 => match u with
  | .dat d => match itD d with
    | some ds => .ok ds M1
    | none => .bad
  | _ => .bad
theorem wk_list {K : PySem.W.Frag} {a : Addr} {xs : List V} {ds : List D} (hl : xs.length = ds.length) : WkD K (Itl K a) ds (fun ξ H μ => StL K ξ H μ a xs ∧ RepL K ξ H μ xs ds) := by
  refine ⟨⟨_, _, hl ▸ walk_list (xs := xs), fun ξ H μ h => h.1.sq, fun ξ i H μ x H' M hi h m y => ?_⟩, fun ξ H μ H' μ' ⟨h1, h2⟩ n => ⟨h1.next n, RepL.nextW n h2⟩, fun ξ H μ p hp ⟨h1, h2⟩ => ⟨h1.more hp, h2.more hp⟩⟩
  obtain ⟨rfl, hx⟩ := y
  obtain ⟨v, h1, h2⟩ := h.2.get (List.getElem?_eq_getElem hi)
  rw [hx] at h1; cases h1
  exact ⟨.refl, m, _, List.getElem?_eq_getElem hi, h2⟩
theorem wk_tup {K : PySem.W.Frag} {a : Addr} {xs : List V} {ds : List D} (hl : xs.length = ds.length) : WkD K (Itt K a) ds (fun ξ H μ => StT K ξ H μ a xs ∧ RepL K ξ H μ xs ds) := by
  refine ⟨⟨_, _, hl ▸ walk_tup (xs := xs), fun ξ H μ h => h.1.sq, fun ξ i H μ x H' M hi h m y => ?_⟩, fun ξ H μ H' μ' ⟨h1, h2⟩ n => ⟨h1.next n, RepL.nextW n h2⟩, fun ξ H μ p hp ⟨h1, h2⟩ => ⟨h1.more hp, h2.more hp⟩⟩
  obtain ⟨rfl, hx⟩ := y
  obtain ⟨v, h1, h2⟩ := h.2.get (List.getElem?_eq_getElem hi)
  rw [hx] at h1; cases h1
  exact ⟨.refl, m, _, List.getElem?_eq_getElem hi, h2⟩
theorem wk_str {K : PySem.W.Frag} {s : Cs} : WkD K (Its (mkS s)) (s.map fun c => .str [c]) (fun _ _ _ => True) := by
  refine ⟨⟨fun _ => True, _, (by have := walk_str (z := mkS s); simpa [mkS] using this), fun _ _ _ _ => trivial, fun ξ i H μ x H' M hi h m y => ?_⟩, fun _ _ _ _ _ _ _ => trivial, fun _ _ _ _ _ _ => trivial⟩
  obtain ⟨rfl, c, hc, rfl⟩ := y
  have hc' : s[i]? = some c := by simpa [mkS] using hc
  exact ⟨.refl, m, .str [c], by simp [hc'], .str [c]⟩
theorem RepL.ints {K : PySem.W.Frag} {ξ : List Addr} {H : Hp} {μ : List Addr} : ∀ ns : List Int, RepL K ξ H μ (ns.map V.int) (ns.map D.int)
  | [] => .nil
  | n :: ns => .cons (.int n) (RepL.ints ns)
theorem i_val {tg' e : Expr} {f : Ev} (h : SE X W e f) : SI X W tg' e (iVal f) :=
  pi_sd (pi_or (pi_list h) (pi_or (pi_tup h) (pi_str h))) fun σ H R kh ⟨ξ, ρ, μ, M, e, m, q⟩ => by
    unfold iVal at q
    cases hf : f ρ M with
    | ok u M1 =>
      rw [hf] at q
      simp only [Out.bind] at q
      split at q
      · rename_i d
        split at q
        · rename_i ds hd
          unfold itD at hd
          split at hd
          · cases hd
            refine .inl (tg.of e m (hf ▸ fun x H1 μ1 n1 m1 kh1 r1 => ?_))
            cases r1 with | dat r1 => cases r1 with
              | lst h e1 t1 => exact ⟨_, rfl, ⟨_, SqL.of e1⟩, fun kh' => q _ H1 μ1 n1 m1 kh' ⟨_, wk_list t1.length, .inl ⟨h, .inl e1⟩, t1⟩⟩
          · cases hd
            refine .inr (.inl (tg.of e m (hf ▸ fun x H1 μ1 n1 m1 kh1 r1 => ?_)))
            cases r1 with | dat r1 =>
              obtain ⟨a, xs, rfl, e1, t1⟩ := r1.tupS
              exact ⟨_, rfl, ⟨_, e1.sq⟩, fun kh' => q _ H1 μ1 n1 m1 kh' ⟨_, wk_tup t1.length, e1, t1⟩⟩
          · cases hd
            refine .inr (.inr (tg.of e m (hf ▸ fun x H1 μ1 n1 m1 kh1 r1 => ?_)))
            cases r1 with | dat r1 => cases r1 with
              | str s => exact ⟨_, rfl, fun kh' => q _ H1 μ1 n1 m1 kh' ⟨_, wk_str, trivial⟩⟩
          · cases hd
            refine .inl (tg.of e m (hf ▸ fun x H1 μ1 n1 m1 kh1 r1 => ?_))
            cases r1 with | dat r1 => cases r1 with
              | scr h e1 => exact ⟨_, rfl, ⟨_, .inl e1⟩, fun kh' => q _ H1 μ1 n1 m1 kh' ⟨_, wk_list (by simp), .inl ⟨h, e1⟩, RepL.ints _⟩⟩
              | kscr e1 => exact ⟨_, rfl, ⟨_, e1 H1⟩, fun kh' => q _ H1 μ1 n1 m1 kh' ⟨_, wk_list (by simp), .inr e1, RepL.ints _⟩⟩
          · cases hd
        · exact q.elim
      · exact q.elim
    | exc c fs M1 => rw [hf] at q; exact .inl (tg.of e m (hf ▸ q))
    | bad => rw [hf] at q; exact q.elim
def intsUp (lo : Int) (n : Nat) : List D := (List.range n).map fun (i : Nat) => D.int (lo + (i : Int))
theorem wk_range {K : PySem.W.Frag} {lo : Int} {n : Nat} : WkD K (Itr lo n) (intsUp lo n) (fun _ _ _ => True) := by
  refine ⟨⟨fun _ => True, _, (by have := walk_range (lo := lo) (n := n); simpa [intsUp] using this), fun _ _ _ _ => trivial, fun ξ i H μ x H' M hi h m y => ?_⟩, fun _ _ _ _ _ _ _ => trivial, fun _ _ _ _ _ _ => trivial⟩
  obtain ⟨rfl, rfl⟩ := y
  have hi' : i < n := by simpa [intsUp] using hi
  exact ⟨.refl, m, .int (lo + i), by simp [intsUp, hi'], .int _⟩
def iRng1 (f : Av) : Lv := fun ρ M => (f ρ M).bind fun us M1 => match us with
  | [.dat (.int j)] => if -(2 ^ 62) ≤ j ∧ j < 2 ^ 62 then .ok (intsUp 0 j.toNat) M1 else .bad
  | _ => .bad
def iRng2 (f : Av) : Lv := fun ρ M => (f ρ M).bind fun us M1 => match us with
  | [.dat (.int i), .dat (.int j)] => if -(2 ^ 62) ≤ i ∧ i < 2 ^ 62 ∧ -(2 ^ 62) ≤ j ∧ j < 2 ^ 62 then .ok (intsUp i (j - i).toNat) M1 else .bad
  | _ => .bad
theorem i_range1 {tg' a : Expr} {f : Av} {p pos : Pos} (hm : X.mg "range" = none) (ha : SA X W [a] f) (hg : Gl X "range" := by rfl) (hs : starEach [a] X.env = [(false, eval a X.env)] := by rfl) : SI X W tg' (.Call (.Name "range" p) [a] [] pos) (iRng1 f) :=
  pi_sd (pi_range1 hg hm ha hs) fun σ H R kh ⟨ξ, ρ, μ, M, e, m, q⟩ => tg.of e m ((Post.bind (R := RepUs X.K ξ) q).mono fun xs H1 ⟨us, M1, μ1, n1, m1, kh1, r1, q1⟩ => by
    split at q1
    · rename_i j
      split at q1
      · rename_i hj
        cases r1 with | cons r1 t => cases t; cases r1 with | dat r1 => cases r1; exact ⟨j, rfl, hj.1, hj.2, fun kh' => q1 _ H1 μ1 .refl m1 kh' ⟨_, wk_range, trivial⟩⟩
      · exact q1.elim
    · exact q1.elim)
theorem i_range2 {tg' a b : Expr} {f : Av} {p pos : Pos} (hm : X.mg "range" = none) (ha : SA X W [a, b] f) (hg : Gl X "range" := by rfl) (hs : starEach [a, b] X.env = [(false, eval a X.env), (false, eval b X.env)] := by rfl) (hs2 : starEach [b] X.env = [(false, eval b X.env)] := by rfl) :
    SI X W tg' (.Call (.Name "range" p) [a, b] [] pos) (iRng2 f) :=
  pi_sd (pi_range2 hg hm ha hs hs2) fun σ H R kh ⟨ξ, ρ, μ, M, e, m, q⟩ => tg.of e m ((Post.bind (R := RepUs X.K ξ) q).mono fun xs H1 ⟨us, M1, μ1, n1, m1, kh1, r1, q1⟩ => by
    split at q1
    · rename_i i j
      split at q1
      · rename_i hj
        cases r1 with | cons r1 t => cases t with | cons r2 t => cases t; cases r1 with | dat r1 => cases r2 with | dat r2 => cases r1; cases r2; exact ⟨i, j, rfl, hj, fun kh' => q1 _ H1 μ1 .refl m1 kh' ⟨_, wk_range, trivial⟩⟩
      · exact q1.elim
    · exact q1.elim)
end
end SD

set_option Elab.async false
set_option linter.all false
set_option maxRecDepth 100000
set_option maxHeartbeats 4000000
namespace SD
open PySem PySem.Spec PyProof.Rows L2

abbrev W0 : WX := fun _ _ _ _ => False

/-! ### list comprehensions of one clause -/
def Out.quiet {α : Type} (o : Out α) : Out α := match o with
  | .exc _ _ _ => .bad
  | o => o
def wipeE (ρ : En) : List Nat → En
  | [] => ρ
  | v :: vs => (wipeE ρ vs).set v none
def lcL (t : Tgt) (test : Tv) (elt : Ev) (ρ : En) : List D → Mem → Out (List D)
  | [], M => .ok [] M
  | d :: ds, M => match t.bind (.dat d) ρ with
    | none => .bad
    | some ρ1 => (test ρ1 M).bind fun b M1 => if b then (elt ρ1 M1).bind fun u M2 => match u with
        | .dat e => (lcL t test elt ρ ds M2).bind fun r M3 => .ok (e :: r) M3
        | _ => .bad
      else lcL t test elt ρ ds M1
def eLc (c : Bool) (src : Lv) (t : Tgt) (test : Tv) (elt : Ev) (vs : List Nat) : Ev := fun ρ M => (src ρ M).bind fun ds M1 =>
  if ds.length ≤ 16777216 then ((lcL t test elt (wipeE ρ vs) ds M1).quiet).bind fun es M2 => newL c es M2 else .bad
def bYes : Tv := fun _ M => .ok true M
theorem RelE.wipe {K : PySem.W.Frag} {ξ : List Addr} {H : Hp} {μ : List Addr} {σ : L2.St} {ρ : En} (e : RelE K ξ H μ σ ρ) : ∀ vs : List Nat, RelE K ξ H μ (L2.wipe σ vs) (wipeE ρ vs)
  | [] => e
  | v :: vs => by
    have ih := RelE.wipe e vs
    unfold L2.wipe wipeE
    refine ⟨by simp [ih.len], fun i u h => ?_⟩
    by_cases hi : i = v
    · subst hi
      have hl := (List.getElem?_eq_some_iff.mp h).1
      rw [List.getElem?_set_self (by simpa using hl)] at h
      cases h
    · rw [List.getElem?_set_ne (Ne.symm hi)] at h
      obtain ⟨w, h1, h2⟩ := ih.at_ i u h
      exact ⟨w, by rw [List.getElem?_set_ne (Ne.symm hi)]; exact h1, h2⟩
theorem wipe_mem {σ : L2.St} {i : Nat} : ∀ {vs : List Nat}, i ∈ vs → ∀ {x : V}, (L2.wipe σ vs)[i]? ≠ some (some x) := fun h x e => (wipe_some e).2 h
theorem wipe_wipe (σ : L2.St) (vs : List Nat) : L2.wipe (L2.wipe σ vs) vs = L2.wipe σ vs := by
  have gen : ∀ ws : List Nat, (∀ i ∈ ws, i ∈ vs) → L2.wipe (L2.wipe σ vs) ws = L2.wipe σ vs := by
    intro ws
    induction ws with
    | nil => intro _; rfl
    | cons w ws ih =>
      intro h
      show List.set (L2.wipe (L2.wipe σ vs) ws) w none = L2.wipe σ vs
      rw [show L2.wipe (L2.wipe σ vs) ws = L2.wipe σ vs from ih fun i hi => h i (List.mem_cons_of_mem _ hi)]
      apply List.ext_getElem?
      intro j
      by_cases hj : w = j
      · subst hj
        by_cases hl : w < (L2.wipe σ vs).length
        · rw [List.getElem?_set_self hl]
          cases q : (L2.wipe σ vs)[w]? with
          | none => rw [List.getElem?_eq_none_iff] at q; omega
          | some o => cases o with
            | none => rfl
            | some x => exact absurd q (wipe_mem (h w List.mem_cons_self))
        · rw [List.getElem?_eq_none (by simpa using hl), List.getElem?_eq_none (by omega)]
      · rw [List.getElem?_set_ne hj]
  exact gen vs fun _ h => h
abbrev STs (X : Cx) (W : WX) (es : List Expr) (f : Tv) : Prop := PTs X es (tB' X.K X.mg W f)
section
variable {X : Cx} {W : WX}
theorem sts_nil : STs X W [] bYes := ⟨fun pins s σ H Q I ⟨ξ, ρ, μ, M, e, m, p⟩ => pts_nil.run pins s σ H Q I (p.here m (Inv.kh I) rfl)⟩
theorem sts_one {c : Expr} {f : Tv} (h : ST X W c f) : STs X W [c] f := pts_one h
/-- the list of a comprehension that grows, at p -/
theorem lc_read {own : List (Str × Nat)} {K : PySem.W.Frag} {mg : Str → Option Value} {t : Tgt} {src : Lv} {test : Tv} {el : Ev} {c : Bool} (hv : ∀ i ∈ t.slots, i ∈ own.map (·.2)) {σ : L2.St} {H : Hp} {Q : VK}
    (h : tE K mg W (eLc c src t test el (own.map (·.2))) σ H Q) :
    tLc (tg K mg W (RIt K) src) (gT K t) (tB' K mg W0 test) (tE K mg W0 el) (own.map (·.2)) σ H (fun v H' => KH K H' → Q v H') := by
  obtain ⟨ξ, ρ, μ, M, e, m, q⟩ := h
  refine tg.of e m ((Post.bind (R := RIt K ξ) q).mono fun J H1 ⟨ds, M1, μ1, n1, m1, kh1, ⟨I0, wk, i0⟩, q1⟩ p hp => ?_)
  split at q1
  · rename_i hlen
    obtain ⟨G, Y, w, hG, hY⟩ := wk.walk
    have hpμ := m1.new hp
    -- the outer cells stand beside p; within, p is excluded
    refine lc_it w (fun i H' => ∃ acc accD μ' M', H' p = some (.lst acc) ∧ accD.length ≤ i ∧ RepL K (p :: ξ) H' μ' acc accD ∧ Nxt K H1 μ1 H' μ' ∧ RelM K (p :: ξ) H' μ' M' ∧ I0 (p :: ξ) H' μ' ∧
      Post K ξ mg W (RepU K ξ) σ H1 μ1 (((lcL t test el (wipeE ρ (own.map (·.2))) (ds.drop i) M').quiet).bind fun es M2 => newL c (accD ++ es) M2) Q) ?_ ?_ ?_ ?_
    · refine ⟨[], [], μ1, M1, upd_same, Nat.le_refl _, .nil, Nxt.laid hp, ?_, wk.next _ _ _ _ _ (wk.more _ _ _ _ hp i0) (Nxt.laid (K := K) hp).w, q1⟩
      have m2 := m1.laid (o := .lst []) hp
      refine ⟨m2.len, m2.nd, fun a ha => ?_, fun k a o h1 h2 => ?_⟩
      · rcases List.mem_cons.mp ha with ha | ha
        · rw [ha]; exact ⟨⟨_, upd_same⟩, (nm hpμ).2⟩
        · exact m2.xt a ha
      · exact ((m1.at_ k a o h1 h2).more hp).next_at (Nxt.laid (K := K) hp).w (upd_ne fun z => m1.new0 hp (z ▸ List.mem_of_getElem? h1))
    · rintro i H' _ ⟨acc, accD, μ', M', _, _, _, _, _, i0', _⟩
      exact hG _ _ _ i0'
    · rintro i x H2 H3 hi ⟨acc, accD, μ', M', hacc, hal, racc, n2, m2, i2, q2⟩ y
      obtain ⟨n3, m3, d, hd, r⟩ := hY _ i H2 μ' x H3 M' hi i2 m2 y
      have hdr : ds.drop i = d :: ds.drop (i + 1) := by
        obtain ⟨h1, h2⟩ := List.getElem?_eq_some_iff.mp hd
        rw [List.drop_eq_getElem_cons h1, h2]
      rw [hdr] at q2
      have e3 : RelE K (p :: ξ) H3 μ' (L2.wipe σ (own.map (·.2))) (wipeE ρ (own.map (·.2))) := ((((e.next n1).more hp).next n2).next n3).wipe _
      have hacc3 : H3 p = some (.lst acc) := n3.same p _ (m2.xt p List.mem_cons_self).2 hacc
      have racc3 := RepL.next n3 racc
      have i3 := wk.next _ _ _ _ _ i2 n3.w
      unfold lcL at q2
      cases hb1 : t.bind (.dat d) (wipeE ρ (own.map (·.2))) with
      | none => simp only [hb1] at q2; exact q2.elim
      | some ρ1 =>
        simp only [hb1] at q2
        refine gT_ok t e3 (.dat r) hb1 fun σ2 e4 wp => ⟨(wp _ hv).trans (wipe_wipe σ _), ?_⟩
        refine tg.of e4 m3 ?_
        -- the step behind a test that says no, or behind the element
        have stepN : ∀ (H4 : Hp) (μ4 : List Addr) (M4 : Mem), Nxt K H3 μ' H4 μ4 → RelM K (p :: ξ) H4 μ4 M4 → Post K ξ mg W (RepU K ξ) σ H1 μ1 (((lcL t test el (wipeE ρ (own.map (·.2))) (ds.drop (i + 1)) M4).quiet).bind fun es M2 => newL c (accD ++ es) M2) Q →
            ∃ acc accD μ' M', H4 p = some (.lst acc) ∧ accD.length ≤ i + 1 ∧ RepL K (p :: ξ) H4 μ' acc accD ∧ Nxt K H1 μ1 H4 μ' ∧ RelM K (p :: ξ) H4 μ' M' ∧ I0 (p :: ξ) H4 μ' ∧
              Post K ξ mg W (RepU K ξ) σ H1 μ1 (((lcL t test el (wipeE ρ (own.map (·.2))) (ds.drop (i + 1)) M').quiet).bind fun es M2 => newL c (accD ++ es) M2) Q := fun H4 μ4 M4 n4 m4 q4 =>
          ⟨acc, accD, μ4, M4, n4.same p _ (m3.xt p List.mem_cons_self).2 hacc3, Nat.le_succ_of_le hal, RepL.next n4 racc3, (n2.trans n3).trans n4, m4, wk.next _ _ _ _ _ i3 n4.w, q4⟩
        cases ht : test ρ1 M' with
        | ok b M4 =>
          rw [ht] at q2
          intro b' H4 μ4 n4 m4 kh4 hbb
          subst hbb
          cases b' with
          | false => exact iteF (stepN H4 μ4 M4 n4 m4 (by simpa [Out.bind] using q2))
          | true =>
            refine iteT (tg.of (e4.next n4) m4 ?_)
            cases he : el ρ1 M4 with
            | ok u M5 =>
              simp only [Out.bind, if_true, he] at q2
              intro yv H5 μ5 n5 m5 kh5 r5
              cases u with
              | cell k => exact q2.elim
              | exn => exact q2.elim
              | tup => exact q2.elim
              | dat dd =>
                cases r5 with | dat r5 =>
                have hacc5 : H5 p = some (.lst acc) := n5.same p _ (m4.xt p List.mem_cons_self).2 (n4.same p _ (m3.xt p List.mem_cons_self).2 hacc3)
                have racc5 := RepL.next n5 (RepL.next n4 racc3)
                have hpin : p ∈ p :: ξ := List.mem_cons_self
                refine ⟨acc, hacc5, ?_, acc ++ [yv], accD ++ [dd], μ5, M5, upd_same, ?_, ?_, ?_, m5.own hpin, wk.next _ _ _ _ _ (wk.next _ _ _ _ _ i3 (n4.trans n5).w) (Nw.own hpin), ?_⟩
                · rw [racc.length, sizeLine_eq]; omega
                · simp; exact hal
                · exact RepL.append (RepL.nextW (Nw.own hpin) racc5) (.cons (Rep.nextW (Nw.own hpin) r5) .nil)
                · have nn := ((n2.trans n3).trans n4).trans n5
                  refine ⟨fun b o hb eb => ?_, nn.pre⟩
                  rw [upd_ne (ne_of_none eb hp)]
                  exact nn.same b o hb eb
                · revert q2
                  cases lcL t test el (wipeE ρ (own.map (·.2))) (ds.drop (i + 1)) M5 with
                  | ok es M6 => intro q2; simpa [Out.quiet, Out.bind] using q2
                  | exc => exact id
                  | bad => exact id
            | exc c' fs M5 => simp only [Out.bind, if_true, he] at q2; exact q2.elim
            | bad => simp only [Out.bind, if_true, he] at q2; exact q2.elim
        | exc c' fs M4 => rw [ht] at q2; exact q2.elim
        | bad => rw [ht] at q2; exact q2.elim
    · rintro H' ⟨acc, accD, μ', M', hacc, hal, racc, n2, m2, i2, q2⟩ kh'
      rw [List.drop_length] at q2
      have q3 : Post K ξ mg W (RepU K ξ) σ H1 μ1 (newL c accD M') Q := by simpa [lcL, Out.quiet, Out.bind] using q2
      have out : ∀ b, b ∉ (p :: ξ) ++ μ' → b ∉ ξ ++ μ' := fun b hb => nm_of (fun z => (nm hb).1 (List.mem_cons_of_mem _ z)) (nm hb).2
      have mO : RelM K ξ H' μ' M' := ⟨m2.len, m2.nd, fun a ha => m2.xt a (List.mem_cons_of_mem _ ha), fun k a o h1 h2 => (m2.at_ k a o h1 h2).sub out⟩
      unfold newL at q3
      have hpx := (m2.xt p List.mem_cons_self).2
      have hpk : K.lookup p = none := by
        cases ek : K.lookup p with
        | none => rfl
        | some o =>
          have := kh' p o ek
          rw [hacc] at this; cases this
      cases c with
      | false => exact q3 _ H' μ' n2 mO kh' (.dat (.lst (nm_of (fun z => by
          obtain ⟨⟨o, eo⟩, _⟩ := m1.xt p z
          rw [hp] at eo; cases eo) hpx) hacc (racc.sub out)))
      | true =>
        refine q3 _ H' (μ' ++ [p]) ?_ ?_ kh' (.cell ?_)
        · obtain ⟨ν, hν, h2⟩ := n2.pre
          refine ⟨n2.same, ν ++ [p], by rw [hν, List.append_assoc], fun a ha => ?_⟩
          rcases List.mem_append.mp ha with ha | ha
          · exact h2 a ha
          · have : a = p := by simpa using ha
            subst this
            exact ⟨(nm hpμ).2, hp, hpk⟩
        · have out2 : ∀ b, b ∉ (p :: ξ) ++ μ' → b ∉ ξ ++ (μ' ++ [p]) := fun b hb => nm_of (fun z => (nm hb).1 (List.mem_cons_of_mem _ z)) fun z => (List.mem_append.mp z).elim (nm hb).2 fun z => (nm hb).1 (by
            have : b = p := by simpa using z
            rw [this]; exact List.mem_cons_self)
          refine ⟨by simp [m2.len], ?_, fun a ha => ?_, fun k a o h1 h2 => ?_⟩
          · rw [List.nodup_append]
            refine ⟨m2.nd, by simp, fun a ha b hb z => ?_⟩
            have : b = p := by simpa using hb
            subst this z
            exact hpx ha
          · obtain ⟨h1, h2⟩ := m2.xt a (List.mem_cons_of_mem _ ha)
            refine ⟨h1, fun z => (List.mem_append.mp z).elim h2 fun z => ?_⟩
            have : a = p := by simpa using z
            subst this
            obtain ⟨⟨o, eo⟩, _⟩ := m1.xt a ha
            rw [hp] at eo; cases eo
          · by_cases hk : k < μ'.length
            · rw [List.getElem?_append_left hk] at h1
              rw [List.getElem?_append_left (by rw [← m2.len]; exact hk)] at h2
              exact (m2.at_ k a o h1 h2).subC out2 fun k _ a e => by rw [List.getElem?_append_left (List.getElem?_eq_some_iff.mp e).1]; exact e
            · have ek : k = μ'.length := by
                have := (List.getElem?_eq_some_iff.mp h1).1
                simp at this; omega
              subst ek
              rw [List.getElem?_append_right (Nat.le_refl _)] at h1
              rw [m2.len, List.getElem?_append_right (Nat.le_refl _)] at h2
              simp at h1 h2
              subst h1 h2
              exact .lst hacc (racc.sub out2)
        · rw [← m2.len, List.getElem?_append_right (Nat.le_refl _)]; simp
  · exact q1.elim
theorem se_lc (c : Bool) {elt tg0 iter : Expr} {ifs : List Expr} {scope : Scope} {own : List (Str × Nat)} {pos : Pos} {t : Tgt} {src : Lv} {test : Tv} {el : Ev} (hc : X.calm = true) (hN : X.N.Nodup) (hi : SI X W tg0 iter src) (ok : BlkOk X.N X.env.scope scope own)
    (hg : ∀ (s : Shared) (H : Hp) (C : Addr) (cl : List (Str × Addr)) (fp : List Addr), GD (X.blk s H scope (compEnvC scope cl C X.env) fp) tg0 t)
    (ht : ∀ (s : Shared) (H : Hp) (C : Addr) (cl : List (Str × Addr)) (fp : List Addr), STs (X.blk s H scope (compEnvC scope cl C X.env) fp) W0 ifs test)
    (he : ∀ (s : Shared) (H : Hp) (C : Addr) (cl : List (Str × Addr)) (fp : List Addr), SE (X.blk s H scope (compEnvC scope cl C X.env) fp) W0 elt el) (hv : ∀ i ∈ t.slots, i ∈ own.map (·.2))
    (hs : ∀ x, foldedSetIterable iter X.env x = pure x := by intro _; rfl) : SE X W (.ListComp elt [⟨tg0, iter, ifs, 0⟩] scope pos) (eLc c src t test el (own.map (·.2))) := by
  exact pe_sd (pe_lc hc hN hi ok hg ht he hs) fun σ H Q kh h => lc_read hv h
end
end SD

set_option Elab.async false
set_option linter.all false
set_option maxRecDepth 100000
set_option maxHeartbeats 4000000
namespace SD
open PySem PySem.Spec PyProof.Rows L2

/-! ### methods of built-in types -/
abbrev Pm := U → List U → Mem → Out U
def tyU (T : String) (u : U) (M : Mem) : Bool := match view u M with
  | some (.str _) => T == "str"
  | some (.lst _) => T == "list"
  | some (.scr _) => T == "list"
  | _ => false
def eBm (T : String) (p : Pm) (f : Ev) (g : Av) : Ev := fun ρ M => (f ρ M).bind fun u M1 => if tyU T u M1 then (g ρ M1).bind fun us M2 => p u us M2 else .bad
def Mt (K : PySem.W.Frag) (p : Pm) (r : V → List V → Hp → VK → Prop) : Prop := ∀ (ξ : List Addr) (mg : Str → Option Value) (W : WX) (x : V) (u : U) (xs : List V) (us : List U) (σ : L2.St) (H : Hp) (μ : List Addr) (M : Mem) (Q : VK), RelM K ξ H μ M → KH K H →
  RepU K ξ H μ x u → RepUs K ξ H μ xs us → Post K ξ mg W (RepU K ξ) σ H μ (p u us M) Q → r x xs H (fun v H' => KH K H' → Q v H')
theorem tyU_ok {K : PySem.W.Frag} {ξ : List Addr} {H : Hp} {μ : List Addr} {M : Mem} {T : String} {x : V} {u : U} (m : RelM K ξ H μ M) (r : RepU K ξ H μ x u) (h : tyU T u M = true) : tyV K T x H := by
  unfold tyU at h
  split at h
  · rename_i hv; cases (r.view m hv).str; exact beq_iff_eq.mp h
  · rename_i hv; obtain ⟨a, xs, rfl, e, _⟩ := (r.view m hv).lstv; exact .inl ⟨beq_iff_eq.mp h, xs, SqL.of e⟩
  · rename_i hv; obtain ⟨a, rfl, _, e⟩ := (r.view m hv).scr; exact .inl ⟨beq_iff_eq.mp h, _, e⟩
  · cases h
section
variable {X : Cx} {W : WX} {o e : Expr} {es : List Expr} {name : Str} {apos cpos : Pos} {T id : String} {r : V → List V → Hp → VK → Prop} {p : Pm} {f : Ev} {g : Av}
theorem se_bm (pa : PlainAttrs T) (slot : Slot T name id) (hty : typeOf (.builtin id) = pure (.type "method_descriptor")) (hm : MtR X id r) (hp : Mt X.K p r) (ho : SE X W o f) (ha : SA X W (e :: es) g)
    (hbase : attributeBase o name X.env (eval o X.env) = eval o X.env := by rfl)
    (hfew : ((backTo cpos (starEach (e :: es) X.env)).all (fun x => !x.1) && (backToKw cpos (keywordEach [] X.env)).all (fun x => x.1.isSome)
      && decide ((e :: es).length + ([] : List Keyword).length + (if ([] : List Keyword).isEmpty then 0 else 1) < 30)) = true := by rfl)
    (hline : (apos.endLine == cpos.line) = true := by rfl) (hs : starEach (e :: es) X.env = (false, eval e X.env) :: starEach es X.env := by rfl) (hplain : (backTo cpos (starEach es X.env)).any (·.1) = false := by rfl) :
    SE X W (.Call (.Attribute o name apos) (e :: es) [] cpos) (eBm T p f g) :=
  pe_sd (pe_bm pa slot hty hm ho ha hbase hfew hline hs hplain) fun σ H Q kh ⟨ξ, ρ, μ, M, e, m, q⟩ => tg.of e m ((Post.bind (R := RepU X.K ξ) q).mono fun x H1 ⟨u, M1, μ1, n1, m1, kh1, r1, q1⟩ => by
    split at q1
    · rename_i ht
      exact ⟨tyU_ok m1 r1 ht, tg.of (e.next n1) m1 ((Post.bind (R := RepUs X.K ξ) q1).mono fun xs H2 ⟨us, M2, μ2, n2, m2, kh2, r2, q2⟩ => hp ξ X.mg W x u xs us σ H2 μ2 M2 Q m2 kh2 (r1.next n2) r2 q2)⟩
    · exact q1.elim)
theorem se_bm0 (pa : PlainAttrs T) (slot : Slot T name id) (hty : typeOf (.builtin id) = pure (.type "method_descriptor")) (hm : MtR X id r) (hp : Mt X.K p r) (ho : SE X W o f)
    (hbase : attributeBase o name X.env (eval o X.env) = eval o X.env := by rfl) (hline : (apos.endLine == cpos.line) = true := by rfl) : SE X W (.Call (.Attribute o name apos) [] [] cpos) (eBm T p f aNil) :=
  pe_sd (pe_bm0 pa slot hty hm ho hbase hline) fun σ H Q kh ⟨ξ, ρ, μ, M, e, m, q⟩ => tg.of e m ((Post.bind (R := RepU X.K ξ) q).mono fun x H1 ⟨u, M1, μ1, n1, m1, kh1, r1, q1⟩ => by
    split at q1
    · rename_i ht
      exact ⟨tyU_ok m1 r1 ht, hp ξ X.mg W x u [] [] σ H1 μ1 M1 Q m1 kh1 r1 .nil q1⟩
    · exact q1.elim)
end
section
variable {K : PySem.W.Frag}
theorem RepU.cellv {ξ : List Addr} {H : Hp} {μ : List Addr} {M : Mem} {x : V} {k : Nat} {ds : List D} (m : RelM K ξ H μ M) (r : RepU K ξ H μ x (.cell k)) (h : M[k]? = some (.lst ds)) : ∃ a xs, x = .ref a ∧ μ[k]? = some a ∧ H a = some (.lst xs) ∧ RepL K ξ H μ xs ds := by
  cases r with
  | cell e =>
    cases m.at_ k _ _ e h with
    | lst h r => exact ⟨_, _, rfl, e, h, r⟩
/-- a cell's list becomes another one -/
theorem cell_post {ξ : List Addr} {mg : Str → Option Value} {W : WX} {σ : L2.St} {H : Hp} {μ : List Addr} {M : Mem} {Q : VK} {k : Nat} {a : Addr} {ds : List D} {xs : List V} {u : U} {v : V} (h : Post K ξ mg W (RepU K ξ) σ H μ (.ok u (M.set k (.lst ds))) Q) (m : RelM K ξ H μ M) (e : μ[k]? = some a)
    (r : RepL K ξ H μ xs ds) (rv : RepU K ξ H μ v u) (kh : KH K (upd H a (.lst xs))) : Q v (upd H a (.lst xs)) :=
  have n : Nxt K H μ (upd H a (.lst xs)) μ := Nxt.wr (List.mem_of_getElem? e)
  h _ _ μ n (m.wr e r) kh (rv.next n)
def mAppend : Pm := fun u us M => match u, us with
  | .cell k, [.dat d] => match M[k]? with
    | some (.lst ds) => if ds.length < 16777216 then .ok (.dat .non) (M.set k (.lst (ds ++ [d]))) else .bad
    | _ => .bad
  | _, _ => .bad
theorem m_append : Mt K mAppend rAppend := by
  intro ξ mg W x u xs us σ H μ M Q m kh r rs p
  unfold mAppend at p
  split at p
  · rename_i k d
    split at p
    · rename_i ds hM
      split at p
      · rename_i hl
        obtain ⟨a, ys, rfl, e, h, t⟩ := r.cellv m hM
        cases rs with | cons r1 r2 => cases r2; cases r1 with | dat r1 =>
          exact ⟨a, ys, _, rfl, rfl, h, by rw [sizeLine_eq, t.length]; exact hl, fun kh' => cell_post p m e (t.append (.cons r1 .nil)) (.dat .non) kh'⟩
      · exact p.elim
    · exact p.elim
  · exact p.elim
/-- pop(i) -/
def mPopAt : Pm := fun u us M => match u, us with
  | .cell k, [.dat (.int i)] => match M[k]? with
    | some (.lst ds) => if 0 ≤ i ∧ i < ds.length ∧ i < 9223372036854775808 then match ds[i.toNat]? with
        | some d => .ok (.dat d) (M.set k (.lst (ds.eraseIdx i.toNat)))
        | none => .bad
      else .bad
    | _ => .bad
  | _, _ => .bad
theorem m_popAt : Mt K mPopAt rPopAt := by
  intro ξ mg W x u xs us σ H μ M Q m kh r rs p
  unfold mPopAt at p
  split at p
  · rename_i k i
    split at p
    · rename_i ds hM
      split at p
      · rename_i hi
        split at p
        · rename_i d hd
          obtain ⟨a, ys, rfl, e, h, t⟩ := r.cellv m hM
          obtain ⟨v, hv, rv⟩ := t.get hd
          cases rs with
          | cons r1 r2 =>
            cases r2
            cases r1 with
            | dat r1 =>
              cases r1
              exact ⟨a, ys, i, i.toNat, v, rfl, rfl, h, by omega, by omega, (ixN_seq (n := ys.length) (i := i) (j := i.toNat) (by unfold ixN; rw [if_pos hi.1, if_pos (by rw [t.length]; exact hi.2.1)])).1, hv, fun kh' => cell_post p m e (t.erase _) (.dat rv) kh'⟩
        · exact p.elim
      · exact p.elim
    · exact p.elim
  · exact p.elim
def mPop : Pm := fun u us M => match u, us with
  | .cell k, [] => match M[k]? with
    | some (.lst ds) => match ds[ds.length - 1]? with
      | some d => .ok (.dat d) (M.set k (.lst ds.dropLast))
      | none => .bad
    | _ => .bad
  | _, _ => .bad
theorem RepL.dropLast {ξ : List Addr} {H : Hp} {μ : List Addr} : ∀ {vs : List V} {ds : List D}, RepL K ξ H μ vs ds → RepL K ξ H μ vs.dropLast ds.dropLast
  | _, _, .nil => .nil
  | _, _, .cons r .nil => .nil
  | _, _, .cons r (.cons q t) => .cons r (RepL.dropLast (.cons q t))
theorem m_pop : Mt K mPop rPop := by
  intro ξ mg W x u xs us σ H μ M Q m kh r rs p
  unfold mPop at p
  split at p
  · rename_i k
    split at p
    · rename_i ds hM
      split at p
      · rename_i d hd
        obtain ⟨a, ys, rfl, e, h, t⟩ := r.cellv m hM
        obtain ⟨v, hv, rv⟩ := t.get hd
        cases rs
        exact ⟨a, ys, v, rfl, rfl, h, by rw [t.length]; exact hv, fun kh' => cell_post p m e t.dropLast (.dat rv) kh'⟩
      · exact p.elim
    · exact p.elim
  · exact p.elim
def mInsert : Pm := fun u us M => match u, us with
  | .cell k, [.dat (.int i), .dat d] => match M[k]? with
    | some (.lst ds) => if ds.length < 16777216 ∧ 0 ≤ i ∧ i < 9223372036854775808 then .ok (.dat .non) (M.set k (.lst (ds.take i.toNat ++ [d] ++ ds.drop i.toNat))) else .bad
    | _ => .bad
  | _, _ => .bad
theorem m_insert : Mt K mInsert (fun x vs H Q => ∃ (l : Addr) (xs : List V) (i : Int) (y : V), x = .ref l ∧ vs = [.int i, y] ∧ H l = some (.lst xs) ∧ xs.length < sizeLine ∧ 0 ≤ i ∧ i < 2 ^ 63 ∧
    Q .non (upd H l (.lst (xs.take i.toNat ++ [y] ++ xs.drop i.toNat)))) := by
  intro ξ mg W x u xs us σ H μ M Q m kh r rs p
  unfold mInsert at p
  split at p
  · rename_i k i d
    split at p
    · rename_i ds hM
      split at p
      · rename_i hi
        obtain ⟨a, ys, rfl, e, h, t⟩ := r.cellv m hM
        cases rs with | cons r1 r2 => cases r2 with | cons r2 r3 =>
          cases r3
          cases r1 with | dat r1 => cases r1; cases r2 with | dat r2 =>
            exact ⟨a, ys, i, _, rfl, rfl, h, by rw [sizeLine_eq, t.length]; exact hi.1, hi.2.1, by omega, fun kh' => cell_post p m e (((t.take _).append (.cons r2 .nil)).append (t.drop _)) (.dat .non) kh'⟩
      · exact p.elim
    · exact p.elim
  · exact p.elim
def mClear : Pm := fun u us M => match u, us with
  | .cell k, [] => match M[k]? with
    | some (.lst _) => .ok (.dat .non) (M.set k (.lst []))
    | _ => .bad
  | _, _ => .bad
theorem m_clear : Mt K mClear rClear := by
  intro ξ mg W x u xs us σ H μ M Q m kh r rs p
  unfold mClear at p
  split at p
  · rename_i k
    split at p
    · rename_i ds hM
      obtain ⟨a, ys, rfl, e, h, t⟩ := r.cellv m hM
      cases rs
      exact ⟨a, ys, rfl, rfl, h, fun kh' => cell_post p m e .nil (.dat .non) kh'⟩
    · exact p.elim
  · exact p.elim
/-! texts -/
def codesOk (s : Cs) : Bool := s.all fun c => c < 256
def toStrs : List D → Option (List Cs)
  | [] => some []
  | .str s :: r => (toStrs r).map (s :: ·)
  | _ :: _ => none
theorem RepL.strs {ξ : List Addr} {H : Hp} {μ : List Addr} : ∀ {xs : List V} {ds : List D} {bs : List Cs}, RepL K ξ H μ xs ds → toStrs ds = some bs → xs = (bs.map mkS).map V.str
  | _, _, _, .nil, h => by cases h; rfl
  | _, _, bs, .cons (ds := ds) r t, h => by
    cases r with
    | str b =>
      unfold toStrs at h
      cases q : toStrs ds with
      | none => rw [q] at h; cases h
      | some cs => rw [q] at h; cases h; rw [RepL.strs t q]; rfl
    | _ => cases h
end

/-! ### o[i] = e -/
def sSetIx (fo fi fe : Ev) : Sv := fun ρ M => SOut.ofE ρ (fe ρ M) fun u M1 => SOut.ofE ρ (fo ρ M1) fun o M2 => SOut.ofE ρ (fi ρ M2) fun i M3 => match o, i, u with
  | .cell k, .dat (.int j), .dat d => match M3[k]? with
    | some (.lst ds) => match ixN ds.length j with
      | some n => .nx ρ (M3.set k (.lst (ds.set n d)))
      | none => .bad
    | _ => .bad
  | _, _, _ => .bad
section
variable {X : Cx} {W : WX}
theorem s_setIx {o i e : Expr} {fo fi fe : Ev} {pos p2 : Pos} (ho : SE X W o fo) (hi : SE X W i fi) (he : SE X W e fe)
    (ha : ∀ v, assign (.Subscript o i p2) X.env v = (do
      let ov ← holding [v] (eval o X.env)
      let iv ← holding [v, ov] (eval i X.env)
      standAt p2
      holding [v, ov, iv] (setItem ov iv v)
      release [v, ov, iv] []) := by intro _; rfl)
    (hs : swapsWithSole [.Subscript o i p2] e pos.line X.env = pure false := by rfl) (hw : swappedStores [.Subscript o i p2] e X.env = pure none := by rfl) (h1 : (assignEach [.Subscript o i p2] X.env).map (·.2) = [assign (.Subscript o i p2) X.env] := by rfl) :
    S1 X W (.Assign [.Subscript o i p2] e pos) (sSetIx fo fi fe) :=
  ps_sd (ps_asg he (pg_sub ho hi set_list ha) hs hw h1) fun E σ H kh ⟨ξ, ρ, μ, M, en, m, p⟩ => tg.of en m ((PostS.bindE (R := RepU X.K ξ) p en).mono fun v H1 ⟨u, M1, μ1, n1, m1, kh1, r1, q1⟩ =>
    tg.of (en.next n1) m1 ((PostS.bindE (R := RepU X.K ξ) q1 (en.next n1)).mono fun ov H2 ⟨uo, M2, μ2, n2, m2, kh2, r2, q2⟩ => tg.of ((en.next n1).next n2) m2 ((PostS.bindE (R := RepU X.K ξ) q2 ((en.next n1).next n2)).mono fun iv H3 ⟨ui, M3, μ3, n3, m3, kh3, r3, q3⟩ => by
      cases uo with
      | dat d0 => exact q3.elim
      | exn => exact q3.elim
      | tup => exact q3.elim
      | cell k =>
        cases ui with
        | cell k1 => exact q3.elim
        | exn => exact q3.elim
        | tup => exact q3.elim
        | dat di =>
          cases u with
          | cell k2 => cases di <;> exact q3.elim
          | exn => cases di <;> exact q3.elim
          | tup => cases di <;> exact q3.elim
          | dat d =>
            cases di with
            | int j =>
              simp only at q3
              split at q3
              · rename_i ds hM
                split at q3
                · rename_i nn hn
                  obtain ⟨a, ys, rfl, ea, h, t⟩ := (r2.next n3).cellv m3 hM
                  cases r3 with
                  | dat r3 =>
                    cases r3
                    cases (r1.next n2).next n3 with
                    | dat rv =>
                      refine ⟨a, ys, j, nn, rfl, rfl, h, by rw [t.length]; exact hn, fun kh' => ?_⟩
                      have w : Nxt X.K H3 μ3 (upd H3 a (.lst (ys.set nn v))) μ3 := Nxt.wr (List.mem_of_getElem? ea)
                      exact q3 _ _ μ3 w ((((en.next n1).next n2).next n3).next w) (m3.wr ea (t.set rv _)) kh'
                · exact q3.elim
              · exact q3.elim
            | _ => exact q3.elim)))
end

/-! ### own functions -/
abbrev Fn := List U → Mem → Out U
def spS (K : PySem.W.Frag) (mg : Str → Option Value) (n : Nat) (F : Fn) : Sp := fun vs H Q E => vs.length = n ∧ ∃ ξ us μ M, RepUs K ξ H μ vs us ∧ RelM K ξ H μ M ∧ match F us M with
  | .ok u M' => ∀ v H' μ', Nxt K H μ H' μ' → RelM K ξ H' μ' M' → RepU K ξ H' μ' v u → Q v H'
  | .exc c fs M' => ∀ (C : Addr) (dd : Option Addr) H' μ', Nxt K H μ H' μ' → RelM K ξ H' μ' M' → mg c = some (.ref C) → RepX K ξ H' μ' dd fs → E (.ref C) dd H'
  | .bad => False
/-- the def named x with defaults dus reckons F -/
structure Callable (P : Program) (w : World) (K : PySem.W.Frag) (mg : Str → Option Value) (base : Heap) (k : Nat) (x : Str) (n : Nat) (dus : List U) (F : Fn) : Prop where
  ex : ∃ (f : Addr) (fd : FuncData) (ps : List Str) (ds : List Value) (dvs : List V), mg x = some (.ref f) ∧ PySem.W.keepIn K (.ref f) = true ∧ Binds K fd ps ds ∧ Vals dvs ds ∧ (∀ ξ H μ, RepUs K ξ H μ dvs dus) ∧ FnOk P w K mg base (L2.CX P w) k f fd ps (spS K mg n F)
def eFn (n : Nat) (dus : List U) (F : Fn) (g : Av) : Ev := fun ρ M => (g ρ M).bind fun us M1 => if (us ++ dus).length = n then F (us ++ dus) M1 else .bad
theorem RepUs.append {K : PySem.W.Frag} {ξ : List Addr} {H : Hp} {μ : List Addr} : ∀ {vs ws : List V} {us us' : List U}, RepUs K ξ H μ vs us → RepUs K ξ H μ ws us' → RepUs K ξ H μ (vs ++ ws) (us ++ us')
  | _, _, _, _, .nil, s => s
  | _, _, _, _, .cons r t, s => .cons r (RepUs.append t s)
section
variable {X : Cx} {W : WX}
theorem se_fn {k n : Nat} {x : Str} {dus : List U} {F : Fn} {g : Av} {e : Expr} {es : List Expr} {p pos : Pos} (C : Callable X.prog X.w X.K X.mg X.base k x n dus F) (hr : Room k X.A) (tk : Takes X W) (ha : SA X W (e :: es) g) (hg : Gl X x := by rfl)
    (hdb : (x == ("__debug__" : Str)) = false := by decide) (he : starEach (e :: es) X.env = (false, eval e X.env) :: starEach es X.env := by rfl) (hpl : (backTo pos (starEach es X.env)).any (·.1) = false := by rfl) :
    SE X W (.Call (.Name x p) (e :: es) [] pos) (eFn n dus F g) := by
  obtain ⟨f, fd, ps, ds, dvs, hm, hk, hb, hd, hdu, ok⟩ := C.ex
  refine pe_sd (pe_callSD (E := WE W) ok hr hg hm hk hb hd (fun σ => passAt tk σ) ha hdb he hpl) fun σ H Q kh ⟨ξ, ρ, μ, M, en, m, q⟩ => tg.of en m ((Post.bind (R := RepUs X.K ξ) q).mono fun xs H1 ⟨us, M1, μ1, n1, m1, kh1, r1, q1⟩ => ?_)
  split at q1
  · rename_i hl
    have rr := r1.append (hdu ξ H1 μ1)
    refine ⟨rr.length.trans hl, ξ, _, μ1, M1, rr, m1, ?_⟩
    cases hF : F (us ++ dus) M1 with
    | ok u M2 => rw [hF] at q1; exact fun v H' μ' nn mm r kh' => q1 v H' μ' nn mm kh' r
    | exc c fs M2 => rw [hF] at q1; exact q1
    | bad => rw [hF] at q1; exact q1
  · exact q1.elim
end

/-! ### a def by its body -/
def FlO {α : Type} (M : Mem) : Out α → Prop
  | .ok _ M' => Fl M M'
  | .exc _ _ M' => Fl M M'
  | .bad => True
def FlS (M : Mem) : SOut → Prop
  | .nx _ M' => Fl M M'
  | .rt _ M' => Fl M M'
  | .bk _ M' => Fl M M'
  | .ct _ M' => Fl M M'
  | .exc _ _ _ M' => Fl M M'
  | .bad => True
/-- no old cell is made to tell of a new one -/
class FE {α : Type} (f : En → Mem → Out α) : Prop where
  h : ∀ ρ M, FlO M (f ρ M)
class FS (f : Sv) : Prop where
  h : ∀ ρ M, FlS M (f ρ M)
class FF (F : Fn) : Prop where
  h : ∀ us M, FlO M (F us M)
def finish (n : Nat) (o : SOut) : Out U := match o with
  | .nx _ M => .ok (.dat .non) (M.take n)
  | .rt (.dat d) M => .ok (.dat d) (M.take n)
  | .rt (.cell k) M => if k < n then .ok (.cell k) (M.take n) else match M[k]? with
    | some o => if o.refs = [] then .ok (.cell n) (M.take n ++ [o]) else .bad
    | none => .bad
  | .exc c fs _ M => .exc c fs (M.take n)
  | _ => .bad
def fnRun (m : Nat) (body : Sv) : Fn := fun us M => finish M.length (body (us.map some ++ List.replicate (m - us.length) none) M)
/-- .. that leaves all cells -/
def finishK (o : SOut) : Out U := match o with
  | .nx _ M => .ok (.dat .non) M
  | .rt u M => .ok u M
  | .exc c fs _ M => .exc c fs M
  | _ => .bad
def fnKeep (m : Nat) (body : Sv) : Fn := fun us M => finishK (body (us.map some ++ List.replicate (m - us.length) none) M)
instance {m : Nat} {body : Sv} [i : FS body] : FF (fnRun m body) := ⟨fun us M => by
  unfold fnRun finish
  have h := i.h (us.map some ++ List.replicate (m - us.length) none) M
  cases hb : body (us.map some ++ List.replicate (m - us.length) none) M with
  | nx ρ M' => rw [hb] at h; exact Fl.take h
  | rt u M' =>
    rw [hb] at h
    cases u with
    | dat d => exact Fl.take h
    | exn => exact trivial
    | tup => exact trivial
    | cell k =>
      simp only
      split
      · exact Fl.take h
      · split
        · split
          · exact (Fl.take h).trans Fl.app
          · exact trivial
        · exact trivial
  | bk => exact trivial
  | ct => exact trivial
  | exc c fs ρ M' => rw [hb] at h; exact Fl.take h
  | bad => exact trivial⟩
section
variable {K : PySem.W.Frag} {ξ : List Addr} {H H' : Hp} {μ μ' : List Addr}
theorem relE_start {vs : List V} {us : List U} (r : RepUs K ξ H μ vs us) (N : List Str) : RelE K ξ H μ (L2.start N vs) (us.map some ++ List.replicate (N.length - us.length) none) := by
  unfold L2.start
  rw [r.length]
  generalize N.length - us.length = m
  have gen : ∀ {vs : List V} {us : List U}, RepUs K ξ H μ vs us → RelE K ξ H μ (vs.map some ++ List.replicate m none) (us.map some ++ List.replicate m none) := fun {vs} => by
    induction vs with
    | nil =>
      intro us r
      cases r
      refine ⟨by simp, fun i u h => ?_⟩
      simp at h
      rw [List.getElem?_replicate] at h
      split at h <;> cases h
    | cons v vs ih =>
      intro us r
      cases r with | cons r t =>
      refine ⟨by simp [t.length], fun i u h => ?_⟩
      cases i with
      | zero => simp at h; subst h; exact ⟨_, rfl, r⟩
      | succ i => exact (ih t).at_ i u (by simpa using h)
  exact gen r
/-- the def's own cells are dropped -/
theorem drop_cells {M M' : Mem} (m0 : RelM K ξ H μ M) (n : Nxt K H μ H' μ') (m : RelM K ξ H' μ' M') (fl : Fl M M') : Nxt K H μ H' μ ∧ RelM K ξ H' μ (M'.take M.length) := by
  obtain ⟨ν, rfl, hν⟩ := n.pre
  have out : ∀ b, b ∉ ξ ++ (μ ++ ν) → b ∉ ξ ++ μ := fun b hb => nm_of (nm hb).1 fun z => (nm hb).2 (List.mem_append_left _ z)
  refine ⟨⟨n.same, [], by simp, fun _ h => by simp at h⟩, ⟨?_, ?_, fun a ha => ⟨(m.xt a ha).1, fun z => (m.xt a ha).2 (List.mem_append_left _ z)⟩, fun k a o h1 h2 => ?_⟩⟩
  · have := m.len
    rw [List.length_take, ← this, List.length_append, ← m0.len]; omega
  · exact (List.nodup_append.mp m.nd).1
  · have hk : k < μ.length := (List.getElem?_eq_some_iff.mp h1).1
    rw [List.getElem?_take_of_lt (by rw [← m0.len]; exact hk)] at h2
    obtain ⟨o0, e0, s0⟩ := fl.2 k o (by rw [← m0.len]; exact hk) h2
    exact (m.at_ k a o (by rw [List.getElem?_append_left hk]; exact h1) h2).subC out fun j hj b e => by
      have := (m0.at_ k a o0 h1 e0).refs_lt j (s0 j hj)
      rwa [List.getElem?_append_left this] at e
end
theorem fn_ok {P : Program} {w : World} {K : PySem.W.Frag} {mg : Str → Option Value} {base : Heap} {x qual : Str} {st : Stmt} {f : Addr} {fd : FuncData} {N ps : List Str} {k : Nat} {body : Sv} [fsb : FS body] (F : Fun K x qual st f fd) (S : FnScope N ps (defScope st))
    (hbody : ∀ (cdv : Value) (A : Around) (outer : List Env) (s : Shared) (H : Hp) (E : XK), Room k (A.deeper (envOfC qual (defScope st) s.heap.objs.size f cdv)) →
      SS (cxOf (L2.CX P w) P w K mg base N qual (defScope st) f cdv A outer s H E) (fun cls d _ H => E cls d H) (defBody st) body) : FnOk P w K mg base (L2.CX P w) (k + 1) f fd ps (spS K mg ps.length (fnRun N.length body)) := by
  refine F.okX S (fun vs H Q E h => h.1) fun cdv A outer s H vs Q E hr h => ⟨_, hbody cdv A outer s H E hr, ?_⟩
  obtain ⟨hl, ξ, us, μ, M, ru, m, q⟩ := h
  refine ⟨ξ, _, μ, M, relE_start ru N, m, ?_⟩
  unfold fnRun at q
  have fl0 := fsb.h (us.map some ++ List.replicate (N.length - us.length) none) M
  cases hb : body (us.map some ++ List.replicate (N.length - us.length) none) M with
  | nx ρ M' =>
    rw [hb] at q fl0
    intro σ' H' μ' n e' m' kh'
    obtain ⟨n2, m2⟩ := drop_cells m n m' fl0
    exact q .non H' μ n2 m2 (.dat .non)
  | rt u M' =>
    rw [hb] at q fl0
    intro v H' μ' n m' kh' r
    obtain ⟨n2, m2⟩ := drop_cells m n m' fl0
    obtain ⟨ν, rfl, hν⟩ := n.pre
    cases u with
    | dat d =>
      cases r with | dat r =>
        exact q v H' μ n2 m2 (.dat (r.sub fun b hb => nm_of (nm hb).1 fun z => (nm hb).2 (List.mem_append_left _ z)))
    | exn => exact q.elim
    | tup => exact q.elim
    | cell c =>
      cases r with | cell ec =>
        by_cases hc : c < M.length
        · have e1 : finish M.length (.rt (.cell c) M') = .ok (.cell c) (M'.take M.length) := by simp [finish, hc]
          rw [e1] at q
          refine q _ H' μ n2 m2 (.cell ?_)
          rw [← m.len] at hc
          rw [List.getElem?_append_left hc] at ec; exact ec
        · cases ho : M'[c]? with
          | none =>
            have e1 : finish M.length (.rt (.cell c) M') = .bad := by simp [finish, hc, ho]
            rw [e1] at q
            exact q.elim
          | some o =>
            by_cases hr : o.refs = []
            case neg =>
              have e1 : finish M.length (.rt (.cell c) M') = .bad := by simp [finish, hc, ho, hr]
              rw [e1] at q
              exact q.elim
            have e1 : finish M.length (.rt (.cell c) M') = .ok (.cell M.length) (M'.take M.length ++ [o]) := by simp [finish, hc, ho, hr]
            rw [e1] at q
            rename_i a
            have hge : μ.length ≤ c := by rw [m.len]; omega
            rw [List.getElem?_append_right hge] at ec
            have ha : a ∈ ν := List.mem_of_getElem? ec
            obtain ⟨h1, h2, h3⟩ := hν _ ha
            have out : ∀ b, b ∉ ξ ++ (μ ++ ν) → b ∉ ξ ++ (μ ++ [a]) := fun b hb => nm_of (nm hb).1 fun z => (nm hb).2 (by
              rcases List.mem_append.mp z with z | z
              · exact List.mem_append_left _ z
              · exact List.mem_append_right _ (by rw [List.mem_singleton.mp z]; exact ha))
            refine q _ H' (μ ++ [a]) ⟨n.same, [a], rfl, fun b hb => by rw [List.mem_singleton.mp hb]; exact ⟨h1, h2, h3⟩⟩ ⟨?_, ?_, fun b hb => ⟨(m'.xt b hb).1, fun z => ?_⟩, fun j b o' e1 e2 => ?_⟩ (.cell ?_)
            · have := m2.len
              simp [this]
            · rw [List.nodup_append]
              exact ⟨m2.nd, by simp, fun b hb c hc z => h1 (by rw [← List.mem_singleton.mp hc, ← z]; exact hb)⟩
            · refine (m'.xt b hb).2 ?_
              rcases List.mem_append.mp z with z | z
              · exact List.mem_append_left _ z
              · exact List.mem_append_right _ (by rw [List.mem_singleton.mp z]; exact ha)
            · by_cases hj : j < μ.length
              · rw [List.getElem?_append_left hj] at e1
                rw [List.getElem?_append_left (by rw [← m2.len]; exact hj), List.getElem?_take_of_lt (by rw [← m.len]; exact hj)] at e2
                obtain ⟨o0, e0, s0⟩ := fl0.2 j o' (by rw [← m.len]; exact hj) e2
                refine (m'.at_ j b o' (by rw [List.getElem?_append_left hj]; exact e1) e2).subC out fun i hi b' e => ?_
                have := (m.at_ j b o0 e1 e0).refs_lt i (s0 i hi)
                rw [List.getElem?_append_left this] at e ⊢
                exact e
              · have ej : j = μ.length := by
                  have := (List.getElem?_eq_some_iff.mp e1).1
                  simp at this; omega
                subst ej
                rw [List.getElem?_append_right (Nat.le_refl _)] at e1
                rw [m2.len, List.getElem?_append_right (Nat.le_refl _)] at e2
                simp at e1 e2
                subst e1 e2
                refine (m'.at_ c _ _ ?_ ho).subC out fun i hi => by rw [hr] at hi; cases hi
                rw [List.getElem?_append_right hge]; exact ec
            · rw [← m.len, List.getElem?_append_right (Nat.le_refl _)]; simp
  | bk ρ M' => rw [hb] at q; exact q.elim
  | ct ρ M' => rw [hb] at q; exact q.elim
  | exc c fs ρ M' =>
    rw [hb] at q fl0
    intro C dd σ' H' μ' n e' m' hc hx
    obtain ⟨n2, m2⟩ := drop_cells m n m' fl0
    obtain ⟨ν, rfl, hν⟩ := n.pre
    refine q C dd H' μ n2 m2 hc (hx.imp id fun ⟨d, vs, e, hd, hv, rv⟩ => ⟨d, vs, e, ?_, hv, rv.sub fun b hb => ?_⟩)
    · exact nm_of (nm hd).1 fun z => (nm hd).2 (List.mem_append_left _ z)
    · exact nm_of (nm hb).1 fun z => (nm hb).2 (List.mem_append_left _ z)
  | bad => rw [hb] at q; exact q.elim
theorem fn_okK {P : Program} {w : World} {K : PySem.W.Frag} {mg : Str → Option Value} {base : Heap} {x qual : Str} {st : Stmt} {f : Addr} {fd : FuncData} {N ps : List Str} {k : Nat} {body : Sv} (F : Fun K x qual st f fd) (S : FnScope N ps (defScope st))
    (hbody : ∀ (cdv : Value) (A : Around) (outer : List Env) (s : Shared) (H : Hp) (E : XK), Room k (A.deeper (envOfC qual (defScope st) s.heap.objs.size f cdv)) →
      SS (cxOf (L2.CX P w) P w K mg base N qual (defScope st) f cdv A outer s H E) (fun cls d _ H => E cls d H) (defBody st) body) : FnOk P w K mg base (L2.CX P w) (k + 1) f fd ps (spS K mg ps.length (fnKeep N.length body)) := by
  refine F.okX S (fun vs H Q E h => h.1) fun cdv A outer s H vs Q E hr h => ⟨_, hbody cdv A outer s H E hr, ?_⟩
  obtain ⟨hl, ξ, us, μ, M, ru, m, q⟩ := h
  refine ⟨ξ, _, μ, M, relE_start ru N, m, ?_⟩
  unfold fnKeep at q
  cases hb : body (us.map some ++ List.replicate (N.length - us.length) none) M with
  | nx ρ M' =>
    rw [hb] at q
    intro σ' H' μ' n e' m' kh'
    exact q .non H' μ' n m' (.dat .non)
  | rt u M' =>
    rw [hb] at q
    intro v H' μ' n m' kh' r
    exact q v H' μ' n m' r
  | bk ρ M' => rw [hb] at q; exact q.elim
  | ct ρ M' => rw [hb] at q; exact q.elim
  | exc c fs ρ M' =>
    rw [hb] at q
    intro C dd σ' H' μ' n e' m' hc hx
    exact q C dd H' μ' n m' hc hx
  | bad => rw [hb] at q; exact q.elim
end SD

set_option Elab.async false
set_option linter.all false
set_option maxRecDepth 100000
set_option maxHeartbeats 4000000
namespace SD
open PySem PySem.Spec PyProof.Rows L2

/-! ### sep.join(texts) -/
theorem mkS_tl (s : Cs) : TL.tl (mkS s) = s := by simp [TL.tl, mkS]
theorem mkS_of_tl {x : Str} {s : Cs} (h : TL.tl x = s) : x = mkS s := TL.ext_tl (h.trans (mkS_tl s).symm)
def joinC (sep : Cs) (ss : List Cs) : Cs := TL.joinL sep ss
theorem join_cs (sep : Cs) (ss : List Cs) : Txt.join (mkS sep) (ss.map mkS) = mkS (joinC sep ss) := by
  refine mkS_of_tl ?_
  have : (TL.tl ∘ mkS) = id := by funext s; exact mkS_tl s
  rw [TL.join_eq, TL.tl_join, mkS_tl, List.map_map, this, List.map_id]
  rfl
def mJoin : Pm := fun u us M => match u, us with
  | .dat (.str sep), [w] => match view w M with
    | some d => match seqD d with
      | some ds => match toStrs ds with
        | some ss => if (ss.map (·.length)).sum + ss.length * sep.length ≤ 16777216 then .ok (.dat (.str (joinC sep ss))) M else .bad
        | none => .bad
      | none => .bad
    | none => .bad
  | _, _ => .bad
theorem lens_mkS (ss : List Cs) : (ss.map mkS).map (·.length) = ss.map (·.length) := by
  rw [List.map_map]
  exact List.map_congr_left fun s _ => mkS_len s
theorem m_join {K : PySem.W.Frag} : Mt K mJoin (fun x xs H Q => ∃ a p, ∃ ys : List Str, x = .str a ∧ xs = [.ref p] ∧ (SqL K H p (ys.map V.str) ∨ SqT K H p (ys.map V.str)) ∧
    (ys.map (·.length)).sum + ys.length * a.length ≤ 16777216 ∧ Q (.str (Txt.join a ys)) H) := by
  intro ξ mg W x u xs us σ H μ M Q m kh r rs p
  unfold mJoin at p
  split at p
  · rename_i sep w
    split at p
    · rename_i d hd
      split at p
      · rename_i ds hds
        split at p
        · rename_i ss hss
          split at p
          · rename_i hl
            cases r with
            | dat r =>
            cases r
            cases rs with
            | cons r1 r2 =>
              cases r2
              have rv := r1.view m hd
              unfold seqD at hds
              have fin : ∀ a ys, RepL K ξ H μ ys ds → (SqL K H a ys ∨ SqT K H a ys) → ∃ a' p, ∃ ys : List Str, V.str (mkS sep) = .str a' ∧ [V.ref a] = [.ref p] ∧ (SqL K H p (ys.map V.str) ∨ SqT K H p (ys.map V.str)) ∧
                  (ys.map (·.length)).sum + ys.length * a'.length ≤ 16777216 ∧ (KH K H → Q (.str (Txt.join a' ys)) H) := fun a ys t hs => by
                have := t.strs hss
                subst this
                refine ⟨_, a, ss.map mkS, rfl, rfl, hs, ?_, fun kh' => ?_⟩
                · rw [lens_mkS, List.length_map, mkS_len]; exact hl
                · rw [join_cs]; exact p.here m kh' (.dat (.str _))
              split at hds
              · cases hds
                obtain ⟨a, ys, rfl, e1, t1⟩ := rv.lstv
                exact fin a ys t1 (.inl (SqL.of e1))
              · cases hds
                obtain ⟨a, ys, rfl, _, e1, t1⟩ := rv.tup
                exact fin a ys t1 (.inr e1)
              · cases hds
          · exact p.elim
        · exact p.elim
      · exact p.elim
    · exact p.elim
  · exact p.elim

/-! ### text * number -/
def repS (s : Cs) (n : Int) : Cs := (List.replicate n.toNat s).flatten
def mulSD : D → D → Option D
  | .int i, .int j => mulD (.int i) (.int j)
  | .str s, .int n => if 0 < n ∧ n ≤ 1000000 ∧ s.length * n.toNat ≤ 1000000 then some (.str (repS s n)) else none
  | _, _ => none
def rMulS : R2 := fun x y H Q => rI CMul (fun i j => .int (i * j)) x y H Q ∨ ∃ s n, x = .str (mkS s) ∧ y = .int n ∧ 0 < n ∧ n ≤ 1000000 ∧ s.length * n.toNat ≤ 1000000 ∧ Q (.str (mkS (repS s n))) H
theorem foldl_rep (c : Array Nat) : ∀ (n : Nat) (acc : Array Nat), ((List.replicate n c).foldl (· ++ ·) acc).toList = acc.toList ++ (List.replicate n c.toList).flatten
  | 0, acc => by simp
  | n + 1, acc => by
    rw [List.replicate_succ, List.foldl_cons, foldl_rep c n, List.replicate_succ]
    simp
theorem or_mul {X : Cx} : OpR X (binaryOp .Mult) rMulS := op_mul.or fun pins s0 σ H x y v u Q I rx ry ⟨s, n, e1, e2, h1, h2, h3, q⟩ => by
  subst e1 e2
  obtain ⟨t, rfl⟩ := rx
  obtain ⟨t', rfl⟩ := ry
  have hlen : (mkS s).length = s.length := mkS_len s
  refine P.mul_str ?_ (fun _ _ => ?_) (fun _ _ => ?_) ?_
  · rw [decide_eq_false (by omega), decide_eq_false (by omega)]; rfl
  · have hn : (2 ^ 63 - 1 : Int) / n ≥ 1000000 := by
      have : (1000000 : Int) * 1000000 ≤ 2 ^ 63 - 1 := by decide
      exact (Int.le_ediv_iff_mul_le h1).mpr (by omega)
    have hs : s.length ≤ 1000000 := by
      have : 1 ≤ n.toNat := by omega
      calc s.length = s.length * 1 := by omega
        _ ≤ s.length * n.toNat := Nat.mul_le_mul_left _ this
        _ ≤ 1000000 := h3
    rw [hlen]; omega
  · rw [hlen]
    simp [Builtin.Str.tooLong, sizeLine_eq]; omega
  · rw [if_neg (by omega)]
    split
    · rename_i hc
      have : repS s n = s := by
        rw [Bool.or_eq_true, beq_iff_eq, beq_iff_eq, hlen] at hc
        rcases hc with hc | hc
        · subst hc; simp [repS]
        · have : s = [] := List.length_eq_zero_iff.mp hc
          subst this; simp [repS]
      rw [this] at q
      exact ⟨.str (mkS s), H, I, ⟨t, rfl⟩, q⟩
    · refine ⟨?_, ⟨.str (mkS (repS s n)), H, I.tok _, ⟨s0.toks, ?_⟩, q⟩⟩
      · rw [sizeLine_eq]
        have : (Str.mk ((List.replicate n.toNat (mkS s).cps).foldl (· ++ ·) #[])).length = n.toNat * s.length := by
          show Array.size _ = _
          rw [← Array.length_toList, foldl_rep]
          simp [mkS]
        rw [this, Nat.mul_comm]; omega
      · congr 1
        refine TL.ext_tl ?_
        rw [mkS_tl]
        show (Array.toList _) = _
        rw [foldl_rep]
        simp [mkS, repS]
theorem o_mulS {K : PySem.W.Frag} : Op2 K (lift2 mulSD) rMulS := Op2.lift fun ξ mg W x y d e c σ H μ M Q m kh r1 r2 h p => by
  unfold mulSD at h
  split at h
  · rename_i i j
    unfold mulD at h
    dsimp only at h
    split at h
    · rename_i hc
      cases h; cases r1.int; cases r2.int
      exact .inl ⟨_, _, rfl, rfl, hc, fun kh => p.here m kh (.dat (.int _))⟩
    · cases h
  · split at h
    · rename_i hc; cases h; cases r1.str; cases r2.int; exact .inr ⟨_, _, rfl, rfl, hc.1, hc.2.1, hc.2.2, fun kh => p.here m kh (.dat (.str _))⟩
    · cases h
  · cases h

/-! ### dict displays -/
def toKey : U → Option Key
  | .dat (.int i) => some (.inl i)
  | .dat (.str s) => some (.inr (mkS s))
  | _ => none
def pairsE : List (Ev × Ev) → En → Mem → Out (List (Key × D))
  | [], _, M => .ok [] M
  | (f, g) :: r, ρ, M => (f ρ M).bind fun k M1 => (g ρ M1).bind fun v M2 => (pairsE r ρ M2).bind fun kvs M3 => match toKey k, v with
    | some k, .dat d => .ok ((k, d) :: kvs) M3
    | _, _ => .bad
def putD (kvs : List (Key × D)) (k : Key) (v : D) : List (Key × D) := if (kvs.any fun kv => decide (kv.1 = k)) = true then kvs.map (fun kv => if kv.1 = k then (kv.1, v) else kv) else kvs ++ [(k, v)]
def mergeD (kvs more : List (Key × D)) : List (Key × D) := more.foldl (fun acc kv => putD acc kv.1 kv.2) kvs
def newD (c : Bool) (kvs : List (Key × D)) (M : Mem) : Out U := if c then .ok (.cell M.length) (M ++ [.dct kvs]) else .ok (.dat (.dct kvs)) M
def eDisp (c : Bool) (fs : List (Ev × Ev)) : Ev := fun ρ M => (pairsE fs ρ M).bind fun kvs M1 => if kvs.length ≤ 15 then newD c (mergeD [] kvs) M1 else .bad
section
variable {K : PySem.W.Frag} {ξ : List Addr} {H : Hp} {μ : List Addr}
theorem RepK.any {k : Key} : ∀ {vs : List (Key × V)} {ds : List (Key × D)}, RepK K ξ H μ vs ds → (vs.any fun kv => decide (kv.1 = k)) = ds.any fun kv => decide (kv.1 = k)
  | _, _, .nil => rfl
  | _, _, .cons _ t => by rw [List.any_cons, List.any_cons, RepK.any t]
theorem RepK.append : ∀ {vs vs' : List (Key × V)} {ds ds' : List (Key × D)}, RepK K ξ H μ vs ds → RepK K ξ H μ vs' ds' → RepK K ξ H μ (vs ++ vs') (ds ++ ds')
  | _, _, _, _, .nil, s => s
  | _, _, _, _, .cons r t, s => .cons r (RepK.append t s)
theorem RepK.repl {k : Key} {v : V} {d : D} (r : Rep K ξ H μ v d) : ∀ {vs : List (Key × V)} {ds : List (Key × D)}, RepK K ξ H μ vs ds → RepK K ξ H μ (vs.map fun kv => if kv.1 = k then (kv.1, v) else kv) (ds.map fun kv => if kv.1 = k then (kv.1, d) else kv)
  | _, _, .nil => .nil
  | _, _, .cons (k := k') q t => by
    rw [List.map_cons, List.map_cons]
    by_cases h : k' = k
    · rw [if_pos h, if_pos h]; exact .cons r (RepK.repl r t)
    · rw [if_neg h, if_neg h]; exact .cons q (RepK.repl r t)
theorem RepK.put {k : Key} {v : V} {d : D} {vs : List (Key × V)} {ds : List (Key × D)} (t : RepK K ξ H μ vs ds) (r : Rep K ξ H μ v d) : RepK K ξ H μ (putK vs k v) (putD ds k d) := by
  unfold putK putD
  rw [t.any]
  split
  · exact t.repl r
  · exact t.append (.cons r .nil)
theorem RepK.merge : ∀ {more : List (Key × V)} {moreD : List (Key × D)} {vs : List (Key × V)} {ds : List (Key × D)}, RepK K ξ H μ more moreD → RepK K ξ H μ vs ds → RepK K ξ H μ (mergeK vs more) (mergeD ds moreD)
  | _, _, _, _, .nil, s => s
  | _, _, vs, ds, .cons (k := k) (v := v) (d := d) (vs := mv) (ds := md) r t, s => by
    show RepK K ξ H μ (mergeK (putK vs k v) mv) (mergeD (putD ds k d) md)
    exact RepK.merge t (s.put r)
theorem RepK.length : ∀ {vs : List (Key × V)} {ds : List (Key × D)}, RepK K ξ H μ vs ds → vs.length = ds.length
  | _, _, .nil => rfl
  | _, _, .cons _ t => by simp [RepK.length t]
theorem RelM.unx {p : Addr} {M : Mem} (m : RelM K (p :: ξ) H μ M) : RelM K ξ H μ M :=
  ⟨m.len, m.nd, fun a ha => m.xt a (List.mem_cons_of_mem _ ha), fun k a o h1 h2 => (m.at_ k a o h1 h2).sub fun b hb => nm_of (fun z => (nm hb).1 (List.mem_cons_of_mem _ z)) (nm hb).2⟩
theorem unx {p b : Addr} (hb : b ∉ (p :: ξ) ++ μ) : b ∉ ξ ++ μ := nm_of (fun z => (nm hb).1 (List.mem_cons_of_mem _ z)) (nm hb).2
/-- a new object whose making goes on: p is excluded meanwhile -/
theorem RelM.lay {p : Addr} {o : HO} {M : Mem} (m1 : RelM K ξ H μ M) (hp : H p = none) : RelM K (p :: ξ) (upd H p o) μ M := by
  have m2 := m1.laid (o := o) hp
  have hpμ := m1.new hp
  refine ⟨m2.len, m2.nd, fun a ha => ?_, fun k a o h1 h2 => ?_⟩
  · rcases List.mem_cons.mp ha with ha | ha
    · rw [ha]; exact ⟨⟨_, upd_same⟩, (nm hpμ).2⟩
    · exact m2.xt a ha
  · exact ((m1.at_ k a o h1 h2).more hp).next_at (Nxt.laid (K := K) hp).w (upd_ne fun z => m1.new0 hp (z ▸ List.mem_of_getElem? h1))
/-- what was laid beside becomes a cell -/
theorem RelM.unlay {p : Addr} {M : Mem} {oo : O} (m2 : RelM K (p :: ξ) H μ M) (hx : p ∉ ξ) (ho : RepO K ξ H (μ ++ [p]) p oo) : RelM K ξ H (μ ++ [p]) (M ++ [oo]) := by
  have hpx := (m2.xt p List.mem_cons_self).2
  have out2 : ∀ b, b ∉ (p :: ξ) ++ μ → b ∉ ξ ++ (μ ++ [p]) := fun b hb => nm_of (fun z => (nm hb).1 (List.mem_cons_of_mem _ z)) fun z => (List.mem_append.mp z).elim (nm hb).2 fun z => (nm hb).1 (by
    have : b = p := by simpa using z
    rw [this]; exact List.mem_cons_self)
  refine ⟨by simp [m2.len], ?_, fun a ha => ?_, fun k a o h1 h2 => ?_⟩
  · rw [List.nodup_append]
    refine ⟨m2.nd, by simp, fun a ha b hb z => ?_⟩
    have : b = p := by simpa using hb
    subst this z
    exact hpx ha
  · obtain ⟨h1, h2⟩ := m2.xt a (List.mem_cons_of_mem _ ha)
    refine ⟨h1, fun z => (List.mem_append.mp z).elim h2 fun z => ?_⟩
    have : a = p := by simpa using z
    subst this
    exact hx ha
  · by_cases hk : k < μ.length
    · rw [List.getElem?_append_left hk] at h1
      rw [List.getElem?_append_left (by rw [← m2.len]; exact hk)] at h2
      exact (m2.at_ k a o h1 h2).subC out2 fun k _ a e => by rw [List.getElem?_append_left (List.getElem?_eq_some_iff.mp e).1]; exact e
    · have ek : k = μ.length := by
        have := (List.getElem?_eq_some_iff.mp h1).1
        simp at this; omega
      subst ek
      rw [List.getElem?_append_right (Nat.le_refl _)] at h1
      rw [m2.len, List.getElem?_append_right (Nat.le_refl _)] at h2
      simp at h1 h2
      subst h1 h2
      exact ho
inductive RepPs (ξ : List Addr) (H : Hp) (μ : List Addr) : List (V × V) → List (Key × D) → Prop
  | nil : RepPs ξ H μ [] []
  | cons {k : Key} {v : V} {d : D} {ps : List (V × V)} {kvs : List (Key × D)} : Rep K ξ H μ v d → RepPs ξ H μ ps kvs → RepPs ξ H μ ((kV k, v) :: ps) ((k, d) :: kvs)
theorem RepPs.split : ∀ {ps : List (V × V)} {kvs : List (Key × D)}, RepPs (K := K) ξ H μ ps kvs → ∃ vs, ps = vs.map (fun kv : Key × V => (kV kv.1, kv.2)) ∧ RepK K ξ H μ vs kvs
  | _, _, .nil => ⟨[], rfl, .nil⟩
  | _, _, .cons (k := k) (v := v) r t => let ⟨vs, e, q⟩ := RepPs.split t; ⟨(k, v) :: vs, by rw [e]; rfl, .cons r q⟩
theorem toKey_ok {v : V} {u : U} {k : Key} (r : RepU K ξ H μ v u) (h : toKey u = some k) : v = kV k := by
  unfold toKey at h
  split at h
  · cases h; cases r with | dat r => cases r; rfl
  · cases h; cases r with | dat r => cases r; rfl
  · cases h
theorem pairs_read {mg : Str → Option Value} {W : WX} : ∀ (fs : List (Ev × Ev)) {σ : L2.St} {ρ : En} {H : Hp} {μ : List Addr} {M : Mem} {Q : List (V × V) → Hp → Prop}, RelE K ξ H μ σ ρ → RelM K ξ H μ M → (fs = [] → KH K H) →
    Post K ξ mg W (RepPs (K := K) ξ) σ H μ (pairsE fs ρ M) Q → tPairs (fs.map fun fg => (tE K mg W fg.1, tE K mg W fg.2)) σ H Q
  | [], σ, ρ, H, μ, M, Q, e, m, kh, p => p.here m (kh rfl) .nil
  | (f, g) :: r, σ, ρ, H, μ, M, Q, e, m, kh, p => by
    unfold pairsE at p
    refine tg.of e m ((Post.bind (R := RepU K ξ) p).mono fun x H1 ⟨k, M1, μ1, n1, m1, kh1, r1, q1⟩ => tg.of (e.next n1) m1 ((Post.bind (R := RepU K ξ) q1).mono fun y H2 ⟨v, M2, μ2, n2, m2, kh2, r2, q2⟩ => ?_))
    refine pairs_read r ((e.next n1).next n2) m2 (fun _ => kh2) ((Post.bind (R := RepPs (K := K) ξ) q2).mono fun ps H3 ⟨kvs, M3, μ3, n3, m3, kh3, r3, q3⟩ => ?_)
    cases hk : toKey k with
    | none => simp only [hk] at q3; exact q3.elim
    | some k' =>
      have ek := toKey_ok (r1.next (n2.trans n3)) hk
      subst ek
      cases v with
      | cell c => simp only [hk] at q3; exact q3.elim
      | exn => simp only [hk] at q3; exact q3.elim
      | tup => simp only [hk] at q3; exact q3.elim
      | dat d =>
        simp only [hk] at q3
        cases r2.next n3 with
        | dat rv => exact q3.here m3 kh3 (.cons rv r3)
theorem disp_read {c : Bool} {mg : Str → Option Value} {W : WX} {fs : List (Ev × Ev)} {σ : L2.St} {Q : VK} (hne : fs ≠ []) (h : tE K mg W (eDisp c fs) σ H Q) : tDisp (fs.map fun fg => (tE K mg W fg.1, tE K mg W fg.2)) σ H (orLock fun v H' => KH K H' → Q v H') := by
  obtain ⟨ξ, ρ, μ, M, e, m, q⟩ := h
  intro p hp
  have m1 := m.lay (o := .dK []) hp
  have e1 : RelE K (p :: ξ) (upd H p (.dK [])) μ σ ρ := (e.more hp).next (Nxt.laid hp)
  refine pairs_read fs e1 m1 (fun z => absurd z hne) ?_
  unfold eDisp at q
  cases hr : pairsE fs ρ M with
  | ok kvs M1 =>
    rw [hr] at q
    simp only [Out.bind] at q
    intro ps H' μ' n m' kh' r
    have hpH : H' p = some (.dK []) := n.same p _ (m1.xt p List.mem_cons_self).2 upd_same
    obtain ⟨vs, rfl, rk⟩ := r.split
    split at q
    · rename_i hl
      refine ⟨hpH, vs, rfl, by rw [rk.length]; exact hl, ?_⟩
      have hpin : p ∈ p :: ξ := List.mem_cons_self
      have hpξ : p ∉ ξ := fun z => by
        obtain ⟨⟨o, eo⟩, _⟩ := m.xt p z
        rw [hp] at eo; cases eo
      have nn : ∀ ho : HO, Nxt K H μ (upd H' p ho) μ' := fun ho => ⟨fun b o hb eb => by
          rw [upd_ne (ne_of_none eb hp)]
          exact n.same b o hb (by rw [upd_ne (ne_of_none eb hp)]; exact eb), by
        obtain ⟨ν, hν, h2⟩ := n.pre
        exact ⟨ν, hν, fun a ha => ⟨(h2 a ha).1, by
          have := (h2 a ha).2.1
          by_cases z : a = p
          · subst z; exact hp
          · rw [upd_ne z] at this; exact this, (h2 a ha).2.2⟩⟩⟩
      cases c with
      | false =>
        refine .inr ⟨p, _, upd_same, trivial, fun od kh2 => ?_⟩
        have mo := m'.own (o := .frz od (.dK (mergeK [] vs))) hpin
        have rk2 := RepK.merge (RepK.nextW (Nw.own (o := .frz od (.dK (mergeK [] vs))) hpin) rk) .nil
        have ee : upd (upd H' p (.dK (mergeK [] vs))) p (.frz od (.dK (mergeK [] vs))) = upd H' p (.frz od (.dK (mergeK [] vs))) := upd_upd
        rw [ee] at kh2 ⊢
        exact q _ _ μ' (nn _) mo.unx kh2 (.dat (.dct (nm_of hpξ (m'.xt p hpin).2) upd_same (RepK.sub (fun _ => unx) rk2)))
      | true =>
        refine .inl fun kh2 => ?_
        have mo := m'.own (o := .dK (mergeK [] vs)) hpin
        have rk2 := RepK.merge (RepK.nextW (Nw.own (o := .dK (mergeK [] vs)) hpin) rk) .nil
        have hpk : K.lookup p = none := by
          cases ek : K.lookup p with
          | none => rfl
          | some o =>
            have := kh2 p o ek
            rw [upd_same] at this; cases this
        have out2 : ∀ b, b ∉ (p :: ξ) ++ μ' → b ∉ ξ ++ (μ' ++ [p]) := fun b hb => nm_of (fun z => (nm hb).1 (List.mem_cons_of_mem _ z)) fun z => (List.mem_append.mp z).elim (nm hb).2 fun z => (nm hb).1 (by
          have : b = p := by simpa using z
          rw [this]; exact List.mem_cons_self)
        refine q _ _ (μ' ++ [p]) ⟨(nn _).same, ?_⟩ (mo.unlay hpξ (.dct upd_same (RepK.sub out2 rk2))) kh2 (.cell (by rw [← mo.len, List.getElem?_append_right (Nat.le_refl _)]; simp))
        obtain ⟨ν, hν, h2⟩ := (nn (.dK (mergeK [] vs))).pre
        refine ⟨ν ++ [p], by rw [hν, List.append_assoc], fun a ha => ?_⟩
        rcases List.mem_append.mp ha with ha | ha
        · exact h2 a ha
        · have : a = p := by simpa using ha
          subst this
          exact ⟨(nm (m.new hp)).2, hp, hpk⟩
    · exact q.elim
  | exc c fs' M1 =>
    rw [hr] at q
    intro C dd H' μ' n m' hc hx
    refine q C dd H' μ' ⟨fun b o hb eb => n.same b o hb (by rw [upd_ne (ne_of_none eb hp)]; exact eb), ?_⟩ m'.unx hc (hx.imp id fun ⟨d, vs, e, hd, hv, rv⟩ => ⟨d, vs, e, unx hd, hv, rv.sub fun _ => unx⟩)
    obtain ⟨ν, hν, h2⟩ := n.pre
    exact ⟨ν, hν, fun a ha => ⟨(h2 a ha).1, by
      have := (h2 a ha).2.1
      by_cases z : a = p
      · subst z; exact hp
      · rw [upd_ne z] at this; exact this, (h2 a ha).2.2⟩⟩
  | bad => rw [hr] at q; exact q.elim
section
variable {X : Cx} {W : WX}
structure SPs (X : Cx) (W : WX) (pos : Pos) (keys : List (Option Expr)) (values : List Expr) (fs : List (Ev × Ev)) : Prop where
  pps : PPs X pos keys values (fs.map fun fg => (tE X.K X.mg W fg.1, tE X.K X.mg W fg.2))
theorem sps_nil {pos : Pos} : SPs X W pos [] [] [] := ⟨pps_nil⟩
theorem sps_cons {pos : Pos} {k v : Expr} {ks : List (Option Expr)} {vs : List Expr} {f g : Ev} {fs : List (Ev × Ev)} (hk : SE X W k f) (hv : SE X W v g) (hr : SPs X W pos ks vs fs) : SPs X W pos (some k :: ks) (v :: vs) ((f, g) :: fs) := ⟨pps_cons hk hv hr.pps⟩
theorem se_disp (c : Bool) {pos : Pos} {keys : List (Option Expr)} {values : List Expr} {fs : List (Ev × Ev)} (h : SPs X W pos keys values fs) (hne : fs ≠ [] := by exact List.cons_ne_nil _ _) (hall : keys.all (·.isSome) = true := by rfl) (hl : keys.length = values.length := by rfl) (h0 : keys ≠ [] := by exact List.cons_ne_nil _ _)
    (h15 : keys.length ≤ 15 := by decide) : SE X W (.Dict keys values pos) (eDisp c fs) := pe_sd (pe_lockEnd (pe_disp h.pps hall hl h0 h15)) fun σ H Q kh h => disp_read hne h
def eDnew (c : Bool) : Ev := fun _ M => newD c [] M
theorem newD_post {K : PySem.W.Frag} {ξ : List Addr} {mg : Str → Option Value} {W : WX} {σ : L2.St} {H : Hp} {μ : List Addr} {M : Mem} {Q : VK} {c : Bool} {ds : List (Key × D)} {xs : List (Key × V)} (h : Post K ξ mg W (RepU K ξ) σ H μ (newD c ds M) Q) (m : RelM K ξ H μ M) (r : RepK K ξ H μ xs ds) (p : Addr) (hp : H p = none) : orLock (fun v H' => KH K H' → Q v H') (.ref p) (upd H p (.dK xs)) := by
  unfold newD at h
  cases c with
  | false =>
    refine .inr ⟨p, _, upd_same, trivial, fun od kh => ?_⟩
    have ee : upd (upd H p (.dK xs)) p (.frz od (.dK xs)) = upd H p (.frz od (.dK xs)) := upd_upd
    rw [ee] at kh ⊢
    exact h _ _ μ (Nxt.laid hp) (m.laid hp) kh (.dat (.dct (m.new hp) upd_same (RepK.next (Nxt.laid hp) r)))
  | true =>
    refine .inl fun kh => ?_
    have hk : K.lookup p = none := by
      cases e : K.lookup p with
      | none => rfl
      | some o =>
        have := kh p o e
        rw [upd_same] at this; cases this
    exact h _ _ (μ ++ [p]) (Nxt.laidC m hp hk) (m.laidO hp hk (.dct upd_same (RepK.next (Nxt.laidC m hp hk) r))) kh (.cell (by rw [← m.len, List.getElem?_append_right (Nat.le_refl _)]; simp))
theorem se_dnew (c : Bool) {pos : Pos} : SE X W (.Dict [] [] pos) (eDnew c) := pe_sd (pe_lockEnd pe_dnewK) fun σ H Q kh ⟨ξ, ρ, μ, M, e, m, q⟩ p hp => newD_post q m .nil p hp
end
end
end SD

set_option Elab.async false
set_option linter.all false
set_option maxRecDepth 100000
set_option maxHeartbeats 4000000
namespace SD
open PySem PySem.Spec PyProof.Rows L2

/-! ### a op b op' c -/
def eChain (p p' : P2) (f g h : Ev) : Ev := fun ρ M => (f ρ M).bind fun u M1 => (g ρ M1).bind fun w M2 => (p u w M2).bind fun t M3 => match t with
  | .dat (.bl true) => (h ρ M3).bind fun v M4 => p' w v M4
  | .dat (.bl false) => .ok (.dat (.bl false)) M3
  | _ => .bad
section
variable {X : Cx} {W : WX} {a b c : Expr} {f g h : Ev} {pos : Pos}
theorem se_chain {op op' : CmpOp} {r r' : R2} {p p' : P2} (ho : OpR X (compareOp op) r) (hp : Op2 X.K p r) (ho' : OpR X (compareOp op') r') (hp' : Op2 X.K p' r') (ha : SE X W a f) (hb : SE X W b g) (hc : SE X W c h)
    (hm : lastMarks [op, op'] [b, c] = false := by with_unfolding_all rfl) : SE X W (.Compare a [op, op'] [b, c] pos) (eChain p p' f g h) := by
  refine ⟨fun pins s σ H Q I ⟨ξ, ρ, μ, M, e, m, q⟩ => ?_⟩
  refine Compare_chain (thn (ha.run pins s σ H _ I (tg.of e m (Post.bind (R := RepU X.K ξ) q))) fun v s1 ⟨x, H1, I1, r1, u, M1, μ1, n1, m1, kh1, ru, q1⟩ =>
    chain_link (thn (hb.run pins s1 σ H1 _ I1 (tg.of (e.next n1) m1 (Post.bind (R := RepU X.K ξ) q1))) fun u' s2 ⟨y, H2, I2, r2, w, M2, μ2, n2, m2, kh2, rw', q2⟩ =>
    thn (ho pins s2 σ H2 x y v u' _ I2 r1 r2 (hp ξ X.mg W x y u w σ H2 μ2 M2 _ m2 kh2 (ru.next n2) rw' (Post.bind (R := RepU X.K ξ) q2))) fun d s3 ⟨z, H3, I3, r3, q3⟩ => ?_)) hm
  obtain ⟨t, M3, μ3, n3, m3, kh3, rt, q4⟩ := q3 (Inv.kh I3)
  cases t with
  | cell k => exact q4.elim
  | exn => exact q4.elim
  | tup => exact q4.elim
  | dat dt =>
    cases dt with
    | bl k =>
      cases rt with | dat rt =>
      cases rt
      cases r3
      refine wpAny_truthy_bool ?_
      cases k with
      | false => exact ite_ff ⟨.bl false, H3, I3, rfl, q4.here m3 (Inv.kh I3) (.dat (.bl false))⟩
      | true =>
        refine ite_tt (chain_last (thn (hc.run pins s3 σ H3 _ I3 (tg.of (((e.next n1).next n2).next n3) m3 (Post.bind (R := RepU X.K ξ) q4))) fun w' s4 ⟨z', H4, I4, r4, v', M4, μ4, n4, m4, kh4, rv, q5⟩ => ?_))
        exact thn (ho' pins s4 σ H4 y z' u' w' _ I4 r2 r4 (hp' ξ X.mg W y z' w v' σ H4 μ4 M4 Q m4 kh4 ((rw'.next n3).next n4) rv q5)) fun d' s5 ⟨z2, H5, I5, r5, q6⟩ => ⟨z2, H5, I5, r5, q6 (Inv.kh I5)⟩
    | _ => exact q4.elim
theorem st_chain {op op' : CmpOp} {r r' : R2} {p p' : P2} (ho : OpR X (compareOp op) r) (hp : Op2 X.K p r) (ho' : OpR X (compareOp op') r') (hp' : Op2 X.K p' r') (ha : SE X W a f) (hb : SE X W b g) (hc : SE X W c h)
    (hm : lastMarks [op, op'] [b, c] = false := by with_unfolding_all rfl) : ST X W (.Compare a [op, op'] [b, c] pos) (tOf (eChain p p' f g h)) := by
  refine ⟨fun pins s σ H Q I hq => ?_⟩
  obtain ⟨ξ, ρ, μ, M, e, m, q⟩ := tg.tOf hq
  refine isTrue_chain (thn (ha.run pins s σ H _ I (tg.of e m (Post.bind (R := RepU X.K ξ) q))) fun v s1 ⟨x, H1, I1, r1, u, M1, μ1, n1, m1, kh1, ru, q1⟩ =>
    test_link (thn (hb.run pins s1 σ H1 _ I1 (tg.of (e.next n1) m1 (Post.bind (R := RepU X.K ξ) q1))) fun u' s2 ⟨y, H2, I2, r2, w, M2, μ2, n2, m2, kh2, rw', q2⟩ =>
    thn (ho pins s2 σ H2 x y v u' _ I2 r1 r2 (hp ξ X.mg W x y u w σ H2 μ2 M2 _ m2 kh2 (ru.next n2) rw' (Post.bind (R := RepU X.K ξ) q2))) fun d s3 ⟨z, H3, I3, r3, q3⟩ => ?_)) hm
  obtain ⟨t, M3, μ3, n3, m3, kh3, rt, q4⟩ := q3 (Inv.kh I3)
  cases t with
  | cell k => exact q4.elim
  | exn => exact q4.elim
  | tup => exact q4.elim
  | dat dt =>
    cases dt with
    | bl k =>
      cases rt with | dat rt =>
      cases rt
      cases r3
      refine wpAny_truthy_bool ?_
      cases k with
      | false =>
        obtain ⟨k', e', q'⟩ := q4.here m3 (Inv.kh I3) (.dat (.bl false))
        cases e'
        exact ite_ff ⟨H3, I3, q'⟩
      | true =>
        refine ite_tt (test_last (thn (hc.run pins s3 σ H3 _ I3 (tg.of (((e.next n1).next n2).next n3) m3 (Post.bind (R := RepU X.K ξ) q4))) fun w' s4 ⟨z', H4, I4, r4, v', M4, μ4, n4, m4, kh4, rv, q5⟩ => ?_))
        refine thn (ho' pins s4 σ H4 y z' u' w' _ I4 r2 r4 (hp' ξ X.mg W y z' w v' σ H4 μ4 M4 _ m4 kh4 ((rw'.next n3).next n4) rv q5)) fun d' s5 ⟨z2, H5, I5, r5, q6⟩ => ?_
        obtain ⟨k2, e2, q7⟩ := q6 (Inv.kh I5)
        subst e2
        cases r5
        exact wpAny_truthy_bool ⟨H5, I5, q7⟩
    | _ => exact q4.elim
end

/-! ### a new cell's list taken as data -/
def eFrz (f : Ev) : Ev := fun ρ M => (f ρ M).bind fun u M1 => match u with
  | .cell k => if k = M.length ∧ k + 1 = M1.length then match M1[k]? with
      | some (.lst ds) => .ok (.dat (.lst ds)) (M1.take k)
      | _ => .bad
    else .bad
  | u => .ok u M1
theorem se_frz {X : Cx} {W : WX} {e : Expr} {f : Ev} [fe : FE f] (h : SE X W e f) : SE X W e (eFrz f) :=
  pe_sd h fun σ H Q kh ⟨ξ, ρ, μ, M, en, m, q⟩ => tg.of en m (by
    unfold eFrz at q
    have fl := fe.h ρ M
    cases hf : f ρ M with
    | ok u M1 =>
      rw [hf] at q fl
      simp only [Out.bind] at q
      intro v H1 μ1 n1 m1 kh1 r1 kh'
      cases u with
      | dat d => exact q v H1 μ1 n1 m1 kh' r1
      | exn => exact q v H1 μ1 n1 m1 kh' r1
      | tup => exact q v H1 μ1 n1 m1 kh' r1
      | cell k =>
        simp only at q
        split at q
        · rename_i hk
          split at q
          · rename_i ds hM
            obtain ⟨a, xs, rfl, ea, ha, t⟩ := r1.cellv m1 hM
            obtain ⟨ν, rfl, hν⟩ := n1.pre
            have hl := m1.len
            have hkm : μ.length ≤ k := by rw [m.len]; exact Nat.le_of_eq hk.1.symm
            -- the cells but the last one
            have e1 : (μ ++ ν).take k = μ ++ ν.take (k - μ.length) := by rw [List.take_append]; congr 1; exact List.take_of_length_le hkm
            have out : ∀ b, b ∉ ξ ++ (μ ++ ν) → b ∉ ξ ++ (μ ++ ν.take (k - μ.length)) := fun b hb => nm_of (nm hb).1 fun z => (nm hb).2 (by
              rcases List.mem_append.mp z with z | z
              · exact List.mem_append_left _ z
              · exact List.mem_append_right _ (List.mem_of_mem_take z))
            refine q (.ref a) H1 (μ ++ ν.take (k - μ.length)) ⟨n1.same, _, rfl, fun b hb => hν b (List.mem_of_mem_take hb)⟩ ⟨?_, ?_, fun b hb => ⟨(m1.xt b hb).1, fun z => ?_⟩, fun j b o h1 h2 => ?_⟩ kh' (.dat (.lst ?_ ha (t.sub out)))
            · rw [← e1, List.length_take, List.length_take, hl]
            · rw [← e1]; exact m1.nd.sublist (List.take_sublist _ _)
            · rw [← e1] at z; exact (m1.xt b hb).2 (List.mem_of_mem_take z)
            · rw [← e1] at h1
              have hj : j < k := by
                have := (List.getElem?_eq_some_iff.mp h1).1
                rw [List.length_take] at this; omega
              rw [List.getElem?_take_of_lt hj] at h1 h2
              have hjM : j < M.length := by rw [← hk.1]; exact hj
              obtain ⟨o0, e0, s0⟩ := fl.2 j o hjM h2
              refine (m1.at_ j b o h1 h2).subC out fun i hi b' e => ?_
              have hjμ : j < μ.length := by rw [m.len]; exact hjM
              have h1' : μ[j]? = some b := by rwa [List.getElem?_append_left hjμ] at h1
              have := (m.at_ j b o0 h1' e0).refs_lt i (s0 i hi)
              rw [List.getElem?_append_left this] at e ⊢
              exact e
            · refine nm_of (fun z => (m1.xt a z).2 (List.mem_of_getElem? ea)) fun z => ?_
              rw [← e1] at z
              obtain ⟨j, hj⟩ := List.mem_iff_getElem?.mp z
              have hjk : j < k := by
                have := (List.getElem?_eq_some_iff.mp hj).1
                rw [List.length_take] at this; omega
              rw [List.getElem?_take_of_lt hjk] at hj
              have := ix_inj m1.nd hj ea
              omega
          · exact q.elim
        · exact q.elim
    | exc c fs M1 => rw [hf] at q; exact q
    | bad => rw [hf] at q; exact q)

/-- a def of the text, where it stands and how it binds -/
structure DefAt (K : PySem.W.Frag) (mg : Str → Option Value) (x qual : Str) (st : Stmt) (ps : List Str) : Prop where
  ex : ∃ (f : Addr) (fd : FuncData), mg x = some (.ref f) ∧ Fun K x qual st f fd ∧ Binds K fd ps [] ∧ ∀ us : List Value, us.length = ps.length → bindArgs fd ⟨us, []⟩ = pure (ps.zip us)
section
variable {P : Program} {w : World} {K : PySem.W.Frag} {mg : Str → Option Value} {base : Heap} {x qual : Str} {st : Stmt} {N ps : List Str} {k : Nat} {body : Sv} [FS body]
theorem DefAt.call (d : DefAt K mg x qual st ps) (S : FnScope N ps (defScope st))
    (hbody : ∀ (f : Addr) (cdv : Value) (A : Around) (outer : List Env) (s : Shared) (H : Hp) (E : XK), Room k (A.deeper (envOfC qual (defScope st) s.heap.objs.size f cdv)) →
      SS (cxOf (L2.CX P w) P w K mg base N qual (defScope st) f cdv A outer s H E) (fun cls d _ H => E cls d H) (defBody st) body) : Callable P w K mg base (k + 1) x ps.length [] (fnRun N.length body) := by
  obtain ⟨f, fd, hm, F, hb, _⟩ := d.ex
  exact ⟨⟨_, fd, ps, [], [], hm, F.kp, hb, .nil, fun _ _ _ => .nil, fn_ok F S (hbody _)⟩⟩
theorem DefAt.law {p : Str} {fa : Addr} (d : DefAt K mg x qual st [p]) (hfa : mg x = some (.ref fa)) (S : FnScope N [p] (defScope st))
    (hbody : ∀ (base : Heap) (f : Addr) (cdv : Value) (A : Around) (outer : List Env) (s : Shared) (H : Hp) (E : XK), Room k (A.deeper (envOfC qual (defScope st) s.heap.objs.size f cdv)) →
      SS (cxOf (L2.CX P w) P w K mg base N qual (defScope st) f cdv A outer s H E) (fun cls d _ H => E cls d H) (defBody st) body) :
    ∃ fd : FuncData, (∀ (s : Shared) (u : Value), BindsTo s fd ⟨[u], []⟩ [(p, u)]) ∧ ∀ base : Heap, K.In base → base.Ns mainGlobals mg → FnOk P w K mg base (L2.CX P w) (k + 1) fa fd [p] (spS K mg 1 (fnRun N.length body)) := by
  obtain ⟨f, fd, hm, F, hb, he⟩ := d.ex
  rw [hm] at hfa
  cases hfa
  exact ⟨fd, fun s u => .of_eq (he [u] rfl), fun base _ _ => fn_ok F S (hbody base _)⟩
theorem DefAt.mk' {h : Heap} {f : Addr} {oc kV doc pm cdv ct : Value} {od an : Option Addr} {osl : Array (Option Value)} (X : K.In h) (G : h.Ns mainGlobals mg) (a : PySem.W.nsIn K mainGlobals x = some (some (.ref f)))
    (l : K.lookup f = some ⟨oc, od, .func (PySem.W.fnOf x qual (defArgs st) (defBody st) (defScope st) .none kV doc pm an cdv ct), osl⟩) (c : PySem.W.codeIn K cdv qual = true) (k : PySem.W.keepIn K (.ref f) = true)
    (hb : ∀ (kV doc pm : Value) (an : Option Addr) (cdv ct : Value) (us : List Value), us.length = ps.length → bindArgs (PySem.W.fnOf x qual (defArgs st) (defBody st) (defScope st) .none kV doc pm an cdv ct) ⟨us, []⟩ = pure (ps.zip us)) : DefAt K mg x qual st ps := by
  have F := fun_mk (st := st) l c k
  exact ⟨⟨_, _, PySem.W.mg_of X G a, F, F.binds hb, fun us hu => hb _ _ _ _ _ _ us hu⟩⟩
end
theorem walk_law {l : PySem.W.OpenLaw} {q : Program} {loose : List Str} {XP : (Str → Option Value) → Heap → Prop} {YP : World → Heap → Prop} {d : DefRec} {K : Params → PySem.W.Frag} {p : Str} {k : Nat} {F : Fn} (hn : l.most = some 63) (hdf : d.params.defaults = []) (hr : Room k callerA)
    (hY : ∀ (w : World) (h : Heap), YP w h → (K w.params).In h)
    (hF : ∀ (w : World) (mg : Str → Option Value) (fa : Addr) (h : Heap), (K w.params).In h → h.Ns mainGlobals mg → mg d.name = some (.ref fa) →
      ∃ fd : FuncData, (∀ (s : Shared) (u : Value), BindsTo s fd ⟨[u], []⟩ [(p, u)]) ∧ ∀ base : Heap, (K w.params).In base → base.Ns mainGlobals mg → FnOk l.prog w (K w.params) mg base (L2.CX l.prog w) k fa fd [p] (spS (K w.params) mg 1 F))
    (hL : ∀ ns : List Int, ns.length ≤ 63 → ∃ M, F [.dat (.scr ns)] [] = .ok (.dat (.bl true)) M) : PySem.W.WalkO q loose XP YP l.row.toRowW d [] (fun f vs => PySem.call f vs) :=
  L2.walk_of (n := 63) (k := k) (x := p) (K := K) (CX := fun w => L2.CX l.prog w) (sp := fun w => fun vs H Q E => ∃ ns : List Int, ns.length ≤ 63 ∧ vs.length = 1 ∧ ∃ a, vs = [V.ref a] ∧ SqL (K w.params) H a (ns.map V.int) ∧ ∀ H', Q (.bl true) H') hn (by rw [sizeLine_eq]; decide) hdf hr hY
    (fun w mg fa h X G hm => by
      obtain ⟨fd, h1, h2⟩ := hF w mg fa h X G hm
      refine ⟨fd, h1, fun base h3 h4 => (h2 base h3 h4).imp fun vs H Q E ⟨ns, hl, _, a, e, hS, hq⟩ => ?_⟩
      subst e
      obtain ⟨M, hM⟩ := hL ns hl
      refine ⟨rfl, [], [.dat (.scr ns)], [], [], .cons (.dat ?_) .nil, ⟨rfl, List.nodup_nil, fun a h => by simp at h, fun k a o h _ => by simp at h⟩, ?_⟩
      · rcases hS with e | ⟨o, its, n, e⟩
        · exact .scr (by simp) e
        · exact .kscr fun G => .inr ⟨o, its, n, e⟩
      · rw [hM]
        intro v H' μ' _ _ r
        cases r with | dat r => cases r; exact hq H')
    (fun w H a ns hl _ hS => ⟨ns, hl, rfl, a, rfl, hS, fun _ => rfl⟩) fun w H s e s' hc => by
      obtain ⟨_, _, _, _, _, _, _, _, _, _, _, _, z⟩ := hc
      exact z
end SD

set_option Elab.async false
set_option linter.all false
set_option maxRecDepth 100000
set_option maxHeartbeats 4000000
namespace SD
open PySem PySem.Spec PyProof.Rows L2
section
variable {X : Cx} {W : WX}
def eNeg (f : Ev) : Ev := fun ρ M => (f ρ M).bind fun u M1 => match u with
  | .dat (.int i) => .ok (.dat (.int (-i))) M1
  | _ => .bad
theorem se_neg {a : Expr} {f : Ev} {pos : Pos} (ha : SE X W a f) : SE X W (.UnaryOp .USub a pos) (eNeg f) :=
  pe_sd (pe_un un_neg ha) fun σ H Q kh ⟨ξ, ρ, μ, M, e, m, q⟩ => tg.of e m ((Post.bind (R := RepU X.K ξ) q).mono fun x H1 ⟨u, M1, μ1, n1, m1, kh1, r1, q1⟩ => by
    split at q1
    · cases r1 with | dat r1 => cases r1; exact ⟨_, rfl, fun kh => q1.here m1 kh (.dat (.int _))⟩
    · exact q1.elim)
/-- name = [..] on one line -/
theorem s_setLc (c : Bool) (i : Nat) {y : Str} {py : Pos} {elt tg0 iter : Expr} {ifs : List Expr} {scope : Scope} {own : List (Str × Nat)} {pos spos : Pos} {t : Tgt} {src : Lv} {test : Tv} {el : Ev} (hc : X.calm = true) (hN : X.N.Nodup) (hi : SI X W tg0 iter src) (ok : BlkOk X.N X.env.scope scope own)
    (hg : ∀ (s : Shared) (H : Hp) (C : Addr) (cl : List (Str × Addr)) (fp : List Addr), GD (X.blk s H scope (compEnvC scope cl C X.env) fp) tg0 t)
    (ht : ∀ (s : Shared) (H : Hp) (C : Addr) (cl : List (Str × Addr)) (fp : List Addr), STs (X.blk s H scope (compEnvC scope cl C X.env) fp) W0 ifs test)
    (he : ∀ (s : Shared) (H : Hp) (C : Addr) (cl : List (Str × Addr)) (fp : List Addr), SE (X.blk s H scope (compEnvC scope cl C X.env) fp) W0 elt el) (hv : ∀ i ∈ t.slots, i ∈ own.map (·.2))
    (hy : X.N[i]? = some y := by rfl) (hyl : X.env.scope.names.lookup y = some .local := by rfl)
    (hsw : swapsWith (.ListComp elt [⟨tg0, iter, ifs, 0⟩] scope pos) (some (.Name y py)) spos.line X.env = pure true := by exact sw_true rfl rfl rfl (by decide +kernel))
    (hs : ∀ x, foldedSetIterable iter X.env x = pure x := by intro _; rfl) :
    S1 X W (.Assign [.Name y py] (.ListComp elt [⟨tg0, iter, ifs, 0⟩] scope pos) spos) (sAsg (.name i) (eLc c src t test el (own.map (·.2)))) :=
  ps_sd (ps_setLc (g := gT X.K t) (tt := tB' X.K X.mg W0 test) (te := tE X.K X.mg W0 el) hc hN hy hyl hsw hi ok hg ht he hs) fun E σ H kh ⟨ξ, ρ, μ, M, e, m, p⟩ =>
    lc_read (Q := fun x H1 => E.nx (σ.set i (some x)) H1) hv (tg.of e m ((PostS.bindE (R := RepU X.K ξ) p e).mono fun v H1 ⟨u, M1, μ1, n1, m1, kh1, r1, q1⟩ => PostS.here q1 ((e.next n1).set i r1) m1 kh1))
end
end SD

set_option Elab.async false
set_option linter.all false
set_option maxRecDepth 100000
set_option maxHeartbeats 4000000
namespace SX
open PySem PySem.W PySem.Calls PyProof.Rows PySem.HandSPX

/-! ### own exceptions whose __init__ says super().__init__('..') and keeps its argument -/
abbrev veL : List Value := [.type "ValueError", .type "Exception", .type "BaseException", .type "object"]
def scp (par : List Str) : Scope := { kind := .function, names := [(PySem.Str.ofString "self", .local)] ++ par.map (fun p => (p, .local)) ++ [(PySem.Str.ofString "__class__", .free), (PySem.Str.ofString "super", .globalImplicit)], isGenerator := false, isCoroutine := false, more := [] }
def prm (a : Pos) (par : List (Str × Pos)) : Arguments := { posonlyargs := [], args := { arg := "self", annotation := none, pos := a } :: par.map fun p => { arg := p.1, annotation := none, pos := p.2 }, vararg := none, kwonlyargs := [], kw_defaults := [], kwarg := none, defaults := [] }
def sup (text : Str) (b1 b2 b3 b4 b5 b6 : Pos) : Stmt := .Expr (.Call (.Attribute (.Call (.Name "super" b1) [] [] b2) "__init__" b3) [.Constant (.str text) 0 b4] [] b5) b6
def keeps (fld par : Str) (c1 c2 c3 c4 : Pos) : Stmt := .Assign [.Attribute (.Name "self" c1) fld c2] (.Name par c3) c4
/-- what the written part says of the class at C, of its __init__ at fI -/
structure OwnC (K : Frag) (prog : Program) (C fI : Addr) (qual : Str) (params : Arguments) (body : List Stmt) (scope : Scope) : Prop where
  cls : ∃ nm q N bs bm sn sub ab col dd k0 k1 k2 k3 k5, K.lookup C = some (excClassObj nm q C N bs bm true sn sub ab col dd k0 k1 k2 k3 k5 "ValueError.__new__") ∧ refsVE bm = true
  sa : findIn K (.ref C) "__setattr__" = some (some (.builtin "object.__setattr__"))
  ga : findIn K (.ref C) "__getattribute__" = some (some (.builtin "BaseException.__getattribute__"))
  gg : findIn K (.ref C) "__getattr__" = some none
  iC : findIn K (.ref C) "__init__" = some (some (.ref fI))
  tC : typeIn K (.ref fI) = some (.type "function")
  kC : keepIn K (.ref C) = true
  exC : subIn K (.ref C) (.type "BaseException") = some true
  tyC : typeIn K (.ref C) = some (.type "type")
  hdC : hasDictIn K C = true
  vE : subIn K (.ref C) (.type "ValueError") = some true
  ei : excInitIn K C veL "ValueError.__new__" = true
  su : ks_superIn K C C "__init__" = some (some (.builtin "ValueError.__init__"))
  mro : mroIn K C (.ref C) = some true
  any : nsIn K cStatics "thirdparty.any" = some none
  fn : ∃ (oc : Value) (od : Option Addr) (doc pm : Value) (an : Option Addr) (cda : Addr) (ct : Value) (osl : Array (Option Value)) (cc : Addr) (ccl : Value) (cdd : Option Addr) (vs : Array Value) (ccs : Array (Option Value)) (cl : Value) (cld : Option Addr) (csl : Array (Option Value)) (file : Str) (tf : Tok),
    K.lookup fI = some ⟨oc, od, .func (ksFn "__init__" qual params body scope .none .none doc pm an (.ref cda) ct cc), osl⟩ ∧ codeIn K (.ref cda) qual = true ∧ K.lookup cda = some ⟨ccl, cdd, .fields vs, ccs⟩ ∧ vs[2]? = some (.str file tf) ∧ ((prog.main.file : Str) == file) = true ∧
    K.lookup cc = some ⟨cl, cld, .cell (some (.ref C)), csl⟩
  top : (prog.main.scope.names.lookup ("super" : Str)).isSome = false
structure InitEnd (h h' : Heap) (x C dx t1 : Addr) (fld : Str) (v : Value) : Prop where
  keep : ∀ b o, b ≠ x → h.get? b = some o → h'.get? b = some o
  obj : h'.get? x = some { cls := .ref C, dict := some dx, data := .fields #[.ref t1, .none, .none, .none, .bool false, .none] }
  dbig : h.objs.size ≤ dx
  dne : dx ≠ x
  ns : h'.Ns1 dx (fun y => if y = fld then some v else none)
structure InitEnd0 (h h' : Heap) (x C t1 : Addr) : Prop where
  keep : ∀ b o, b ≠ x → h.get? b = some o → h'.get? b = some o
  obj : h'.get? x = some { cls := .ref C, data := .fields #[.ref t1, .none, .none, .none, .bool false, .none] }
/-- the call's own reckoning, at its places in the text -/
def CallOk (text : Str) (b1 b2 b3 b4 b5 : Pos) : Prop := ∀ env : Env, ∃ pl : Sem Bool, eval (.Call (.Attribute (.Call (.Name "super" b1) [] [] b2) "__init__" b3) [.Constant (.str text) 0 b4] [] b5) env = (do
  let ov ← attributeBase (.Call (.Name "super" b1) [] [] b2) "__init__" env (eval (.Call (.Name "super" b1) [] [] b2) env)
  standAt b3.atName
  let (f, first) ← holding [ov] (getMethod ov "__init__" pl)
  callWith b5 f first (backTo b5 (starEach [.Constant (.str text) 0 b4] env)) [])
theorem ldC {M : Model} {s : Shared} {env : Env} {m : Str → Option Value} {x : Str} {pos : Pos} {v : Value} {Q : Value → Shared → Prop} {A : Around} {E : Value → Shared → Prop} (hn : s.heap.Ns env.locals m) (hv : m x = some v) (h : Q v s)
    (hk : env.scope.kind = .function := by rfl) (hl : env.kindOf x = some .local := by rfl) (hd : (x == ("__debug__" : Str)) = false := by decide) :
    wpAny M A (eval (.Name x pos) env) Q E s := wpAny_Name (wpAny_loadName_local hk hl hn hv h) hd
section
variable {prog : Program} {w : World} {A : Around} {E : Value → Shared → Prop} {R : Result → Shared → Prop} {s : Shared} {K : Frag} {mg mb : Str → Option Value} {C fI : Addr}
/-- super().__init__('text'), the first row of the body -/
theorem sup_row {qual : Str} {params : Arguments} {body0 : List Stmt} {par : List Str} {text : Str} {b1 b2 b3 b4 b5 b6 : Pos} {cda cc L x t0 : Addr} {m : Str → Option Value} {rest : List Stmt} {h₀ : Heap} {ar : Arg} {Q : Flow → Shared → Prop}
    (T : OwnC K prog C fI qual params body0 (scp par)) (he : CallOk text b1 b2 b3 b4 b5) {oc : Value} {od : Option Addr} {doc pm : Value} {an : Option Addr} {ct : Value} {osl : Array (Option Value)} {ccl : Value} {cdd : Option Addr} {vs : Array Value} {ccs : Array (Option Value)} {cl : Value} {cld : Option Addr} {csl : Array (Option Value)} {file : Str} {tf : Tok}
    (hf : K.lookup fI = some ⟨oc, od, .func (ksFn "__init__" qual params body0 (scp par) .none .none doc pm an (.ref cda) ct cc), osl⟩) (hcode : K.lookup cda = some ⟨ccl, cdd, .fields vs, ccs⟩) (hvs : vs[2]? = some (.str file tf)) (hfile : ((prog.main.file : Str) == file) = true)
    (hcell : K.lookup cc = some ⟨cl, cld, .cell (some (.ref C)), csl⟩) (F : Fr h₀ L s.heap m) (X₀ : K.In h₀) (N : News h₀ L s.heap [(x, excObj C t0 none .none)]) (hg : s.heap.Ns mainGlobals mg) (hms : mg "super" = none) (hb : s.heap.Ns builtinsNs mb) (hbs : mb "super" = some (.type "super"))
    (hp : (params.posonlyargs ++ params.args).head? = some ar) (hv : m ar.arg = some (.ref x)) (hks : (scp par).names.lookup ("super" : Str) = some .globalImplicit) (hkc : (scp par).names.lookup ("__class__" : Str) = some .free) (hka : (scp par).names.lookup ar.arg = some .local)
    (hhd : ∀ y ∈ [(x, excObj C t0 none .none)], y.1 < s.heap.objs.size)
    (h : ∀ h' tk' t1, Fr h₀ L h' m → h'.get? x = some (excObj C t1 none .none) → _root_.PySem.wpAt (model prog w) A (.func body0 (ksEnv qual (scp par) L fI (.ref cda) cc)) (execs rest (ksEnv qual (scp par) L fI (.ref cda) cc)) Q E { s with heap := h', toks := tk' }) :
    _root_.PySem.wpAt (model prog w) A (.func body0 (ksEnv qual (scp par) L fI (.ref cda) cc)) (execs (sup text b1 b2 b3 b4 b5 b6 :: rest) (ksEnv qual (scp par) L fI (.ref cda) cc)) Q E s := by
  have X : K.In s.heap := X₀.keeps F.keep
  have I0 : InstAt s.heap x (excObj C t0 none .none) C none := InstAt.of_exc0 N List.mem_cons_self
  obtain ⟨nm, q, Nn, bs, bm, sn, sub, ab, col, dd, k0, k1, k2, k3, k5, hC, hbm⟩ := T.cls
  have hk : (scp par).kind = .function := rfl
  unfold sup
  refine ks_wpAt_execs_cons ?_
  refine ks_wpAt_Expr_any ?_
  obtain ⟨pl, he⟩ := he (ksEnv qual (scp par) L fI (.ref cda) cc)
  refine ks_wpAt_MethodCall (pl := pl) ?_ he
  refine ks_wpAt_super_base (env := ksEnv qual (scp par) L fI (.ref cda) cc) hks hkc (by decide) rfl (X _ _ hf) rfl hp rfl (X _ _ hcode) rfl hvs hfile T.top ?_
  refine ks_loadName_global hk hks (loadGlobal_builtin (env := ksEnv qual (scp par) L fI (.ref cda) cc) hg hms hb hbs ⟨rfl, ?_⟩)
  refine wpAny_loadName_free hk hkc rfl ⟨_, X _ _ hcell, rfl⟩ ?_
  refine wpAny_loadName_local hk hka F.ns hv ?_
  refine ks_wpAny_isType_cls (X _ _ hC) rfl ⟨rfl, ?_⟩
  obtain ⟨hh, g, d, t, os⟩ := s
  refine ks_wpAny_call_super (X _ _ hC) rfl I0.at_ I0.cls (fun c e => by cases e) (looks_mroIn X T.mro) (fun h1 e1 kk1 => ?_)
  obtain ⟨F1, N1, l1⟩ := ks_newsPush (s := ⟨hh, g, d, t, os⟩) F N rfl e1 kk1
  have X1 : K.In h1 := X₀.keeps F1.keep
  have I1 : InstAt h1 x (excObj C t0 none .none) C none := InstAt.of_exc0 N1 (.tail _ (.head _))
  refine kxs_method (s := ⟨h1, g, d, t, os⟩) kxs_ValueError F1 X₀ N1 (.head _) I1 T.any T.su T.vE (by decide) fun u h2 F2 N2 l2 => ?_
  refine kxs_callWith1 (s := ⟨h2, g, d, t + 1, os⟩) N2 (.head _) ?_
  show wpAny _ _ (spliced ((false, eval (.Constant (.str text) 0 b4) _) :: [])) _ _ _
  refine Calls.spliced_cons (wpAny_Constant_str (Calls.spliced_nil ⟨kxs_at N2 (.head _), ?_⟩))
  have hsz : hh.objs.size ≠ x := Nat.ne_of_gt (hhd _ List.mem_cons_self)
  have hxs : x < hh.objs.size := hhd _ List.mem_cons_self
  have hu1 : hh.objs.size < u := l2 _ (.head _)
  have U : UpdF x (excObj C t0 none .none) ((u, kxs_mw "ValueError.__init__" x) :: (hh.objs.size, ks_superObj C x C) :: [(x, excObj C t0 none .none)]) _ :=
    .tail (show u ≠ x from fun z => absurd (show hh.objs.size < x from z ▸ hu1) (Nat.not_lt.mpr (Nat.le_of_lt hxs))) (.tail hsz (.head fun p hp => nomatch hp))
  refine kxs_call (s := ⟨h2, g, d, t + 1 + 1, os⟩) F2 X₀ N2 PySem.F.excBase_ValueError T.ei (.head _) U (show 1 ≤ sizeLine by rw [sizeLine_eq]; decide) fun t1 h3 F3 N3 l3 => ?_
  exact h h3 _ t1 F3 (N3 (x, _) (.tail _ (.tail _ (.tail _ (.head _))))).1
/-- the frame of __init__ behind its binding -/
theorem frame_of {h h1 : Heap} {x L : Addr} {m : Str → Option Value} {o : Obj} (hx : h.get? x = some o) (hL : h.objs.size = L) (hns : h1.Ns L m) (hk : ∀ b o, h.get? b = some o → h1.get? b = some o) :
    Fr (h.hide x) L h1 m ∧ News (h.hide x) L h1 [(x, o)] ∧ ∀ y ∈ [(x, o)], y.1 < h1.objs.size := by
  refine ⟨⟨hns, fun b o e => hk b o (Heap.of_hide e), by rw [Heap.hide_size, hL]; exact Nat.le_refl _⟩, fun p hp => ?_, fun p hp => ?_⟩
  · have : p = (x, o) := by simpa using hp
    subst this
    exact ⟨hk _ _ hx, fun z => Nat.ne_of_lt (Heap.lt_size hx) (z.trans hL.symm), Heap.hide_self _ _⟩
  · have : p = (x, o) := by simpa using hp
    subst this
    exact Heap.lt_size (hk _ _ hx)
theorem in_hide {h : Heap} {x : Addr} (X : K.In h) (hx : K.lookup x = none) : K.In (h.hide x) := fun a o e => by
  rw [Heap.hide_ne _ (show a ≠ x from fun z => by rw [z, hx] at e; cases e)]
  exact X a o e
theorem hide_keep {h h' : Heap} {x L : Addr} {m : Str → Option Value} (F : Fr (h.hide x) L h' m) : ∀ b o, b ≠ x → h.get? b = some o → h'.get? b = some o := fun b o hb e => F.keep b o (by rw [Heap.hide_ne _ hb]; exact e)
theorem init1 {qual : Str} {a1 a2 : Pos} {par fld text : Str} {b1 b2 b3 b4 b5 b6 c1 c2 c3 c4 : Pos} {t0 x : Addr} {v : Value}
    (T : OwnC K prog C fI qual (prm a1 [(par, a2)]) [sup text b1 b2 b3 b4 b5 b6, keeps fld par c1 c2 c3 c4] (scp [par])) (hpar : par ≠ "self" ∧ par ≠ "__class__" ∧ par ≠ "super" ∧ (par == ("__debug__" : Str)) = false) (he : CallOk text b1 b2 b3 b4 b5) (noN : findIn K (.ref C) fld = some none)
    (hbind : ∀ (s : Shared) (doc pm : Value) (an : Option Addr) (cdv ct : Value) (cc : Addr) (u v : Value), BindsTo s (ksFn "__init__" qual (prm a1 [(par, a2)]) [sup text b1 b2 b3 b4 b5 b6, keeps fld par c1 c2 c3 c4] (scp [par]) .none .none doc pm an cdv ct cc) ⟨[u, v], []⟩ [("self", u), (par, v)])
    (X : K.In s.heap) (hg : s.heap.Ns mainGlobals mg) (hms : mg "super" = none) (hb : s.heap.Ns builtinsNs mb) (hbs : mb "super" = some (.type "super")) (hlim : s.heap.NoLimit) (hx : s.heap.get? x = some (excO C t0)) (hnx : K.lookup x = none) (hroom : A.depth < recursionLimit)
    (hq : ∀ h' tk dx t1, InitEnd s.heap h' x C dx t1 fld v → R (.ok (.ret .none)) { s with heap := h', toks := tk }) :
    codeAny (model prog w) A (.call (.ref fI) ⟨[.ref x, v], []⟩) R s := by
  obtain ⟨oc, od, doc, pm, an, cda, ct, osl, cc, ccl, cdd, vs, ccs, cl, cld, csl, file, tf, hf, hcd, hcode, hvs, hfile, hcell⟩ := T.fn
  obtain ⟨nm, q, N, bs, bm, sn, sub, ab, col, dd, k0, k1, k2, k3, k5, hC, hbm⟩ := T.cls
  have hcl : clsIn K C = some { name := nm, bases := bs, mro := .ref C :: bm, ns := N, qualname := q, hasDict := true, slotNames := sn, subclasses := sub, abstract := ab, collection := col, hasDel := false } := by unfold clsIn; rw [hC] <;> rfl
  have e1 : (par == ("self" : Str)) = false := by simpa using hpar.1
  have l1 : (scp [par]).names.lookup par = some .local := by
    show List.lookup par [(PySem.Str.ofString "self", _), (par, _), _, _] = _
    simp only [List.lookup, e1, beq_self_eq_true]
  have hks : (scp [par]).names.lookup ("super" : Str) = some .globalImplicit := by
    have e2 : ((("super" : Str)) == par) = false := by simpa using hpar.2.2.1.symm
    show List.lookup ("super" : Str) [(PySem.Str.ofString "self", _), (par, _), (PySem.Str.ofString "__class__", _), (PySem.Str.ofString "super", _)] = _
    simp only [List.lookup, e2, show ((("super" : Str)) == PySem.Str.ofString "self") = false from by decide, show ((("super" : Str)) == PySem.Str.ofString "__class__") = false from by decide, beq_self_eq_true]
  have hkc : (scp [par]).names.lookup ("__class__" : Str) = some .free := by
    have e2 : ((("__class__" : Str)) == par) = false := by simpa using hpar.2.1.symm
    show List.lookup ("__class__" : Str) [(PySem.Str.ofString "self", _), (par, _), (PySem.Str.ofString "__class__", _), (PySem.Str.ofString "super", _)] = _
    simp only [List.lookup, e2, show ((("__class__" : Str)) == PySem.Str.ofString "self") = false from by decide, beq_self_eq_true]
  refine ks_codeAny_call_defAt (fd := ksFn "__init__" qual (prm a1 [(par, a2)]) [sup text b1 b2 b3 b4 b5 b6, keeps fld par c1 c2 c3 c4] (scp [par]) .none .none doc pm an (.ref cda) ct cc) (body := [sup text b1 b2 b3 b4 b5 b6, keeps fld par c1 c2 c3 c4])
    (binds := [("self", .ref x), (par, v)]) hroom (X _ _ hf) rfl hlim (codeRec_of X hcd) rfl (hbind s doc pm an (.ref cda) ct cc _ _) (fun y hy => ?_) (fun y hy => ?_) (fun h₁ hns hk₁ => ?_)
  · have hy' : y ∈ [(PySem.Str.ofString "self", NameKind.local), (par, .local), (PySem.Str.ofString "__class__", .free), (PySem.Str.ofString "super", .globalImplicit)] := hy
    simp only [List.mem_cons, List.not_mem_nil, or_false] at hy'
    rcases hy' with rfl | rfl | rfl | rfl <;> exact fun z => by cases z
  · have hy' : y = (("self" : Str), Value.ref x) ∨ y = (par, v) := by simpa using hy
    rcases hy' with rfl | rfl
    · rfl
    · exact l1
  · obtain ⟨F, N1, lt⟩ := frame_of hx rfl hns hk₁
    have X₀ := in_hide X hnx
    have hv1 : (fun y => List.lookup y [(("self" : Str), Value.ref x), (par, v)].reverse) ("self" : Str) = some (.ref x) := by
      have e2 : ((("self" : Str)) == par) = false := by simpa using hpar.1.symm
      show List.lookup ("self" : Str) [(par, v), (("self" : Str), Value.ref x)] = _
      simp only [List.lookup, e2, beq_self_eq_true]
    have hv2 : (fun y => List.lookup y [(("self" : Str), Value.ref x), (par, v)].reverse) par = some v := by
      show List.lookup par [(par, v), (("self" : Str), Value.ref x)] = _
      simp only [List.lookup, beq_self_eq_true]
    refine sup_row T he hf hcode hvs hfile hcell F X₀ N1 (hg.keeps hk₁) hms (hb.keeps hk₁) hbs rfl hv1 hks hkc rfl lt fun h2 tk2 t1 F2 hx2 => ?_
    refine ks_wpAt_execs_cons ?_
    refine wpAt_of_wpAny ?_
    have X2 : K.In h2 := X₀.keeps F2.keep
    refine plainObj_wpAny_Assign_Attribute ?_
    refine ldC (v := v) F2.ns hv2 (ldC (v := .ref x) F2.ns hv1 ?_) rfl l1 hpar.2.2.2
    refine set_plain X2 (ox := excO C t1) (od := none) ⟨hx2, rfl, rfl, trivial⟩ T.sa ?_
    refine exc_osa X2 hx2 hcl (show refsVE (.ref C :: bm) = true from hbm) rfl noN (fun h₃ tk₃ dx k₃ dn dne hx₃ hn₃ => ?_)
    show _root_.PySem.wpAt _ _ _ (execs [] _) _ _ _
    refine wpAt_of_wpAny (wpAny_execs_nil (hq h₃ tk₃ dx t1 ⟨fun b o hb e => k₃ b o hb (hide_keep F2 b o hb e), hx₃, ?_, dne, hn₃⟩))
    exact Nat.le_trans (Nat.le_of_lt F2.ns.lt) dn
theorem init0 {qual : Str} {a1 : Pos} {text : Str} {b1 b2 b3 b4 b5 b6 : Pos} {t0 x : Addr}
    (T : OwnC K prog C fI qual (prm a1 []) [sup text b1 b2 b3 b4 b5 b6] (scp [])) (he : CallOk text b1 b2 b3 b4 b5)
    (hbind : ∀ (s : Shared) (doc pm : Value) (an : Option Addr) (cdv ct : Value) (cc : Addr) (u : Value), BindsTo s (ksFn "__init__" qual (prm a1 []) [sup text b1 b2 b3 b4 b5 b6] (scp []) .none .none doc pm an cdv ct cc) ⟨[u], []⟩ [("self", u)])
    (X : K.In s.heap) (hg : s.heap.Ns mainGlobals mg) (hms : mg "super" = none) (hb : s.heap.Ns builtinsNs mb) (hbs : mb "super" = some (.type "super")) (hlim : s.heap.NoLimit) (hx : s.heap.get? x = some (excO C t0)) (hnx : K.lookup x = none) (hroom : A.depth < recursionLimit)
    (hq : ∀ h' tk t1, InitEnd0 s.heap h' x C t1 → R (.ok (.ret .none)) { s with heap := h', toks := tk }) :
    codeAny (model prog w) A (.call (.ref fI) ⟨[.ref x], []⟩) R s := by
  obtain ⟨oc, od, doc, pm, an, cda, ct, osl, cc, ccl, cdd, vs, ccs, cl, cld, csl, file, tf, hf, hcd, hcode, hvs, hfile, hcell⟩ := T.fn
  have hks : (scp []).names.lookup ("super" : Str) = some .globalImplicit := by decide
  have hkc : (scp []).names.lookup ("__class__" : Str) = some .free := by decide
  refine ks_codeAny_call_defAt (fd := ksFn "__init__" qual (prm a1 []) [sup text b1 b2 b3 b4 b5 b6] (scp []) .none .none doc pm an (.ref cda) ct cc) (body := [sup text b1 b2 b3 b4 b5 b6])
    (binds := [("self", .ref x)]) hroom (X _ _ hf) rfl hlim (codeRec_of X hcd) rfl (hbind s doc pm an (.ref cda) ct cc _) (fun y hy => ?_) (fun y hy => ?_) (fun h₁ hns hk₁ => ?_)
  · have hy' : y ∈ [(PySem.Str.ofString "self", NameKind.local), (PySem.Str.ofString "__class__", .free), (PySem.Str.ofString "super", .globalImplicit)] := hy
    simp only [List.mem_cons, List.not_mem_nil, or_false] at hy'
    rcases hy' with rfl | rfl | rfl <;> exact fun z => by cases z
  · have hy' : y = (("self" : Str), Value.ref x) := by simpa using hy
    subst hy'
    rfl
  · obtain ⟨F, N1, lt⟩ := frame_of hx rfl hns hk₁
    have X₀ := in_hide X hnx
    refine sup_row T he hf hcode hvs hfile hcell F X₀ N1 (hg.keeps hk₁) hms (hb.keeps hk₁) hbs rfl rfl hks hkc rfl lt fun h2 tk2 t1 F2 hx2 => ?_
    exact wpAt_of_wpAny (wpAny_execs_nil (hq h2 tk2 t1 ⟨hide_keep F2, hx2⟩))
/-- a made one, with its field | without -/
structure OwnMade (h h' : Heap) (e C d : Addr) (fld : Str) (v : Value) : Prop where
  keep : ∀ b o, h.get? b = some o → h'.get? b = some o
  new : h.objs.size ≤ e
  obj : ∃ t1 : Addr, h'.get? e = some { cls := .ref C, dict := some d, data := .fields #[.ref t1, .none, .none, .none, .bool false, .none] }
  dbig : h.objs.size ≤ d
  dne : d ≠ e
  ns : h'.Ns1 d (fun y => if y = fld then some v else none)
structure OwnMade0 (h h' : Heap) (e C : Addr) : Prop where
  keep : ∀ b o, h.get? b = some o → h'.get? b = some o
  new : h.objs.size ≤ e
  obj : ∃ t1 : Addr, h'.get? e = some { cls := .ref C, data := .fields #[.ref t1, .none, .none, .none, .bool false, .none] }
theorem made1 {qual : Str} {a1 a2 : Pos} {par fld text : Str} {b1 b2 b3 b4 b5 b6 c1 c2 c3 c4 : Pos} {v : Value}
    (T : OwnC K prog C fI qual (prm a1 [(par, a2)]) [sup text b1 b2 b3 b4 b5 b6, keeps fld par c1 c2 c3 c4] (scp [par])) (hpar : par ≠ "self" ∧ par ≠ "__class__" ∧ par ≠ "super" ∧ (par == ("__debug__" : Str)) = false) (he : CallOk text b1 b2 b3 b4 b5) (noN : findIn K (.ref C) fld = some none)
    (hbind : ∀ (s : Shared) (doc pm : Value) (an : Option Addr) (cdv ct : Value) (cc : Addr) (u v : Value), BindsTo s (ksFn "__init__" qual (prm a1 [(par, a2)]) [sup text b1 b2 b3 b4 b5 b6, keeps fld par c1 c2 c3 c4] (scp [par]) .none .none doc pm an cdv ct cc) ⟨[u, v], []⟩ [("self", u), (par, v)])
    (X : K.In s.heap) (hg : s.heap.Ns mainGlobals mg) (hms : mg "super" = none) (hb : s.heap.Ns builtinsNs mb) (hbs : mb "super" = some (.type "super")) (hlim : s.heap.NoLimit) (hroom : A.depth + 1 < recursionLimit)
    (hq : ∀ h' tk e d, OwnMade s.heap h' e C d fld v → R (.ok (.ret (.ref e))) { s with heap := h', toks := tk }) :
    codeAny (model prog w) A (.call (.ref C) ⟨[v], []⟩) R s := by
  obtain ⟨nm, q, N, bs, bm, sn, sub, ab, col, dd, k0, k1, k2, k3, k5, hC, hbm⟩ := T.cls
  obtain ⟨hp, g, dr, tk, os⟩ := s
  have k : ∀ b o, hp.get? b = some o → ((hp.push (kdv_tup [v])).push (excO C hp.objs.size)).get? b = some o := fun b o e => Heap.get?_push_of_some _ (Heap.get?_push_of_some _ e)
  have hget : ((hp.push (kdv_tup [v])).push (excO C hp.objs.size)).get? (hp.objs.size + 1) = some (excO C hp.objs.size) := by heap_get
  have hnx : K.lookup (hp.objs.size + 1) = none := by
    cases e : K.lookup (hp.objs.size + 1) with
    | none => rfl
    | some o =>
      have z : hp.get? (hp.objs.size + 1) = some o := X _ _ e
      exact absurd (Nat.lt_of_succ_lt (Heap.lt_size z)) (Nat.lt_irrefl _)
  refine call_own F.excBase_ValueError (fun X => refsVE_contains X bm hbm) (X _ _ hC) (looks_findIn X T.iC) (fun self => bind_fn X self T.tC) (show 1 ≤ sizeLine by rw [sizeLine_eq]; decide) ?_
  refine init1 (s := ⟨(hp.push (kdv_tup [v])).push (excO C hp.objs.size), g, dr, tk, os⟩) T hpar he noN hbind (X.keeps k) (hg.keeps k) hms (hb.keeps k) hbs (hlim.keeps k) hget hnx hroom fun h' tk' dx t1 ⟨k', hx, dn, dne, hns⟩ => ?_
  have old : ∀ b o, hp.get? b = some o → h'.get? b = some o := fun b o e => k' b o (Nat.ne_of_lt (Nat.lt_succ_of_lt (Heap.lt_size e))) (k b o e)
  have z : hp.objs.size + 1 + 1 ≤ dx := by
    first
      | (simpa only [Heap.size_push] using dn)
      | exact dn
      | (have q := dn; rw [Heap.size_push, Heap.size_push] at q; exact q)
  exact ⟨rfl, hq h' tk' (hp.objs.size + 1) dx ⟨old, Nat.le_succ _, ⟨_, hx⟩, Nat.le_trans (Nat.le_trans (Nat.le_succ _) (Nat.le_succ _)) z, dne, hns⟩⟩
theorem made0 {qual : Str} {a1 : Pos} {text : Str} {b1 b2 b3 b4 b5 b6 : Pos}
    (T : OwnC K prog C fI qual (prm a1 []) [sup text b1 b2 b3 b4 b5 b6] (scp [])) (he : CallOk text b1 b2 b3 b4 b5)
    (hbind : ∀ (s : Shared) (doc pm : Value) (an : Option Addr) (cdv ct : Value) (cc : Addr) (u : Value), BindsTo s (ksFn "__init__" qual (prm a1 []) [sup text b1 b2 b3 b4 b5 b6] (scp []) .none .none doc pm an cdv ct cc) ⟨[u], []⟩ [("self", u)])
    (X : K.In s.heap) (hg : s.heap.Ns mainGlobals mg) (hms : mg "super" = none) (hb : s.heap.Ns builtinsNs mb) (hbs : mb "super" = some (.type "super")) (hlim : s.heap.NoLimit) (hroom : A.depth + 1 < recursionLimit)
    (hq : ∀ h' tk e, OwnMade0 s.heap h' e C → R (.ok (.ret (.ref e))) { s with heap := h', toks := tk }) :
    codeAny (model prog w) A (.call (.ref C) ⟨[], []⟩) R s := by
  obtain ⟨nm, q, N, bs, bm, sn, sub, ab, col, dd, k0, k1, k2, k3, k5, hC, hbm⟩ := T.cls
  obtain ⟨hp, g, dr, tk, os⟩ := s
  have k : ∀ b o, hp.get? b = some o → ((hp.push (kdv_tup [])).push (excO C hp.objs.size)).get? b = some o := fun b o e => Heap.get?_push_of_some _ (Heap.get?_push_of_some _ e)
  have hget : ((hp.push (kdv_tup [])).push (excO C hp.objs.size)).get? (hp.objs.size + 1) = some (excO C hp.objs.size) := by heap_get
  have hnx : K.lookup (hp.objs.size + 1) = none := by
    cases e : K.lookup (hp.objs.size + 1) with
    | none => rfl
    | some o =>
      have z : hp.get? (hp.objs.size + 1) = some o := X _ _ e
      exact absurd (Nat.lt_of_succ_lt (Heap.lt_size z)) (Nat.lt_irrefl _)
  refine call_own F.excBase_ValueError (fun X => refsVE_contains X bm hbm) (X _ _ hC) (looks_findIn X T.iC) (fun self => bind_fn X self T.tC) (show 0 ≤ sizeLine from Nat.zero_le _) ?_
  refine init0 (s := ⟨(hp.push (kdv_tup [])).push (excO C hp.objs.size), g, dr, tk, os⟩) T he hbind (X.keeps k) (hg.keeps k) hms (hb.keeps k) hbs (hlim.keeps k) hget hnx hroom fun h' tk' t1 ⟨k', hx⟩ => ?_
  have old : ∀ b o, hp.get? b = some o → h'.get? b = some o := fun b o e => k' b o (Nat.ne_of_lt (Nat.lt_succ_of_lt (Heap.lt_size e))) (k b o e)
  exact ⟨rfl, hq h' tk' (hp.objs.size + 1) ⟨old, Nat.le_succ _, ⟨_, hx⟩⟩⟩
end
end SX
namespace SD
open PySem PySem.Spec PyProof.Rows L2
theorem relO_one {v : V} {v' : Value} {fld : Str} (r : RelV v v') (f : Str) : RelO (List.lookup f [(fld, v)]) (if f = fld then some v' else none) := by
  by_cases hw : f = fld
  · subst hw
    rw [if_pos rfl]
    have q : List.lookup f [(f, v)] = some v := by simp [List.lookup]
    rw [q]
    exact r
  · rw [if_neg hw]
    have qw : (f == fld) = false := by simpa using hw
    have q2 : List.lookup f [(fld, v)] = none := by simp [List.lookup, qw]
    rw [q2]
    trivial
/-- an own exception class with one field | with none, callable -/
structure Mk1 (P : Program) (w : World) (K : PySem.W.Frag) (x fld : Str) (C : Addr) : Prop where
  nC : PySem.W.nsIn K mainGlobals x = some (some (.ref C))
  kC : PySem.W.keepIn K (.ref C) = true
  exC : PySem.W.subIn K (.ref C) (.type "BaseException") = some true
  tyC : PySem.W.typeIn K (.ref C) = some (.type "type")
  xf : XfC K C
  noN : PySem.W.findIn K (.ref C) fld = some none
  made : ∀ {A : Around} {R : Result → Shared → Prop} {s : Shared} {mg mb : Str → Option Value} {v : Value}, K.In s.heap → s.heap.Ns mainGlobals mg → mg "super" = none → s.heap.Ns builtinsNs mb → mb "super" = some (.type "super") → s.heap.NoLimit → A.depth + 1 < recursionLimit →
    (∀ h' tk e d, SX.OwnMade s.heap h' e C d fld v → R (.ok (.ret (.ref e))) { s with heap := h', toks := tk }) → codeAny (model P w) A (.call (.ref C) ⟨[v], []⟩) R s
structure Mk0 (P : Program) (w : World) (K : PySem.W.Frag) (x : Str) (C : Addr) : Prop where
  nC : PySem.W.nsIn K mainGlobals x = some (some (.ref C))
  kC : PySem.W.keepIn K (.ref C) = true
  exC : PySem.W.subIn K (.ref C) (.type "BaseException") = some true
  tyC : PySem.W.typeIn K (.ref C) = some (.type "type")
  made : ∀ {A : Around} {R : Result → Shared → Prop} {s : Shared} {mg mb : Str → Option Value}, K.In s.heap → s.heap.Ns mainGlobals mg → mg "super" = none → s.heap.Ns builtinsNs mb → mb "super" = some (.type "super") → s.heap.NoLimit → A.depth + 1 < recursionLimit →
    (∀ h' tk e, SX.OwnMade0 s.heap h' e C → R (.ok (.ret (.ref e))) { s with heap := h', toks := tk }) → codeAny (model P w) A (.call (.ref C) ⟨[], []⟩) R s
section
variable {X : Cx} {C : Addr}
def tMk1 (C : Addr) (fld : Str) (ta : TA) : L2.St → Hp → XK → Prop := fun σ H Q => ta σ H fun vs H1 => ∃ v, vs = [v] ∧ ∀ d, H1 d = none → Q (.ref C) (some d) (upd H1 d (.xd [(fld, v)]))
theorem pmk1 {x fld : Str} {a : Expr} {ta : TA} {p pos : Pos} {k : Nat} (T : Mk1 X.prog X.w X.K x fld C) (hm : X.mg x = some (.ref C)) (hms : X.mg "super" = none) (hr : Room k X.A) (ha : PA X [a] ta) (hg : Gl X x := by rfl) (hdb : (x == ("__debug__" : Str)) = false := by decide)
    (he : starEach (a :: []) X.env = (false, eval a X.env) :: starEach [] X.env := by rfl) (hpl : (backTo pos (starEach [] X.env)).any (·.1) = false := by rfl) :
    PMk X (.Call (.Name x p) [a] [] pos) (tMk1 C fld ta) := by
  intro pins s σ H Q I h
  refine wpAny_Call_Name_kw (ld_glob I hg hm ?_ hdb)
  refine PySem.W.callWith_K (h₀ := X.base) I.ok.mod.kin T.kC (thn (ha.run pos pins s σ H _ I h) fun us s1 hh => ?_) he hpl
  obtain ⟨vs, H1, I1, r1, v, ev, q1⟩ := hh
  subst ev
  refine ⟨I1.kIn, ?_⟩
  cases r1 with
  | cons rv rn =>
    rename_i v' us'
    cases rn
    show wpAny _ _ (call (.ref C) [v']) _ _ _
    have hlim := I1.nolimit
    obtain ⟨mb, h1, h2⟩ := I1.mod.blt
    have hgl := I1.mod.glob.keeps I1.bk
    have hbl := h1.keeps I1.bk
    have hbs : mb "super" = some (.type "super") := (h2 _ (by decide)).trans (by decide +kernel)
    obtain ⟨hp, g, dr, tk, os⟩ := s1
    refine wpAny_call (T.made I1.kIn hgl hms hbl hbs hlim (by have := hr.dp; omega) fun h' tk' e d M => ?_)
    show MkP X pins σ Q (.ref e) ⟨h', g, dr, tk', os⟩
    obtain ⟨t1, hoe⟩ := M.obj
    have hns := M.ns
    obtain ⟨G', g1, g2⟩ := restrict h' fun b => decide (b ≠ e)
    have gk : ∀ b, b ≠ e → G'.get? b = h'.get? b := fun b hb => g1 b (decide_eq_true hb)
    have ge : G'.get? e = none := g2 e (by simp)
    have old : ∀ b o, hp.get? b = some o → G'.get? b = some o := fun b o q => (gk b (Nat.ne_of_lt (Nat.lt_of_lt_of_le (Heap.lt_size q) M.new))).trans (M.keep b o q)
    have ob : ObjOk X.prog X.w (upd H1 d (.xd [(fld, v)])) G' d (.xd [(fld, v)]) :=
      ⟨_, hns.at (fun o q => (gk d M.dne).trans q), fun f => relO_one rv f⟩
    have J : Inv X pins σ (upd H1 d (.xd [(fld, v)])) ⟨G', g, dr, tk', os⟩ := I1.laid (t' := tk') old M.dbig ob
    refine ⟨e, _, _, ⟨G', g, dr, tk', os⟩, _, .ref C, some d, rfl, J, fun b o q => ?_, ge, hoe, ⟨rfl, rfl⟩, rfl, rfl, ?_, rfl, I1.bare, raises_own T.exC T.tyC, q1 d (I1.hok.fresh M.dbig)⟩
    · by_cases hb : b = e
      · have q' : G'.get? b = some o := q
        rw [hb, ge] at q'; cases q'
      · exact (gk b hb).symm.trans q
    · rw [upd_ne (Ne.symm M.dne)]
      exact I1.hok.fresh M.new
def tMk0 (C : Addr) : L2.St → Hp → XK → Prop := fun σ H Q => Q (.ref C) none H
theorem pmk0 {x : Str} {p pos : Pos} {k : Nat} (T : Mk0 X.prog X.w X.K x C) (hm : X.mg x = some (.ref C)) (hms : X.mg "super" = none) (hr : Room k X.A) (hg : Gl X x := by rfl) (hdb : (x == ("__debug__" : Str)) = false := by decide) :
    PMk X (.Call (.Name x p) [] [] pos) (tMk0 C) := by
  intro pins s σ H Q I h
  refine wpAny_Call_Name_kw (ld_glob I hg hm ?_ hdb)
  refine PySem.W.callWith_K0 I.kIn T.kC ?_
  show wpAny _ _ (call (.ref C) []) _ _ _
  have hlim := I.nolimit
  obtain ⟨mb, h1, h2⟩ := I.mod.blt
  have hgl := I.mod.glob.keeps I.bk
  have hbl := h1.keeps I.bk
  have hbs : mb "super" = some (.type "super") := (h2 _ (by decide)).trans (by decide +kernel)
  obtain ⟨hp, g, dr, tk, os⟩ := s
  refine wpAny_call (T.made I.kIn hgl hms hbl hbs hlim (by have := hr.dp; omega) fun h' tk' e M => ?_)
  show MkP X pins σ Q (.ref e) ⟨h', g, dr, tk', os⟩
  obtain ⟨t1, hoe⟩ := M.obj
  have hn : hp.get? e = none := by
    cases z : hp.get? e with
    | none => rfl
    | some o => exact absurd (Heap.lt_size z) (Nat.not_lt.mpr M.new)
  exact ⟨e, _, _, ⟨hp, g, dr, tk, os⟩, H, .ref C, none, rfl, I, M.keep, hn, hoe, ⟨rfl, rfl⟩, rfl, rfl, I.hok.fresh M.new, rfl, I.bare, raises_own T.exC T.tyC, h⟩
end
end SD

set_option Elab.async false
set_option linter.all false
set_option maxRecDepth 100000
set_option maxHeartbeats 4000000
namespace SD
open PySem PySem.Spec PyProof.Rows L2

/-! ### try: body / several clauses, with names or without -/
abbrev SuT := Addr → Value → Option Addr → TS
def endsN (o : Option Nat) (D : Ends) : Ends := match o with
  | none => D
  | some i => { nx := fun σ H => D.nx (σ.set i none) H, rt := D.rt, bk := fun σ H => D.bk (σ.set i none) H, ct := fun σ H => D.ct (σ.set i none) H }
def slotN (o : Option Nat) (a : Addr) (σ : L2.St) : L2.St := match o with
  | none => σ
  | some i => σ.set i (some (.ref a))
def wCl (K : PySem.W.Frag) (Wo : WX) (D : Ends) : List (Value × Option Nat × SuT) → WX
  | [] => Wo
  | (c, o, ts) :: r => fun cls d σ H => ∃ b, PySem.W.exmOne K cls c = some b ∧ (b = true → ∀ a, H a = none → ts a cls d (endsN o D) (slotN o a σ) H) ∧ (b = false → wCl K Wo D r cls d σ H)
/-- the suite of a clause, whatever exception it holds -/
def SuOk (X : Cx) (c : Value) (sts : List Stmt) (ts : SuT) : Prop := ∀ (a : Addr) (oe : Obj) (cls : Value) (d : Option Addr) (pn : List (Addr × Obj)), Zc cls d oe → (∃ vs, oe.data = .fields vs) → PSs (X.suite a ((a, oe) :: pn)) sts (ts a cls d)
inductive ClsOk (X : Cx) : List ExceptHandler → List (Value × Option Nat × SuT) → Prop
  | nil : ClsOk X [] []
  | bare {x : Str} {c : Value} {ts : SuT} {b₀ : Stmt} {sts : List Stmt} {p1 p2 : Pos} {hds : List ExceptHandler} {l : List (Value × Option Nat × SuT)} : Names X x c → SuOk X c (b₀ :: sts) ts → ClsOk X hds l → ClsOk X (.ExceptHandler (some (.Name x p1)) none (b₀ :: sts) p2 :: hds) ((c, none, ts) :: l)
  | named {x n : Str} {i : Nat} {c : Value} {ts : SuT} {b₀ : Stmt} {sts : List Stmt} {p1 p2 : Pos} {hds : List ExceptHandler} {l : List (Value × Option Nat × SuT)} : Names X x c → X.N[i]? = some n → X.env.kindOf n = some .local → SuOk X c (b₀ :: sts) ts → ClsOk X hds l →
      ClsOk X (.ExceptHandler (some (.Name x p1)) (some n) (b₀ :: sts) p2 :: hds) ((c, some i, ts) :: l)
section
variable {X : Cx} {pins : List (Addr × Obj)} {D : Ends}
/-- what is caught, at a: landed, beside the frames -/
theorem not_frame {B h : Heap} {a : Addr} {o : Obj} {vs : Array Value} {l : List Env} (ff : h.FunFrames B l) (e : h.get? a = some o) (dd : o.data = .fields vs) : a ∉ frs l := fun hm => by
  obtain ⟨_, o', e', hnf⟩ := ff.mem hm
  rw [e] at e'; cases e'
  exact hnf _ dd
theorem ps_tryC {body : List Stmt} {h₀ : ExceptHandler} {hds : List ExceptHandler} {l : List (Value × Option Nat × SuT)} {pos : Pos} {tb : WX → TS} {Wo : WX} (hs : X.stack = X.env :: X.outer) (hf : X.env.frame = some X.env.locals) (hN : X.N.Nodup) (tk : Takes X Wo)
    (hb : ∀ (W : WX) (pn : List (Addr × Obj)) (xe : Value → Shared → Prop), Takes (X.tr pn xe) W → PassesOwn (model X.prog X.w) X.A X.env xe → PSs (X.tr pn xe) body (tb W)) (hh : ClsOk X (h₀ :: hds) l) :
    PS X (.Try body (h₀ :: hds) [] [] pos) (fun D σ H => tb (wCl X.K Wo D l) D σ H) := by
  refine ⟨fun pins s σ H D I hgo => ?_⟩
  have okX := I.ok
  have hfr : X.A.frames = some (X.env :: X.outer) := okX.frames.trans (by rw [hs])
  refine wpAny_Try_except (wpAny_mono ((hb (wCl X.K Wo D l) (X.pn ++ pins) (fun e s₁ => wpAny (model X.prog X.w) X.A (noteFrame e X.env) (fun _ s₂ => wpAny (model X.prog X.w) X.A (setFlight e none) (fun _ s₃ => wpAny (model X.prog X.w) X.A (handleBy e X.env (h₀ :: hds)) (SP X pins D) X.xe s₃) X.xe s₂) X.xe s₁)
    (fun u s' caught => ?_) PassesOwn.looking).run [] s σ H D (I.toTry _) hgo) (fun f s1 hsp => ?_) fun e s1 he => he)
  · obtain ⟨a, B, sI, pins', σ', H', cls, d, rfl, J', nb, up, sky, na, os, ag, w⟩ := caught
    have J : Inv X pins σ' H' sI := J'.ofTry okX
    show wpAny (model X.prog X.w) X.A (noteFrame (.ref a) X.env) _ _ _
    refine Sky.land (B := B) (outer := X.outer) Zc.steady hfr hf (by rw [← hs]; exact sky) fun h3 fl3 up3 => ?_
    have J3 : Inv X pins σ' H' { s' with heap := h3 } := J.landed nb fl3.1 (up.trans up3) os ag
    obtain ⟨o3, v3, g3, z3, d3⟩ := fl3.there
    have nfr := not_frame fl3.2.2.1 g3 d3
    have nL : a ≠ X.env.locals := fun z => nfr (List.mem_filterMap.mpr ⟨X.env, .head _, by rw [hf, z]⟩)
    have nF : a ∉ X.fs := fun hm => by
      obtain ⟨e, he, q⟩ := List.mem_filterMap.mp hm
      exact nfr (List.mem_filterMap.mpr ⟨e, .tail _ he, q⟩)
    have S3 := J3.suite g3 d3 na nL nF
    have LT : PySem.W.Looks (model X.prog X.w) h3 (typeOf (.ref a)) cls := fun A Q E s k q => wpAny_typeOf_ref (k _ _ g3) (by rw [z3.1]; exact q)
    -- the class that a clause names is looked up
    have seen : ∀ {x : Str} {c : Value} {p1 : Pos} {Q : Value → Shared → Prop} {E : Value → Shared → Prop}, Names X x c → Q c { s' with heap := h3 } → wpAny (model X.prog X.w) (X.A.mark (some (.ref a))) (eval (.Name x p1) X.env) Q E { s' with heap := h3 } := fun hc q => by
      obtain ⟨hg, hdbg, hm | ⟨hm, hv, hnn⟩⟩ := hc
      · exact ld_glob (X := X.suite a ((a, o3) :: (X.pn ++ pins))) S3 hg hm q hdbg
      · exact ld_blt (X := X.suite a ((a, o3) :: (X.pn ++ pins))) S3 hg hm hv q hnn hdbg
    have go : ∀ {hs' : List ExceptHandler} {l' : List (Value × Option Nat × SuT)}, ClsOk X hs' l' → wCl X.K Wo D l' cls d σ' H' → wpAny (model X.prog X.w) X.A (handleBy (.ref a) X.env hs') (SP X pins D) X.xe { s' with heap := h3 } := by
      intro hs' l' hk
      induction hk with
      | nil =>
        intro w
        refine wpAny_handleBy_nil ?_
        obtain ⟨k1, k2, k3, oe, vs, T, oT, ts', he, hz, hd, h1, hr⟩ := id fl3
        unfold PySem.passOn
        refine wpAny_bind (wpAny_field he hd h1 ?_)
        rw [if_neg (show ¬ ((Value.ref T == Value.none) = true) by simp)]
        have fin : wpAny (model X.prog X.w) X.A (setFlight (.ref a) X.env.frame) (fun _ s4 => wpAny (model X.prog X.w) X.A (throw (.ref a) : Sem Flow) (SP X pins D) X.xe s4) X.xe { s' with heap := h3 } := by
          rw [hf]
          exact HandSPX.setFlight_upZ fl3 fun h4 hh4 up4 => wpAny_throw (tk _ _ ⟨a, B, sI, pins, σ', H', cls, d, rfl, J, nb, (up.trans up3).trans up4, .inr (.inr (by rw [hs]; exact hh4)), na, os, ag, w⟩)
        first
          | exact wpAny_bind (wpAny_pure (wpAny_bind fin))
          | exact wpAny_bind fin
      | @bare x c ts b₀ sts p1 p2 hds2 l2 hc hsu r ih =>
        intro w
        obtain ⟨b, hb1, hyes, hno⟩ := w
        refine wpAny_handleBy_cons (codeAny_handlers_test (seen hc ((PySem.W.exm_one (M := model X.prog X.w) J3.kIn LT hb1).here ?_))) (by intro q; cases q)
        cases b with
        | true =>
          refine codeAny_handlers_suite (HandSPX.lands_againZ fl3 fun h4 fl4 up4 => ?_)
          have J4 : Inv X pins σ' H' { s' with heap := h4 } := J.landed nb fl4.1 ((up.trans up3).trans up4) os ag
          obtain ⟨o4, v4, g4, z4, d4⟩ := fl4.there
          refine wpAny_mono ((hsu a o4 cls d (X.pn ++ pins) z4 ⟨_, d4⟩).run [] _ _ H' _ (J4.suite g4 d4 na nL nF) (hyes rfl a na)) (fun f s6 hsp => ?_) (fun _ _ z => False.elim z)
          cases f with
          | ret u => obtain ⟨v6, σ6, H6, S6, r6, q6⟩ := hsp; exact ⟨_, _, _, S6.unsuite okX, r6, q6⟩
          | next => obtain ⟨σ6, H6, S6, q6⟩ := hsp; exact ⟨_, _, S6.unsuite okX, q6⟩
          | brk => obtain ⟨σ6, H6, S6, q6⟩ := hsp; exact ⟨_, _, S6.unsuite okX, q6⟩
          | cont => obtain ⟨σ6, H6, S6, q6⟩ := hsp; exact ⟨_, _, S6.unsuite okX, q6⟩
        | false =>
          show wpAny _ X.A (handleBy (.ref a) X.env hds2) _ _ _
          exact ih (hno rfl)
      | @named x n i c ts b₀ sts p1 p2 hds2 l2 hc hi hln hsu r ih =>
        intro w
        obtain ⟨b, hb1, hyes, hno⟩ := w
        refine wpAny_handleBy_cons (codeAny_handlers_test (seen hc ((PySem.W.exm_one (M := model X.prog X.w) J3.kIn LT hb1).here ?_))) (by intro q; cases q)
        cases b with
        | true =>
          refine codeAny_handlers_suite_as (HandSPX.lands_againZ fl3 fun h4 fl4 up4 => ?_)
          have J4 : Inv X pins σ' H' { s' with heap := h4 } := J.landed nb fl4.1 ((up.trans up3).trans up4) os ag
          obtain ⟨o4, v4, g4, z4, d4⟩ := fl4.there
          refine store_ok (X := X.suite a ((a, o4) :: (X.pn ++ pins))) (v := .ref a) (J4.suite g4 d4 na nL nF) hN hi (.inl hln) rfl (fun s5 S5 => ?_) (.inr hln)
          refine wpAny_mono ((hsu a o4 cls d (X.pn ++ pins) z4 ⟨_, d4⟩).run [] s5 _ H' _ S5 (hyes rfl a na)) (fun f s6 hsp => ?_) (fun _ _ z => False.elim z)
          cases f with
          | ret u => obtain ⟨v6, σ6, H6, S6, r6, q6⟩ := hsp; exact gone_ok (S6.unsuite okX) hN hi hln fun s7 J7 => ⟨_, _, _, J7, r6, q6⟩
          | next => obtain ⟨σ6, H6, S6, q6⟩ := hsp; exact gone_ok (S6.unsuite okX) hN hi hln fun s7 J7 => ⟨_, _, J7, q6⟩
          | brk => obtain ⟨σ6, H6, S6, q6⟩ := hsp; exact gone_ok (S6.unsuite okX) hN hi hln fun s7 J7 => ⟨_, _, J7, q6⟩
          | cont => obtain ⟨σ6, H6, S6, q6⟩ := hsp; exact gone_ok (S6.unsuite okX) hN hi hln fun s7 J7 => ⟨_, _, J7, q6⟩
        | false =>
          show wpAny _ X.A (handleBy (.ref a) X.env hds2) _ _ _
          exact ih (hno rfl)
    exact go hh w
  · cases f with
    | ret u => obtain ⟨v, σ', H', J', r, q⟩ := hsp; exact ⟨v, σ', H', J'.ofTry okX, r, q⟩
    | next => obtain ⟨σ', H', J', q⟩ := hsp; exact wpAny_execs_nil ⟨σ', H', J'.ofTry okX, q⟩
    | brk => obtain ⟨σ', H', J', q⟩ := hsp; exact ⟨σ', H', J'.ofTry okX, q⟩
    | cont => obtain ⟨σ', H', J', q⟩ := hsp; exact ⟨σ', H', J'.ofTry okX, q⟩
end

/-! ### raise C(e) -/
def sRaise1 (c fld : Str) (f : Ev) : Sv := fun ρ M => SOut.ofE ρ (f ρ M) fun u M1 => match u with
  | .dat d => .exc c [(fld, d)] ρ M1
  | _ => .bad
def sRaise0 (c : Str) : Sv := fun ρ M => .exc c [] ρ M
section
variable {X : Cx} {W : WX} {C : Addr}
theorem s_raise1 {x fld : Str} {e : Expr} {f : Ev} {p pos pos2 : Pos} {k : Nat} (hc : X.calm = true) (tk : Takes X W) (T : Mk1 X.prog X.w X.K x fld C) (hm : X.mg x = some (.ref C)) (hms : X.mg "super" = none) (hr : Room k X.A) (he : SE X W e f) (hg : Gl X x := by rfl) (hdb : (x == ("__debug__" : Str)) = false := by decide)
    (hst : starEach (e :: []) X.env = (false, eval e X.env) :: starEach [] X.env := by rfl) (hpl : (backTo pos (starEach [] X.env)).any (·.1) = false := by rfl) :
    S1 X W (.Raise (some (.Call (.Name x p) [e] [] pos)) none pos2) (sRaise1 x fld f) :=
  ps_sd (ps_raise hc tk (pmk1 T hm hms hr (sa_cons he sa_nil hst) hg hdb hst hpl)) fun E σ H kh ⟨ξ, ρ, μ, M, en, m, q⟩ => by
    refine tg.of en m ?_
    have q' := PostS.bindE (R := RepU X.K ξ) q en
    unfold aCons aNil
    have key : Post X.K ξ X.mg W (RepUs X.K ξ) σ H μ ((f ρ M).bind fun u M1 => .ok [u] M1) (fun vs H1 => ∃ v, vs = [v] ∧ ∀ d, H1 d = none → W (.ref C) (some d) σ (upd H1 d (.xd [(fld, v)]))) := by
      cases hf : f ρ M with
      | ok u M1 =>
        rw [hf] at q'
        intro vs H1 μ1 n1 m1 kh1 r1
        cases r1 with
        | cons r1 r2 =>
          cases r2
          obtain ⟨u', M1', μ1', n1', m1', kh1', r1', q1⟩ := q' _ H1 μ1 n1 m1 kh1 r1
          refine ⟨_, rfl, fun d hd => ?_⟩
          cases u' with
          | dat dt =>
            cases r1' with
            | dat rv => exact q1 C (some d) σ _ μ1' (Nxt.laid hd) ((en.next n1').next (Nxt.laid hd)) (m1'.laid hd) hm (.inr ⟨d, _, rfl, m1'.new hd, upd_same, .cons (rv.next (Nxt.laid hd)) .nil⟩)
          | cell => exact q1.elim
          | exn => exact q1.elim
          | tup => exact q1.elim
      | exc c fs M1 => rw [hf] at q'; exact q'
      | bad => rw [hf] at q'; exact q'
    exact key
theorem s_raise0 {x : Str} {p pos pos2 : Pos} {k : Nat} (hc : X.calm = true) (tk : Takes X W) (T : Mk0 X.prog X.w X.K x C) (hm : X.mg x = some (.ref C)) (hms : X.mg "super" = none) (hr : Room k X.A) (hg : Gl X x := by rfl) (hdb : (x == ("__debug__" : Str)) = false := by decide) :
    S1 X W (.Raise (some (.Call (.Name x p) [] [] pos)) none pos2) (sRaise0 x) :=
  ps_sd (ps_raise hc tk (pmk0 T hm hms hr hg hdb)) fun E σ H kh ⟨ξ, ρ, μ, M, en, m, q⟩ => q C none σ H μ .refl en m hm (.inl ⟨rfl, rfl⟩)
end
/-! ### e.f, e the exception that a suite holds -/
def eFld (a dd : Addr) (i : Nat) (f : Str) : Ev := fun ρ M => match ρ[i]? with
  | some (some (.exn a' dd' fs)) => if a' = a ∧ dd' = dd then match fs.lookup f with
      | some d => .ok (.dat d) M
      | none => .bad
    else .bad
  | _ => .bad
theorem RepF.look {K : PySem.W.Frag} {ξ : List Addr} {H : Hp} {μ : List Addr} {f : Str} {d : D} : ∀ {vs : List (Str × V)} {fs : List (Str × D)}, RepF K ξ H μ vs fs → fs.lookup f = some d → ∃ v, vs.lookup f = some v ∧ Rep K ξ H μ v d
  | _, _, .nil, h => by cases h
  | _, _, .cons (f := g) (vs := vs) (ds := ds) r t, h => by
    cases hg : f == g with
    | true =>
      simp only [List.lookup, hg] at h ⊢
      cases h
      exact ⟨_, rfl, r⟩
    | false =>
      simp only [List.lookup, hg] at h ⊢
      exact RepF.look t h
theorem se_fld {X : Cx} {W : WX} {a dd C : Addr} {oe : Obj} {pn : List (Addr × Obj)} (i : Nat) {x f : Str} {px pos : Pos} (T : XfC X.K C) (hno : PySem.W.findIn X.K (.ref C) f = some none) (hz : Zc (.ref C) (some dd) oe) (hf : ∃ vs, oe.data = .fields vs)
    (hN : X.N[i]? = some x := by rfl) (hv : Vis X.env.scope x := by first | exact Or.inl rfl | exact Or.inr (Or.inl rfl) | exact Or.inr (Or.inr rfl)) (hd : (x == ("__debug__" : Str)) = false := by decide) (hcd : (x == ("__classdict__" : Str)) = false := by decide)
    (hb : attributeBase (.Name x px) f X.env (eval (.Name x px) X.env) = eval (.Name x px) X.env := by rfl) : SE (X.suite a ((a, oe) :: pn)) W (.Attribute (.Name x px) f pos) (eFld a dd i f) :=
  pe_sd (pe_xf T hno hz hf (pe_var (X := X.suite a ((a, oe) :: pn)) hN hv hd hcd) hb) fun σ H Q kh ⟨ξ, ρ, μ, M, e, m, p⟩ => by
    unfold eFld at p
    split at p
    · rename_i a' dd' fs hu
      split at p
      · rename_i hc
        obtain ⟨rfl, rfl⟩ := hc
        split at p
        · rename_i d hl
          obtain ⟨v, h1, h2⟩ := e.at_ i _ hu
          cases h2 with
          | exn hn hd' rf =>
            obtain ⟨v', l1, l2⟩ := rf.look hl
            exact ⟨_, h1, rfl, rfl, _, _, v', rfl, hd', l1, fun kh => p.here m kh (.dat l2)⟩
        · exact p.elim
      · exact p.elim
    · exact p.elim
/-! ### the clauses -/
structure Hd where
  cls : Str
  slot : Option Nat
  run : Addr → Addr → Sv
def subX (own : List Str) (c h : Str) : Option Bool := if own.contains c then some (c == h || (h == ("PartsError" : Str) || (h == ("ValueError" : Str) || h == ("Exception" : Str)))) else none
def noExc : SOut → SOut
  | .exc _ _ _ _ => .bad
  | o => o
def unslot (i : Nat) : SOut → SOut
  | .nx ρ M => .nx (ρ.set i none) M
  | .bk ρ M => .bk (ρ.set i none) M
  | .ct ρ M => .ct (ρ.set i none) M
  | o => o
def suite (h : Hd) (fs : List (Str × D)) (ρ : En) (M : Mem) : SOut := match h.slot with
  | none => noExc (h.run 0 0 ρ M)
  | some i => match fs with
    | [] => .bad
    | _ => unslot i (noExc (h.run 0 0 (ρ.set i (some (.exn 0 0 fs))) M))
def handle (own : List Str) : List Hd → Str → List (Str × D) → En → Mem → SOut
  | [], c, fs, ρ, M => .exc c fs ρ M
  | h :: r, c, fs, ρ, M => match subX own c h.cls with
    | some true => suite h fs ρ M
    | some false => handle own r c fs ρ M
    | none => .bad
def sTry (own : List Str) (f : Sv) (hs : List Hd) : Sv := fun ρ M => match f ρ M with
  | .exc c fs ρ' M' => handle own hs c fs ρ' M'
  | o => o
/-- nothing that the suite tells hangs on where the exception lies -/
def Blind (h : Hd) : Prop := match h.slot with
  | none => ∀ a dd, h.run a dd = h.run 0 0
  | some i => ∀ (a dd : Addr) (fs : List (Str × D)) (ρ : En) (M : Mem), h.run a dd (ρ.set i (some (.exn a dd fs))) M = h.run 0 0 (ρ.set i (some (.exn 0 0 fs))) M
inductive HdOk (X : Cx) (own : List Str) : List ExceptHandler → List Hd → Prop
  | nil : HdOk X own [] []
  | bare {x : Str} {cv : Value} {h : Hd} {b₀ : Stmt} {sts : List Stmt} {p1 p2 : Pos} {hds : List ExceptHandler} {l : List Hd} : h.cls = x → h.slot = none → Names X x cv → (∀ c C b, X.mg c = some (.ref C) → subX own c x = some b → PySem.W.exmOne X.K (.ref C) cv = some b) →
      (∀ (a : Addr) (oe : Obj) (pn : List (Addr × Obj)), SS (X.suite a ((a, oe) :: pn)) W0 (b₀ :: sts) (h.run 0 0)) → HdOk X own hds l → HdOk X own (.ExceptHandler (some (.Name x p1)) none (b₀ :: sts) p2 :: hds) (h :: l)
  | named {x n : Str} {i : Nat} {C : Addr} {h : Hd} {b₀ : Stmt} {sts : List Stmt} {p1 p2 : Pos} {hds : List ExceptHandler} {l : List Hd} : h.cls = x → h.slot = some i → X.mg x = some (.ref C) → Names X x (.ref C) → (∀ c C' b, X.mg c = some (.ref C') → subX own c x = some b → PySem.W.exmOne X.K (.ref C') (.ref C) = some b) →
      (∀ c, subX own c x = some true → c = x) → X.N[i]? = some n → X.env.kindOf n = some .local → Blind h →
      (∀ (a dd : Addr) (oe : Obj) (pn : List (Addr × Obj)), Zc (.ref C) (some dd) oe → (∃ vs, oe.data = .fields vs) → SS (X.suite a ((a, oe) :: pn)) W0 (b₀ :: sts) (h.run a dd)) → HdOk X own hds l → HdOk X own (.ExceptHandler (some (.Name x p1)) (some n) (b₀ :: sts) p2 :: hds) (h :: l)
theorem RelE.unset {K : PySem.W.Frag} {ξ : List Addr} {H : Hp} {μ : List Addr} {σ : L2.St} {ρ : En} (e : RelE K ξ H μ σ ρ) (i : Nat) : RelE K ξ H μ (σ.set i none) (ρ.set i none) := by
  refine ⟨by simp [e.len], fun j w h => ?_⟩
  by_cases hj : j = i
  · subst hj
    have hl : j < ρ.length := by
      have := (List.getElem?_eq_some_iff.mp h).1
      simpa using this
    rw [List.getElem?_set_self hl] at h
    cases h
  · rw [List.getElem?_set_ne (Ne.symm hj)] at h
    obtain ⟨v', h1, h2⟩ := e.at_ j w h
    exact ⟨v', by rw [List.getElem?_set_ne (Ne.symm hj)]; exact h1, h2⟩
section
variable {K : PySem.W.Frag} {ξ : List Addr} {mg : Str → Option Value} {W : WX} {H H' : Hp} {μ μ' : List Addr} {E : Ends}
theorem post_noExc {o : SOut} (p : PostS K ξ mg W H μ (noExc o) E) : PostS K ξ mg W0 H μ o (EK K E) := by
  cases o with
  | nx ρ M => exact fun σ H' μ' a b c d _ => p σ H' μ' a b c d
  | rt u M => exact fun σ H' μ' a b c d _ => p σ H' μ' a b c d
  | bk ρ M => exact fun σ H' μ' a b c d _ => p σ H' μ' a b c d
  | ct ρ M => exact fun σ H' μ' a b c d _ => p σ H' μ' a b c d
  | exc c fs ρ M => exact p.elim
  | bad => exact p.elim
theorem post_unslot {i : Nat} {o : SOut} (p : PostS K ξ mg W H μ (unslot i (noExc o)) E) : PostS K ξ mg W0 H μ o (endsN (some i) (EK K E)) := by
  cases o with
  | nx ρ M => exact fun σ H' μ' a b c d _ => p _ H' μ' a (b.unset i) c d
  | rt u M => exact fun σ H' μ' a b c d _ => p σ H' μ' a b c d
  | bk ρ M => exact fun σ H' μ' a b c d _ => p _ H' μ' a (b.unset i) c d
  | ct ρ M => exact fun σ H' μ' a b c d _ => p _ H' μ' a (b.unset i) c d
  | exc c fs ρ M => exact p.elim
  | bad => exact p.elim
end
theorem HdOk.to {X : Cx} {W : WX} {own : List Str} {hds : List ExceptHandler} {l : List Hd} (h : HdOk X own hds l) : ∃ l', ClsOk X hds l' ∧ ∀ (ξ : List Addr) (H : Hp) (μ : List Addr) (E : Ends) (c : Str) (fs : List (Str × D)) (ρ : En) (M : Mem), PostS X.K ξ X.mg W H μ (handle own l c fs ρ M) E →
    ∀ (C : Addr) (dd : Option Addr) (σ : L2.St) (H' : Hp) (μ' : List Addr), Nxt X.K H μ H' μ' → RelE X.K ξ H' μ' σ ρ → RelM X.K ξ H' μ' M → X.mg c = some (.ref C) → RepX X.K ξ H' μ' dd fs → wCl X.K W (EK X.K E) l' (.ref C) dd σ H' := by
  induction h with
  | nil => exact ⟨[], .nil, fun ξ H μ E c fs ρ M p => p⟩
  | @bare x cv h b₀ sts p1 p2 hds l hx hsl hnm hxm hsu _ ih =>
    obtain ⟨l', ok, rest⟩ := ih
    refine ⟨(cv, none, fun _ _ _ => tS X.K X.mg W0 (h.run 0 0)) :: l', .bare hnm (fun a oe cls d pn _ _ => hsu a oe pn) ok, fun ξ H μ E c fs ρ M p C dd σ H' μ' n e m hc hr => ?_⟩
    unfold handle at p
    rw [hx] at p
    cases hb : subX own c x with
    | none => rw [hb] at p; exact p.elim
    | some b =>
      rw [hb] at p
      refine ⟨b, hxm c C b hc hb, fun hb' a na => ?_, fun hb' => ?_⟩
      · subst hb'
        have p2 : PostS X.K ξ X.mg W H μ (noExc (h.run 0 0 ρ M)) E := by
          have : suite h fs ρ M = noExc (h.run 0 0 ρ M) := by unfold suite; rw [hsl]
          rw [← this]; exact p
        exact ⟨ξ, ρ, μ', M, e, m, (post_noExc p2).next n⟩
      · subst hb'
        exact rest ξ H μ E c fs ρ M p C dd σ H' μ' n e m hc hr
  | @named x nme i C0 h b₀ sts p1 p2 hds l hx hsl hmx hnm hxm hleaf hNi hln hbl hsu _ ih =>
    obtain ⟨l', ok, rest⟩ := ih
    refine ⟨(.ref C0, some i, fun a cls d D σ H => ∃ dd, d = some dd ∧ cls = .ref C0 ∧ tS X.K X.mg W0 (h.run a dd) D σ H) :: l', .named hnm hNi hln (fun a oe cls d pn hz hf => ?_) ok, fun ξ H μ E c fs ρ M p C dd σ H' μ' n e m hc hr => ?_⟩
    · refine ⟨fun pins s σ H E I ⟨dd, e1, e2, hh⟩ => ?_⟩
      subst e1 e2
      exact (hsu a dd oe pn hz hf).run pins s σ H E I hh
    unfold handle at p
    rw [hx] at p
    cases hb : subX own c x with
    | none => rw [hb] at p; exact p.elim
    | some b =>
      rw [hb] at p
      refine ⟨b, hxm c C b hc hb, fun hb' a na => ?_, fun hb' => ?_⟩
      · subst hb'
        have p2 : PostS X.K ξ X.mg W H μ (suite h fs ρ M) E := p
        unfold suite at p2
        rw [hsl] at p2
        have ec := hleaf c hb
        subst ec
        rw [hmx] at hc
        cases hc
        cases fs with
        | nil => exact p2.elim
        | cons f0 fs =>
          rcases hr with ⟨_, hr⟩ | ⟨d0, vs, ed, hnd, hd, rf⟩
          · cases hr
          · refine ⟨d0, ed, rfl, ξ, ρ.set i (some (.exn a d0 (f0 :: fs))), μ', M, e.set i (.exn hnd hd rf), m, ?_⟩
            have bl : ∀ (a dd : Addr) (fs : List (Str × D)) (ρ : En) (M : Mem), h.run a dd (ρ.set i (some (.exn a dd fs))) M = h.run 0 0 (ρ.set i (some (.exn 0 0 fs))) M := by
              unfold Blind at hbl
              rw [hsl] at hbl
              exact hbl
            rw [bl]
            exact (post_unslot p2).next n
      · subst hb'
        exact rest ξ H μ E c fs ρ M p C dd σ H' μ' n e m hc hr
theorem s_try {X : Cx} {W : WX} {own : List Str} {body : List Stmt} {h₀ : ExceptHandler} {hds : List ExceptHandler} {l : List Hd} {f : Sv} {pos : Pos} (hs : X.stack = X.env :: X.outer) (hf : X.env.frame = some X.env.locals) (hN : X.N.Nodup) (tk : Takes X W)
    (hb : ∀ (W : WX) (pn : List (Addr × Obj)) (xe : Value → Shared → Prop), Takes (X.tr pn xe) W → PassesOwn (model X.prog X.w) X.A X.env xe → SS (X.tr pn xe) W body f) (hh : HdOk X own (h₀ :: hds) l) : S1 X W (.Try body (h₀ :: hds) [] [] pos) (sTry own f l) := by
  obtain ⟨l', ok, sound⟩ := hh.to (W := W)
  refine ps_sd (ps_tryC hs hf hN tk (tb := fun W => tS X.K X.mg W f) hb ok) fun E σ H kh ⟨ξ, ρ, μ, M, e, m, p⟩ => ⟨ξ, ρ, μ, M, e, m, ?_⟩
  unfold sTry at p
  cases q : f ρ M with
  | exc c fs ρ' M' =>
    rw [q] at p
    intro C dd σ' H' μ' n e' m' hc hx
    exact sound ξ H μ E c fs ρ' M' p C dd σ' H' μ' n e' m' hc hx
  | nx ρ' M' => rw [q] at p; exact fun σ' H' μ' a b c d _ => p σ' H' μ' a b c d
  | rt u M' => rw [q] at p; exact fun σ' H' μ' a b c d _ => p σ' H' μ' a b c d
  | bk ρ' M' => rw [q] at p; exact fun σ' H' μ' a b c d _ => p σ' H' μ' a b c d
  | ct ρ' M' => rw [q] at p; exact fun σ' H' μ' a b c d _ => p σ' H' μ' a b c d
  | bad => rw [q] at p; exact p.elim
end SD

set_option Elab.async false
set_option linter.all false
set_option maxRecDepth 100000
set_option maxHeartbeats 4000000
namespace SD
open PySem PySem.Spec PyProof.Rows L2

/-! ### calls with keywords -/
abbrev SKw (X : Cx) (W : WX) (kws : List Keyword) (f : Av) : Prop := PK X kws (tA X.K X.mg W f)
def gP (perm : List Nat) {α : Type} (us ws : List α) : List α := perm.filterMap fun i => (us ++ ws)[i]?
structure CallableK (P : Program) (w : World) (K : PySem.W.Frag) (mg : Str → Option Value) (base : Heap) (k : Nat) (x : Str) (n : Nat) (ks : List Str) (perm : List Nat) (F : Fn) : Prop where
  ex : ∃ (f : Addr) (fd : FuncData) (ps : List Str), mg x = some (.ref f) ∧ PySem.W.keepIn K (.ref f) = true ∧ (∀ (s : Shared) (us ws : List Value), us.length = n → ws.length = ks.length → BindsTo s fd ⟨us, ks.zip ws⟩ (ps.zip (gP perm us ws))) ∧ perm.length = ps.length ∧ (∀ i ∈ perm, i < n + ks.length) ∧ FnOk P w K mg base (L2.CX P w) k f fd ps (spS K mg ps.length F)
def eFnK (n m : Nat) (perm : List Nat) (F : Fn) (g h : Av) : Ev := fun ρ M => (g ρ M).bind fun us M1 => (h ρ M1).bind fun ws M2 => if us.length = n ∧ ws.length = m then F (gP perm us ws) M2 else .bad
section
variable {K : PySem.W.Frag} {ξ : List Addr} {H : Hp} {μ : List Addr}
theorem RepUs.get : ∀ {vs : List V} {us : List U} {i : Nat} {v : V}, RepUs K ξ H μ vs us → vs[i]? = some v → ∃ u, us[i]? = some u ∧ RepU K ξ H μ v u
  | _, _, _, _, .nil, e => by simp at e
  | _, _, 0, _, .cons r _, e => by simp at e; subst e; exact ⟨_, rfl, r⟩
  | _, _, i + 1, v, .cons _ t, e => by
    obtain ⟨u, h1, h2⟩ := RepUs.get (i := i) (v := v) t (by simpa using e)
    exact ⟨u, by simpa using h1, h2⟩
theorem RepUs.perm {vs zs : List V} {us ws : List U} (r : RepUs K ξ H μ vs us) (q : RepUs K ξ H μ zs ws) : ∀ perm : List Nat, RepUs K ξ H μ (gP perm vs zs) (gP perm us ws)
  | [] => .nil
  | i :: perm => by
    have ih := RepUs.perm r q perm
    have rq := r.append q
    unfold gP at ih ⊢
    cases e : (vs ++ zs)[i]? with
    | none =>
      have e2 : (us ++ ws)[i]? = none := by
        rw [List.getElem?_eq_none_iff] at e ⊢
        rw [← rq.length]; exact e
      simp only [List.filterMap_cons, e, e2]; exact ih
    | some v =>
      obtain ⟨u, e2, ru⟩ := rq.get e
      simp only [List.filterMap_cons, e, e2]; exact .cons ru ih
theorem vals_get : ∀ {vs : List V} {us : List Value} {i : Nat} {v : V}, Vals vs us → vs[i]? = some v → ∃ u, us[i]? = some u ∧ RelV v u
  | _, _, _, _, .nil, e => by simp at e
  | _, _, 0, _, .cons r _, e => by simp at e; subst e; exact ⟨_, rfl, r⟩
  | _, _, i + 1, v, .cons _ t, e => by
    obtain ⟨u, h1, h2⟩ := vals_get (i := i) (v := v) t (by simpa using e)
    exact ⟨u, by simpa using h1, h2⟩
theorem vals_perm {vs zs : List V} {us ws : List Value} (r : Vals vs us) (q : Vals zs ws) : ∀ perm : List Nat, Vals (gP perm vs zs) (gP perm us ws)
  | [] => .nil
  | i :: perm => by
    have ih := vals_perm r q perm
    have rq := r.append q
    unfold gP at ih ⊢
    cases e : (vs ++ zs)[i]? with
    | none =>
      have e2 : (us ++ ws)[i]? = none := by
        rw [List.getElem?_eq_none_iff] at e ⊢
        rw [← rq.length]; exact e
      simp only [List.filterMap_cons, e, e2]; exact ih
    | some v =>
      obtain ⟨u, e2, ru⟩ := vals_get rq e
      simp only [List.filterMap_cons, e, e2]; exact .cons ru ih
theorem gP_len {α : Type} {us ws : List α} {n m : Nat} (h1 : us.length = n) (h2 : ws.length = m) : ∀ {perm : List Nat}, (∀ i ∈ perm, i < n + m) → (gP perm us ws).length = perm.length
  | [], _ => rfl
  | i :: perm, h => by
    have ih := gP_len h1 h2 (perm := perm) fun j hj => h j (.tail _ hj)
    have hi := h i (.head _)
    have e : (us ++ ws)[i]? = some ((us ++ ws)[i]'(by rw [List.length_append]; omega)) := List.getElem?_eq_getElem _
    unfold gP at ih ⊢
    simp only [List.filterMap_cons, e, List.length_cons, ih]
end
section
variable {X : Cx} {W : WX}
theorem sk_nil : SKw X W [] aNil := ⟨fun pos pins s σ H Q I ⟨ξ, ρ, μ, M, e, m, p⟩ => pk_nil.run pos pins s σ H Q I (p.here m (Inv.kh I) .nil)⟩
theorem sk_cons {nm : Option Str} {e : Expr} {kpos : Pos} {kws : List Keyword} {f : Ev} {g : Av} (ha : SE X W e f) (hr : SKw X W kws g) : SKw X W (⟨nm, e, kpos⟩ :: kws) (aCons f g) :=
  ⟨fun pos pins s σ H Q I ⟨ξ, ρ, μ, M, en, m, q⟩ => thn ((pk_cons ha hr).run pos pins s σ H (fun vs H' => KH X.K H' → Q vs H') I (tg.of en m ((Post.bind (R := RepU X.K ξ) q).mono fun x H1 ⟨u, M1, μ1, n1, m1, kh1, r1, q1⟩ =>
    tg.of (en.next n1) m1 ((Post.bind (R := RepUs X.K ξ) q1).mono fun xs H2 ⟨us, M2, μ2, n2, m2, kh2, r2, q2⟩ kh => q2.here m2 kh (.cons (r1.next n2) r2))))) fun u s1 ⟨v, H', I', r, qq⟩ => ⟨v, H', I', r, qq (Inv.kh I')⟩⟩
variable {k n : Nat} {x : Str} {ks : List Str} {perm : List Nat} {F : Fn} {g h : Av} {p pos : Pos} {kws : List Keyword}
theorem se_fnK {e : Expr} {es : List Expr} (C : CallableK X.prog X.w X.K X.mg X.base k x n ks perm F) (hr : Room k X.A) (tk : Takes X W) (ha : SA X W (e :: es) g) (hk : SKw X W kws h) (hg : Gl X x := by rfl)
    (hall : (backToKw pos (keywordEach kws X.env)).all (·.1.isSome) = true := by rfl) (hks : (backToKw pos (keywordEach kws X.env)).filterMap (·.1) = ks := by rfl) (hdb : (x == ("__debug__" : Str)) = false := by decide)
    (he : starEach (e :: es) X.env = (false, eval e X.env) :: starEach es X.env := by rfl) (hpl : ((backTo pos (starEach (e :: es) X.env)).any (·.1) || (backToKw pos (keywordEach kws X.env)).any (·.1.isNone)) = false := by rfl) :
    SE X W (.Call (.Name x p) (e :: es) kws pos) (eFnK n ks.length perm F g h) := by
  obtain ⟨f, fd, ps, hm, hkp, hb, hpm, hlt, FO⟩ := C.ex
  refine ⟨fun pins s σ H Q I ⟨ξ, ρ, μ, M, en, m, q⟩ => ?_⟩
  refine wpAny_Call_Name_kw (ld_glob I hg hm ?_ hdb)
  refine PySem.W.callWith_KW (h₀ := X.base) I.ok.mod.kin hkp hall (thn (ha.run pos pins s σ H _ I (tg.of en m (Post.bind (R := RepUs X.K ξ) q))) fun us s1 ⟨vs, H1, I1, r, uu, M1, μ1, n1, m1, kh1, ru, q1⟩ => ?_) hpl he
  refine thn (hk.run pos pins s1 σ H1 _ I1 (tg.of (en.next n1) m1 (Post.bind (R := RepUs X.K ξ) q1))) fun ws s2 ⟨zs, H2, I2, rz, ww, M2, μ2, n2, m2, kh2, rw', q2⟩ => ⟨I2.kIn, ?_⟩
  rw [hks]
  split at q2
  · rename_i hl
    have l1 : us.length = n := by rw [← r.length, ru.length]; exact hl.1
    have l2 : ws.length = ks.length := by rw [← rz.length, rw'.length]; exact hl.2
    have rel := (ru.next n2).perm rw' perm
    have hq : spS X.K X.mg ps.length F (gP perm vs zs) H2 (fun v H' => KH X.K H' → Q v H') (WE W σ) := by
      refine ⟨(rel.length.trans (gP_len hl.1 hl.2 hlt)).trans hpm, ξ, _, μ2, M2, rel, m2, ?_⟩
      cases hF : F (gP perm uu ww) M2 with
      | ok u M3 => rw [hF] at q2; exact fun v H' μ' nn mm rr kh' => q2 v H' μ' nn mm kh' rr
      | exc c fs M3 => rw [hF] at q2; exact q2
      | bad => rw [hF] at q2; exact q2
    refine wpAny_call (codeAny_mono (FO.run X.A X.stack s2 H2 ⟨us, ks.zip ws⟩ (gP perm us ws) (gP perm vs zs) _ _ hr I2.env0 (hb s2 us ws l1 l2) (vals_perm r rz perm) hq) fun rr s' hq => ?_)
    cases rr with
    | error e => exact passAt tk σ pins H2 s2 e s' I2 hq
    | ok fl =>
      cases fl with
      | ret u =>
        obtain ⟨v', H', I', r', qq⟩ := I2.after hq
        exact ⟨v', H', I', r', qq (Inv.kh I')⟩
      | next => exact False.elim hq
      | brk => exact False.elim hq
      | cont => exact False.elim hq
  · exact q2.elim
theorem se_fnK0 (C : CallableK X.prog X.w X.K X.mg X.base k x 0 ks perm F) (hr : Room k X.A) (tk : Takes X W) (hk : SKw X W kws h) (hg : Gl X x := by rfl)
    (hall : (backToKw pos (keywordEach kws X.env)).all (·.1.isSome) = true := by rfl) (hks : (backToKw pos (keywordEach kws X.env)).filterMap (·.1) = ks := by rfl) (hdb : (x == ("__debug__" : Str)) = false := by decide)
    (hpl : ((backTo pos (starEach [] X.env)).any (·.1) || (backToKw pos (keywordEach kws X.env)).any (·.1.isNone)) = false := by rfl) :
    SE X W (.Call (.Name x p) [] kws pos) (eFnK 0 ks.length perm F aNil h) := by
  obtain ⟨f, fd, ps, hm, hkp, hb, hpm, hlt, FO⟩ := C.ex
  refine ⟨fun pins s σ H Q I ⟨ξ, ρ, μ, M, en, m, q⟩ => ?_⟩
  refine wpAny_Call_Name_kw (ld_glob I hg hm ?_ hdb)
  refine PySem.W.callWith_KW0 (h₀ := X.base) I.ok.mod.kin hkp hall ?_ hpl
  have q1 : Post X.K ξ X.mg W (RepU X.K ξ) σ H μ ((h ρ M).bind fun ws M2 => if ([] : List U).length = 0 ∧ ws.length = ks.length then F (gP perm [] ws) M2 else .bad) Q := q
  refine thn (hk.run pos pins s σ H _ I (tg.of en m (Post.bind (R := RepUs X.K ξ) q1))) fun ws s2 ⟨zs, H2, I2, rz, ww, M2, μ2, n2, m2, kh2, rw', q2⟩ => ⟨I2.kIn, ?_⟩
  rw [hks]
  split at q2
  · rename_i hl
    have l2 : ws.length = ks.length := by rw [← rz.length, rw'.length]; exact hl.2
    have rel := (RepUs.nil (K := X.K) (ξ := ξ) (H := H2) (μ := μ2)).perm rw' perm
    have hq : spS X.K X.mg ps.length F (gP perm [] zs) H2 (fun v H' => KH X.K H' → Q v H') (WE W σ) := by
      refine ⟨(rel.length.trans (gP_len rfl hl.2 hlt)).trans hpm, ξ, _, μ2, M2, rel, m2, ?_⟩
      cases hF : F (gP perm [] ww) M2 with
      | ok u M3 => rw [hF] at q2; exact fun v H' μ' nn mm rr kh' => q2 v H' μ' nn mm kh' rr
      | exc c fs M3 => rw [hF] at q2; exact q2
      | bad => rw [hF] at q2; exact q2
    show wpAny (model X.prog X.w) X.A (call (.ref f) ([] ++ []) (ks.zip ws)) _ _ _
    refine wpAny_call (codeAny_mono (FO.run X.A X.stack s2 H2 ⟨[], ks.zip ws⟩ (gP perm [] ws) (gP perm [] zs) _ _ hr I2.env0 (hb s2 [] ws rfl l2) (vals_perm .nil rz perm) hq) fun rr s' hq => ?_)
    cases rr with
    | error e => exact passAt tk σ pins H2 s2 e s' I2 hq
    | ok fl =>
      cases fl with
      | ret u =>
        obtain ⟨v', H', I', r', qq⟩ := I2.after hq
        exact ⟨v', H', I', r', qq (Inv.kh I')⟩
      | next => exact False.elim hq
      | brk => exact False.elim hq
      | cont => exact False.elim hq
  · exact q2.elim
end
/-! ### a, b = x, y -/
def sPar (i j : Nat) (f : Av) : Sv := fun ρ M => SOut.ofE ρ (f ρ M) fun us M1 => match us with
  | [u, w] => .nx ((ρ.set i (some u)).set j (some w)) M1
  | _ => .bad
theorem s_par {X : Cx} {W : WX} (i j : Nat) {x y : Str} {a b : Expr} {f : Av} {px py pt : Pos} {kt k2 pt2} {pos : Pos} (hc : X.calm = true) (hN : X.N.Nodup) (ha : SA X W [a, b] f) (hi : X.N[i]? = some x := by rfl) (hj : X.N[j]? = some y := by rfl) (hij : i ≠ j := by decide)
    (hx : X.env.scope.names.lookup x = some .local := by rfl) (hy : X.env.scope.names.lookup y = some .local := by rfl)
    (hw : swappedStores [.Tuple [.Name x px, .Name y py] kt pt] (.Tuple [a, b] k2 pt2) X.env = pure (some [x, y]) := by rfl)
    (hs : swapsWithSole [.Tuple [.Name x px, .Name y py] kt pt] (.Tuple [a, b] k2 pt2) pos.line X.env = pure false := by rfl) :
    S1 X W (.Assign [.Tuple [.Name x px, .Name y py] kt pt] (.Tuple [a, b] k2 pt2) pos) (sPar i j f) :=
  ps_sd (ps_par hc hN hi hj hij hx hy ha hw hs) fun E σ H kh ⟨ξ, ρ, μ, M, e, m, p⟩ => tg.of e m ((PostS.bindE (R := RepUs X.K ξ) p e).mono fun vs H1 ⟨us, M1, μ1, n1, m1, kh1, r1, q1⟩ => by
    split at q1
    · cases r1 with
      | cons ra r1 => cases r1 with
        | cons rb r1 =>
          cases r1
          exact ⟨_, _, rfl, fun kh' => q1.here (((e.next n1).set i ra).set j rb) m1 kh'⟩
    · exact q1.elim)
/-! ### max([..]), min([..]) of numbers -/
def toIs : List D → Option (List Int)
  | [] => some []
  | .int i :: r => (toIs r).map (i :: ·)
  | _ :: _ => none
theorem RepL.is {K : PySem.W.Frag} {ξ : List Addr} {H : Hp} {μ : List Addr} : ∀ {xs : List V} {ds : List D} {is : List Int}, RepL K ξ H μ xs ds → toIs ds = some is → xs = is.map V.int
  | _, _, _, .nil, h => by cases h; rfl
  | _, _, bs, .cons (ds := ds) r t, h => by
    cases r with
    | int b =>
      unfold toIs at h
      cases q : toIs ds with
      | none => rw [q] at h; cases h
      | some cs => rw [q] at h; cases h; rw [RepL.is t q]; rfl
    | _ => cases h
def maxI (i : Int) (is : List Int) : Int := is.foldl (fun a b => if b > a then b else a) i
def minI (i : Int) (is : List Int) : Int := is.foldl (fun a b => if b < a then b else a) i
theorem maxI_spec : ∀ (is : List Int) (i : Int), i ≤ maxI i is ∧ ∀ y ∈ is, y ≤ maxI i is
  | [], i => ⟨Int.le_refl _, fun y h => by simp at h⟩
  | j :: is, i => by
    have ih := maxI_spec is (if j > i then j else i)
    have e : maxI i (j :: is) = maxI (if j > i then j else i) is := rfl
    rw [e]
    have h1 : i ≤ (if j > i then j else i) ∧ j ≤ (if j > i then j else i) := by split <;> omega
    refine ⟨Int.le_trans h1.1 ih.1, fun y hy => ?_⟩
    rcases List.mem_cons.mp hy with z | z
    · subst z; exact Int.le_trans h1.2 ih.1
    · exact ih.2 y z
theorem maxI_mem : ∀ (is : List Int) (i : Int), maxI i is ∈ i :: is
  | [], i => .head _
  | j :: is, i => by
    have ih := maxI_mem is (if j > i then j else i)
    have e : maxI i (j :: is) = maxI (if j > i then j else i) is := rfl
    rw [e]
    rcases List.mem_cons.mp ih with z | z
    · rw [z]; split
      · exact .tail _ (.head _)
      · exact .head _
    · exact .tail _ (.tail _ z)
theorem minI_spec : ∀ (is : List Int) (i : Int), minI i is ≤ i ∧ ∀ y ∈ is, minI i is ≤ y
  | [], i => ⟨Int.le_refl _, fun y h => by simp at h⟩
  | j :: is, i => by
    have ih := minI_spec is (if j < i then j else i)
    have e : minI i (j :: is) = minI (if j < i then j else i) is := rfl
    rw [e]
    have h1 : (if j < i then j else i) ≤ i ∧ (if j < i then j else i) ≤ j := by split <;> omega
    refine ⟨Int.le_trans ih.1 h1.1, fun y hy => ?_⟩
    rcases List.mem_cons.mp hy with z | z
    · subst z; exact Int.le_trans ih.1 h1.2
    · exact ih.2 y z
theorem minI_mem : ∀ (is : List Int) (i : Int), minI i is ∈ i :: is
  | [], i => .head _
  | j :: is, i => by
    have ih := minI_mem is (if j < i then j else i)
    have e : minI i (j :: is) = minI (if j < i then j else i) is := rfl
    rw [e]
    rcases List.mem_cons.mp ih with z | z
    · rw [z]; split
      · exact .tail _ (.head _)
      · exact .head _
    · exact .tail _ (.tail _ z)
def maxLD : D → Option D
  | .lst ds => match toIs ds with
    | some (i :: is) => some (.int (maxI i is))
    | _ => none
  | _ => none
def minLD : D → Option D
  | .lst ds => match toIs ds with
    | some (i :: is) => some (.int (minI i is))
    | _ => none
  | _ => none
theorem c_maxL {K : PySem.W.Frag} : Cl K (pf1 maxLD) (rMax K) := Cl.one fun ξ mg W x d c σ H μ M Q m kh r h p => by
  unfold maxLD at h
  split at h
  · rename_i ds
    split at h
    · rename_i i is q
      cases h
      obtain ⟨a, xs, rfl, e1, t1⟩ := r.lstv
      have := t1.is q
      subst this
      refine ⟨a, i :: is, rfl, SqL.of e1, by simp, fun m' hm hall kh => ?_⟩
      have : m' = maxI i is := by
        have h1 := hall _ (maxI_mem is i)
        have h2 : m' ≤ maxI i is := by
          rcases List.mem_cons.mp hm with z | z
          · exact z ▸ (maxI_spec is i).1
          · exact (maxI_spec is i).2 _ z
        omega
      subst this
      exact p.here m kh (.dat (.int _))
    · cases h
  · cases h
theorem c_minL {K : PySem.W.Frag} : Cl K (pf1 minLD) (rMin K) := Cl.one fun ξ mg W x d c σ H μ M Q m kh r h p => by
  unfold minLD at h
  split at h
  · rename_i ds
    split at h
    · rename_i i is q
      cases h
      obtain ⟨a, xs, rfl, e1, t1⟩ := r.lstv
      have := t1.is q
      subst this
      refine ⟨a, i :: is, rfl, SqL.of e1, by simp, fun m' hm hall kh => ?_⟩
      have : m' = minI i is := by
        have h1 := hall _ (minI_mem is i)
        have h2 : minI i is ≤ m' := by
          rcases List.mem_cons.mp hm with z | z
          · exact z ▸ (minI_spec is i).1
          · exact (minI_spec is i).2 _ z
        omega
      subst this
      exact p.here m kh (.dat (.int _))
    · cases h
  · cases h
end SD
namespace SD
open PySem PySem.Spec PyProof.Rows L2
/-! ### what the generated texts name -/
def clsInit (s : Stmt) : Stmt := match s with
  | .ClassDef _ _ _ (b :: _) _ _ _ _ _ _ _ => b
  | s => s
def subB (c h : Str) : Bool := c == h || (h == ("PartsError" : Str) || (h == ("ValueError" : Str) || h == ("Exception" : Str)))
theorem xm_of {K : PySem.W.Frag} {mg : Str → Option Value} {own : List Str} {x : Str} {cv : Value} (h : ∀ c ∈ own, ∃ C b, mg c = some (.ref C) ∧ PySem.W.exmOne K (.ref C) cv = some b ∧ subB c x = b) : ∀ c C b, mg c = some (.ref C) → subX own c x = some b → PySem.W.exmOne K (.ref C) cv = some b := by
  intro c C b hc hb
  unfold subX at hb
  split at hb
  · rename_i hm
    obtain ⟨C', b', h1, h2, h3⟩ := h c (List.contains_iff_mem.mp hm)
    rw [hc] at h1
    cases h1
    cases hb
    rw [h2, ← h3]; rfl
  · cases hb
theorem exm_ref {K : PySem.W.Frag} {C E : Addr} {b : Bool} (h1 : PySem.W.subIn K (.ref E) (.type "BaseException") = some true) (h2 : (PySem.W.clsIn K E).isSome = true) (h3 : PySem.W.typeIn K (.ref E) = some (.type "type")) (h4 : PySem.W.subIn K (.ref C) (.ref E) = some b) : PySem.W.exmOne K (.ref C) (.ref E) = some b := by
  have e1 : (PySem.W.subIn K (.ref E) (.type "BaseException") == some true) = true := by rw [h1]; rfl
  have e2 : ((PySem.W.clsIn K E).isSome && PySem.W.typeIn K (.ref E) == some (.type "type")) = true := by rw [h2, h3]; rfl
  unfold PySem.W.exmOne PySem.W.kitCls
  rw [if_pos e1]
  exact (if_pos e2).trans h4
theorem exm_type {K : PySem.W.Frag} {C : Addr} {T : String} {b : Bool} (h1 : PySem.W.subIn K (.type T) (.type "BaseException") = some true) (h2 : PySem.W.kitMeta T = true) (h4 : PySem.W.subIn K (.ref C) (.type T) = some b) : PySem.W.exmOne K (.ref C) (.type T) = some b := by
  have e1 : (PySem.W.subIn K (.type T) (.type "BaseException") == some true) = true := by rw [h1]; rfl
  unfold PySem.W.exmOne PySem.W.kitCls
  rw [if_pos e1]
  exact (if_pos h2).trans h4
theorem cls_some {K : PySem.W.Frag} {C N : Addr} {nm q : Str} {bs bm : List Value} {hd : Bool} {sn : List Str} {sub : List Value} {ab : Bool} {col : Option Bool} {dd : Option Addr} {k0 k1 k2 k3 k5 : Option Value} {i : String} (h : K.lookup C = some (excClassObj nm q C N bs bm hd sn sub ab col dd k0 k1 k2 k3 k5 i)) : (PySem.W.clsIn K C).isSome = true := by
  unfold PySem.W.clsIn; rw [h]; rfl
theorem leaf_of {own : List Str} {x : Str} (h : ∀ c ∈ own, subB c x = true → c = x) : ∀ c, subX own c x = some true → c = x := by
  intro c hb
  unfold subX at hb
  split at hb
  · rename_i hm
    exact h c (List.contains_iff_mem.mp hm) (Option.some.inj hb)
  · cases hb
/-! blind suites -/
def noX {α : Type} : Out α → Prop
  | .exc _ _ _ => False
  | _ => True
def BlE {α : Type} (i : Nat) (f : Addr → Addr → En → Mem → Out α) : Prop := ∀ (a dd : Addr) (fs : List (Str × D)) (ρ : En) (M : Mem), f a dd (ρ.set i (some (.exn a dd fs))) M = f 0 0 (ρ.set i (some (.exn 0 0 fs))) M ∧ noX (f 0 0 (ρ.set i (some (.exn 0 0 fs))) M)
theorem bl_c {i : Nat} {d : D} : BlE i fun _ _ => eC d := fun _ _ _ _ _ => ⟨rfl, trivial⟩
theorem eFld_at {a dd i : Nat} {f : Str} {fs : List (Str × D)} {ρ : En} {M : Mem} (h : i < ρ.length) : eFld a dd i f (ρ.set i (some (.exn a dd fs))) M = match fs.lookup f with
    | some d => .ok (.dat d) M
    | none => .bad := by
  unfold eFld
  rw [List.getElem?_set_self h]
  exact if_pos ⟨rfl, rfl⟩
theorem eFld_no {a dd i : Nat} {f : Str} {ρ : En} {M : Mem} {o : Option U} (h : ¬ i < ρ.length) : eFld a dd i f (ρ.set i o) M = .bad := by
  unfold eFld
  rw [List.getElem?_eq_none (by simpa using h)]
theorem bl_fld {i : Nat} {f : Str} : BlE i fun a dd => eFld a dd i f := fun a dd fs ρ M => by
  by_cases h : i < ρ.length
  · show eFld a dd i f _ M = eFld 0 0 i f _ M ∧ noX (eFld 0 0 i f _ M)
    rw [eFld_at h, eFld_at h]
    cases fs.lookup f <;> exact ⟨rfl, trivial⟩
  · show eFld a dd i f _ M = eFld 0 0 i f _ M ∧ noX (eFld 0 0 i f _ M)
    rw [eFld_no h, eFld_no h]
    exact ⟨rfl, trivial⟩
theorem bl_bind {α β : Type} {i : Nat} {f : Addr → Addr → En → Mem → Out α} {k : Addr → Addr → En → α → Mem → Out β} (hf : BlE i f) (hk : ∀ x, BlE i fun a dd ρ M => k a dd ρ x M) : BlE i fun a dd ρ M => (f a dd ρ M).bind (k a dd ρ) := fun a dd fs ρ M => by
  obtain ⟨e, n⟩ := hf a dd fs ρ M
  show (f a dd (ρ.set i (some (.exn a dd fs))) M).bind (k a dd (ρ.set i (some (.exn a dd fs)))) = (f 0 0 (ρ.set i (some (.exn 0 0 fs))) M).bind (k 0 0 (ρ.set i (some (.exn 0 0 fs)))) ∧ noX ((f 0 0 (ρ.set i (some (.exn 0 0 fs))) M).bind (k 0 0 (ρ.set i (some (.exn 0 0 fs)))))
  rw [e]
  cases q : f 0 0 (ρ.set i (some (.exn 0 0 fs))) M with
  | ok x M1 => exact hk x a dd fs ρ M1
  | exc => rw [q] at n; exact n.elim
  | bad => exact ⟨rfl, trivial⟩
theorem bl_nil {i : Nat} : BlE i fun _ _ => aNil := fun _ _ _ _ _ => ⟨rfl, trivial⟩
theorem bl_cons {i : Nat} {f : Addr → Addr → Ev} {g : Addr → Addr → Av} (hf : BlE i f) (hg : BlE i g) : BlE i fun a dd => aCons (f a dd) (g a dd) := by
  unfold aCons
  exact bl_bind hf fun u => bl_bind hg fun us _ _ _ _ _ => ⟨rfl, trivial⟩
theorem noX_newL {c : Bool} {ds : List D} {M : Mem} : noX (newL c ds M) := by unfold newL; cases c <;> trivial
theorem bl_lst {i : Nat} {c : Bool} {g : Addr → Addr → Av} (hg : BlE i g) : BlE i fun a dd => eLst c (g a dd) := by
  unfold eLst
  refine bl_bind hg fun us _ _ _ _ M => ⟨rfl, ?_⟩
  show noX (match toDs us with | some ds => if ds.length ≤ 16777216 then newL c ds M else .bad | none => .bad)
  cases toDs us with
  | none => trivial
  | some ds =>
    show noX (if ds.length ≤ 16777216 then newL c ds M else .bad)
    split
    · exact noX_newL
    · trivial
theorem bl_tup {i : Nat} {g : Addr → Addr → Av} (hg : BlE i g) : BlE i fun a dd => eTup (g a dd) := by
  unfold eTup
  refine bl_bind hg fun us _ _ _ _ M => ⟨rfl, ?_⟩
  show noX (match toDs us with | some ds => if ds.length ≤ 16777216 then Out.ok (U.dat (.tup ds)) M else .bad | none => .bad)
  cases toDs us with
  | none => trivial
  | some ds =>
    show noX (if ds.length ≤ 16777216 then Out.ok (U.dat (.tup ds)) M else .bad)
    split <;> trivial
theorem bl_ret {i : Nat} {x : Str} {f : Addr → Addr → Ev} (hf : BlE i f) : Blind ⟨x, some i, fun a dd => sRet (f a dd)⟩ := fun a dd fs ρ M => by
  obtain ⟨e, n⟩ := hf a dd fs ρ M
  show sRet (f a dd) _ _ = sRet (f 0 0) _ _
  unfold sRet SOut.ofE
  rw [e]
  cases q : f 0 0 (ρ.set i (some (.exn 0 0 fs))) M with
  | ok x M1 => rfl
  | exc => rw [q] at n; exact n.elim
  | bad => rfl
/-- a def called with keywords -/
structure DefKw (K : PySem.W.Frag) (mg : Str → Option Value) (x qual : Str) (st : Stmt) (ps : List Str) (n : Nat) (ks : List Str) (perm : List Nat) : Prop where
  ex : ∃ (f : Addr) (fd : FuncData), mg x = some (.ref f) ∧ Fun K x qual st f fd ∧ ∀ us ws : List Value, us.length = n → ws.length = ks.length → bindArgs fd ⟨us, ks.zip ws⟩ = pure (ps.zip (gP perm us ws))
section
variable {P : Program} {w : World} {K : PySem.W.Frag} {mg : Str → Option Value} {base : Heap} {x qual : Str} {st : Stmt} {N ps ks : List Str} {k n : Nat} {perm : List Nat} {body : Sv} [FS body]
theorem DefKw.call (d : DefKw K mg x qual st ps n ks perm) (S : FnScope N ps (defScope st)) (hl : perm.length = ps.length) (hi : ∀ i ∈ perm, i < n + ks.length)
    (hbody : ∀ (f : Addr) (cdv : Value) (A : Around) (outer : List Env) (s : Shared) (H : Hp) (E : XK), Room k (A.deeper (envOfC qual (defScope st) s.heap.objs.size f cdv)) →
      SS (cxOf (L2.CX P w) P w K mg base N qual (defScope st) f cdv A outer s H E) (fun cls d _ H => E cls d H) (defBody st) body) : CallableK P w K mg base (k + 1) x n ks perm (fnRun N.length body) := by
  obtain ⟨f, fd, hm, F, he⟩ := d.ex
  exact ⟨⟨f, fd, ps, hm, F.kp, fun s us ws h1 h2 => .of_eq (he us ws h1 h2), hl, hi, fn_ok F S (hbody _)⟩⟩
theorem DefKw.mk' {h : Heap} {f : Addr} {oc kV doc pm cdv ct : Value} {od an : Option Addr} {osl : Array (Option Value)} (X : K.In h) (G : h.Ns mainGlobals mg) (a : PySem.W.nsIn K mainGlobals x = some (some (.ref f)))
    (l : K.lookup f = some ⟨oc, od, .func (PySem.W.fnOf x qual (defArgs st) (defBody st) (defScope st) .none kV doc pm an cdv ct), osl⟩) (c : PySem.W.codeIn K cdv qual = true) (k : PySem.W.keepIn K (.ref f) = true)
    (hb : ∀ (kV doc pm : Value) (an : Option Addr) (cdv ct : Value) (us ws : List Value), us.length = n → ws.length = ks.length → bindArgs (PySem.W.fnOf x qual (defArgs st) (defBody st) (defScope st) .none kV doc pm an cdv ct) ⟨us, ks.zip ws⟩ = pure (ps.zip (gP perm us ws))) : DefKw K mg x qual st ps n ks perm :=
  ⟨⟨_, _, PySem.W.mg_of X G a, fun_mk (st := st) l c k, fun us ws h1 h2 => hb _ _ _ _ _ _ us ws h1 h2⟩⟩
end
end SD

set_option Elab.async false
set_option linter.all false
set_option maxRecDepth 100000
set_option maxHeartbeats 4000000
namespace SD
open PySem PySem.Spec PyProof.Rows L2

/-! ### int(..), str(..), tuple(..) -/
def intD : D → Option D
  | .int i => some (.int i)
  | .bl b => some (.int (if b then 1 else 0))
  | .str s => if s.length ≤ 640 then (PySem.intText? (mkS s)).map .int else none
  | _ => none
def txtI (i : Int) : Cs := TL.tl (toString i : Str)
theorem mkS_tlS (x : Str) : mkS (TL.tl x) = x := (mkS_of_tl rfl).symm
def strD : D → Option D
  | .int i => if i.natAbs.log2 < 1920 then some (.str (txtI i)) else none
  | .str s => some (.str s)
  | _ => none
def rInt : List V → Hp → VK → Prop := fun xs H Q => ((∃ i, xs = [.int i] ∧ Q (.int i) H) ∨ ∃ k, xs = [.bl k] ∧ Q (.int (if k then 1 else 0)) H) ∨ ∃ a n, xs = [.str a] ∧ PySem.intText? a = some n ∧ a.length ≤ 640 ∧ Q (.int n) H
theorem cr_int {X : Cx} : CallR X (.type "int") rInt := call_int1.or call_int_str
def rStr : List V → Hp → VK → Prop := fun xs H Q => (∃ i, xs = [.int i] ∧ i.natAbs.log2 < 1920 ∧ Q (.str (toString i)) H) ∨ ∃ a, xs = [.str a] ∧ Q (.str a) H
theorem cr_str {X : Cx} : CallR X (.type "str") rStr := call_str_int.or SkE.call_str_str
def rTup (K : PySem.W.Frag) : List V → Hp → VK → Prop := fun xs H Q => ∃ p ys, xs = [.ref p] ∧ ((SqL K H p ys ∧ ∀ l, H l = none → Q (.ref l) (upd H l (.tup ys))) ∨ (SqT K H p ys ∧ Q (.ref p) H))
theorem cr_tup {X : Cx} : CallR X (.type "tuple") (rTup X.K) := call_tuple_of
def tupD : D → Option D
  | .lst ds => some (.tup ds)
  | .tup ds => some (.tup ds)
  | _ => none
section
variable {K : PySem.W.Frag}
theorem c_int : Cl K (pf1 intD) rInt := Cl.one fun ξ mg W x d c σ H μ M Q m kh r h p => by
  unfold intD at h
  split at h
  · cases h; cases r.int
    exact .inl (.inl ⟨_, rfl, fun kh => p.here m kh (.dat (.int _))⟩)
  · cases h; cases r.bl
    exact .inl (.inr ⟨_, rfl, fun kh => p.here m kh (.dat (.int _))⟩)
  · rename_i s
    split at h
    · rename_i hl
      cases hq : PySem.intText? (mkS s) with
      | none => rw [hq] at h; cases h
      | some n =>
        rw [hq] at h
        cases h
        cases r.str
        exact .inr ⟨_, n, rfl, hq, by rw [mkS_len]; exact hl, fun kh => p.here m kh (.dat (.int _))⟩
    · cases h
  · cases h
theorem c_str : Cl K (pf1 strD) rStr := Cl.one fun ξ mg W x d c σ H μ M Q m kh r h p => by
  unfold strD at h
  split at h
  · rename_i i
    split at h
    · rename_i hl
      cases h; cases r.int
      refine .inl ⟨i, rfl, hl, fun kh => ?_⟩
      have := p.here m kh (.dat (.str (txtI i)))
      unfold txtI at this
      rw [mkS_tlS] at this
      exact this
    · cases h
  · cases h; cases r.str
    exact .inr ⟨_, rfl, fun kh => p.here m kh (.dat (.str _))⟩
  · cases h
theorem c_tup : Cl K (pf1 tupD) (rTup K) := Cl.one fun ξ mg W x d c σ H μ M Q m kh r h p => by
  unfold tupD at h
  split at h
  · cases h
    obtain ⟨a, xs, rfl, e1, t1⟩ := r.lstv
    exact ⟨a, xs, rfl, .inl ⟨SqL.of e1, fun l hl kh => newT_post p m t1 hl kh⟩⟩
  · cases h
    cases r with | of r =>
    obtain ⟨a, xs, rfl, _, e1, t1⟩ := (RepV.of r).tup
    exact ⟨a, xs, rfl, .inr ⟨e1, fun kh => p.here m kh (.dat r)⟩⟩
  · cases h
/-! ### methods of texts -/
def splitC (a b : Cs) : List Cs := (Txt.split (mkS a) (mkS b)).map TL.tl
theorem split_mk (a b : Cs) : (splitC a b).map mkS = Txt.split (mkS a) (mkS b) := by
  unfold splitC
  rw [List.map_map, show (mkS ∘ TL.tl) = id from funext fun x => mkS_tlS x, List.map_id]
theorem repL_strs {ξ : List Addr} {H : Hp} {μ : List Addr} : ∀ ss : List Cs, RepL K ξ H μ ((ss.map mkS).map V.str) (ss.map D.str)
  | [] => .nil
  | s :: ss => .cons (.str s) (repL_strs ss)
def mSplit (c : Bool) : Pm := fun u us M => match u, us with
  | .dat (.str a), [.dat (.str b)] => if b.length ≠ 0 ∧ a.length ≤ 16777000 then newL c ((splitC a b).map .str) M else .bad
  | _, _ => .bad
theorem m_split {c : Bool} : Mt K (mSplit c) (fun x xs H Q => ∃ a b, x = .str a ∧ xs = [.str b] ∧ (b.length == 0) = false ∧ a.length + 2 ≤ sizeLine ∧ rNewStrs (Txt.split a b) H Q) := by
  intro ξ mg W x u xs us σ H μ M Q m kh r rs p
  unfold mSplit at p
  split at p
  · rename_i a b
    split at p
    · rename_i hc
      cases r with
      | dat r =>
      cases r
      cases rs with
      | cons r1 r2 =>
        cases r2
        cases r1 with
        | dat r1 =>
        cases r1
        refine ⟨_, _, rfl, rfl, by rw [mkS_len]; simpa using hc.1, by rw [mkS_len, sizeLine_eq]; omega, fun q hq kh' => ?_⟩
        rw [← split_mk] at kh' ⊢
        exact newL_post p m (repL_strs _) hq kh'
    · exact p.elim
  · exact p.elim
def findC (a b : Cs) : Int := Txt.find (mkS a) (mkS b)
def startsC (a b : Cs) : Bool := Txt.startswith (mkS a) (mkS b)
def mFind : Pm := fun u us M => match u, us with
  | .dat (.str a), [.dat (.str b)] => .ok (.dat (.int (findC a b))) M
  | _, _ => .bad
theorem m_find : Mt K mFind (fun x xs H Q => ∃ a b, x = .str a ∧ xs = [.str b] ∧ Q (.int (Txt.find a b)) H) := by
  intro ξ mg W x u xs us σ H μ M Q m kh r rs p
  unfold mFind at p
  split at p
  · cases r with
    | dat r =>
    cases r
    cases rs with
    | cons r1 r2 =>
      cases r2
      cases r1 with
      | dat r1 => cases r1; exact ⟨_, _, rfl, rfl, fun kh => p.here m kh (.dat (.int _))⟩
  · exact p.elim
def mStarts : Pm := fun u us M => match u, us with
  | .dat (.str a), [.dat (.str b)] => .ok (.dat (.bl (startsC a b))) M
  | _, _ => .bad
theorem m_starts : Mt K mStarts (fun x xs H Q => ∃ a b, x = .str a ∧ xs = [.str b] ∧ Q (.bl (Txt.startswith a b)) H) := by
  intro ξ mg W x u xs us σ H μ M Q m kh r rs p
  unfold mStarts at p
  split at p
  · cases r with
    | dat r =>
    cases r
    cases rs with
    | cons r1 r2 =>
      cases r2
      cases r1 with
      | dat r1 => cases r1; exact ⟨_, _, rfl, rfl, fun kh => p.here m kh (.dat (.bl _))⟩
  · exact p.elim
end
/-! ### f-strings -/
abbrev Jv := List Ev
/-- {e} -/
def eFmt (f : Ev) : Ev := fun ρ M => (f ρ M).bind fun u M1 => match u with
  | .dat (.str s) => if s.length ≤ 16777216 then .ok (.dat (.str s)) M1 else .bad
  | .dat (.int i) => if i.natAbs.log2 < 1920 then .ok (.dat (.str (txtI i))) M1 else .bad
  | _ => .bad
def joinE : List Ev → Cs → En → Mem → Out U
  | [], acc, _, M => .ok (.dat (.str acc)) M
  | f :: fs, acc, ρ, M => (f ρ M).bind fun u M1 => match u with
    | .dat (.str s) => if acc.length + s.length ≤ 16777216 then joinE fs (acc ++ s) ρ M1 else .bad
    | _ => .bad
def eJoin (fs : List Ev) : Ev := joinE fs []
inductive SJ (X : Cx) (W : WX) : List Expr → List Ev → Prop where
  | nil : SJ X W [] []
  | cons {e : Expr} {f : Ev} {es : List Expr} {fs : List Ev} (h : SE X W e f) (r : SJ X W es fs) : SJ X W (e :: es) (f :: fs)
section
variable {X : Cx} {W : WX}
theorem SJ.pj {es : List Expr} {fs : List Ev} (h : SJ X W es fs) : PJ X es (fs.map fun f => tE X.K X.mg W f) := by
  induction h with
  | nil => exact .nil
  | cons h _ ih => exact .cons h ih
theorem join_read {K : PySem.W.Frag} {mg : Str → Option Value} {ξ : List Addr} {σ : L2.St} {ρ : En} {Q : VK} : ∀ (fs : List Ev) (acc : Cs) (H : Hp) (μ : List Addr) (M : Mem), RelE K ξ H μ σ ρ → RelM K ξ H μ M → KH K H → Post K ξ mg W (RepU K ξ) σ H μ (joinE fs acc ρ M) Q →
    tJs (fs.map fun f => tE K mg W f) (mkS acc) σ H fun out H1 => KH K H1 → Q (.str out) H1
  | [], acc, H, μ, M, e, m, kh, p => fun kh' => p.here m kh' (.dat (.str acc))
  | f :: fs, acc, H, μ, M, e, m, kh, p => tg.of e m ((Post.bind (R := RepU K ξ) p).mono fun x H1 ⟨u, M1, μ1, n1, m1, kh1, r1, q1⟩ => by
      split at q1
      · rename_i s
        split at q1
        · rename_i hl
          cases r1 with
          | dat r1 =>
          cases r1
          refine ⟨_, rfl, ?_, ?_⟩
          · rw [mkS_app, mkS_len, sizeLine_eq, List.length_append]; exact hl
          · rw [mkS_app]; exact join_read fs _ H1 μ1 M1 (e.next n1) m1 kh1 q1
        · exact q1.elim
      · exact q1.elim)
theorem se_join {v1 v2 : Expr} {rest : List Expr} {fs : List Ev} {pos : Pos} (h : SJ X W (v1 :: v2 :: rest) fs) : SE X W (.JoinedStr (v1 :: v2 :: rest) pos) (eJoin fs) :=
  pe_sd (pe_joined h.pj) fun σ H Q kh ⟨ξ, ρ, μ, M, e, m, q⟩ => join_read fs [] H μ M e m kh q
theorem se_join1 {v : Expr} {f : Ev} {pos : Pos} (h : SE X W v f) : SE X W (.JoinedStr [v] pos) f :=
  ⟨fun pins s σ H Q I ht => (pe_joined1 h).run pins s σ H Q I ht⟩
theorem se_fmt {e : Expr} {f : Ev} {pos : Pos} (h : SE X W e f) : SE X W (.FormattedValue e (-1) none pos) (eFmt f) :=
  pe_sd (pe_fmt h) fun σ H Q kh ⟨ξ, ρ, μ, M, en, m, q⟩ => tg.of en m ((Post.bind (R := RepU X.K ξ) q).mono fun x H1 ⟨u, M1, μ1, n1, m1, kh1, r1, q1⟩ => by
    split at q1
    · split at q1
      · rename_i hl
        cases r1 with | dat r1 => cases r1; exact .inl ⟨_, rfl, by rw [mkS_len, sizeLine_eq]; exact hl, fun kh => q1.here m1 kh (.dat (.str _))⟩
      · exact q1.elim
    · rename_i i
      split at q1
      · rename_i hl
        cases r1 with | dat r1 =>
          cases r1
          refine .inr ⟨i, rfl, hl, fun kh => ?_⟩
          have := q1.here m1 kh (.dat (.str (txtI i)))
          unfold txtI at this
          rw [mkS_tlS] at this
          exact this
      · exact q1.elim
    · exact q1.elim)
end
end SD

set_option Elab.async false
set_option linter.all false
set_option maxRecDepth 100000
set_option maxHeartbeats 4000000
namespace SD
open PySem PySem.Spec PyProof.Rows L2

/-! ### zip, enumerate -/
def pairD (d e : D) : D := .tup [d, e]
def iZipD (f : Av) : Lv := fun ρ M => (f ρ M).bind fun us M1 => match us with
  | [.dat (.lst ds), .dat (.lst es)] => .ok (List.zipWith pairD ds es) M1
  | _ => .bad
theorem pair_rep {K : PySem.W.Frag} {ξ : List Addr} {H : Hp} {μ : List Addr} {M : Mem} {T : Addr} {x y : V} {d e : D} (m : RelM K ξ H μ M) (hT : H T = none) (r : Rep K ξ H μ x d) (q : Rep K ξ H μ y e) :
    Nxt K H μ (upd H T (.tup [x, y])) μ ∧ RelM K ξ (upd H T (.tup [x, y])) μ M ∧ Rep K ξ (upd H T (.tup [x, y])) μ (.ref T) (pairD d e) :=
  ⟨Nxt.laid hT, m.laid hT, .tup (m.new hT) (.inl upd_same) (.cons (r.next (Nxt.laid hT)) (.cons (q.next (Nxt.laid hT)) .nil))⟩
theorem wk_zip {K : PySem.W.Frag} {a b : Addr} {xs ys : List V} {ds es : List D} (h1 : xs.length = ds.length) (h2 : ys.length = es.length) : WkD K (Itz K a b) (List.zipWith pairD ds es) (fun ξ H μ => (StL K ξ H μ a xs ∧ RepL K ξ H μ xs ds) ∧ StL K ξ H μ b ys ∧ RepL K ξ H μ ys es) := by
  have hl : (List.zipWith pairD ds es).length = min xs.length ys.length := by rw [List.length_zipWith, h1, h2]
  refine ⟨⟨_, _, hl ▸ walk_zip (xs := xs) (ys := ys) rfl, fun ξ H μ h => ⟨h.1.1.sq, h.2.1.sq⟩, fun ξ i H μ x H' M hi h m y => ?_⟩, fun ξ H μ H' μ' h n => ⟨⟨h.1.1.next n, RepL.nextW n h.1.2⟩, h.2.1.next n, RepL.nextW n h.2.2⟩, fun ξ H μ p hp h => ⟨⟨h.1.1.more hp, h.1.2.more hp⟩, h.2.1.more hp, h.2.2.more hp⟩⟩
  obtain ⟨T, v, w, rfl, hT, rfl, e1, e2⟩ := y
  simp only at e1 e2
  rw [hl] at hi
  have i1 : i < ds.length := by omega
  have i2 : i < es.length := by omega
  obtain ⟨v', g1, r1⟩ := h.1.2.get (List.getElem?_eq_getElem i1)
  obtain ⟨w', g2, r2⟩ := h.2.2.get (List.getElem?_eq_getElem i2)
  rw [e1] at g1; cases g1
  rw [e2] at g2; cases g2
  obtain ⟨n, m', r⟩ := pair_rep m hT r1 r2
  exact ⟨n, m', _, by rw [List.getElem?_zipWith, List.getElem?_eq_getElem i1, List.getElem?_eq_getElem i2], r⟩
def enumD (ds : List D) : List D := List.zipWith (fun (i : Nat) d => pairD (.int i) d) (List.range ds.length) ds
def iEnumD (f : Av) : Lv := fun ρ M => (f ρ M).bind fun us M1 => match us with
  | [.dat (.lst ds)] => .ok (enumD ds) M1
  | _ => .bad
theorem enum_len (ds : List D) : (enumD ds).length = ds.length := by unfold enumD; rw [List.length_zipWith, List.length_range, Nat.min_self]
theorem wk_enum {K : PySem.W.Frag} {a : Addr} {xs : List V} {ds : List D} (h1 : xs.length = ds.length) : WkD K (Ite K a) (enumD ds) (fun ξ H μ => StL K ξ H μ a xs ∧ RepL K ξ H μ xs ds) := by
  have hl : (enumD ds).length = xs.length := by rw [enum_len, h1]
  refine ⟨⟨_, _, hl ▸ walk_enum (xs := xs), fun ξ H μ h => h.1.sq, fun ξ i H μ x H' M hi h m y => ?_⟩, fun ξ H μ H' μ' h n => ⟨h.1.next n, RepL.nextW n h.2⟩, fun ξ H μ p hp h => ⟨h.1.more hp, h.2.more hp⟩⟩
  obtain ⟨T, v, w, rfl, hT, rfl, e1, e2⟩ := y
  simp only at e1 e2
  rw [hl, h1] at hi
  obtain ⟨w', g2, r2⟩ := h.2.get (List.getElem?_eq_getElem hi)
  rw [e2] at g2; cases g2
  cases e1
  obtain ⟨n, m', r⟩ := pair_rep m hT (.int (i : Nat)) r2
  refine ⟨n, m', _, ?_, r⟩
  unfold enumD
  rw [List.getElem?_zipWith, List.getElem?_eq_getElem hi, List.getElem?_range hi]
section
variable {X : Cx} {W : WX}
theorem i_zip {e e2 : Expr} {f : Av} {p pos tpos : Pos} {elts : List Expr} {kk : Nat} (hm : X.mg "zip" = none) (ha : SA X W [e, e2] f) (hg : Gl X "zip" := by rfl)
    (hs : starEach [e, e2] X.env = (false, eval e X.env) :: starEach [e2] X.env := by rfl) (hpl : (backTo pos (starEach [e2] X.env)).any (·.1) = false := by rfl) : SI X W (.Tuple elts kk tpos) (.Call (.Name "zip" p) [e, e2] [] pos) (iZipD f) :=
  pi_sd (pi_zip hg hm ha hs hpl) fun σ H R kh ⟨ξ, ρ, μ, M, en, m, q⟩ => tg.of en m ((Post.bind (R := RepUs X.K ξ) q).mono fun xs H1 ⟨us, M1, μ1, n1, m1, kh1, r1, q1⟩ => by
    split at q1
    · cases r1 with
      | cons ra r1 => cases r1 with
        | cons rb r1 =>
          cases r1
          cases ra with | dat ra => cases rb with | dat rb =>
          cases ra with | lst h1 e1 t1 => cases rb with | lst h2 e2 t2 =>
          exact ⟨_, _, _, _, rfl, SqL.of e1, SqL.of e2, fun kh' => q1 _ H1 μ1 .refl m1 kh' ⟨_, wk_zip t1.length t2.length, ⟨.inl ⟨h1, .inl e1⟩, t1⟩, .inl ⟨h2, .inl e2⟩, t2⟩⟩
    · exact q1.elim)
theorem i_enum {e : Expr} {f : Av} {p pos tpos : Pos} {elts : List Expr} {kk : Nat} (hm : X.mg "enumerate" = none) (ha : SA X W [e] f) (hg : Gl X "enumerate" := by rfl)
    (hs : starEach [e] X.env = [(false, eval e X.env)] := by rfl) : SI X W (.Tuple elts kk tpos) (.Call (.Name "enumerate" p) [e] [] pos) (iEnumD f) :=
  pi_sd (pi_enum hg hm ha hs) fun σ H R kh ⟨ξ, ρ, μ, M, en, m, q⟩ => tg.of en m ((Post.bind (R := RepUs X.K ξ) q).mono fun xs H1 ⟨us, M1, μ1, n1, m1, kh1, r1, q1⟩ => by
    split at q1
    · cases r1 with
      | cons ra r1 =>
        cases r1
        cases ra with | dat ra => cases ra with | lst h1 e1 t1 =>
        exact ⟨_, _, rfl, SqL.of e1, fun kh' => q1 _ H1 μ1 .refl m1 kh' ⟨_, wk_enum t1.length, .inl ⟨h1, .inl e1⟩, t1⟩⟩
    · exact q1.elim)
end
end SD

set_option Elab.async false
set_option linter.all false
set_option maxRecDepth 100000
set_option maxHeartbeats 4000000
namespace SD
open PySem PySem.Spec PyProof.Rows L2

/-! ### no evaluator makes an old cell tell of a new one -/
section
variable {α β : Type} {M : Mem}
theorem FlO.from {M0 : Mem} {o : Out α} (h : FlO M o) (f : Fl M0 M) : FlO M0 o := by
  cases o with
  | ok a M' => exact f.trans h
  | exc c fs M' => exact f.trans h
  | bad => exact trivial
theorem FlS.from {M0 : Mem} {o : SOut} (h : FlS M o) (f : Fl M0 M) : FlS M0 o := by
  cases o with
  | nx ρ M' => exact f.trans h
  | rt u M' => exact f.trans h
  | bk ρ M' => exact f.trans h
  | ct ρ M' => exact f.trans h
  | exc c fs ρ M' => exact f.trans h
  | bad => exact trivial
theorem FlO.bind {o : Out α} {k : α → Mem → Out β} (h : FlO M o) (hk : ∀ a M1, FlO M1 (k a M1)) : FlO M (o.bind k) := by
  cases o with
  | ok a M' => exact (hk a M').from h
  | exc c fs M' => exact h
  | bad => exact trivial
theorem FlO.ite {p : Prop} [Decidable p] {a b : Out α} (h1 : FlO M a) (h2 : FlO M b) : FlO M (if p then a else b) := by split <;> assumption
theorem FlS.ofE {ρ : En} {o : Out α} {k : α → Mem → SOut} (h : FlO M o) (hk : ∀ a M1, FlS M1 (k a M1)) : FlS M (SOut.ofE ρ o k) := by
  cases o with
  | ok a M' => exact (hk a M').from h
  | exc c fs M' => exact h
  | bad => exact trivial
end
class FP2 (p : P2) : Prop where
  h : ∀ u w M, FlO M (p u w M)
class FPf (p : Pf) : Prop where
  h : ∀ us M, FlO M (p us M)
class FPm (p : Pm) : Prop where
  h : ∀ u us M, FlO M (p u us M)
class FHd (hs : List Hd) : Prop where
  h : ∀ x ∈ hs, ∀ a dd, FS (x.run a dd)
class FJ (fs : List Ev) : Prop where
  h : ∀ f ∈ fs, FE f
class FPr (fs : List (Ev × Ev)) : Prop where
  h : ∀ f ∈ fs, FE f.1 ∧ FE f.2
section
variable {M : Mem}
theorem fl_newL {c : Bool} {ds : List D} : FlO M (newL c ds M) := by unfold newL; cases c <;> first | exact Fl.refl | exact Fl.app
theorem fl_newD {c : Bool} {ds : List (Key × D)} : FlO M (newD c ds M) := by unfold newD; cases c <;> first | exact Fl.refl | exact Fl.app
end
section
variable {p p' : P2} {f g h : Ev} {a b c : Tv} {q r : Av} {s t : Sv} {l : Lv} {lo hi : Pv} {pf : Pf} {pm : Pm} {F : Fn}
instance {i : Nat} : FE (eVar i) := ⟨fun ρ M => by unfold eVar; (repeat' (first | exact trivial | exact Fl.refl | exact Fl.app | exact fl_newL | exact fl_newD | exact Fl.set rfl | split))⟩
instance {d : D} : FE (eC d) := ⟨fun ρ M => by unfold eC; (repeat' (first | exact trivial | exact Fl.refl | exact Fl.app | exact fl_newL | exact fl_newD | exact Fl.set rfl | split))⟩
instance {g : D → D → Option D} : FP2 (lift2 g) := ⟨fun u w M => by unfold lift2; (repeat' (first | exact trivial | exact Fl.refl | exact Fl.app | exact fl_newL | exact fl_newD | exact Fl.set rfl | split))⟩
instance {c : Bool} : FP2 (pAdd c) := ⟨fun u w M => by unfold pAdd lift2; (repeat' (first | exact trivial | exact Fl.refl | exact Fl.app | exact fl_newL | exact fl_newD | exact Fl.set rfl | split))⟩
instance [i0 : FP2 p] [i1 : FE f] [i2 : FE g] : FE (e2 p f g) := ⟨fun ρ M => FlO.bind (i1.h _ _) fun u M1 => FlO.bind (i2.h _ _) fun w M2 => i0.h _ _ _⟩
instance [i : FE f] : FE (tOf f) := ⟨fun ρ M => FlO.bind (i.h _ _) fun u M1 => by (repeat' (first | exact trivial | exact Fl.refl | exact Fl.app | exact fl_newL | exact fl_newD | exact Fl.set rfl | split))⟩
instance [i : FE a] : FE (bNot a) := ⟨fun ρ M => FlO.bind (i.h _ _) fun u M1 => Fl.refl⟩
instance [i : FE a] [j : FE b] : FE (bAnd a b) := ⟨fun ρ M => FlO.bind (i.h _ _) fun u M1 => FlO.ite (j.h _ _) Fl.refl⟩
instance [i : FE a] [j : FE b] : FE (bOr a b) := ⟨fun ρ M => FlO.bind (i.h _ _) fun u M1 => FlO.ite Fl.refl (j.h _ _)⟩
instance [i : FE a] [j : FE f] [k : FE g] : FE (eIf a f g) := ⟨fun ρ M => FlO.bind (i.h _ _) fun u M1 => FlO.ite (j.h _ _) (k.h _ _)⟩
instance [i : FE a] : FE (eB a) := ⟨fun ρ M => FlO.bind (i.h _ _) fun u M1 => Fl.refl⟩
instance [i : FE f] [j : FE g] : FE (vAnd f g) := ⟨fun ρ M => FlO.bind (FE.h (f := tOf f) _ _) fun u M1 => FlO.ite (j.h _ _) Fl.refl⟩
instance [i : FE f] [j : FE g] : FE (vOr f g) := ⟨fun ρ M => FlO.bind (FE.h (f := tOf f) _ _) fun u M1 => FlO.ite Fl.refl (j.h _ _)⟩
instance : FE aNil := ⟨fun ρ M => Fl.refl⟩
instance [i : FE f] [j : FE q] : FE (aCons f q) := ⟨fun ρ M => FlO.bind (i.h _ _) fun u M1 => FlO.bind (j.h _ _) fun us M2 => Fl.refl⟩
instance {c : Bool} [i : FE q] : FE (eLst c q) := ⟨fun ρ M => FlO.bind (i.h _ _) fun u M1 => by (repeat' (first | exact trivial | exact Fl.refl | exact Fl.app | exact fl_newL | exact fl_newD | exact Fl.set rfl | split))⟩
instance [i : FE q] : FE (eTup q) := ⟨fun ρ M => FlO.bind (i.h _ _) fun u M1 => by (repeat' (first | exact trivial | exact Fl.refl | exact Fl.app | exact fl_newL | exact fl_newD | exact Fl.set rfl | split))⟩
instance : FE pNone := ⟨fun ρ M => Fl.refl⟩
instance [i : FE f] : FE (pSome f) := ⟨fun ρ M => FlO.bind (i.h _ _) fun u M1 => by (repeat' (first | exact trivial | exact Fl.refl | exact Fl.app | exact fl_newL | exact fl_newD | exact Fl.set rfl | split))⟩
instance {c : Bool} [i : FE f] [j : FE lo] [k : FE hi] : FE (eSl c f lo hi) := ⟨fun ρ M => FlO.bind (i.h _ _) fun u M1 => FlO.bind (j.h _ _) fun l M2 => FlO.bind (k.h _ _) fun h M3 => by unfold pSl; (repeat' (first | exact trivial | exact Fl.refl | exact Fl.app | exact fl_newL | exact fl_newD | exact Fl.set rfl | split))⟩
instance [i : FPf pf] [j : FE q] : FE (eCall pf q) := ⟨fun ρ M => FlO.bind (j.h _ _) fun us M1 => i.h _ _⟩
instance {g : D → Option D} : FPf (pf1 g) := ⟨fun us M => by unfold pf1; (repeat' (first | exact trivial | exact Fl.refl | exact Fl.app | exact fl_newL | exact fl_newD | exact Fl.set rfl | split))⟩
instance {g : D → D → Option D} : FPf (pf2 g) := ⟨fun us M => by unfold pf2; (repeat' (first | exact trivial | exact Fl.refl | exact Fl.app | exact fl_newL | exact fl_newD | exact Fl.set rfl | split))⟩
instance {c : Bool} {g : D → Option (List D)} : FPf (pfL c g) := ⟨fun us M => by unfold pfL; (repeat' (first | exact trivial | exact Fl.refl | exact Fl.app | exact fl_newL | exact fl_newD | exact Fl.set rfl | split))⟩
instance {T : String} [i : FE f] : FE (eIsi T f) := ⟨fun ρ M => FlO.bind (i.h _ _) fun u M1 => by (repeat' (first | exact trivial | exact Fl.refl | exact Fl.app | exact fl_newL | exact fl_newD | exact Fl.set rfl | split))⟩
instance : FS sNil := ⟨fun ρ M => Fl.refl⟩
instance : FS sBrk := ⟨fun ρ M => Fl.refl⟩
instance : FS sCnt := ⟨fun ρ M => Fl.refl⟩
instance : FS sRetN := ⟨fun ρ M => Fl.refl⟩
instance [i : FS s] [j : FS t] : FS (sCons s t) := ⟨fun ρ M => by
  unfold sCons
  have h := i.h ρ M
  cases e : s ρ M <;> rw [e] at h <;> first | exact (j.h _ _).from h | exact h⟩
instance [i : FE f] : FS (sRet f) := ⟨fun ρ M => FlS.ofE (i.h _ _) fun u M1 => Fl.refl⟩
instance [i : FE f] : FS (sDrop f) := ⟨fun ρ M => FlS.ofE (i.h _ _) fun u M1 => Fl.refl⟩
instance [i : FE a] [j : FS s] [k : FS t] : FS (sIf a s t) := ⟨fun ρ M => FlS.ofE (i.h _ _) fun u M1 => by split <;> first | exact j.h _ _ | exact k.h _ _⟩
instance {t : Tgt} [i : FE f] : FS (sAsg t f) := ⟨fun ρ M => FlS.ofE (i.h _ _) fun u M1 => by (repeat' (first | exact trivial | exact Fl.refl | exact Fl.app | exact fl_newL | exact fl_newD | exact Fl.set rfl | split))⟩
theorem fl_forL {t : Tgt} [i : FS s] : ∀ (ds : List D) (ρ : En) (M : Mem), FlS M (forL t s ds ρ M)
  | [], ρ, M => Fl.refl
  | d :: ds, ρ, M => by
    unfold forL
    split
    · exact trivial
    · rename_i ρ1 _
      have h := i.h ρ1 M
      cases e : s ρ1 M <;> rw [e] at h <;> first | exact (fl_forL ds _ _).from h | exact h
instance {t : Tgt} [i : FE l] [j : FS s] : FS (sFor t l s) := ⟨fun ρ M => FlS.ofE (i.h _ _) fun u M1 => fl_forL _ _ _⟩
instance [i : FE f] : FE (iVal f) := ⟨fun ρ M => FlO.bind (i.h _ _) fun u M1 => by (repeat' (first | exact trivial | exact Fl.refl | exact Fl.app | exact fl_newL | exact fl_newD | exact Fl.set rfl | split))⟩
instance [i : FE q] : FE (iRng1 q) := ⟨fun ρ M => FlO.bind (i.h _ _) fun u M1 => by (repeat' (first | exact trivial | exact Fl.refl | exact Fl.app | exact fl_newL | exact fl_newD | exact Fl.set rfl | split))⟩
instance [i : FE q] : FE (iRng2 q) := ⟨fun ρ M => FlO.bind (i.h _ _) fun u M1 => by (repeat' (first | exact trivial | exact Fl.refl | exact Fl.app | exact fl_newL | exact fl_newD | exact Fl.set rfl | split))⟩
instance [i : FE q] : FE (iZipD q) := ⟨fun ρ M => FlO.bind (i.h _ _) fun u M1 => by (repeat' (first | exact trivial | exact Fl.refl | exact Fl.app | exact fl_newL | exact fl_newD | exact Fl.set rfl | split))⟩
instance [i : FE q] : FE (iEnumD q) := ⟨fun ρ M => FlO.bind (i.h _ _) fun u M1 => by (repeat' (first | exact trivial | exact Fl.refl | exact Fl.app | exact fl_newL | exact fl_newD | exact Fl.set rfl | split))⟩
theorem fl_lcL {t : Tgt} [i : FE a] [j : FE f] {ρ : En} : ∀ (ds : List D) (M : Mem), FlO M (lcL t a f ρ ds M)
  | [], M => Fl.refl
  | d :: ds, M => by
    unfold lcL
    split
    · exact trivial
    · refine FlO.bind (i.h _ _) fun b M1 => FlO.ite (FlO.bind (j.h _ _) fun u M2 => ?_) (fl_lcL ds _)
      split
      · exact FlO.bind (fl_lcL ds _) fun r M3 => Fl.refl
      · exact trivial
theorem FlO.quiet {α : Type} {M : Mem} {o : Out α} (h : FlO M o) : FlO M o.quiet := by
  cases o with
  | ok a M' => exact h
  | exc c fs M' => exact trivial
  | bad => exact trivial
instance {c : Bool} {t : Tgt} {vs : List Nat} [i : FE l] [j : FE a] [k : FE f] : FE (eLc c l t a f vs) := ⟨fun ρ M => FlO.bind (i.h _ _) fun ds M1 => FlO.ite (FlO.bind (FlO.quiet (fl_lcL _ _)) fun es M2 => fl_newL) trivial⟩
instance : FE bYes := ⟨fun ρ M => Fl.refl⟩
instance {T : String} [i : FPm pm] [j : FE f] [k : FE q] : FE (eBm T pm f q) := ⟨fun ρ M => FlO.bind (j.h _ _) fun u M1 => FlO.ite (FlO.bind (k.h _ _) fun us M2 => i.h _ _ _) trivial⟩
instance : FPm mAppend := ⟨fun u us M => by unfold mAppend; (repeat' (first | exact trivial | exact Fl.refl | exact Fl.app | exact fl_newL | exact fl_newD | exact Fl.set rfl | split))⟩
instance : FPm mPopAt := ⟨fun u us M => by unfold mPopAt; (repeat' (first | exact trivial | exact Fl.refl | exact Fl.app | exact fl_newL | exact fl_newD | exact Fl.set rfl | split))⟩
instance : FPm mPop := ⟨fun u us M => by unfold mPop; (repeat' (first | exact trivial | exact Fl.refl | exact Fl.app | exact fl_newL | exact fl_newD | exact Fl.set rfl | split))⟩
instance : FPm mInsert := ⟨fun u us M => by unfold mInsert; (repeat' (first | exact trivial | exact Fl.refl | exact Fl.app | exact fl_newL | exact fl_newD | exact Fl.set rfl | split))⟩
instance : FPm mClear := ⟨fun u us M => by unfold mClear; (repeat' (first | exact trivial | exact Fl.refl | exact Fl.app | exact fl_newL | exact fl_newD | exact Fl.set rfl | split))⟩
instance : FPm mJoin := ⟨fun u us M => by unfold mJoin; (repeat' (first | exact trivial | exact Fl.refl | exact Fl.app | exact fl_newL | exact fl_newD | exact Fl.set rfl | split))⟩
instance {c : Bool} : FPm (mSplit c) := ⟨fun u us M => by unfold mSplit; (repeat' (first | exact trivial | exact Fl.refl | exact Fl.app | exact fl_newL | exact fl_newD | exact Fl.set rfl | split))⟩
instance : FPm mFind := ⟨fun u us M => by unfold mFind; (repeat' (first | exact trivial | exact Fl.refl | exact Fl.app | exact fl_newL | exact fl_newD | exact Fl.set rfl | split))⟩
instance : FPm mStarts := ⟨fun u us M => by unfold mStarts; (repeat' (first | exact trivial | exact Fl.refl | exact Fl.app | exact fl_newL | exact fl_newD | exact Fl.set rfl | split))⟩
instance {fo fi fe : Ev} [i : FE fo] [j : FE fi] [k : FE fe] : FS (sSetIx fo fi fe) := ⟨fun ρ M => FlS.ofE (k.h _ _) fun u M1 => FlS.ofE (i.h _ _) fun o M2 => FlS.ofE (j.h _ _) fun x M3 => by (repeat' (first | exact trivial | exact Fl.refl | exact Fl.app | exact fl_newL | exact fl_newD | exact Fl.set rfl | split))⟩
instance {n : Nat} {dus : List U} [i : FF F] [j : FE q] : FE (eFn n dus F q) := ⟨fun ρ M => FlO.bind (j.h _ _) fun us M1 => FlO.ite (i.h _ _) trivial⟩
instance {n m : Nat} {perm : List Nat} [i : FF F] [j : FE q] [k : FE r] : FE (eFnK n m perm F q r) := ⟨fun ρ M => FlO.bind (j.h _ _) fun us M1 => FlO.bind (k.h _ _) fun ws M2 => FlO.ite (i.h _ _) trivial⟩
instance : FPr [] := ⟨fun f h => by cases h⟩
instance {fs : List (Ev × Ev)} [i : FE f] [j : FE g] [k : FPr fs] : FPr ((f, g) :: fs) := ⟨fun x h => by
  rcases List.mem_cons.mp h with rfl | h
  · exact ⟨i, j⟩
  · exact k.h x h⟩
theorem fl_pairs : ∀ (fs : List (Ev × Ev)) (ρ : En) (M : Mem), (∀ f ∈ fs, FE f.1 ∧ FE f.2) → FlO M (pairsE fs ρ M)
  | [], ρ, M, _ => Fl.refl
  | (f, g) :: r, ρ, M, h => by
    unfold pairsE
    refine FlO.bind ((h _ List.mem_cons_self).1.h _ _) fun k M1 => FlO.bind ((h _ List.mem_cons_self).2.h _ _) fun v M2 => FlO.bind (fl_pairs r _ _ fun x hx => h x (List.mem_cons_of_mem _ hx)) fun kvs M3 => ?_
    (repeat' (first | exact trivial | exact Fl.refl | exact Fl.app | exact fl_newL | exact fl_newD | exact Fl.set rfl | split))
instance {c : Bool} {fs : List (Ev × Ev)} [k : FPr fs] : FE (eDisp c fs) := ⟨fun ρ M => FlO.bind (fl_pairs _ _ _ k.h) fun kvs M1 => FlO.ite fl_newD trivial⟩
instance {c : Bool} : FE (eDnew c) := ⟨fun ρ M => fl_newD⟩
instance [i0 : FP2 p] [i1 : FP2 p'] [i : FE f] [j : FE g] [k : FE h] : FE (eChain p p' f g h) := ⟨fun ρ M => FlO.bind (i.h _ _) fun u M1 => FlO.bind (j.h _ _) fun w M2 => FlO.bind (i0.h _ _ _) fun t M3 => by
  split
  · exact FlO.bind (k.h _ _) fun v M4 => i1.h _ _ _
  · exact Fl.refl
  · exact trivial⟩
instance [i : FE f] : FE (eFrz f) := ⟨fun ρ M => by
  unfold eFrz
  have h := i.h ρ M
  cases e : f ρ M with
  | ok u M1 =>
    rw [e] at h
    simp only [Out.bind]
    split
    · split
      · rename_i k hk
        split
        · rw [hk.1]; exact Fl.take h
        · exact trivial
      · exact trivial
    · exact h
  | exc c fs M1 => rw [e] at h; exact h
  | bad => exact trivial⟩
instance [i : FE f] : FE (eNeg f) := ⟨fun ρ M => FlO.bind (i.h _ _) fun u M1 => by (repeat' (first | exact trivial | exact Fl.refl | exact Fl.app | exact fl_newL | exact fl_newD | exact Fl.set rfl | split))⟩
instance {c x : Str} [i : FE f] : FS (sRaise1 c x f) := ⟨fun ρ M => FlS.ofE (i.h _ _) fun u M1 => by (repeat' (first | exact trivial | exact Fl.refl | exact Fl.app | exact fl_newL | exact fl_newD | exact Fl.set rfl | split))⟩
instance {c : Str} : FS (sRaise0 c) := ⟨fun ρ M => Fl.refl⟩
instance {a dd i : Nat} {x : Str} : FE (eFld a dd i x) := ⟨fun ρ M => by unfold eFld; (repeat' (first | exact trivial | exact Fl.refl | exact Fl.app | exact fl_newL | exact fl_newD | exact Fl.set rfl | split))⟩
instance {i j : Nat} [k : FE q] : FS (sPar i j q) := ⟨fun ρ M => FlS.ofE (k.h _ _) fun u M1 => by (repeat' (first | exact trivial | exact Fl.refl | exact Fl.app | exact fl_newL | exact fl_newD | exact Fl.set rfl | split))⟩
instance [i : FE f] : FE (eFmt f) := ⟨fun ρ M => FlO.bind (i.h _ _) fun u M1 => by (repeat' (first | exact trivial | exact Fl.refl | exact Fl.app | exact fl_newL | exact fl_newD | exact Fl.set rfl | split))⟩
instance : FJ [] := ⟨fun f h => by cases h⟩
instance {fs : List Ev} [i : FE f] [k : FJ fs] : FJ (f :: fs) := ⟨fun x h => by
  rcases List.mem_cons.mp h with rfl | h
  · exact i
  · exact k.h x h⟩
theorem fl_join : ∀ (fs : List Ev) (acc : Cs) (ρ : En) (M : Mem), (∀ f ∈ fs, FE f) → FlO M (joinE fs acc ρ M)
  | [], acc, ρ, M, _ => Fl.refl
  | f :: r, acc, ρ, M, h => by
    unfold joinE
    refine FlO.bind ((h _ List.mem_cons_self).h _ _) fun u M1 => ?_
    split
    · exact FlO.ite (fl_join r _ _ _ fun x hx => h x (List.mem_cons_of_mem _ hx)) trivial
    · exact trivial
instance {fs : List Ev} [k : FJ fs] : FE (eJoin fs) := ⟨fun ρ M => fl_join _ _ _ _ k.h⟩
instance : FHd [] := ⟨fun f h => by cases h⟩
instance {c : Str} {o : Option Nat} {run : Addr → Addr → Sv} {hs : List Hd} [i : ∀ a dd, FS (run a dd)] [k : FHd hs] : FHd (⟨c, o, run⟩ :: hs) := ⟨fun x h => by
  rcases List.mem_cons.mp h with rfl | h
  · exact i
  · exact k.h x h⟩
theorem fl_noExc {M : Mem} {o : SOut} (h : FlS M o) : FlS M (noExc o) := by cases o <;> first | exact h | exact trivial
theorem fl_unslot {M : Mem} {i : Nat} {o : SOut} (h : FlS M o) : FlS M (unslot i o) := by cases o <;> first | exact h | exact trivial
theorem fl_handle {own : List Str} : ∀ (hs : List Hd) (c : Str) (fs : List (Str × D)) (ρ : En) (M : Mem), (∀ x ∈ hs, ∀ a dd, FS (x.run a dd)) → FlS M (handle own hs c fs ρ M)
  | [], c, fs, ρ, M, _ => Fl.refl
  | x :: r, c, fs, ρ, M, h => by
    unfold handle
    split
    · unfold suite
      have hx := h x List.mem_cons_self
      split
      · exact fl_noExc ((hx 0 0).h _ _)
      · split
        · exact trivial
        · exact fl_unslot (fl_noExc ((hx 0 0).h _ _))
    · exact fl_handle r _ _ _ _ fun y hy => h y (List.mem_cons_of_mem _ hy)
    · exact trivial
instance {own : List Str} {hs : List Hd} [i : FS s] [k : FHd hs] : FS (sTry own s hs) := ⟨fun ρ M => by
  unfold sTry
  have h := i.h ρ M
  cases e : s ρ M <;> rw [e] at h <;> first | exact (fl_handle _ _ _ _ _ k.h).from h | exact h⟩
end
end SD

set_option Elab.async false
set_option linter.all false
set_option maxRecDepth 100000
set_option maxHeartbeats 4000000
namespace SD
open PySem PySem.SeqAt
open AutoSeq1 (wpAny_loadPart')
open MeetsSeq MeetsSeq2 MeetsSeq3

/-! ### x in a list or tuple, within one model -/
section
variable {P : Program} {w : World}
theorem inL_loop (l : Addr) (items : Array Value) (n : Nat) (dd : Option Addr) (sl : Array (Option Value)) (x : Value) (e : Nat → Bool) (k : Nat) :
    ∀ i : Nat, items.size - i = k → MeetsIn P w (Builtin.«list.__contains__.loop» ⟨[.ref l, x, rawInt i], []⟩)
      (fun A R s => s.heap.get? l = some { cls := .type "list", dict := dd, data := .seq items n, slots := sl } ∧ (∀ j (g1 : j < items.size), EqIn P w A.in1 s items[j] x (e j)) ∧ R (.ok (.ret (.bool (((List.range items.size).drop i).any e)))) s) := by
  induction k with
  | zero =>
    intro i hk A R s h
    obtain ⟨hp, g, d, tk, os⟩ := s; obtain ⟨hl, he, h⟩ := h
    wp_walk using wpAny_loadPart' hl
    have hi : items[((i : Nat) : Int).toNat]? = none := by simp; omega
    have hd : (List.range items.size).drop i = [] := by simp; omega
    rw [hd] at h
    rw [hi]
    wp_walk
    exact h
  | succ k ih =>
    intro i hk A R s h
    obtain ⟨hp, g, d, tk, os⟩ := s; obtain ⟨hl, he, h⟩ := h
    wp_walk using wpAny_loadPart' hl
    have hlt : i < items.size := by omega
    have hi : items[((i : Nat) : Int).toNat]? = some items[i] := by simp [hlt]
    have hd : (List.range items.size).drop i = i :: (List.range items.size).drop (i + 1) := by simp [List.drop_eq_getElem_cons, hlt]
    rw [hd, List.any_cons] at h
    rw [hi]
    refine wpAny_bind (he i hlt _ _ ?_)
    cases hb : e i with
    | true =>
      rw [hb] at h
      wp_walk
      exact h
    | false =>
      rw [hb] at h
      have hc : ((i : Int) + 1) = ((i + 1 : Nat) : Int) := by push_cast; rfl
      wp_walk
      rw [hc]
      exact ⟨plainId_quiet plain_contains_loop _, codeAny_builtin entry_contains_loop (by
        rw [Around.under_plainId plain_contains_loop _]
        exact ih (i + 1) (by omega) A R _ ⟨hl, he, by simpa using h⟩)⟩
theorem inL (l : Addr) (items : Array Value) (n : Nat) (dd : Option Addr) (sl : Array (Option Value)) (x : Value) (e : Nat → Bool) :
    MeetsIn P w (Builtin.«list.__contains__» ⟨[.ref l, x], []⟩)
      (fun A R s => s.heap.get? l = some { cls := .type "list", dict := dd, data := .seq items n, slots := sl } ∧ (∀ j (g1 : j < items.size), EqIn P w A.in1 s items[j] x (e j)) ∧ R (.ok (.ret (.bool ((List.range items.size).any e)))) s) := by
  intro A R s h
  obtain ⟨hp, g, d, tk, os⟩ := s; obtain ⟨hl, he, h⟩ := h
  wp_walk using wpAny_loadPart' hl
  exact ⟨plainId_quiet plain_contains_loop _, codeAny_builtin entry_contains_loop (by
    rw [Around.under_plainId plain_contains_loop _]
    exact inL_loop l items n dd sl x e _ 0 rfl A R _ ⟨hl, he, by simpa using h⟩)⟩
theorem inT (l : Addr) (items : Array Value) (n : Nat) (dd : Option Addr) (sl : Array (Option Value)) (x : Value) (e : Nat → Bool) :
    MeetsIn P w (Builtin.«tuple.__contains__» ⟨[.ref l, x], []⟩)
      (fun A R s => s.heap.get? l = some { cls := .type "tuple", dict := dd, data := .seq items n, slots := sl } ∧ (∀ j (g1 : j < items.size), EqIn P w A.in1 s items[j] x (e j)) ∧ R (.ok (.ret (.bool ((List.range items.size).any e)))) s) :=
  .of_wp fun A R s h => by
    obtain ⟨hp, g, d, tk, os⟩ := s; obtain ⟨hl, he, h⟩ := h
    wp_walk using wpAny_loadPart' hl, wpAny_forIn_array _ (fun rest b s' => b.1 = none ∧ s' = ⟨hp, g, d, tk, os⟩ ∧ ∃ i, rest = items.toList.drop i ∧ R (.ok (.ret (.bool (((List.range items.size).drop i).any e)))) ⟨hp, g, d, tk, os⟩) _
    case turn =>
      rintro y rest b s' ⟨hb, rfl, i, zr, hR⟩
      have li : i < items.toList.length := by
        rcases Nat.lt_or_ge i items.toList.length with z | z
        · exact z
        · rw [List.drop_of_length_le z] at zr; cases zr
      have k1 : i < items.size := by simpa using li
      rw [List.drop_eq_getElem_cons li] at zr
      injection zr with zy zrest
      have ey : y = items[i] := by simpa using zy
      subst ey
      have hd : (List.range items.size).drop i = i :: (List.range items.size).drop (i + 1) := by simp [List.drop_eq_getElem_cons, k1]
      rw [hd, List.any_cons] at hR
      refine wpAny_bind (he i k1 _ _ ?_)
      cases hy : e i with
      | true =>
        rw [hy] at hR
        wp_walk
        exact ⟨_, rfl, by simpa using hR⟩
      | false =>
        rw [hy] at hR
        wp_walk
        exact ⟨rfl, rfl, i + 1, zrest, by simpa using hR⟩
    case fin =>
      rintro ⟨b1, b2⟩ s' ⟨hb, rfl, i, zr, hR⟩
      simp only at hb
      subst hb
      have ge : items.size ≤ i := by
        rcases Nat.lt_or_ge i items.toList.length with z | z
        · rw [List.drop_eq_getElem_cons z] at zr; cases zr
        · simpa using z
      rw [List.drop_of_length_le (by simpa using ge)] at hR
      wp_walk
      exact ⟨_, rfl, by simpa using hR⟩
    case h => exact ⟨rfl, rfl, 0, rfl, by simpa using h⟩
variable {A : Around} {s : Shared} {E : Value → Shared → Prop}
theorem in_slotIn {T id : String} {B : Builtin} {c x : Value} {S : Spec} {Q : Value → Shared → Prop} (hT : s.TypeIs c T) (slot : Slot T "__contains__" id)
    (entry : entryFor table id = some B) (args : argsOk id ⟨[c, x], []⟩) (g : MeetsIn P w (B ⟨[c, x], []⟩) S)
    (h : S A (wants (fun v s' => ∃ b, v = .bool b ∧ Q (.bool b) s') E) s) : wpAny (model P w) A (compareOp .In x c) Q E s := by
  show wpAny _ A (do return .bool (← contains c x)) Q E s
  refine wpAny_bind (wpAny_contains_slot hT slot (wpAny_mono (call_meetsIn slot hT entry args g h) (fun v s' hv => ?_) fun _ _ e => e))
  obtain ⟨b, rfl, hq⟩ := hv
  exact wpAny_truthy_bool (wpAny_pure hq)
theorem notIn_slotIn {T id : String} {B : Builtin} {c x : Value} {S : Spec} {Q : Value → Shared → Prop} (hT : s.TypeIs c T) (slot : Slot T "__contains__" id)
    (entry : entryFor table id = some B) (args : argsOk id ⟨[c, x], []⟩) (g : MeetsIn P w (B ⟨[c, x], []⟩) S)
    (h : S A (wants (fun v s' => ∃ b, v = .bool b ∧ Q (.bool (!b)) s') E) s) : wpAny (model P w) A (compareOp .NotIn x c) Q E s := by
  show wpAny _ A (do return .bool (!(← contains c x))) Q E s
  refine wpAny_bind (wpAny_contains_slot hT slot (wpAny_mono (call_meetsIn slot hT entry args g h) (fun v s' hv => ?_) fun _ _ e => e))
  obtain ⟨b, rfl, hq⟩ := hv
  exact wpAny_truthy_bool (wpAny_pure hq)
variable {l : Addr} {items : Array Value} {x : Value} {e : Nat → Bool} {Q : Value → Shared → Prop}
theorem inL_ok (hl : s.heap.IsList l items) (he : ∀ j (g1 : j < items.size), EqIn P w A.in1 s items[j] x (e j)) (h : Q (.bool ((List.range items.size).any e)) s) : wpAny (model P w) A (compareOp .In x (.ref l)) Q E s := by
  obtain ⟨⟨cls, dd, data, sl⟩, ho, hc, n, hd⟩ := id hl
  simp only at hc hd
  subst hc hd
  exact in_slotIn ⟨_, ho, rfl⟩ F.slot_list_contains F.entry_list_contains (F.args_list_contains_2 _ _) (inL l items n dd sl x e) ⟨ho, he, _, rfl, h⟩
theorem notInL_ok (hl : s.heap.IsList l items) (he : ∀ j (g1 : j < items.size), EqIn P w A.in1 s items[j] x (e j)) (h : Q (.bool (!(List.range items.size).any e)) s) : wpAny (model P w) A (compareOp .NotIn x (.ref l)) Q E s := by
  obtain ⟨⟨cls, dd, data, sl⟩, ho, hc, n, hd⟩ := id hl
  simp only at hc hd
  subst hc hd
  exact notIn_slotIn ⟨_, ho, rfl⟩ F.slot_list_contains F.entry_list_contains (F.args_list_contains_2 _ _) (inL l items n dd sl x e) ⟨ho, he, _, rfl, h⟩
theorem inT_ok (hl : s.heap.IsTuple l items) (he : ∀ j (g1 : j < items.size), EqIn P w A.in1 s items[j] x (e j)) (h : Q (.bool ((List.range items.size).any e)) s) : wpAny (model P w) A (compareOp .In x (.ref l)) Q E s := by
  obtain ⟨⟨cls, dd, data, sl⟩, ho, hc, n, hd⟩ := id hl
  simp only at hc hd
  subst hc hd
  exact in_slotIn ⟨_, ho, rfl⟩ F.slot_tuple_contains F.entry_tuple_contains (F.args_tuple_contains_2 _ _) (inT l items n dd sl x e) ⟨ho, he, _, rfl, h⟩
theorem notInT_ok (hl : s.heap.IsTuple l items) (he : ∀ j (g1 : j < items.size), EqIn P w A.in1 s items[j] x (e j)) (h : Q (.bool (!(List.range items.size).any e)) s) : wpAny (model P w) A (compareOp .NotIn x (.ref l)) Q E s := by
  obtain ⟨⟨cls, dd, data, sl⟩, ho, hc, n, hd⟩ := id hl
  simp only at hc hd
  subst hc hd
  exact notIn_slotIn ⟨_, ho, rfl⟩ F.slot_tuple_contains F.entry_tuple_contains (F.args_tuple_contains_2 _ _) (inT l items n dd sl x e) ⟨ho, he, _, rfl, h⟩
end
end SD
namespace SD
open PySem PySem.Spec PyProof.Rows L2
/-- all answers known, one of them yes -/
def orAll : List (Option Bool) → Option Bool
  | [] => some false
  | o :: r => match o, orAll r with
    | some b, some c => some (b || c)
    | _, _ => none
theorem orAll_some : ∀ {l : List (Option Bool)} {b : Bool}, orAll l = some b → ∃ e : Nat → Bool, (∀ j o, l[j]? = some o → o = some (e j)) ∧ b = (List.range l.length).any e
  | [], b, h => by
    cases h
    exact ⟨fun _ => true, fun j o h => by simp at h, rfl⟩
  | o :: r, b, h => by
    unfold orAll at h
    split at h
    · rename_i b1 c hc
      cases h
      obtain ⟨e, h1, h2⟩ := orAll_some hc
      refine ⟨fun j => match j with | 0 => b1 | j + 1 => e j, fun j o h => ?_, ?_⟩
      · cases j with
        | zero => simp at h; exact h.symm
        | succ j => exact h1 j o (by simpa using h)
      · rw [h2, List.length_cons, List.range_succ_eq_map, List.any_cons, List.any_map]
        rfl
    · cases h
def memO (d : D) (ds : List D) : Option Bool := orAll (ds.map fun e => eqO eqN e d)
/-- d in a list or tuple of data of any depth -/
def inDD (neg : Bool) : D → D → Option D
  | d, .lst ds => (memO d ds).map fun b => .bl (neg != b)
  | d, .tup ds => (memO d ds).map fun b => .bl (neg != b)
  | .str s, .str t => some (.bl (neg != subS s t))
  | _, _ => none
def rInDD (K : PySem.W.Frag) (neg : Bool) : R2 := fun x y H Q => ∃ ξ μ d ds b, RepV K ξ H μ x d ∧ (RepV K ξ H μ y (.lst ds) ∨ RepV K ξ H μ y (.tup ds)) ∧ memO d ds = some b ∧ Q (.bl (neg != b)) H
section
variable {X : Cx}
theorem mem_items {pins : List (Addr × Obj)} {σ : L2.St} {H : Hp} {s : Shared} {ξ μ : List Addr} {A : Around} (I : Inv X pins σ H s) (hu : A.units + eqN < cLine) {d : D} {x : V} {v : Value} (r : RepV X.K ξ H μ x d) (rv : RelV x v) {e : Nat → Bool} {xs : List V} {ds : List D} {its : List Value} (t : RepL X.K ξ H μ xs ds) (vs : Vals xs its)
    (he : ∀ j o, (ds.map fun e => eqO eqN e d)[j]? = some o → o = some (e j)) : ∀ j (g1 : j < its.toArray.size), PySem.SeqAt.EqIn X.prog X.w A s its.toArray[j] v (e j) := by
  intro j g1
  have g : j < its.length := by simpa using g1
  have g2 : j < ds.length := by rw [← t.length, vs.length]; exact g
  have h1 : ds[j]? = some ds[j] := List.getElem?_eq_getElem g2
  obtain ⟨y, hy, ry⟩ := t.get h1
  obtain ⟨u, hu', ru⟩ := vals_get vs hy
  have q := he j (eqO eqN ds[j] d) (by rw [List.getElem?_map, h1]; rfl)
  have e1 : its.toArray[j] = u := by
    have : its[j]? = some its[j] := List.getElem?_eq_getElem g
    rw [hu'] at this; injection this with this
    simpa using this.symm
  rw [e1]
  exact (eq_data I eqN A hu ds[j] d (e j) y x u v q (.of ry) r ru rv).1
theorem op_inDD (hu : X.A.units + 64 < cLine) : OpR X (compareOp .In) (rInDD X.K false) := by
  intro pins s σ H x y v u Q I rx ry ⟨ξ, μ, d, ds, b, r1, r2, h, q⟩
  obtain ⟨e, he, hb⟩ := orAll_some h
  have hu1 : X.A.in1.units + eqN < cLine := by show X.A.units + 1 + eqN < cLine; unfold eqN; omega
  rw [List.length_map] at hb
  rcases r2 with r2 | r2
  · obtain ⟨a, xs, rfl, e1, t1⟩ := r2.lstv
    cases (show u = Value.ref a from ry)
    obtain ⟨its, v1, p1, _⟩ := I.list (SqL.of e1)
    refine inL_ok p1.isList (mem_items (A := X.A.in1) I hu1 r1 rx t1 v1 he) ⟨.bl _, H, I, rfl, ?_⟩
    rw [show its.toArray.size = ds.length by simp [← v1.length, t1.length], ← hb]
    simpa using q
  · obtain ⟨a, xs, rfl, _, e1, t1⟩ := r2.tup
    cases (show u = Value.ref a from ry)
    obtain ⟨its, v1, p1, _⟩ := I.tuple e1
    refine inT_ok (show s.heap.IsTuple a its.toArray from p1) (mem_items (A := X.A.in1) I hu1 r1 rx t1 v1 he) ⟨.bl _, H, I, rfl, ?_⟩
    rw [show its.toArray.size = ds.length by simp [← v1.length, t1.length], ← hb]
    simpa using q
theorem op_notInDD (hu : X.A.units + 64 < cLine) : OpR X (compareOp .NotIn) (rInDD X.K true) := by
  intro pins s σ H x y v u Q I rx ry ⟨ξ, μ, d, ds, b, r1, r2, h, q⟩
  obtain ⟨e, he, hb⟩ := orAll_some h
  have hu1 : X.A.in1.units + eqN < cLine := by show X.A.units + 1 + eqN < cLine; unfold eqN; omega
  rw [List.length_map] at hb
  rcases r2 with r2 | r2
  · obtain ⟨a, xs, rfl, e1, t1⟩ := r2.lstv
    cases (show u = Value.ref a from ry)
    obtain ⟨its, v1, p1, _⟩ := I.list (SqL.of e1)
    refine notInL_ok p1.isList (mem_items (A := X.A.in1) I hu1 r1 rx t1 v1 he) ⟨.bl _, H, I, rfl, ?_⟩
    rw [show its.toArray.size = ds.length by simp [← v1.length, t1.length], ← hb]
    simpa using q
  · obtain ⟨a, xs, rfl, _, e1, t1⟩ := r2.tup
    cases (show u = Value.ref a from ry)
    obtain ⟨its, v1, p1, _⟩ := I.tuple e1
    refine notInT_ok (show s.heap.IsTuple a its.toArray from p1) (mem_items (A := X.A.in1) I hu1 r1 rx t1 v1 he) ⟨.bl _, H, I, rfl, ?_⟩
    rw [show its.toArray.size = ds.length by simp [← v1.length, t1.length], ← hb]
    simpa using q
def rInB (K : PySem.W.Frag) (neg : Bool) : R2 := fun x y H Q => rInDD K neg x y H Q ∨ ∃ i j, x = .str i ∧ y = .str j ∧ Q (.bl (if neg then !(!(Builtin.Str.occurrences j i 0 j.length 1).isEmpty) else (!(Builtin.Str.occurrences j i 0 j.length 1).isEmpty))) H
theorem or_inB (hu : X.A.units + 64 < cLine) : OpR X (compareOp .In) (rInB X.K false) := (op_inDD hu).or op_in_str
theorem or_notInB (hu : X.A.units + 64 < cLine) : OpR X (compareOp .NotIn) (rInB X.K true) := (op_notInDD hu).or op_notin_str
theorem o_inDD {K : PySem.W.Frag} (neg : Bool) : Op2 K (lift2 (inDD neg)) (rInB K neg) := Op2.lift fun ξ mg W x y d e c σ H μ M Q m kh r1 r2 q p => by
  unfold inDD at q
  split at q
  · rename_i ds
    cases h : memO d ds with
    | none => rw [h] at q; cases q
    | some b => rw [h] at q; cases q; exact .inl ⟨ξ, μ, d, ds, b, r1, .inl r2, h, fun kh => p.here m kh (.dat (.bl _))⟩
  · rename_i ds
    cases h : memO d ds with
    | none => rw [h] at q; cases q
    | some b => rw [h] at q; cases q; exact .inl ⟨ξ, μ, d, ds, b, r1, .inr r2, h, fun kh => p.here m kh (.dat (.bl _))⟩
  · rename_i s t
    cases q
    cases r1.str
    cases r2.str
    refine .inr ⟨_, _, rfl, rfl, fun kh => ?_⟩
    have := p.here m kh (.dat (.bl _))
    unfold subS at this
    cases neg <;> simpa using this
  · cases q
end
end SD

set_option Elab.async false
set_option linter.all false
set_option maxRecDepth 100000
set_option maxHeartbeats 4000000
namespace SD
open PySem PySem.Spec PyProof.Rows L2

/-! ### two rules for one operator, by what it meets -/
abbrev SC (X : Cx) (W : WX) (op : CmpOp) (a b : Expr) (F : Ev) : Prop := PC X op a b (tE X.K X.mg W F)
theorem e2_split {K : PySem.W.Frag} {mg : Str → Option Value} {W : WX} {p p1 p2 : P2} {f g : Ev} (hp : ∀ u w M, p u w M = p1 u w M ∨ p u w M = p2 u w M) {σ : L2.St} {H : Hp} {Q : VK} (h : tE K mg W (e2 p f g) σ H Q) : tE K mg W (e2 p1 f g) σ H Q ∨ tE K mg W (e2 p2 f g) σ H Q := by
  obtain ⟨ξ, ρ, μ, M, e, m, q⟩ := h
  have : e2 p f g ρ M = e2 p1 f g ρ M ∨ e2 p f g ρ M = e2 p2 f g ρ M := by
    unfold e2
    cases f ρ M with
    | ok u M1 =>
      simp only [Out.bind]
      cases g ρ M1 with
      | ok w M2 => exact hp u w M2
      | exc => exact .inl rfl
      | bad => exact .inl rfl
    | exc => exact .inl rfl
    | bad => exact .inl rfl
  rcases this with z | z
  · exact .inl ⟨ξ, ρ, μ, M, e, m, z ▸ q⟩
  · exact .inr ⟨ξ, ρ, μ, M, e, m, z ▸ q⟩
section
variable {X : Cx} {W : WX} {a b e : Expr} {f g : Ev} {p p1 p2 : P2} {op : CmpOp} {pos : Pos} {F : Ev}
theorem se_alt (hp : ∀ u w M, p u w M = p1 u w M ∨ p u w M = p2 u w M) (h1 : SE X W e (e2 p1 f g)) (h2 : SE X W e (e2 p2 f g)) : SE X W e (e2 p f g) :=
  ⟨fun pins s σ H Q I h => (e2_split hp h).elim (h1.run pins s σ H Q I) (h2.run pins s σ H Q I)⟩
theorem sc_alt (hp : ∀ u w M, p u w M = p1 u w M ∨ p u w M = p2 u w M) (h1 : SC X W op a b (e2 p1 f g)) (h2 : SC X W op a b (e2 p2 f g)) : SC X W op a b (e2 p f g) :=
  ⟨fun pins s σ H Q I h => (e2_split hp h).elim (h1.run pins s σ H Q I) (h2.run pins s σ H Q I)⟩
theorem sc_op {r : R2} (ho : OpR X (compareOp op) r) (hp : Op2 X.K p r) (ha : SE X W a f) (hb : SE X W b g) : SC X W op a b (e2 p f g) := pc_sd ho hp ha hb
theorem se_sc (h : SC X W op a b F) (hm : behindInMarks op b = false := by first | exact nobehind _ (by decide) (by decide) | rfl) : SE X W (.Compare a [op] [b] pos) F := pe_cmp h hm
theorem st_sc (h : SC X W op a b F) (hm : behindInMarks op b = false := by first | exact nobehind _ (by decide) (by decide) | rfl) : ST X W (.Compare a [op] [b] pos) (tOf F) :=
  ⟨fun pins s σ H Q I hh => (pt_cmp h hm).run pins s σ H Q I (tg.tOf hh)⟩
end

/-! ### reading dicts -/
def keyD : D → Option Key
  | .int i => some (.inl i)
  | .str s => some (.inr (mkS s))
  | _ => none
theorem keyD_ok {K : PySem.W.Frag} {ξ : List Addr} {H : Hp} {μ : List Addr} {v : V} {d : D} {k : Key} (r : RepV K ξ H μ v d) (h : keyD d = some k) : v = kV k := by
  cases d with
  | int i => cases h; exact r.int
  | str s => cases h; exact r.str
  | _ => cases h
theorem RepK.val {K : PySem.W.Frag} {ξ : List Addr} {H : Hp} {μ : List Addr} {k : Key} : ∀ {xs : List (Key × V)} {ks : List (Key × D)}, RepK K ξ H μ xs ks → (valV xs k = none ∧ lookK ks k = none) ∨ ∃ v d, valV xs k = some v ∧ lookK ks k = some d ∧ Rep K ξ H μ v d
  | _, _, .nil => .inl ⟨rfl, rfl⟩
  | _, _, .cons (k := k0) (v := v0) (d := d0) r t => by
    by_cases e : k0 = k
    · exact .inr ⟨v0, d0, valV_pos e, by simp [lookK, List.find?_cons, e], r⟩
    · have e1 : ∀ (vs : List (Key × V)), valV ((k0, v0) :: vs) k = valV vs k := fun vs => by unfold valV; rw [List.find?_cons_of_neg (by simpa using e)]
      rw [e1, lookK_ne e]
      exact RepK.val t
def ixK : D → D → Option D
  | .dct kvs, k => (keyD k).bind (lookK kvs)
  | _, _ => none
/-- d[k], a list, a tuple, a text or a dict -/
def ixX (d e : D) : Option D := match d with
  | .dct _ => ixK d e
  | _ => ixD d e
def inK (neg : Bool) : D → D → Option D
  | k, .dct kvs => (keyD k).map fun key => .bl (neg != (lookK kvs key).isSome)
  | _, _ => none
def inX (neg : Bool) (d e : D) : Option D := match e with
  | .dct _ => inK neg d e
  | _ => inDD neg d e
theorem alt_ix : ∀ u w M, lift2 ixX u w M = lift2 ixK u w M ∨ lift2 ixX u w M = lift2 ixD u w M := fun u w M => by
  unfold lift2
  cases view u M with
  | none => exact .inl rfl
  | some d =>
    cases view w M with
    | none => exact .inl rfl
    | some e => cases d <;> first | exact .inl rfl | exact .inr rfl
theorem alt_in (neg : Bool) : ∀ u w M, lift2 (inX neg) u w M = lift2 (inK neg) u w M ∨ lift2 (inX neg) u w M = lift2 (inDD neg) u w M := fun u w M => by
  unfold lift2
  cases view u M with
  | none => exact .inl rfl
  | some d =>
    cases view w M with
    | none => exact .inl rfl
    | some e => cases e <;> first | exact .inl rfl | exact .inr rfl
section
variable {X : Cx} {W : WX} {a b c : Expr} {f g h : Ev} {pos apos cpos : Pos}
theorem se_ixK (hu : X.A.units + 64 < cLine) (ha : SE X W a f) (hb : SE X W b g) (hs : NoSl b := by exact fun _ _ => rfl) : SE X W (.Subscript a b pos) (e2 (lift2 ixK) f g) :=
  pe_sd (pe_dget (by omega) ha hb hs) fun σ H Q kh ⟨ξ, ρ, μ, M, e, m, q⟩ => tg.of e m ((Post.bind (R := RepU X.K ξ) q).mono fun x H1 ⟨u, M1, μ1, n1, m1, kh1, r1, q1⟩ =>
    tg.of (e.next n1) m1 ((Post.bind (R := RepU X.K ξ) q1).mono fun y H2 ⟨w, M2, μ2, n2, m2, kh2, r2, q2⟩ => by
      unfold lift2 at q2
      split at q2
      · rename_i d e1 hd he
        split at q2
        · rename_i c0 hc
          unfold ixK at hc
          split at hc
          · rename_i kvs
            cases hk : keyD e1 with
            | none => rw [hk] at hc; cases hc
            | some k =>
              rw [hk] at hc
              have hy := keyD_ok (r2.view m2 he) hk
              obtain ⟨p, xs, rfl, ex, t⟩ := ((r1.next n2).view m2 hd).dctv
              rcases t.val (k := k) with ⟨_, z⟩ | ⟨v, d', z1, z2, rv⟩
              · rw [show lookK kvs k = some c0 from hc] at z; cases z
              · rw [show lookK kvs k = some c0 from hc] at z2; cases z2
                refine ⟨p, v, rfl, ?_, fun kh' => ?_⟩
                · rw [hy, ← z1]; exact .inl ⟨xs, k, ex, rfl, rfl⟩
                · exact q2.here m2 kh' (.dat rv)
          · cases hc
        · exact q2.elim
      · exact q2.elim))
theorem pc_kh {op : CmpOp} {a b : Expr} {t t' : TE} (h : PC X op a b t) (hi : ∀ σ H Q, t' σ H Q → t σ H (fun v H' => KH X.K H' → Q v H')) : PC X op a b t' :=
  ⟨fun pins s σ H Q I ht => thn (h.run pins s σ H _ I (hi σ H Q ht)) fun v s1 h1 => thn h1 fun u s2 h2 => thn h2 fun c s3 ⟨z, H3, I3, r3, q3⟩ => ⟨z, H3, I3, r3, q3 (Inv.kh I3)⟩⟩
theorem sc_inK (neg : Bool) (hu : X.A.units + 64 < cLine) (ha : SE X W a f) (hb : SE X W b g) : SC X W (if neg then .NotIn else .In) a b (e2 (lift2 (inK neg)) f g) := by
  have key : ∀ {σ : L2.St} {H : Hp} {Q : VK}, tE X.K X.mg W (e2 (lift2 (inK neg)) f g) σ H Q → tE X.K X.mg W f σ H fun y H1 => tE X.K X.mg W g σ H1 fun x H2 => ∃ a o, x = V.ref a ∧ DGet H2 a y o ∧ (KH X.K H2 → Q (.bl (neg != o.isSome)) H2) := by
    intro σ H Q ⟨ξ, ρ, μ, M, e, m, q⟩
    refine tg.of e m ((Post.bind (R := RepU X.K ξ) q).mono fun x H1 ⟨u, M1, μ1, n1, m1, kh1, r1, q1⟩ => ?_)
    refine tg.of (e.next n1) m1 ((Post.bind (R := RepU X.K ξ) q1).mono fun y H2 ⟨w, M2, μ2, n2, m2, kh2, r2, q2⟩ => ?_)
    unfold lift2 at q2
    split at q2
    · rename_i d e1 hd he
      split at q2
      · rename_i c0 hc
        unfold inK at hc
        split at hc
        · rename_i kvs
          cases hk : keyD d with
          | none => rw [hk] at hc; cases hc
          | some k =>
            rw [hk] at hc
            cases hc
            have hy := keyD_ok ((r1.next n2).view m2 hd) hk
            obtain ⟨p, xs, rfl, ex, t⟩ := (r2.view m2 he).dctv
            refine ⟨p, valV xs k, rfl, .inl ⟨xs, k, ex, hy, rfl⟩, fun kh' => ?_⟩
            have es : (valV xs k).isSome = (lookK kvs k).isSome := by
              rcases t.val (k := k) with ⟨z1, z2⟩ | ⟨v, d', z1, z2, _⟩ <;> rw [z1, z2] <;> rfl
            rw [es]
            exact q2.here m2 kh' (.dat (.bl _))
        · cases hc
      · exact q2.elim
    · exact q2.elim
  cases neg with
  | false =>
    exact pc_kh (pc_din (by omega) ha hb) fun σ H Q h => by
      obtain ⟨ξ, ρ, μ, M, e, m, q⟩ := key h
      refine ⟨ξ, ρ, μ, M, e, m, q.mono fun y H1 ⟨ξ, ρ, μ, M, e, m, q⟩ => ⟨ξ, ρ, μ, M, e, m, q.mono fun x H2 ⟨a, o, h1, h2, h3⟩ => ⟨a, o, h1, h2, fun kh => ?_⟩⟩⟩
      have := h3 kh
      simpa using this
  | true =>
    exact pc_kh (pc_dnotin (by omega) ha hb) fun σ H Q h => by
      obtain ⟨ξ, ρ, μ, M, e, m, q⟩ := key h
      refine ⟨ξ, ρ, μ, M, e, m, q.mono fun y H1 ⟨ξ, ρ, μ, M, e, m, q⟩ => ⟨ξ, ρ, μ, M, e, m, q.mono fun x H2 ⟨a, o, h1, h2, h3⟩ => ⟨a, o, h1, h2, fun kh => ?_⟩⟩⟩
      have := h3 kh
      simpa using this
theorem se_ixX (hu : X.A.units + 64 < cLine) (ha : SE X W a f) (hb : SE X W b g) (hs : NoSl b := by exact fun _ _ => rfl) (hs2 : PlainIx b := by exact fun _ _ => rfl) : SE X W (.Subscript a b pos) (e2 (lift2 ixX) f g) :=
  se_alt alt_ix (se_ixK hu ha hb hs) (se_ix ha hb hs2)
theorem sc_inX (hu : X.A.units + 64 < cLine) (ha : SE X W a f) (hb : SE X W b g) : SC X W .In a b (e2 (lift2 (inX false)) f g) := sc_alt (alt_in false) (sc_inK false hu ha hb) (sc_op (or_inB hu) (o_inDD false) ha hb)
theorem sc_notInX (hu : X.A.units + 64 < cLine) (ha : SE X W a f) (hb : SE X W b g) : SC X W .NotIn a b (e2 (lift2 (inX true)) f g) := sc_alt (alt_in true) (sc_inK true hu ha hb) (sc_op (or_notInB hu) (o_inDD true) ha hb)
/-- d.get(k, x) -/
def dgetU (u k : U) (x : D) (M : Mem) : Out U := match view u M, k with
  | some (.dct kvs), .dat k => match keyD k with
    | some key => .ok (.dat ((lookK kvs key).getD x)) M
    | none => .bad
  | _, _ => .bad
def isDctU (u : U) (M : Mem) : Bool := match view u M with
  | some (.dct _) => true
  | _ => false
def eGet2 (f g h : Ev) : Ev := fun ρ M => (f ρ M).bind fun u M1 => if isDctU u M1 = true then (g ρ M1).bind fun k M2 => (h ρ M2).bind fun x M3 => match x with
  | .dat d => dgetU u k d M3
  | _ => .bad else .bad
def eGet1 (f g : Ev) : Ev := fun ρ M => (f ρ M).bind fun u M1 => if isDctU u M1 = true then (g ρ M1).bind fun k M2 => dgetU u k .non M2 else .bad
theorem isD_of {K : PySem.W.Frag} {ξ : List Addr} {H : Hp} {μ : List Addr} {M : Mem} {x : V} {u : U} (m : RelM K ξ H μ M) (r : RepU K ξ H μ x u) (h : isDctU u M = true) : ∃ a, x = .ref a ∧ IsD H a := by
  unfold isDctU at h
  split at h
  · rename_i hv
    obtain ⟨a, xs, rfl, ex, _⟩ := (r.view m hv).dctv
    exact ⟨a, rfl, .inl ⟨xs, ex⟩⟩
  · cases h
theorem dget_of {K : PySem.W.Frag} {ξ : List Addr} {mg : Str → Option Value} {σ : L2.St} {H : Hp} {μ : List Addr} {M : Mem} {x y z : V} {u k : U} {d : D} {Q : VK} (m : RelM K ξ H μ M) (r1 : RepU K ξ H μ x u) (r2 : RepU K ξ H μ y k) (r3 : Rep K ξ H μ z d) (q : Post K ξ mg W (RepU K ξ) σ H μ (dgetU u k d M) Q) :
    ∃ a o, x = .ref a ∧ DGet H a y o ∧ (KH K H → Q (o.getD z) H) := by
  unfold dgetU at q
  split at q
  · rename_i kvs k0 hv
    split at q
    · rename_i key hk
      cases r2 with | dat r2 =>
      have hy := keyD_ok (.of r2) hk
      obtain ⟨a, xs, rfl, ex, t⟩ := (r1.view m hv).dctv
      refine ⟨a, valV xs key, rfl, .inl ⟨xs, key, ex, hy, rfl⟩, fun kh => ?_⟩
      rcases t.val (k := key) with ⟨z1, z2⟩ | ⟨v, d', z1, z2, rv⟩
      · rw [z1]; rw [z2] at q; exact q.here m kh (.dat r3)
      · rw [z1]; rw [z2] at q; exact q.here m kh (.dat rv)
    · exact q.elim
  · exact q.elim
theorem se_get2 (hu : X.A.units + 64 < cLine) (ha : SE X W a f) (hb : SE X W b g) (hc : SE X W c h) (hm : M2 X a "get" apos b c cpos := by exact ⟨rfl, rfl, rfl, rfl⟩) : SE X W (.Call (.Attribute a "get" apos) [b, c] [] cpos) (eGet2 f g h) :=
  pe_sd (pe_dget2 (by omega) ha hb hc hm) fun σ H Q kh ⟨ξ, ρ, μ, M, e, m, q⟩ => tg.of e m ((Post.bind (R := RepU X.K ξ) q).mono fun x H1 ⟨u, M1, μ1, n1, m1, kh1, r1, q1⟩ => by
    split at q1
    · rename_i hd
      obtain ⟨a0, rfl, hD⟩ := isD_of m1 r1 hd
      refine ⟨a0, rfl, hD, tg.of (e.next n1) m1 ((Post.bind (R := RepU X.K ξ) q1).mono fun y H2 ⟨k, M2, μ2, n2, m2, kh2, r2, q2⟩ => tg.of ((e.next n1).next n2) m2 ((Post.bind (R := RepU X.K ξ) q2).mono fun z H3 ⟨x, M3, μ3, n3, m3, kh3, r3, q3⟩ => ?_))⟩
      split at q3
      · cases r3 with | dat r3 =>
        obtain ⟨a', o, e1, h1, h2⟩ := dget_of m3 ((r1.next n2).next n3) (r2.next n3) r3 q3
        cases e1
        exact ⟨o, h1, h2⟩
      · exact q3.elim
    · exact q1.elim)
theorem se_get1 (hu : X.A.units + 64 < cLine) (ha : SE X W a f) (hb : SE X W b g) (hm : M1 X a "get" apos b cpos := by exact ⟨rfl, rfl, rfl, rfl⟩) : SE X W (.Call (.Attribute a "get" apos) [b] [] cpos) (eGet1 f g) :=
  pe_sd (pe_dget1 (by omega) ha hb hm) fun σ H Q kh ⟨ξ, ρ, μ, M, e, m, q⟩ => tg.of e m ((Post.bind (R := RepU X.K ξ) q).mono fun x H1 ⟨u, M1, μ1, n1, m1, kh1, r1, q1⟩ => by
    split at q1
    · rename_i hd
      obtain ⟨a0, rfl, hD⟩ := isD_of m1 r1 hd
      refine ⟨a0, rfl, hD, tg.of (e.next n1) m1 ((Post.bind (R := RepU X.K ξ) q1).mono fun y H2 ⟨k, M2, μ2, n2, m2, kh2, r2, q2⟩ => ?_)⟩
      obtain ⟨a', o, e1, h1, h2⟩ := dget_of m2 (r1.next n2) r2 .non q2
      cases e1
      exact ⟨o, h1, h2⟩
    · exact q1.elim)
/-- d[k] = x, d a dict that is a cell -/
def sSetKey (fo fi fe : Ev) : Sv := fun ρ M => SOut.ofE ρ (fe ρ M) fun u M1 => SOut.ofE ρ (fo ρ M1) fun o M2 => SOut.ofE ρ (fi ρ M2) fun i M3 => match o, i, u with
  | .cell k, .dat di, .dat d => match M3[k]?, keyD di with
    | some (.dct kvs), some key => if kvs.length < 16777216 then .nx ρ (M3.set k (.dct (putD kvs key d))) else .bad
    | _, _ => .bad
  | _, _, _ => .bad
theorem RepU.cellD {K : PySem.W.Frag} {ξ : List Addr} {H : Hp} {μ : List Addr} {M : Mem} {x : V} {k : Nat} {ds : List (Key × D)} (m : RelM K ξ H μ M) (r : RepU K ξ H μ x (.cell k)) (h : M[k]? = some (.dct ds)) : ∃ a xs, x = .ref a ∧ μ[k]? = some a ∧ H a = some (.dK xs) ∧ RepK K ξ H μ xs ds := by
  cases r with
  | cell e => cases m.at_ k _ _ e h with
    | dct h1 t => exact ⟨_, _, rfl, e, h1, t⟩
theorem s_setKey {o i e : Expr} {fo fi fe : Ev} {pos p2 : Pos} (hu : X.A.units + 64 < cLine) (ho : SE X W o fo) (hi : SE X W i fi) (he : SE X W e fe)
    (ha : ∀ v, assign (.Subscript o i p2) X.env v = (do
      let ov ← holding [v] (eval o X.env)
      let iv ← holding [v, ov] (eval i X.env)
      standAt p2
      holding [v, ov, iv] (setItem ov iv v)
      release [v, ov, iv] []) := by intro _; rfl)
    (hs : swapsWithSole [.Subscript o i p2] e pos.line X.env = pure false := by rfl) (hw : swappedStores [.Subscript o i p2] e X.env = pure none := by rfl) (h1 : (assignEach [.Subscript o i p2] X.env).map (·.2) = [assign (.Subscript o i p2) X.env] := by rfl) :
    S1 X W (.Assign [.Subscript o i p2] e pos) (sSetKey fo fi fe) :=
  ps_sd (ps_asg he (pg_sub ho hi (set_dict (by omega)) ha) hs hw h1) fun E σ H kh ⟨ξ, ρ, μ, M, en, m, p⟩ => tg.of en m ((PostS.bindE (R := RepU X.K ξ) p en).mono fun v H1 ⟨u, M1, μ1, n1, m1, kh1, r1, q1⟩ =>
    tg.of (en.next n1) m1 ((PostS.bindE (R := RepU X.K ξ) q1 (en.next n1)).mono fun ov H2 ⟨uo, M2, μ2, n2, m2, kh2, r2, q2⟩ => tg.of ((en.next n1).next n2) m2 ((PostS.bindE (R := RepU X.K ξ) q2 ((en.next n1).next n2)).mono fun iv H3 ⟨ui, M3, μ3, n3, m3, kh3, r3, q3⟩ => by
      split at q3
      · rename_i k di d
        split at q3
        · rename_i kvs key hM hk
          split at q3
          · rename_i hl
            obtain ⟨a, ys, rfl, ea, h, t⟩ := (r2.next n3).cellD m3 hM
            cases r3 with | dat r3 =>
            cases (r1.next n2).next n3 with | dat rv =>
            have hy := keyD_ok (.of r3) hk
            refine ⟨a, _, rfl, by rw [hy]; exact DPut.k h (by rw [t.length, sizeLine_eq]; omega), fun kh' => ?_⟩
            have w : Nxt X.K H3 μ3 (upd H3 a (.dK (putK ys key v))) μ3 := Nxt.wr (List.mem_of_getElem? ea)
            exact q3 _ _ μ3 w ((((en.next n1).next n2).next n3).next w) (m3.wrO ea (.dct upd_same (RepK.next w (t.put rv)))) kh'
          · exact q3.elim
        · exact q3.elim
      · exact q3.elim)))
end
/-! ### walks over a dict -/
def keyV (k : Key) : D := match k with
  | .inl i => .int i
  | .inr s => .str (TL.tl s)
theorem keyV_rep {K : PySem.W.Frag} {ξ : List Addr} {H : Hp} {μ : List Addr} (k : Key) : Rep K ξ H μ (kV k) (keyV k) := by
  cases k with
  | inl i => exact .int i
  | inr s =>
    have := Rep.str (K := K) (ξ := ξ) (H := H) (μ := μ) (TL.tl s)
    rw [mkS_tlS] at this
    exact this
def keysD (kvs : List (Key × D)) : List D := kvs.map fun p => keyV p.1
def itemsD (kvs : List (Key × D)) : List D := kvs.map fun p => pairD (keyV p.1) p.2
def iKeysD (f : Ev) : Lv := fun ρ M => (f ρ M).bind fun u M1 => match u with
  | .dat (.dct kvs) => .ok (keysD kvs) M1
  | _ => .bad
def iItemsD (f : Ev) : Lv := fun ρ M => (f ρ M).bind fun u M1 => match u with
  | .dat (.dct kvs) => .ok (itemsD kvs) M1
  | _ => .bad
theorem RepK.get {K : PySem.W.Frag} {ξ : List Addr} {H : Hp} {μ : List Addr} : ∀ {xs : List (Key × V)} {ks : List (Key × D)} {i : Nat}, RepK K ξ H μ xs ks → (hi : i < xs.length) → ∃ k v d, xs[i]? = some (k, v) ∧ ks[i]? = some (k, d) ∧ Rep K ξ H μ v d
  | _, _, _, .nil, h => by simp at h
  | _, _, 0, .cons r _, _ => ⟨_, _, _, rfl, rfl, r⟩
  | _, _, i + 1, .cons _ t, h => by
    obtain ⟨k, v, d, h1, h2, h3⟩ := RepK.get (i := i) t (by simpa using h)
    exact ⟨k, v, d, by simpa using h1, by simpa using h2, h3⟩
theorem wk_keys {K : PySem.W.Frag} {a : Addr} {o : Obj} {xs : List (Key × V)} {ks : List (Key × D)} (h1 : xs.length = ks.length) : WkD K (Itk a o xs) (keysD ks) (fun ξ H μ => (a ∉ ξ ++ μ ∧ H a = some (.frz o (.dK xs))) ∧ RepK K ξ H μ xs ks) := by
  have hl : (keysD ks).length = xs.length := by unfold keysD; rw [List.length_map, h1]
  refine ⟨⟨_, _, hl ▸ walk_keys (kvs := xs), fun ξ H μ h => h.1.2, fun ξ i H μ x H' M hi h m y => ?_⟩, fun ξ H μ H' μ' h n => ⟨⟨(n.keep h.1.1 h.1.2).2, (n.keep h.1.1 h.1.2).1⟩, RepK.nextW n h.2⟩, fun ξ H μ p hp h => ⟨⟨nm_more h.1.1 (ne_of_none h.1.2 hp), h.1.2⟩, h.2.more hp⟩⟩
  obtain ⟨rfl, k, v, hk, rfl⟩ := y
  rw [hl] at hi
  obtain ⟨k', v', d, e1, e2, r⟩ := h.2.get hi
  rw [hk] at e1; cases e1
  refine ⟨.refl, m, keyV k, ?_, keyV_rep k⟩
  unfold keysD
  rw [List.getElem?_map, e2]; rfl
theorem wk_items {K : PySem.W.Frag} {a : Addr} {o : Obj} {xs : List (Key × V)} {ks : List (Key × D)} (h1 : xs.length = ks.length) : WkD K (Iti a o xs) (itemsD ks) (fun ξ H μ => (a ∉ ξ ++ μ ∧ H a = some (.frz o (.dK xs))) ∧ RepK K ξ H μ xs ks) := by
  have hl : (itemsD ks).length = xs.length := by unfold itemsD; rw [List.length_map, h1]
  refine ⟨⟨_, _, hl ▸ walk_items (kvs := xs), fun ξ H μ h => h.1.2, fun ξ i H μ x H' M hi h m y => ?_⟩, fun ξ H μ H' μ' h n => ⟨⟨(n.keep h.1.1 h.1.2).2, (n.keep h.1.1 h.1.2).1⟩, RepK.nextW n h.2⟩, fun ξ H μ p hp h => ⟨⟨nm_more h.1.1 (ne_of_none h.1.2 hp), h.1.2⟩, h.2.more hp⟩⟩
  obtain ⟨T, v, w, rfl, hT, rfl, e1, e2⟩ := y
  simp only at e1 e2
  rw [hl] at hi
  obtain ⟨k', v', d, g1, g2, r⟩ := h.2.get hi
  rw [g1] at e1 e2
  simp only [Option.map_some, Option.some.injEq] at e1 e2
  subst e1 e2
  obtain ⟨n, m', r'⟩ := pair_rep m hT (keyV_rep k') r
  refine ⟨n, m', _, ?_, r'⟩
  unfold itemsD
  rw [List.getElem?_map, g2]; rfl
section
variable {X : Cx} {W : WX} {e : Expr} {f : Ev} {apos cpos tpos : Pos}
theorem i_keys {tg' : Expr} (h : SE X W e f) : SI X W tg' e (iKeysD f) :=
  pi_sd (pi_keys h) fun σ H R kh ⟨ξ, ρ, μ, M, en, m, q⟩ => tg.of en m ((Post.bind (R := RepU X.K ξ) q).mono fun x H1 ⟨u, M1, μ1, n1, m1, kh1, r1, q1⟩ => by
    split at q1
    · cases r1 with | dat r1 => cases r1 with | dct h1 e1 t1 =>
      exact ⟨_, _, rfl, .inl ⟨_, e1, fun kh' => q1 _ H1 μ1 .refl m1 kh' ⟨_, wk_keys t1.length, ⟨h1, e1⟩, t1⟩⟩⟩
    · exact q1.elim)
theorem i_items {elts : List Expr} {kk : Nat} (h : SE X W e f) (hbase : attributeBase e "items" X.env (eval e X.env) = eval e X.env := by rfl) (hline : (apos.endLine == cpos.line) = true := by rfl) : SI X W (.Tuple elts kk tpos) (.Call (.Attribute e "items" apos) [] [] cpos) (iItemsD f) :=
  pi_sd (pi_items h hbase hline) fun σ H R kh ⟨ξ, ρ, μ, M, en, m, q⟩ => tg.of en m ((Post.bind (R := RepU X.K ξ) q).mono fun x H1 ⟨u, M1, μ1, n1, m1, kh1, r1, q1⟩ => by
    split at q1
    · cases r1 with | dat r1 => cases r1 with | dct h1 e1 t1 =>
      exact ⟨_, _, _, rfl, e1, fun kh' => q1 _ H1 μ1 .refl m1 kh' ⟨_, wk_items t1.length, ⟨h1, e1⟩, t1⟩⟩
    · exact q1.elim)
end
end SD

set_option Elab.async false
set_option linter.all false
set_option maxRecDepth 100000
set_option maxHeartbeats 4000000
namespace SD
open PySem PySem.Spec PyProof.Rows L2

instance {f g h : Ev} [i : FE f] [j : FE g] [k : FE h] : FE (eGet2 f g h) := ⟨fun ρ M => FlO.bind (i.h _ _) fun u M1 => FlO.ite (FlO.bind (j.h _ _) fun w M2 => FlO.bind (k.h _ _) fun x M3 => by unfold dgetU; (repeat' (first | exact trivial | exact Fl.refl | exact Fl.app | exact fl_newL | exact fl_newD | exact Fl.set rfl | split))) trivial⟩
instance {f g : Ev} [i : FE f] [j : FE g] : FE (eGet1 f g) := ⟨fun ρ M => FlO.bind (i.h _ _) fun u M1 => FlO.ite (FlO.bind (j.h _ _) fun w M2 => by unfold dgetU; (repeat' (first | exact trivial | exact Fl.refl | exact Fl.app | exact fl_newL | exact fl_newD | exact Fl.set rfl | split))) trivial⟩
instance {fo fi fe : Ev} [i : FE fo] [j : FE fi] [k : FE fe] : FS (sSetKey fo fi fe) := ⟨fun ρ M => FlS.ofE (k.h _ _) fun u M1 => FlS.ofE (i.h _ _) fun o M2 => FlS.ofE (j.h _ _) fun x M3 => by (repeat' (first | exact trivial | exact Fl.refl | exact Fl.app | exact fl_newL | exact fl_newD | exact Fl.set rfl | split))⟩
instance {f : Ev} [i : FE f] : FE (iKeysD f) := ⟨fun ρ M => FlO.bind (i.h _ _) fun u M1 => by (repeat' (first | exact trivial | exact Fl.refl | exact Fl.app | exact fl_newL | exact fl_newD | exact Fl.set rfl | split))⟩
instance {f : Ev} [i : FE f] : FE (iItemsD f) := ⟨fun ρ M => FlO.bind (i.h _ _) fun u M1 => by (repeat' (first | exact trivial | exact Fl.refl | exact Fl.app | exact fl_newL | exact fl_newD | exact Fl.set rfl | split))⟩

/-! ### constants of the module: tuples of texts, dicts of such -/
def strsB : List Value → List Cs → Bool
  | [], [] => true
  | .str x _ :: r, t :: ts => (x == mkS t) && strsB r ts
  | _, _ => false
def ktOf (K : PySem.W.Frag) (v : Value) (ts : List Cs) : Bool := match v with
  | .ref a => match K.lookup a with
    | some o => match o.cls, o.data with
      | .type s, .seq its n => s == "tuple" && (decide (its.size ≤ 16777216) && strsB its.toList ts)
      | _, _ => false
    | none => false
  | _ => false
theorem str_beq (x y : Str) : (x == y) = decide (x = y) := by
  by_cases z : x = y
  · subst z; simp
  · rw [decide_eq_false z]; simpa using z
theorem strsB_vals : ∀ {vs : List Value} {ts : List Cs}, strsB vs ts = true → Vals (ts.map fun t => V.str (mkS t)) vs
  | [], [], _ => .nil
  | [], _ :: _, h => by cases h
  | v :: r, [], h => by cases v <;> cases h
  | v :: r, t :: ts, h => by
    cases v with
    | str x k =>
      unfold strsB at h
      rw [Bool.and_eq_true, str_beq] at h
      exact .cons ⟨k, by rw [of_decide_eq_true h.1]⟩ (strsB_vals h.2)
    | _ => cases h
theorem repL_strsV {K : PySem.W.Frag} {ξ : List Addr} {H : Hp} {μ : List Addr} : ∀ ts : List Cs, RepL K ξ H μ (ts.map fun t => V.str (mkS t)) (ts.map D.str)
  | [] => .nil
  | t :: ts => .cons (.str t) (repL_strsV ts)
def tupS (ts : List Cs) : D := .tup (ts.map D.str)
theorem ktOf_rep {K : PySem.W.Frag} {v : Value} {ts : List Cs} (h : ktOf K v ts = true) : ∃ a, v = .ref a ∧ ∀ (ξ : List Addr) (H : Hp) (μ : List Addr), Rep K ξ H μ (.ref a) (tupS ts) := by
  unfold ktOf at h
  split at h
  · rename_i a
    split at h
    · rename_i o ho
      split at h
      · rename_i s its n hc hd
        rw [Bool.and_eq_true, Bool.and_eq_true] at h
        obtain ⟨h1, h2, h3⟩ := h
        have hs : s = "tuple" := by simpa using h1
        subst hs
        exact ⟨a, rfl, fun ξ H μ => .ktup (fun G => .inr ⟨o, its, n, ho, hc, hd, by rw [sizeLine_eq]; exact of_decide_eq_true h2, strsB_vals h3⟩) (repL_strsV ts)⟩
      · cases h
    · cases h
  · cases h
section
variable {X : Cx} {W : WX} {a : Expr} {f : Ev}
theorem se_gtup (ts : List Cs) {x : Str} {v : Value} {pos : Pos} (hm : X.mg x = some v) (hk : ktOf X.K v ts = true) (hg : Gl X x := by rfl) (hd : (x == ("__debug__" : Str)) = false := by decide) : SE X W (.Name x pos) (eC (tupS ts)) := by
  obtain ⟨a, rfl, r⟩ := ktOf_rep hk
  exact pe_sd (pe_glob (v := .ref a) hg hm rfl hd) fun σ H Q kh ⟨ξ, ρ, μ, M, e, m, p⟩ kh' => p.here m kh' (.dat (r ξ H μ))
abbrev Tab := List (Cs × List Cs)
def kdB (K : PySem.W.Frag) : List DictEntry → Tab → Bool
  | [], [] => true
  | e :: es, (z, ts) :: r => (match e.key with
      | .str x _ => x == mkS z
      | _ => false) && (ktOf K e.val ts && kdB K es r)
  | _, _ => false
def findT (kvs : Tab) (z : Cs) : Option (List Cs) := (kvs.find? fun p => p.1 == z).map (·.2)
theorem mkS_inj {s t : Cs} (h : mkS s = mkS t) : s = t := by simpa [mkS] using congrArg (fun x : Str => x.cps.toList) h
theorem kdB_find {K : PySem.W.Frag} (z : Cs) : ∀ {es : List DictEntry} {kvs : Tab}, kdB K es kvs = true → es.any (·.refKey) = false ∧
    match findT kvs z with
    | some ts => ∃ e, es.find? (·.key.isStr (mkS z)) = some e ∧ ktOf K e.val ts = true
    | none => es.find? (·.key.isStr (mkS z)) = none
  | [], [], _ => ⟨rfl, rfl⟩
  | [], _ :: _, h => by cases h
  | _ :: _, [], h => by cases h
  | e :: es, (z0, ts) :: r, h => by
    unfold kdB at h
    rw [Bool.and_eq_true, Bool.and_eq_true] at h
    obtain ⟨h1, h2, h3⟩ := h
    split at h1
    · rename_i x k hk
      rw [str_beq] at h1
      have hx : x = mkS z0 := of_decide_eq_true h1
      subst hx
      obtain ⟨i1, i2⟩ := kdB_find z h3
      have isS : e.key.isStr (mkS z) = (z0 == z) := by
        rw [PySem.W.isStr_of, hk]
        show (mkS z0 == mkS z) = _
        exact mkS_beq _ _
      refine ⟨by rw [List.any_cons, i1]; unfold DictEntry.refKey; rw [hk]; rfl, ?_⟩
      unfold findT at i2 ⊢
      rw [List.find?_cons, List.find?_cons, isS]
      cases hz : (z0 == z) with
      | true => exact ⟨e, rfl, h2⟩
      | false => exact i2
    · cases h1
/-- a dict of the module at d -/
structure KTab (K : PySem.W.Frag) (w : World) (d : Addr) (kvs : Tab) : Prop where
  ex : ∃ es n, KDict K w d es n ∧ kdB K es.toList kvs = true
theorem KTab.ns {K : PySem.W.Frag} {w : World} {d : Addr} {kvs : Tab} (T : KTab K w d kvs) (z : Cs) : match findT kvs z with
    | some ts => ∃ v, PySem.W.nsIn K d (mkS z) = some (some v) ∧ ktOf K v ts = true
    | none => PySem.W.nsIn K d (mkS z) = some none := by
  obtain ⟨es, n, D, hb⟩ := T.ex
  obtain ⟨h1, h2⟩ := kdB_find z hb
  have e : PySem.W.nsIn K d (mkS z) = match es.toList.find? (·.key.isStr (mkS z)) with
      | some e => some (some e.val)
      | none => if es.toList.any (·.refKey) then none else some none := by unfold PySem.W.nsIn; rw [D.at_]; rfl
  rw [e]
  split at h2
  · obtain ⟨e0, h3, h4⟩ := h2
    rw [h3]; exact ⟨_, rfl, h4⟩
  · rw [h2, h1]; rfl
def eKIn (kvs : Tab) (neg : Bool) (f : Ev) : Ev := fun ρ M => (f ρ M).bind fun u M1 => match u with
  | .dat (.str z) => .ok (.dat (.bl (neg != (findT kvs z).isSome))) M1
  | _ => .bad
def eKIx (kvs : Tab) (f : Ev) : Ev := fun ρ M => (f ρ M).bind fun u M1 => match u with
  | .dat (.str z) => match findT kvs z with
    | some ts => .ok (.dat (tupS ts)) M1
    | none => .bad
  | _ => .bad
instance {kvs : Tab} {neg : Bool} [i : FE f] : FE (eKIn kvs neg f) := ⟨fun ρ M => FlO.bind (i.h _ _) fun u M1 => by (repeat' (first | exact trivial | exact Fl.refl | exact Fl.app | exact fl_newL | exact fl_newD | exact Fl.set rfl | split))⟩
instance {kvs : Tab} [i : FE f] : FE (eKIx kvs f) := ⟨fun ρ M => FlO.bind (i.h _ _) fun u M1 => by (repeat' (first | exact trivial | exact Fl.refl | exact Fl.app | exact fl_newL | exact fl_newD | exact Fl.set rfl | split))⟩
theorem kin_read {kvs : Tab} {neg : Bool} {σ : L2.St} {H : Hp} {Q : VK} (h : tE X.K X.mg W (eKIn kvs neg f) σ H Q) : tE X.K X.mg W f σ H fun x H1 => ∃ z, x = .str (mkS z) ∧ (KH X.K H1 → Q (.bl (neg != (findT kvs z).isSome)) H1) := by
  obtain ⟨ξ, ρ, μ, M, e, m, q⟩ := h
  refine tg.of e m ((Post.bind (R := RepU X.K ξ) q).mono fun x H1 ⟨u, M1, μ1, n1, m1, kh1, r1, q1⟩ => ?_)
  split at q1
  · rename_i z
    cases r1 with | dat r1 =>
    cases r1
    exact ⟨z, rfl, fun kh => q1.here m1 kh (.dat (.bl _))⟩
  · exact q1.elim
theorem sc_kin {kvs : Tab} {d : Addr} {x : Str} {p : Pos} (T : KTab X.K X.w d kvs) (hm : X.mg x = some (.ref d)) (ha : SE X W a f) (hg : Gl X x := by rfl) (hd : (x == ("__debug__" : Str)) = false := by decide) : SC X W .In a (.Name x p) (eKIn kvs false f) := by
  refine ⟨fun pins s σ H Q I h => thn (ha.run pins s σ H _ I (kin_read h)) fun v s1 ⟨x0, H1, I1, r1, z, hz, q1⟩ => ?_⟩
  subst hz
  refine thn ((pe_glob (v := .ref d) hg hm rfl hd).run pins s1 σ H1 (fun y H2 => y = .ref d ∧ H2 = H1) I1 ⟨rfl, rfl⟩) fun u s2 ⟨y, H2, I2, r2, hy, hh⟩ => ?_
  subst hy hh
  obtain ⟨es, n, D, _⟩ := T.ex
  have ns := T.ns z
  refine op_in_kd D pins s2 σ H2 _ _ v u Q I2 r1 r2 ⟨mkS z, ?_⟩
  cases hf : findT kvs z with
  | some ts =>
    rw [hf] at ns
    obtain ⟨v0, h0, _⟩ := ns
    refine ⟨some v0, rfl, rfl, h0, ?_⟩
    have := q1 (Inv.kh I1)
    rw [hf] at this; simpa using this
  | none =>
    rw [hf] at ns
    refine ⟨none, rfl, rfl, ns, ?_⟩
    have := q1 (Inv.kh I1)
    rw [hf] at this; simpa using this
theorem sc_knotin {kvs : Tab} {d : Addr} {x : Str} {p : Pos} (T : KTab X.K X.w d kvs) (hm : X.mg x = some (.ref d)) (ha : SE X W a f) (hg : Gl X x := by rfl) (hd : (x == ("__debug__" : Str)) = false := by decide) : SC X W .NotIn a (.Name x p) (eKIn kvs true f) := by
  refine ⟨fun pins s σ H Q I h => thn (ha.run pins s σ H _ I (kin_read h)) fun v s1 ⟨x0, H1, I1, r1, z, hz, q1⟩ => ?_⟩
  subst hz
  refine thn ((pe_glob (v := .ref d) hg hm rfl hd).run pins s1 σ H1 (fun y H2 => y = .ref d ∧ H2 = H1) I1 ⟨rfl, rfl⟩) fun u s2 ⟨y, H2, I2, r2, hy, hh⟩ => ?_
  subst hy hh
  obtain ⟨es, n, D, _⟩ := T.ex
  have ns := T.ns z
  refine op_notIn_kd D pins s2 σ H2 _ _ v u Q I2 r1 r2 ⟨mkS z, ?_⟩
  cases hf : findT kvs z with
  | some ts =>
    rw [hf] at ns
    obtain ⟨v0, h0, _⟩ := ns
    refine ⟨some v0, rfl, rfl, h0, ?_⟩
    have := q1 (Inv.kh I1)
    rw [hf] at this; simpa using this
  | none =>
    rw [hf] at ns
    refine ⟨none, rfl, rfl, ns, ?_⟩
    have := q1 (Inv.kh I1)
    rw [hf] at this; simpa using this
theorem se_kix {kvs : Tab} {d : Addr} {x : Str} {p pos : Pos} (T : KTab X.K X.w d kvs) (hm : X.mg x = some (.ref d)) (ha : SE X W a f) (hg : Gl X x := by rfl) (hd : (x == ("__debug__" : Str)) = false := by decide) (hs : PlainIx a := by exact fun _ _ => rfl) : SE X W (.Subscript (.Name x p) a pos) (eKIx kvs f) :=
  pe_sd (pe_ix ix_kdict (pe_glob (v := .ref d) hg hm rfl hd) ha hs) fun σ H Q kh ⟨ξ, ρ, μ, M, e, m, q⟩ => tg.of e m ((Post.bind (R := RepU X.K ξ) q).mono fun y H1 ⟨u, M1, μ1, n1, m1, kh1, r1, q1⟩ => by
    split at q1
    · rename_i z
      split at q1
      · rename_i ts hf
        cases r1 with | dat r1 =>
        cases r1
        have ns := T.ns z
        rw [hf] at ns
        obtain ⟨v0, h0, h1⟩ := ns
        obtain ⟨b, rfl, r⟩ := ktOf_rep h1
        obtain ⟨es, n, D, _⟩ := T.ex
        exact ⟨d, mkS z, .ref b, rfl, rfl, ⟨es, n, _, D.at_, D.lit, h0, rfl⟩, fun kh => q1.here m1 kh (.dat (r ξ H1 μ1))⟩
      · exact q1.elim
    · exact q1.elim)
end
end SD

set_option Elab.async false
set_option linter.all false
set_option maxRecDepth 100000
set_option maxHeartbeats 4000000
namespace SD
open PySem PySem.Spec PyProof.Rows L2

/-! ### a, b, c = x, y, z -/
def sPar3 (i j l : Nat) (f : Av) : Sv := fun ρ M => SOut.ofE ρ (f ρ M) fun us M1 => match us with
  | [u, w, v] => .nx (((ρ.set i (some u)).set j (some w)).set l (some v)) M1
  | _ => .bad
instance {i j l : Nat} {q : Av} [k : FE q] : FS (sPar3 i j l q) := ⟨fun ρ M => FlS.ofE (k.h _ _) fun u M1 => by (repeat' (first | exact trivial | exact Fl.refl | exact Fl.app | exact fl_newL | exact fl_newD | exact Fl.set rfl | split))⟩
theorem s_par3 {X : Cx} {W : WX} (i j l : Nat) {x y z : Str} {a b c : Expr} {f : Av} {px py pz pt : Pos} {kt k2 pt2} {pos : Pos} (hc : X.calm = true) (hN : X.N.Nodup) (ha : SA X W [a, b, c] f) (hi : X.N[i]? = some x := by rfl) (hj : X.N[j]? = some y := by rfl) (hl : X.N[l]? = some z := by rfl)
    (hij : i ≠ j := by decide) (hil : i ≠ l := by decide) (hjl : j ≠ l := by decide) (hx : X.env.scope.names.lookup x = some .local := by rfl) (hy : X.env.scope.names.lookup y = some .local := by rfl) (hz : X.env.scope.names.lookup z = some .local := by rfl)
    (hw : swappedStores [.Tuple [.Name x px, .Name y py, .Name z pz] kt pt] (.Tuple [a, b, c] k2 pt2) X.env = pure (some [x, y, z]) := by rfl)
    (hs : swapsWithSole [.Tuple [.Name x px, .Name y py, .Name z pz] kt pt] (.Tuple [a, b, c] k2 pt2) pos.line X.env = pure false := by rfl) :
    S1 X W (.Assign [.Tuple [.Name x px, .Name y py, .Name z pz] kt pt] (.Tuple [a, b, c] k2 pt2) pos) (sPar3 i j l f) :=
  ps_sd (ps_par3 hc hN hi hj hl hij hil hjl hx hy hz ha hw hs) fun E σ H kh ⟨ξ, ρ, μ, M, e, m, p⟩ => tg.of e m ((PostS.bindE (R := RepUs X.K ξ) p e).mono fun vs H1 ⟨us, M1, μ1, n1, m1, kh1, r1, q1⟩ => by
    split at q1
    · cases r1 with
      | cons ra r1 => cases r1 with
        | cons rb r1 => cases r1 with
          | cons rc r1 =>
            cases r1
            exact ⟨_, _, _, rfl, fun kh' => q1.here ((((e.next n1).set i ra).set j rb).set l rc) m1 kh'⟩
    · exact q1.elim)
/-! ### a call without arguments -/
section
variable {X : Cx} {W : WX}
theorem se_fn0 {k n : Nat} {x : Str} {dus : List U} {F : Fn} {p pos : Pos} (C : Callable X.prog X.w X.K X.mg X.base k x n dus F) (hr : Room k X.A) (tk : Takes X W) (hg : Gl X x := by rfl)
    (hdb : (x == ("__debug__" : Str)) = false := by decide) : SE X W (.Call (.Name x p) [] [] pos) (eFn n dus F aNil) := by
  obtain ⟨f, fd, ps, ds, dvs, hm, hk, hb, hd, hdu, ok⟩ := C.ex
  have pe : PE X (.Call (.Name x p) [] [] pos) (tCallSD (spS X.K X.mg n F) dvs (WE W) tNil) := by
    refine ⟨fun pins s σ H Q I h => ?_⟩
    refine wpAny_Call_Name_kw (ld_glob I hg hm ?_ hdb)
    exact PySem.W.callWith_K0 I.kIn hk (run_fnSD (us := []) ok hr hb hd (passAt tk σ) I .nil h)
  refine pe_sd pe fun σ H Q kh ⟨ξ, ρ, μ, M, en, m, q⟩ => ?_
  unfold eFn at q
  simp only [aNil, Out.bind, List.nil_append] at q
  show spS X.K X.mg n F ([] ++ dvs) H _ _
  rw [List.nil_append]
  split at q
  · rename_i hl
    have rr := hdu ξ H μ
    refine ⟨rr.length.trans hl, ξ, _, μ, M, rr, m, ?_⟩
    cases hF : F dus M with
    | ok u M2 => rw [hF] at q; exact fun v H' μ' nn mm r kh' => q v H' μ' nn mm kh' r
    | exc c fs M2 => rw [hF] at q; exact q
    | bad => rw [hF] at q; exact q
  · exact q.elim
end
end SD

set_option Elab.async false
set_option linter.all false
set_option maxRecDepth 100000
set_option maxHeartbeats 4000000
namespace SD
open PySem PySem.Spec PyProof.Rows L2

/-! ### what a reckoning reaches (no program in sight) -/
abbrev XP := Str → List (Str × D) → Mem → Prop
abbrev XS := Str → List (Str × D) → En → Mem → Prop
/-- an exception of an expression, at the slots ρ -/
def xE (Y : XS) (ρ : En) : XP := fun c fs M => Y c fs ρ M
/-- so that a rewriting leaves alone what comes behind -/
inductive Tok {α : Type} (a : α) : Type where
  | mk
def Wp {α : Type} (o : Out α) (Q : α → Mem → Prop) (X : XP) (_ : Tok Q := .mk) (_ : Tok X := .mk) : Prop := match o with
  | .ok a M => Q a M
  | .exc c fs M => X c fs M
  | .bad => False
def WS (o : SOut) (nx : En → Mem → Prop) (rt : U → Mem → Prop) (bk ct : En → Mem → Prop) (X : XS) (_ : Tok nx := .mk) (_ : Tok rt := .mk) (_ : Tok bk := .mk) (_ : Tok ct := .mk) (_ : Tok X := .mk) : Prop := match o with
  | .nx ρ M => nx ρ M
  | .rt u M => rt u M
  | .bk ρ M => bk ρ M
  | .ct ρ M => ct ρ M
  | .exc c fs ρ M => X c fs ρ M
  | .bad => False
def WO {α : Type} (o : Option α) (k : α → Prop) (_ : Tok k := .mk) : Prop := match o with
  | some a => k a
  | none => False
def uB : U → Option Bool
  | .dat (.bl b) => some b
  | _ => none
def uI : U → Option Int
  | .dat (.int i) => some i
  | _ => none
def uI1 : List U → Option Int
  | [.dat (.int j)] => some j
  | _ => none
def uI2 : List U → Option (Int × Int)
  | [.dat (.int i), .dat (.int j)] => some (i, j)
  | _ => none
def uD : U → Option D
  | .dat d => some d
  | _ => none
def uSet : U → U → U → Option (Nat × Int × D)
  | .cell k, .dat (.int j), .dat d => some (k, j, d)
  | _, _, _ => none
def oL : Option O → Option (List D)
  | some (.lst ds) => some ds
  | _ => none
def x0 : XP := fun _ _ _ => False
theorem Wp.q {α : Type} {o : Out α} {Q Q' : α → Mem → Prop} {X : XP} (h : ∀ a M, Q a M = Q' a M) : Wp o Q X = Wp o Q' X := by
  have : Q = Q' := funext fun a => funext fun M => h a M
  subst this; rfl
theorem Wp.mono {α : Type} {o : Out α} {Q Q' : α → Mem → Prop} {X X' : XP} (h : Wp o Q X) (hq : ∀ a M, Q a M → Q' a M) (hx : ∀ c fs M, X c fs M → X' c fs M) : Wp o Q' X' := by
  cases o with
  | ok a M => exact hq a M h
  | exc c fs M => exact hx c fs M h
  | bad => exact h
theorem Wp.to {α : Type} {o : Out α} {Q Q' : α → Mem → Prop} {X : XP} (h : Wp o Q x0) (hq : ∀ a M, Q a M → Q' a M) : Wp o Q' X := h.mono hq fun _ _ _ h => h.elim
theorem Wp.ok {α : Type} {o : Out α} {Q : α → Mem → Prop} (h : Wp o Q x0) : ∃ a M, o = .ok a M ∧ Q a M := by
  cases o with
  | ok a M => exact ⟨a, M, rfl, h⟩
  | exc c fs M => exact h.elim
  | bad => exact h.elim
theorem WS.mono {o : SOut} {nx nx' : En → Mem → Prop} {rt rt' : U → Mem → Prop} {bk bk' ct ct' : En → Mem → Prop} {X X' : XS} (h : WS o nx rt bk ct X) (h1 : ∀ ρ M, nx ρ M → nx' ρ M) (h2 : ∀ u M, rt u M → rt' u M) (h3 : ∀ ρ M, bk ρ M → bk' ρ M) (h4 : ∀ ρ M, ct ρ M → ct' ρ M)
    (h5 : ∀ c fs ρ M, X c fs ρ M → X' c fs ρ M) : WS o nx' rt' bk' ct' X' := by
  cases o with
  | nx ρ M => exact h1 ρ M h
  | rt ρ M => exact h2 ρ M h
  | bk ρ M => exact h3 ρ M h
  | ct ρ M => exact h4 ρ M h
  | exc c fs ρ M => exact h5 c fs ρ M h
  | bad => exact h
section
variable {α β : Type} {Q : α → Mem → Prop} {Q' : U → Mem → Prop} {X : XP} {Y : XS} {ρ : En} {M : Mem} {nx bk ct : En → Mem → Prop} {rt : U → Mem → Prop}
theorem wp_ok {a : α} : Wp (.ok a M) Q X = Q a M := Eq.trans rfl rfl
theorem wp_bad : Wp (.bad : Out α) Q X = False := Eq.trans rfl rfl
theorem wp_exc {c : Str} {fs : List (Str × D)} : Wp (.exc c fs M : Out α) Q X = X c fs M := Eq.trans rfl rfl
theorem wp_bind {o : Out β} {k : β → Mem → Out α} : Wp (o.bind k) Q X = Wp o (fun a M => Wp (k a M) Q X) X := by cases o <;> rfl
theorem wp_ite {p : Prop} [Decidable p] {a b : Out α} : Wp (if p then a else b) Q X = if p then Wp a Q X else Wp b Q X := by split <;> rfl
theorem wo_some {a : β} {k : β → Prop} : WO (some a) k = k a := Eq.trans rfl rfl
theorem wo_none {k : β → Prop} : WO none k = False := Eq.trans rfl rfl
theorem wo_map {γ : Type} {o : Option γ} {f : γ → β} {k : β → Prop} : WO (o.map f) k = WO o fun a => k (f a) := by cases o <;> rfl
theorem wo_ite {p : Prop} [Decidable p] {o : Option β} {k : β → Prop} : WO (if p then o else none) k = (p ∧ WO o k) := by
  split
  · rename_i h; simp [h]
  · rename_i h; simp [h, WO]
/-! expressions -/
theorem wp_var {i : Nat} : Wp (eVar i ρ M) Q' X = WO (ρ[i]?.join) (fun u => Q' u M) := by
  unfold eVar
  cases ρ[i]? with
  | none => rfl
  | some o => cases o <;> rfl
theorem wp_c {d : D} : Wp (eC d ρ M) Q' X = Q' (.dat d) M := Eq.trans rfl rfl
theorem wp_e2 {p : P2} {f g : Ev} : Wp (e2 p f g ρ M) Q' X = Wp (f ρ M) (fun u M1 => Wp (g ρ M1) (fun w M2 => Wp (p u w M2) Q' X) X) X := by
  unfold e2; rw [wp_bind]; refine Wp.q fun u M1 => ?_; rw [wp_bind]
theorem wp_lift2 {g : D → D → Option D} {a b : D} : Wp (lift2 g (.dat a) (.dat b) M) Q' X = WO (g a b) (fun c => Q' (.dat c) M) := by
  unfold lift2 view; cases h : g a b <;> simp [h, Wp, WO]
theorem wp_lift2v {g : D → D → Option D} {u w : U} : Wp (lift2 g u w M) Q' X = WO (view u M) fun a => WO (view w M) fun b => WO (g a b) (fun c => Q' (.dat c) M) := by
  unfold lift2
  cases view u M with
  | none => rfl
  | some a =>
    cases view w M with
    | none => rfl
    | some b =>
      show Wp (match g a b with | some c => Out.ok (U.dat c) M | none => Out.bad) Q' X = WO (g a b) (fun c => Q' (.dat c) M)
      cases g a b <;> rfl
theorem wp_add {c : Bool} {a b : D} (h : ∀ ds es, ¬ (a = .lst ds ∧ b = .lst es)) : Wp (pAdd c (.dat a) (.dat b) M) Q' X = WO (addD a b) (fun d => Q' (.dat d) M) := by
  have e : pAdd c (.dat a) (.dat b) M = lift2 addD (.dat a) (.dat b) M := by
    unfold pAdd view
    split
    · rename_i ds es h1 h2
      cases h1; cases h2
      exact (h ds es ⟨rfl, rfl⟩).elim
    · rfl
  rw [e, wp_lift2]
theorem wp_addI {c : Bool} {i j : Int} : Wp (pAdd c (.dat (.int i)) (.dat (.int j)) M) Q' X = Q' (.dat (.int (i + j))) M := Eq.trans rfl rfl
theorem wp_addS {c : Bool} {s t : Cs} : Wp (pAdd c (.dat (.str s)) (.dat (.str t)) M) Q' X = (s.length + t.length ≤ 16777216 ∧ Q' (.dat (.str (s ++ t))) M) := by
  rw [wp_add (by intro ds es h; cases h.1)]; unfold addD; rw [wo_ite, wo_some]
theorem wp_addT {c : Bool} {ds es : List D} : Wp (pAdd c (.dat (.tup ds)) (.dat (.tup es)) M) Q' X = (ds.length + es.length ≤ 16777216 ∧ Q' (.dat (.tup (ds ++ es))) M) := by
  rw [wp_add (by intro ds es h; cases h.1)]; unfold addD; rw [wo_ite, wo_some]
theorem wp_addL {ds es : List D} : Wp (pAdd false (.dat (.lst ds)) (.dat (.lst es)) M) Q' X = (ds.length + es.length ≤ 16777216 ∧ Q' (.dat (.lst (ds ++ es))) M) := by
  unfold pAdd view newL
  show Wp (if ds.length + es.length ≤ 16777216 then _ else _) Q' X = _
  split
  · rename_i h; simp [h, Wp]
  · rename_i h; simp [h, Wp]
theorem wp_tOf {f : Ev} {Q : Bool → Mem → Prop} : Wp (tOf f ρ M) Q X = Wp (f ρ M) (fun u M1 => WO (uB u) fun b => Q b M1) X := by
  unfold tOf; rw [wp_bind]; refine Wp.q fun u M1 => ?_
  cases u with
  | cell k => rfl
  | exn => rfl
  | tup => rfl
  | dat d => cases d <;> rfl
theorem wp_not {f : Tv} {Q : Bool → Mem → Prop} : Wp (bNot f ρ M) Q X = Wp (f ρ M) (fun b M1 => Q (!b) M1) X := by unfold bNot; rw [wp_bind]; rfl
theorem wp_and {f g : Tv} {Q : Bool → Mem → Prop} : Wp (bAnd f g ρ M) Q X = Wp (f ρ M) (fun b M1 => if b then Wp (g ρ M1) Q X else Q false M1) X := by unfold bAnd; rw [wp_bind]; refine Wp.q fun b M1 => ?_; cases b <;> rfl
theorem wp_or {f g : Tv} {Q : Bool → Mem → Prop} : Wp (bOr f g ρ M) Q X = Wp (f ρ M) (fun b M1 => if b then Q true M1 else Wp (g ρ M1) Q X) X := by unfold bOr; rw [wp_bind]; refine Wp.q fun b M1 => ?_; cases b <;> rfl
theorem wp_vand {f g : Ev} : Wp (vAnd f g ρ M) Q' X = Wp (tOf f ρ M) (fun b M1 => if b then Wp (g ρ M1) Q' X else Q' (.dat (.bl false)) M1) X := by unfold vAnd; rw [wp_bind]; refine Wp.q fun b M1 => ?_; cases b <;> rfl
theorem wp_vor {f g : Ev} : Wp (vOr f g ρ M) Q' X = Wp (tOf f ρ M) (fun b M1 => if b then Q' (.dat (.bl true)) M1 else Wp (g ρ M1) Q' X) X := by unfold vOr; rw [wp_bind]; refine Wp.q fun b M1 => ?_; cases b <;> rfl
theorem wp_eB {f : Tv} : Wp (eB f ρ M) Q' X = Wp (f ρ M) (fun b M1 => Q' (.dat (.bl b)) M1) X := by unfold eB; rw [wp_bind]; rfl
theorem wp_eIf {c : Tv} {f g : Ev} : Wp (eIf c f g ρ M) Q' X = Wp (c ρ M) (fun b M1 => if b then Wp (f ρ M1) Q' X else Wp (g ρ M1) Q' X) X := by unfold eIf; rw [wp_bind]; refine Wp.q fun b M1 => ?_; cases b <;> rfl
theorem wp_neg {f : Ev} : Wp (eNeg f ρ M) Q' X = Wp (f ρ M) (fun u M1 => WO (uI u) fun i => Q' (.dat (.int (-i))) M1) X := by
  unfold eNeg; rw [wp_bind]; refine Wp.q fun u M1 => ?_
  cases u with
  | cell k => rfl
  | exn => rfl
  | tup => rfl
  | dat d => cases d <;> rfl
theorem wp_chain {p p' : P2} {f g h : Ev} : Wp (eChain p p' f g h ρ M) Q' X = Wp (f ρ M) (fun u M1 => Wp (g ρ M1) (fun w M2 => Wp (p u w M2) (fun t M3 => WO (uB t) fun b =>
    if b then Wp (h ρ M3) (fun v M4 => Wp (p' w v M4) Q' X) X else Q' (.dat (.bl false)) M3) X) X) X := by
  unfold eChain; rw [wp_bind]; refine Wp.q fun u M1 => ?_; rw [wp_bind]; refine Wp.q fun w M2 => ?_; rw [wp_bind]; refine Wp.q fun t M3 => ?_
  cases t with
  | cell k => rfl
  | exn => rfl
  | tup => rfl
  | dat d =>
    cases d with
    | bl b =>
      cases b
      · rfl
      · show Wp ((h ρ M3).bind fun v M4 => p' w v M4) Q' X = _
        rw [wp_bind]; rfl
    | _ => rfl
theorem wp_aNil {Q : List U → Mem → Prop} : Wp (aNil ρ M) Q X = Q [] M := Eq.trans rfl rfl
theorem wp_aCons {f : Ev} {g : Av} {Q : List U → Mem → Prop} : Wp (aCons f g ρ M) Q X = Wp (f ρ M) (fun u M1 => Wp (g ρ M1) (fun us M2 => Q (u :: us) M2) X) X := by
  unfold aCons; rw [wp_bind]; refine Wp.q fun u M1 => ?_; rw [wp_bind]; rfl
theorem wp_newF {ds : List D} : Wp (newL false ds M) Q' X = Q' (.dat (.lst ds)) M := Eq.trans rfl rfl
theorem wp_newT {ds : List D} : Wp (newL true ds M) Q' X = Q' (.cell M.length) (M ++ [.lst ds]) := Eq.trans rfl rfl
theorem wp_lst {c : Bool} {f : Av} : Wp (eLst c f ρ M) Q' X = Wp (f ρ M) (fun us M1 => WO (toDs us) fun ds => ds.length ≤ 16777216 ∧ Wp (newL c ds M1) Q' X) X := by
  unfold eLst; rw [wp_bind]; refine Wp.q fun us M1 => ?_
  cases toDs us with
  | none => rfl
  | some ds =>
    show Wp (if ds.length ≤ 16777216 then newL c ds M1 else .bad) Q' X = (ds.length ≤ 16777216 ∧ Wp (newL c ds M1) Q' X)
    split
    · rename_i h; simp [h]
    · rename_i h; simp [h, Wp]
theorem wp_tup {f : Av} : Wp (eTup f ρ M) Q' X = Wp (f ρ M) (fun us M1 => WO (toDs us) fun ds => ds.length ≤ 16777216 ∧ Q' (.dat (.tup ds)) M1) X := by
  unfold eTup; rw [wp_bind]; refine Wp.q fun us M1 => ?_
  cases toDs us with
  | none => rfl
  | some ds =>
    show Wp (if ds.length ≤ 16777216 then _ else .bad) Q' X = (ds.length ≤ 16777216 ∧ Q' (.dat (.tup ds)) M1)
    split
    · rename_i h; simp [h, Wp]
    · rename_i h; simp [h, Wp]
theorem td_nil : toDs [] = some [] := Eq.trans rfl rfl
theorem td_cons {d : D} {us : List U} : toDs (.dat d :: us) = (toDs us).map (d :: ·) := Eq.trans rfl rfl
theorem wp_call {p : Pf} {f : Av} : Wp (eCall p f ρ M) Q' X = Wp (f ρ M) (fun us M1 => Wp (p us M1) Q' X) X := by unfold eCall; rw [wp_bind]
theorem wp_pf1 {g : D → Option D} {u : U} : Wp (pf1 g [u] M) Q' X = WO (view u M) fun d => WO (g d) fun c => Q' (.dat c) M := by
  unfold pf1
  show Wp (match view u M with | some d => (match g d with | some c => Out.ok (U.dat c) M | none => .bad) | none => .bad) Q' X = _
  cases view u M with
  | none => rfl
  | some d =>
    show Wp (match g d with | some c => Out.ok (U.dat c) M | none => .bad) Q' X = WO (g d) fun c => Q' (.dat c) M
    cases g d <;> rfl
theorem wp_pf2 {g : D → D → Option D} {u w : U} : Wp (pf2 g [u, w] M) Q' X = WO (view u M) fun d => WO (view w M) fun e => WO (g d e) fun c => Q' (.dat c) M := by
  unfold pf2
  show Wp (match view u M, view w M with | some d, some e => (match g d e with | some c => Out.ok (U.dat c) M | none => .bad) | _, _ => .bad) Q' X = _
  cases view u M with
  | none => rfl
  | some d =>
    cases view w M with
    | none => rfl
    | some e =>
      show Wp (match g d e with | some c => Out.ok (U.dat c) M | none => .bad) Q' X = WO (g d e) fun c => Q' (.dat c) M
      cases g d e <;> rfl
theorem wp_pfL {c : Bool} {g : D → Option (List D)} {u : U} : Wp (pfL c g [u] M) Q' X = WO (view u M) fun d => WO (g d) fun ds => Wp (newL c ds M) Q' X := by
  unfold pfL
  show Wp (match view u M with | some d => (match g d with | some ds => newL c ds M | none => .bad) | none => .bad) Q' X = _
  cases view u M with
  | none => rfl
  | some d =>
    show Wp (match g d with | some ds => newL c ds M | none => .bad) Q' X = WO (g d) fun ds => Wp (newL c ds M) Q' X
    cases g d <;> rfl
theorem view_dat {d : D} : view (.dat d) M = some d := Eq.trans rfl rfl
theorem wp_isi {T : String} {f : Ev} : Wp (eIsi T f ρ M) Q' X = Wp (f ρ M) (fun u M1 => WO (view u M1) fun d => Q' (.dat (.bl (isiB T d))) M1) X := by
  unfold eIsi; rw [wp_bind]; refine Wp.q fun u M1 => ?_
  cases view u M1 <;> rfl
theorem wp_fn {n : Nat} {dus : List U} {F : Fn} {g : Av} : Wp (eFn n dus F g ρ M) Q' X = Wp (g ρ M) (fun us M1 => (us ++ dus).length = n ∧ Wp (F (us ++ dus) M1) Q' X) X := by
  unfold eFn; rw [wp_bind]; refine Wp.q fun us M1 => ?_
  rw [wp_ite]
  split
  · rename_i h; simp only [h, true_and]
  · rename_i h; simp only [h, false_and]; rfl
theorem wp_bm {T : String} {p : Pm} {f : Ev} {g : Av} : Wp (eBm T p f g ρ M) Q' X = Wp (f ρ M) (fun u M1 => tyU T u M1 = true ∧ Wp (g ρ M1) (fun us M2 => Wp (p u us M2) Q' X) X) X := by
  unfold eBm; rw [wp_bind]; refine Wp.q fun u M1 => ?_
  rw [wp_ite]
  split
  · rename_i h; simp [h, wp_bind]
  · rename_i h; simp [h, Wp]
theorem wp_sl {c : Bool} {f : Ev} {lo hi : Pv} : Wp (eSl c f lo hi ρ M) Q' X = Wp (f ρ M) (fun u M1 => Wp (lo ρ M1) (fun l M2 => Wp (hi ρ M2) (fun h M3 => Wp (pSl c u l h M3) Q' X) X) X) X := by
  unfold eSl; rw [wp_bind]; refine Wp.q fun u M1 => ?_; rw [wp_bind]; refine Wp.q fun l M2 => ?_; rw [wp_bind]
theorem wp_pNone {Q : Option Int → Mem → Prop} : Wp (pNone ρ M) Q X = Q none M := Eq.trans rfl rfl
theorem wp_pSome {f : Ev} {Q : Option Int → Mem → Prop} : Wp (pSome f ρ M) Q X = Wp (f ρ M) (fun u M1 => WO (uI u) fun i => Q (some i) M1) X := by
  unfold pSome; rw [wp_bind]; refine Wp.q fun u M1 => ?_
  cases u with
  | cell k => rfl
  | exn => rfl
  | tup => rfl
  | dat d => cases d <;> rfl
theorem wp_slS {c : Bool} {s : Cs} {lo hi : Option Int} : Wp (pSl c (.dat (.str s)) lo hi M) Q' X = (s.length ≤ 16777216 ∧ Q' (.dat (.str (cutL s lo hi))) M) := by
  show Wp (if s.length ≤ 16777216 then _ else _) Q' X = _
  split
  · rename_i h; simp [h, Wp]
  · rename_i h; simp [h, Wp]
theorem wp_slL {c : Bool} {ds : List D} {lo hi : Option Int} : Wp (pSl c (.dat (.lst ds)) lo hi M) Q' X = Wp (newL c (cutL ds lo hi) M) Q' X := Eq.trans rfl rfl
theorem wp_disp {c : Bool} {fs : List (Ev × Ev)} : Wp (eDisp c fs ρ M) Q' X = Wp (pairsE fs ρ M) (fun kvs M1 => kvs.length ≤ 15 ∧ Wp (newD c (mergeD [] kvs) M1) Q' X) X := by
  unfold eDisp; rw [wp_bind]; refine Wp.q fun kvs M1 => ?_
  rw [wp_ite]
  split
  · rename_i h; simp [h]
  · rename_i h; simp [h, Wp]
theorem wp_newDF {ds : List (Key × D)} : Wp (newD false ds M) Q' X = Q' (.dat (.dct ds)) M := Eq.trans rfl rfl
theorem wp_newDT {ds : List (Key × D)} : Wp (newD true ds M) Q' X = Q' (.cell M.length) (M ++ [.dct ds]) := Eq.trans rfl rfl
theorem wp_prNil {Q : List (Key × D) → Mem → Prop} : Wp (pairsE [] ρ M) Q X = Q [] M := Eq.trans rfl rfl
theorem wp_prCons {f g : Ev} {r : List (Ev × Ev)} {Q : List (Key × D) → Mem → Prop} : Wp (pairsE ((f, g) :: r) ρ M) Q X = Wp (f ρ M) (fun k M1 => Wp (g ρ M1) (fun v M2 => Wp (pairsE r ρ M2) (fun kvs M3 =>
    WO (toKey k) fun k => WO (uD v) fun d => Q ((k, d) :: kvs) M3) X) X) X := by
  unfold pairsE; rw [wp_bind]; refine Wp.q fun u M1 => ?_; rw [wp_bind]; refine Wp.q fun v M2 => ?_; rw [wp_bind]; refine Wp.q fun kvs M3 => ?_
  cases toKey u with
  | none => rfl
  | some k => cases v <;> rfl
theorem wp_dnew {c : Bool} : Wp (eDnew c ρ M) Q' X = Wp (newD c [] M) Q' X := Eq.trans rfl rfl
/-! statements -/
theorem ws_nil : WS (sNil ρ M) nx rt bk ct Y = nx ρ M := Eq.trans rfl rfl
theorem ws_cons {f g : Sv} : WS (sCons f g ρ M) nx rt bk ct Y = WS (f ρ M) (fun ρ1 M1 => WS (g ρ1 M1) nx rt bk ct Y) rt bk ct Y := by
  unfold sCons; cases f ρ M <;> rfl
theorem ws_ofE {o : Out α} {k : α → Mem → SOut} : WS (SOut.ofE ρ o k) nx rt bk ct Y = Wp o (fun a M1 => WS (k a M1) nx rt bk ct Y) (xE Y ρ) := by cases o <;> rfl
theorem ws_ret {f : Ev} : WS (sRet f ρ M) nx rt bk ct Y = Wp (f ρ M) rt (xE Y ρ) := by unfold sRet; rw [ws_ofE]; rfl
theorem ws_retN : WS (sRetN ρ M) nx rt bk ct Y = rt (.dat .non) M := Eq.trans rfl rfl
theorem ws_brk : WS (sBrk ρ M) nx rt bk ct Y = bk ρ M := Eq.trans rfl rfl
theorem ws_cnt : WS (sCnt ρ M) nx rt bk ct Y = ct ρ M := Eq.trans rfl rfl
theorem ws_if {c : Tv} {f g : Sv} : WS (sIf c f g ρ M) nx rt bk ct Y = Wp (c ρ M) (fun b M1 => if b then WS (f ρ M1) nx rt bk ct Y else WS (g ρ M1) nx rt bk ct Y) (xE Y ρ) := by
  unfold sIf; rw [ws_ofE]; refine Wp.q fun b M1 => ?_; cases b <;> rfl
theorem ws_drop {f : Ev} : WS (sDrop f ρ M) nx rt bk ct Y = Wp (f ρ M) (fun _ M1 => nx ρ M1) (xE Y ρ) := by unfold sDrop; rw [ws_ofE]; rfl
theorem ws_asg {t : Tgt} {f : Ev} : WS (sAsg t f ρ M) nx rt bk ct Y = Wp (f ρ M) (fun u M1 => WO (t.bind u ρ) fun ρ' => nx ρ' M1) (xE Y ρ) := by
  unfold sAsg; rw [ws_ofE]; refine Wp.q fun u M1 => ?_
  cases t.bind u ρ <;> rfl
theorem bind_name {i : Nat} {u : U} : (Tgt.name i).bind u ρ = some (ρ.set i (some u)) := Eq.trans rfl rfl
theorem bind_tup {is : List Nat} {ds : List D} : (Tgt.tup is).bind (.dat (.tup ds)) ρ = if ds.length = is.length then some (setAll is ds ρ) else none := Eq.trans rfl rfl
theorem sa_c {i : Nat} {is : List Nat} {d : D} {ds : List D} : setAll (i :: is) (d :: ds) ρ = setAll is ds (ρ.set i (some (.dat d))) := Eq.trans rfl rfl
theorem sa_n : setAll [] [] ρ = ρ := Eq.trans rfl rfl
/-- a loop over data: J after the items seen so far -/
theorem ws_forL {t : Tgt} {body : Sv} (J : List D → En → Mem → Prop) : ∀ (ds seen : List D) (ρ : En) (M : Mem), J seen ρ M → (∀ (pre : List D) (d : D) (post : List D) (ρ : En) (M : Mem), seen ++ ds = pre ++ d :: post → J pre ρ M → WO (t.bind (.dat d) ρ) fun ρ1 =>
    WS (body ρ1 M) (J (pre ++ [d])) rt nx (J (pre ++ [d])) Y) → (∀ ρ M, J (seen ++ ds) ρ M → nx ρ M) → WS (forL t body ds ρ M) nx rt bk ct Y
  | [], seen, ρ, M, hJ, _, he => he ρ M (by simpa using hJ)
  | d :: ds, seen, ρ, M, hJ, hs, he => by
    have h := hs seen d ds ρ M rfl hJ
    unfold forL
    cases hb : t.bind (.dat d) ρ with
    | none => rw [hb] at h; exact h.elim
    | some ρ1 =>
      rw [hb] at h
      have go : ∀ ρ2 M2, J (seen ++ [d]) ρ2 M2 → WS (forL t body ds ρ2 M2) nx rt bk ct Y := fun ρ2 M2 hJ2 =>
        ws_forL J ds (seen ++ [d]) ρ2 M2 hJ2 (fun pre e post ρ M e1 => hs pre e post ρ M (by simpa using e1)) (fun ρ M q => he ρ M (by simpa using q))
      simp only
      cases hbd : body ρ1 M with
      | nx ρ2 M2 => simp only [WO, hbd] at h; exact go ρ2 M2 h
      | ct ρ2 M2 => simp only [WO, hbd] at h; exact go ρ2 M2 h
      | bk ρ2 M2 => simp only [WO, hbd] at h; exact h
      | rt u M2 => simp only [WO, hbd] at h; exact h
      | exc c fs ρ2 M2 => simp only [WO, hbd] at h; exact h
      | bad => simp only [WO, hbd] at h; exact h
theorem ws_for {t : Tgt} {src : Lv} {body : Sv} : WS (sFor t src body ρ M) nx rt bk ct Y = Wp (src ρ M) (fun ds M1 => WS (forL t body ds ρ M1) nx rt bk ct Y) (xE Y ρ) := by unfold sFor; rw [ws_ofE]
theorem wp_iVal {f : Ev} {Q : List D → Mem → Prop} : Wp (iVal f ρ M) Q X = Wp (f ρ M) (fun u M1 => WO (match u with | .dat d => itD d | _ => none) fun ds => Q ds M1) X := by
  unfold iVal; rw [wp_bind]; refine Wp.q fun u M1 => ?_
  cases u with
  | cell k => rfl
  | exn => rfl
  | tup => rfl
  | dat d =>
    show Wp (match itD d with | some ds => Out.ok ds M1 | none => .bad) Q X = WO (itD d) fun ds => Q ds M1
    cases itD d <;> rfl
theorem wp_rng1 {f : Av} {Q : List D → Mem → Prop} : Wp (iRng1 f ρ M) Q X = Wp (f ρ M) (fun us M1 => WO (uI1 us) fun j => (-(2 ^ 62) ≤ j ∧ j < 2 ^ 62) ∧ Q (intsUp 0 j.toNat) M1) X := by
  unfold iRng1; rw [wp_bind]; refine Wp.q fun us M1 => ?_
  split
  · rename_i j
    show Wp (if -(2 ^ 62) ≤ j ∧ j < 2 ^ 62 then _ else _) Q X = ((-(2 ^ 62) ≤ j ∧ j < 2 ^ 62) ∧ Q (intsUp 0 j.toNat) M1)
    split
    · rename_i h; simp only [h, and_true, true_and, and_self]; rfl
    · rename_i h; simp only [h, false_and]; rfl
  · rename_i h
    have : uI1 us = none := by
      unfold uI1
      split
      · exact (h _ rfl).elim
      · rfl
    rw [this]; rfl
theorem wp_rng2 {f : Av} {Q : List D → Mem → Prop} : Wp (iRng2 f ρ M) Q X = Wp (f ρ M) (fun us M1 => WO (uI2 us) fun p => (-(2 ^ 62) ≤ p.1 ∧ p.1 < 2 ^ 62 ∧ -(2 ^ 62) ≤ p.2 ∧ p.2 < 2 ^ 62) ∧ Q (intsUp p.1 (p.2 - p.1).toNat) M1) X := by
  unfold iRng2; rw [wp_bind]; refine Wp.q fun us M1 => ?_
  split
  · rename_i i j
    show Wp (if -(2 ^ 62) ≤ i ∧ i < 2 ^ 62 ∧ -(2 ^ 62) ≤ j ∧ j < 2 ^ 62 then _ else _) Q X = ((-(2 ^ 62) ≤ i ∧ i < 2 ^ 62 ∧ -(2 ^ 62) ≤ j ∧ j < 2 ^ 62) ∧ Q (intsUp i (j - i).toNat) M1)
    split
    · rename_i h; simp only [h, and_true, true_and, and_self]; rfl
    · rename_i h; simp only [h, false_and]; rfl
  · rename_i h
    have : uI2 us = none := by
      unfold uI2
      split
      · exact (h _ _ rfl).elim
      · rfl
    rw [this]; rfl
/-! comprehensions -/
theorem wp_lc {c : Bool} {src : Lv} {t : Tgt} {test : Tv} {elt : Ev} {vs : List Nat} : Wp (eLc c src t test elt vs ρ M) Q' X = Wp (src ρ M) (fun ds M1 => ds.length ≤ 16777216 ∧ Wp (lcL t test elt (wipeE ρ vs) ds M1) (fun es M2 => Wp (newL c es M2) Q' X) x0) X := by
  unfold eLc; rw [wp_bind]; refine Wp.q fun ds M1 => ?_
  rw [wp_ite]
  split
  · rename_i h
    simp only [h, true_and]
    cases lcL t test elt (wipeE ρ vs) ds M1 <;> rfl
  · rename_i h; simp only [h, false_and]; rfl
theorem wp_lcN {t : Tgt} {test : Tv} {elt : Ev} {Q : List D → Mem → Prop} : Wp (lcL t test elt ρ [] M) Q X = Q [] M := Eq.trans rfl rfl
theorem wp_lcC {t : Tgt} {test : Tv} {elt : Ev} {d : D} {ds : List D} {Q : List D → Mem → Prop} : Wp (lcL t test elt ρ (d :: ds) M) Q X = WO (t.bind (.dat d) ρ) fun ρ1 => Wp (test ρ1 M) (fun b M1 => if b then Wp (elt ρ1 M1) (fun u M2 => WO (uD u) fun e => Wp (lcL t test elt ρ ds M2) (fun r M3 => Q (e :: r) M3) X) X else Wp (lcL t test elt ρ ds M1) Q X) X := by
  rw [lcL]
  cases t.bind (.dat d) ρ with
  | none => rfl
  | some ρ1 =>
    show Wp ((test ρ1 M).bind _) Q X = Wp (test ρ1 M) _ X
    rw [wp_bind]; refine Wp.q fun b M1 => ?_
    cases b with
    | true =>
      simp only [if_true]
      rw [wp_bind]; refine Wp.q fun u M2 => ?_
      cases u with
      | cell k => rfl
      | exn => rfl
      | tup => rfl
      | dat e => show Wp ((lcL t test elt ρ ds M2).bind _) Q X = Wp (lcL t test elt ρ ds M2) _ X; rw [wp_bind]; rfl
    | false => simp only [Bool.false_eq_true, if_false]
theorem ws_forN {t : Tgt} {body : Sv} : WS (forL t body [] ρ M) nx rt bk ct Y = nx ρ M := Eq.trans rfl rfl
theorem ws_forC {t : Tgt} {body : Sv} {d : D} {ds : List D} : WS (forL t body (d :: ds) ρ M) nx rt bk ct Y = WO (t.bind (.dat d) ρ) fun ρ1 => WS (body ρ1 M) (fun ρ2 M2 => WS (forL t body ds ρ2 M2) nx rt bk ct Y) rt nx (fun ρ2 M2 => WS (forL t body ds ρ2 M2) nx rt bk ct Y) Y := by
  rw [forL]
  cases t.bind (.dat d) ρ with
  | none => rfl
  | some ρ1 =>
    show WS (match body ρ1 M with | .nx ρ2 M2 => forL t body ds ρ2 M2 | .ct ρ2 M2 => forL t body ds ρ2 M2 | .bk ρ2 M2 => .nx ρ2 M2 | .rt u M2 => .rt u M2 | .exc c fs ρ2 M2 => .exc c fs ρ2 M2 | .bad => .bad) nx rt bk ct Y = WS (body ρ1 M) _ rt nx _ Y
    cases body ρ1 M <;> rfl
/-- .. that touches nothing -/
theorem wp_lcP {t : Tgt} {test : Tv} {elt : Ev} (p : D → Bool) (g : D → D) {Q : List D → Mem → Prop} : ∀ (ds : List D), (∀ d ∈ ds, WO (t.bind (.dat d) ρ) fun ρ1 => Wp (test ρ1 M) (fun b M1 => b = p d ∧ M1 = M) x0 ∧ (p d = true → Wp (elt ρ1 M) (fun u M1 => u = .dat (g d) ∧ M1 = M) x0)) →
    Q ((ds.filter p).map g) M → Wp (lcL t test elt ρ ds M) Q x0 := by
  intro ds h q
  suffices hs : lcL t test elt ρ ds M = .ok ((ds.filter p).map g) M by rw [hs]; exact q
  clear q
  induction ds with
  | nil => rfl
  | cons d ds ih =>
    have h1 := h d List.mem_cons_self
    have ih' := ih fun e he => h e (List.mem_cons_of_mem _ he)
    unfold lcL
    cases hb : t.bind (.dat d) ρ with
    | none => rw [hb] at h1; exact h1.elim
    | some ρ1 =>
      rw [hb] at h1
      obtain ⟨h2, h3⟩ := h1
      obtain ⟨b, M1, e1, rfl, rfl⟩ := h2.ok
      simp only [e1, Out.bind]
      by_cases hp : p d = true
      · obtain ⟨u, M2, e2, rfl, rfl⟩ := (h3 hp).ok
        simp only [hp, if_true, e2, ih', List.filter_cons_of_pos, List.map_cons]
      · simp only [hp, List.filter_cons, ih']
        simp
/-- .. with an invariant of the memory, each element of a kind -/
theorem wp_lcI {t : Tgt} {test : Tv} {elt : Ev} (J : Nat → Mem → Prop) (P : D → Prop) {Q : List D → Mem → Prop} : ∀ (ds : List D) (n : Nat) (M : Mem), J n M → (∀ i d M, i < n + ds.length → d ∈ ds → J i M → WO (t.bind (.dat d) ρ) fun ρ1 => Wp (test ρ1 M) (fun b M1 => if b then Wp (elt ρ1 M1) (fun u M2 => WO (uD u) fun e => P e ∧ J (i + 1) M2) x0 else J (i + 1) M1) x0) →
    (∀ es M', es.length ≤ ds.length → (∀ e ∈ es, P e) → J (n + ds.length) M' → Q es M') → Wp (lcL t test elt ρ ds M) Q x0
  | [], n, M, hJ, _, q => q [] M (Nat.le_refl _) (fun e h => by simp at h) hJ
  | d :: ds, n, M, hJ, hs, q => by
    have en : n + (ds.length + 1) = n + 1 + ds.length := by omega
    have h := hs n d M (by rw [List.length_cons]; omega) List.mem_cons_self hJ
    unfold lcL
    cases hb : t.bind (.dat d) ρ with
    | none => rw [hb] at h; exact h.elim
    | some ρ1 =>
      rw [hb] at h
      obtain ⟨b, M1, e1, h2⟩ := Wp.ok h
      simp only [e1, Out.bind]
      cases b with
      | true =>
        simp only [if_true] at h2 ⊢
        obtain ⟨u, M2, e2, h3⟩ := Wp.ok h2
        simp only [e2, Out.bind]
        cases u with
        | cell k => exact h3.elim
        | exn => exact h3.elim
        | tup => exact h3.elim
        | dat e =>
          simp only
          obtain ⟨h3, h4⟩ := h3
          refine (wp_bind (X := x0)).mpr ?_
          refine wp_lcI J P ds (n + 1) M2 h4 (fun i d M hi hd => hs i d M (by rw [List.length_cons]; omega) (List.mem_cons_of_mem _ hd)) fun es M' hl hp hj => ?_
          refine q (e :: es) M' (Nat.succ_le_succ hl) (fun x hx => ?_) (by rw [List.length_cons, en]; exact hj)
          rcases List.mem_cons.mp hx with hx | hx
          · exact hx ▸ h3
          · exact hp x hx
      | false =>
        simp only [Bool.false_eq_true, if_false] at h2 ⊢
        refine wp_lcI J P ds (n + 1) M1 h2 (fun i d M hi hd => hs i d M (by rw [List.length_cons]; omega) (List.mem_cons_of_mem _ hd)) fun es M' hl hp hj => ?_
        exact q es M' (Nat.le_succ_of_le hl) hp (by rw [List.length_cons, en]; exact hj)
/-! defs -/
/-- what is returned: own cells are dropped, one that is returned stays -/
def rQ (M : Mem) (Q : U → Mem → Prop) (u : U) (M1 : Mem) (_ : Tok Q := .mk) : Prop := match u with
  | .dat d => Q (.dat d) (M1.take M.length)
  | .cell k => if k < M.length then Q (.cell k) (M1.take M.length) else WO M1[k]? fun o => o.refs = [] ∧ Q (.cell M.length) (M1.take M.length ++ [o])
  | _ => False
theorem rQ_dat {M M1 : Mem} {d : D} : rQ M Q' (.dat d) M1 = Q' (.dat d) (M1.take M.length) := Eq.trans rfl rfl
theorem rQ_cell {M M1 : Mem} {k : Nat} : rQ M Q' (.cell k) M1 = if k < M.length then Q' (.cell k) (M1.take M.length) else WO M1[k]? fun o => o.refs = [] ∧ Q' (.cell M.length) (M1.take M.length ++ [o]) := Eq.trans rfl rfl
theorem wp_run {m : Nat} {body : Sv} {us : List U} : Wp (fnRun m body us M) Q' X = WS (body (us.map some ++ List.replicate (m - us.length) none) M) (fun _ M1 => Q' (.dat .non) (M1.take M.length))
    (fun u M1 => rQ M Q' u M1) (fun _ _ => False) (fun _ _ => False) (fun c fs _ M1 => X c fs (M1.take M.length)) := by
  unfold fnRun finish
  cases body (us.map some ++ List.replicate (m - us.length) none) M with
  | nx ρ M1 => rfl
  | rt u M1 =>
    cases u with
    | dat d => rfl
    | exn => rfl
    | tup => rfl
    | cell k =>
      show Wp (if k < M.length then _ else _) Q' X = if k < M.length then _ else _
      split
      · rfl
      · show Wp (match M1[k]? with | some o => _ | none => _) Q' X = WO M1[k]? _
        cases M1[k]? with
        | none => rfl
        | some o =>
          show Wp (if o.refs = [] then _ else _) Q' X = (o.refs = [] ∧ _)
          split
          · rename_i h; exact (propext (and_iff_right h)).symm
          · rename_i h; exact (eq_false (fun z : _ ∧ _ => h z.1)).symm
  | bk => rfl
  | ct => rfl
  | exc => rfl
  | bad => rfl
theorem ws_setIx {fo fi fe : Ev} : WS (sSetIx fo fi fe ρ M) nx rt bk ct Y = Wp (fe ρ M) (fun u M1 => Wp (fo ρ M1) (fun o M2 => Wp (fi ρ M2) (fun i M3 => WO (uSet o i u) fun p =>
    WO (oL M3[p.1]?) fun ds => WO (ixN ds.length p.2.1) fun n => nx ρ (M3.set p.1 (.lst (ds.set n p.2.2)))) (xE Y ρ)) (xE Y ρ)) (xE Y ρ) := by
  unfold sSetIx; rw [ws_ofE]; refine Wp.q fun u M1 => ?_; rw [ws_ofE]; refine Wp.q fun o M2 => ?_; rw [ws_ofE]; refine Wp.q fun i M3 => ?_
  cases o with
  | dat d => rfl
  | exn => rfl
  | tup => rfl
  | cell k =>
    cases i with
    | cell k => rfl
    | exn => rfl
    | tup => rfl
    | dat di =>
      cases di with
      | int j =>
        cases u with
        | cell k => rfl
        | exn => rfl
        | tup => rfl
        | dat d =>
          show WS (match M3[k]? with | some (.lst ds) => (match ixN ds.length j with | some n => _ | none => _) | _ => _) nx rt bk ct Y = WO (oL M3[k]?) _
          cases M3[k]? with
          | none => rfl
          | some o =>
            cases o with
            | lst ds =>
              show WS (match ixN ds.length j with | some n => _ | none => _) nx rt bk ct Y = WO (ixN ds.length j) _
              cases ixN ds.length j <;> rfl
            | dct => rfl
            | obj => rfl
            | lsu => rfl
      | _ => rfl
end
section
variable {α : Type} {Q' : U → Mem → Prop} {X : XP} {Y : XS} {ρ : En} {M : Mem} {nx bk ct : En → Mem → Prop} {rt : U → Mem → Prop}
theorem ws_raise1 {c f : Str} {g : Ev} : WS (sRaise1 c f g ρ M) nx rt bk ct Y = Wp (g ρ M) (fun u M1 => WO (uD u) fun d => Y c [(f, d)] ρ M1) (xE Y ρ) := by
  unfold sRaise1; rw [ws_ofE]; refine Wp.q fun u M1 => ?_
  cases u <;> rfl
theorem ws_raise0 {c : Str} : WS (sRaise0 c ρ M) nx rt bk ct Y = Y c [] ρ M := Eq.trans rfl rfl
theorem ws_par {i j : Nat} {f : Av} : WS (sPar i j f ρ M) nx rt bk ct Y = Wp (f ρ M) (fun us M1 => WO (match us with | [u, w] => some (u, w) | _ => none) fun p => nx ((ρ.set i (some p.1)).set j (some p.2)) M1) (xE Y ρ) := by
  unfold sPar; rw [ws_ofE]; refine Wp.q fun us M1 => ?_
  match us with
  | [] => rfl
  | [_] => rfl
  | [_, _] => rfl
  | _ :: _ :: _ :: _ => rfl
theorem wp_fnK {n m : Nat} {perm : List Nat} {F : Fn} {g h : Av} : Wp (eFnK n m perm F g h ρ M) Q' X = Wp (g ρ M) (fun us M1 => Wp (h ρ M1) (fun ws M2 => (us.length = n ∧ ws.length = m) ∧ Wp (F (gP perm us ws) M2) Q' X) X) X := by
  unfold eFnK; rw [wp_bind]; refine Wp.q fun us M1 => ?_; rw [wp_bind]; refine Wp.q fun ws M2 => ?_
  rw [wp_ite]
  split
  · rename_i h; simp only [h, and_self, true_and]
  · rename_i h; simp only [h, false_and]; rfl
theorem gP_nil {α : Type} {us ws : List α} : gP [] us ws = [] := Eq.trans rfl rfl
theorem gP_cons {α : Type} {us ws : List α} {i : Nat} {perm : List Nat} : gP (i :: perm) us ws = ((us ++ ws)[i]?).toList ++ gP perm us ws := by
  unfold gP
  rw [List.filterMap_cons]
  cases (us ++ ws)[i]? <;> rfl
/-- a try: the body's own ends, and each exception as its clause says -/
theorem ws_try {own : List Str} {f : Sv} {hs : List Hd} : WS (sTry own f hs ρ M) nx rt bk ct Y = WS (f ρ M) nx rt bk ct (fun c fs ρ1 M1 => WS (handle own hs c fs ρ1 M1) nx rt bk ct Y) := by
  unfold sTry
  cases f ρ M <;> rfl
theorem ws_hdN {own : List Str} {c : Str} {fs : List (Str × D)} : WS (handle own [] c fs ρ M) nx rt bk ct Y = Y c fs ρ M := Eq.trans rfl rfl
theorem ws_hdC {own : List Str} {h : Hd} {hs : List Hd} {c : Str} {fs : List (Str × D)} : WS (handle own (h :: hs) c fs ρ M) nx rt bk ct Y = WO (subX own c h.cls) fun b => if b then WS (suite h fs ρ M) nx rt bk ct Y else WS (handle own hs c fs ρ M) nx rt bk ct Y := by
  rw [handle]
  cases subX own c h.cls with
  | none => rfl
  | some b => cases b <;> rfl
theorem ws_suiteN {x : Str} {r : Addr → Addr → Sv} {fs : List (Str × D)} : WS (suite ⟨x, none, r⟩ fs ρ M) nx rt bk ct Y = WS (r 0 0 ρ M) nx rt bk ct (fun _ _ _ _ => False) := by
  unfold suite
  show WS (noExc (r 0 0 ρ M)) nx rt bk ct Y = _
  cases r 0 0 ρ M <;> rfl
theorem ws_suiteS {x : Str} {i : Nat} {r : Addr → Addr → Sv} {p : Str × D} {fs : List (Str × D)} : WS (suite ⟨x, some i, r⟩ (p :: fs) ρ M) nx rt bk ct Y = WS (r 0 0 (ρ.set i (some (.exn 0 0 (p :: fs)))) M) (fun ρ1 M1 => nx (ρ1.set i none) M1) rt (fun ρ1 M1 => bk (ρ1.set i none) M1) (fun ρ1 M1 => ct (ρ1.set i none) M1) (fun _ _ _ _ => False) := by
  unfold suite
  show WS (unslot i (noExc (r 0 0 (ρ.set i (some (.exn 0 0 (p :: fs)))) M))) nx rt bk ct Y = _
  cases r 0 0 (ρ.set i (some (.exn 0 0 (p :: fs)))) M <;> rfl
theorem wp_fld {a dd i : Nat} {f : Str} : Wp (eFld a dd i f ρ M) Q' X = WO (ρ[i]?.join) fun u => WO (match u with | .exn a' dd' fs => if a' = a ∧ dd' = dd then fs.lookup f else none | _ => none) fun d => Q' (.dat d) M := by
  unfold eFld
  cases ρ[i]? with
  | none => rfl
  | some o =>
    cases o with
    | none => rfl
    | some u =>
      cases u with
      | dat => rfl
      | cell => rfl
      | tup => rfl
      | exn a' dd' fs =>
        show Wp (if a' = a ∧ dd' = dd then _ else _) Q' X = WO (if a' = a ∧ dd' = dd then fs.lookup f else none) _
        split
        · show Wp (match fs.lookup f with | some d => _ | none => _) Q' X = _
          cases fs.lookup f <;> rfl
        · rfl
end
/-! data -/
theorem eqD_ii {i j : Int} : eqD (.int i) (.int j) = some (.bl (i == j)) := rfl
theorem neD_ii {i j : Int} : neD (.int i) (.int j) = some (.bl (!(i == j))) := rfl
theorem eqD_ss {i j : Cs} : eqD (.str i) (.str j) = some (.bl (i == j)) := rfl
theorem neD_ss {i j : Cs} : neD (.str i) (.str j) = some (.bl (!(i == j))) := rfl
theorem eqO_nil {n : Nat} {ds : List D} : eqO (n + 1) (.lst ds) (.lst []) = some ds.isEmpty := by
  unfold eqO
  cases ds <;> rfl
theorem eqD_nil {ds : List D} : eqD (.lst ds) (.lst []) = some (.bl ds.isEmpty) := by unfold eqD; rw [show eqN = 23 + 1 from rfl, eqO_nil]; rfl
theorem neD_nil {ds : List D} : neD (.lst ds) (.lst []) = some (.bl (!ds.isEmpty)) := by unfold neD; rw [show eqN = 23 + 1 from rfl, eqO_nil]; rfl
theorem atI_in {α : Type} {xs : List α} {i : Int} (h0 : 0 ≤ i) (h1 : i < xs.length) : ∃ x, atI xs i = some x ∧ x ∈ xs := by
  unfold atI ixN
  have h2 : i.toNat < xs.length := by omega
  rw [if_pos h0, if_pos h1]
  exact ⟨xs[i.toNat], List.getElem?_eq_getElem h2, List.getElem_mem h2⟩
theorem ix_l {ds : List D} {i : Int} {k : D → Prop} (h0 : 0 ≤ i) (h1 : i < ds.length) (h : ∀ d ∈ ds, k d) : WO (ixD (.lst ds) (.int i)) k := by
  obtain ⟨x, e, m⟩ := atI_in h0 h1
  show WO (atI ds i) k
  rw [e]; exact h x m
theorem ix_s {s : Cs} {i : Int} {k : D → Prop} (hl : s.length ≤ 16777216) (h0 : 0 ≤ i) (h1 : i < s.length) (h : ∀ c ∈ s, k (.str [c])) : WO (ixD (.str s) (.int i)) k := by
  obtain ⟨x, e, m⟩ := atI_in h0 h1
  show WO (if s.length ≤ 16777216 then (atI s i).map _ else none) k
  rw [if_pos hl, e]; exact h x m
theorem rf_l {ds : List D} : ((O.lst ds).refs = []) = True := eq_true rfl
theorem rf_d {ds : List (Key × D)} : ((O.dct ds).refs = []) = True := eq_true rfl
section
variable {X : XP} {Y : XS} {ρ : En} {M : Mem} {nx bk ct : En → Mem → Prop} {rt : U → Mem → Prop} {Q' : U → Mem → Prop}
def uPar3 : List U → Option (U × U × U)
  | [u, w, v] => some (u, w, v)
  | _ => none
theorem uPar3_ok {u w v : U} : uPar3 [u, w, v] = some (u, w, v) := Eq.trans rfl rfl
theorem ws_par3 {i j l : Nat} {f : Av} : WS (sPar3 i j l f ρ M) nx rt bk ct Y = Wp (f ρ M) (fun us M1 => WO (uPar3 us) fun p => nx (((ρ.set i (some p.1)).set j (some p.2.1)).set l (some p.2.2)) M1) (xE Y ρ) := by
  unfold sPar3; rw [ws_ofE]; refine Wp.q fun us M1 => ?_
  match us with
  | [] => rfl
  | [_] => rfl
  | [_, _] => rfl
  | [_, _, _] => rfl
  | _ :: _ :: _ :: _ :: _ => rfl
def uKey : U → Option Cs
  | .dat (.str z) => some z
  | _ => none
theorem wp_kin {kvs : Tab} {neg : Bool} {f : Ev} : Wp (eKIn kvs neg f ρ M) Q' X = Wp (f ρ M) (fun u M1 => WO (uKey u) fun z => Q' (.dat (.bl (neg != (findT kvs z).isSome))) M1) X := by
  unfold eKIn; rw [wp_bind]; refine Wp.q fun u M1 => ?_
  cases u with
  | dat d => cases d <;> rfl
  | _ => rfl
theorem wp_kix {kvs : Tab} {f : Ev} : Wp (eKIx kvs f ρ M) Q' X = Wp (f ρ M) (fun u M1 => WO (uKey u) fun z => WO (findT kvs z) fun ts => Q' (.dat (tupS ts)) M1) X := by
  unfold eKIx; rw [wp_bind]; refine Wp.q fun u M1 => ?_
  cases u with
  | dat d =>
    cases d with
    | str z => show Wp (match findT kvs z with | some ts => _ | none => _) Q' X = WO (findT kvs z) _; cases findT kvs z <;> rfl
    | _ => rfl
  | _ => rfl
theorem wo_ks {z : Cs} {k : Cs → Prop} : WO (uKey (.dat (.str z))) k = k z := Eq.trans rfl rfl
def uDct (u : U) (M : Mem) : Option (List (Key × D)) := match view u M with
  | some (.dct kvs) => some kvs
  | _ => none
def uKeyD : U → Option Key
  | .dat d => keyD d
  | _ => none
theorem wp_dget {u k : U} {x : D} : Wp (dgetU u k x M) Q' X = WO (uDct u M) fun kvs => WO (uKeyD k) fun key => Q' (.dat ((lookK kvs key).getD x)) M := by
  unfold dgetU uDct uKeyD
  cases hv : view u M with
  | none => cases k <;> rfl
  | some d =>
    cases d with
    | dct kvs =>
      cases k with
      | dat k0 => show Wp (match keyD k0 with | some key => _ | none => _) Q' X = WO (keyD k0) _; cases keyD k0 <;> rfl
      | _ => rfl
    | _ => cases k <;> rfl
theorem wp_get2 {f g h : Ev} : Wp (eGet2 f g h ρ M) Q' X = Wp (f ρ M) (fun u M1 => isDctU u M1 = true ∧ Wp (g ρ M1) (fun k M2 => Wp (h ρ M2) (fun x M3 => WO (uD x) fun d => Wp (dgetU u k d M3) Q' X) X) X) X := by
  unfold eGet2; rw [wp_bind]; refine Wp.q fun u M1 => ?_
  rw [wp_ite]
  split
  · rename_i h; simp only [h, true_and]; rw [wp_bind]; refine Wp.q fun k M2 => ?_; rw [wp_bind]; refine Wp.q fun x M3 => ?_
    cases x <;> rfl
  · rename_i h; exact (eq_false (fun z : _ ∧ _ => h z.1)).symm
theorem wp_get1 {f g : Ev} : Wp (eGet1 f g ρ M) Q' X = Wp (f ρ M) (fun u M1 => isDctU u M1 = true ∧ Wp (g ρ M1) (fun k M2 => Wp (dgetU u k .non M2) Q' X) X) X := by
  unfold eGet1; rw [wp_bind]; refine Wp.q fun u M1 => ?_
  rw [wp_ite]
  split
  · rename_i h; simp only [h, true_and]; rw [wp_bind]
  · rename_i h; exact (eq_false (fun z : _ ∧ _ => h z.1)).symm
def uSetK : U → U → U → Option (Nat × Key × D)
  | .cell k, .dat i, .dat d => (keyD i).map fun key => (k, key, d)
  | _, _, _ => none
def oD : Option O → Option (List (Key × D))
  | some (.dct kvs) => some kvs
  | _ => none
theorem ws_setKey {fo fi fe : Ev} : WS (sSetKey fo fi fe ρ M) nx rt bk ct Y = Wp (fe ρ M) (fun u M1 => Wp (fo ρ M1) (fun o M2 => Wp (fi ρ M2) (fun i M3 => WO (uSetK o i u) fun p =>
    WO (oD M3[p.1]?) fun kvs => kvs.length < 16777216 ∧ nx ρ (M3.set p.1 (.dct (putD kvs p.2.1 p.2.2)))) (xE Y ρ)) (xE Y ρ)) (xE Y ρ) := by
  unfold sSetKey; rw [ws_ofE]; refine Wp.q fun u M1 => ?_; rw [ws_ofE]; refine Wp.q fun o M2 => ?_; rw [ws_ofE]; refine Wp.q fun i M3 => ?_
  cases o with
  | cell k =>
    cases i with
    | dat di =>
      cases u with
      | dat d =>
        unfold uSetK
        show WS (match M3[k]?, keyD di with | some (.dct kvs), some key => _ | _, _ => _) nx rt bk ct Y = WO ((keyD di).map _) _
        cases keyD di with
        | none =>
          cases M3[k]? with
          | none => rfl
          | some o => cases o <;> rfl
        | some key =>
          show _ = WO (oD M3[k]?) _
          cases M3[k]? with
          | none => rfl
          | some o =>
            cases o with
            | dct kvs =>
              show WS (if kvs.length < 16777216 then _ else _) nx rt bk ct Y = (_ ∧ _)
              split
              · rename_i h; simp only [h, true_and]; rfl
              · rename_i h; simp only [h, false_and]; rfl
            | _ => rfl
      | _ => rfl
    | _ => rfl
  | _ => rfl
end
end SD

set_option Elab.async false
set_option linter.all false
set_option maxRecDepth 100000
set_option maxHeartbeats 4000000
namespace SD
open PySem PySem.Spec PyProof.Rows L2

/-! ### the box of drawn numbers, that all laws share -/
def b_law_cell : Sv := (sCons (sIf (tOf (e2 (lift2 ltD) (eVar 1) (eCall (pf1 lenD) (aCons (eVar 0) aNil)))) (sRet (e2 (lift2 ixD) (eVar 0) (eVar 1))) sNil) (sRet (e2 (pAdd false) (e2 (lift2 mulSD) (eC (.int 7919)) (eVar 1)) (eC (.int 131)))))
def f_law_cell : Fn := fnRun 2 b_law_cell
def b_law_box : Sv := (sRet (eLst true (aCons (eCall (pf2 max2D) (aCons (eC (.int 0)) (aCons (e2 (lift2 subD) (eVar 0) (e2 (lift2 powD) (eC (.int 10)) (eC (.int 18)))) aNil))) (aCons (e2 (lift2 modD) (eVar 0) (eC (.int 2147483629))) (aCons (eC (.int 0)) aNil)))))
def f_law_box : Fn := fnRun 1 b_law_box
def b_law_take : Sv := (sCons (sIf (tOf (e2 (lift2 gtD) (e2 (lift2 ixD) (eVar 0) (eC (.int 0))) (eC (.int 0)))) (sCons (sAsg (.name 3) (e2 (lift2 modD) (e2 (lift2 ixD) (eVar 0) (eC (.int 0))) (eVar 1))) (sCons (sSetIx (eVar 0) (eC (.int 0)) (e2 (lift2 fdivD) (e2 (lift2 ixD) (eVar 0) (eC (.int 0))) (eVar 1))) (sRet (eVar 3)))) sNil) (sCons (sSetIx (eVar 0) (eC (.int 2)) (e2 (pAdd false) (e2 (lift2 ixD) (eVar 0) (eC (.int 2))) (eC (.int 1)))) (sCons (sAsg (.name 2) (e2 (lift2 modD) (e2 (lift2 powD) (e2 (pAdd false) (e2 (pAdd false) (e2 (lift2 ixD) (eVar 0) (eC (.int 1))) (e2 (lift2 mulSD) (eC (.int 7919)) (e2 (lift2 ixD) (eVar 0) (eC (.int 2))))) (eC (.int 43))) (eC (.int 5))) (eC (.int 2147483647)))) (sCons (sAsg (.name 2) (e2 (lift2 modD) (e2 (lift2 powD) (e2 (pAdd false) (eVar 2) (e2 (lift2 mulSD) (eC (.int 104729)) (e2 (lift2 ixD) (eVar 0) (eC (.int 2))))) (eC (.int 3))) (eC (.int 2147483587)))) (sRet (e2 (lift2 modD) (e2 (lift2 fdivD) (eVar 2) (eC (.int 8))) (eVar 1)))))))
def f_law_take : Fn := fnRun 4 b_law_take
theorem mul_i {i j : Int} (h : (-(2 ^ 64) < i ∧ i < 2 ^ 64) ∨ (-(2 ^ 64) < j ∧ j < 2 ^ 64)) : mulSD (.int i) (.int j) = some (.int (i * j)) := by simp only [mulSD, mulD, if_pos h]
theorem mul_s {s : Cs} {n : Int} (h : 0 < n ∧ n ≤ 1000000 ∧ s.length * n.toNat ≤ 1000000) : mulSD (.str s) (.int n) = some (.str (repS s n)) := by simp only [mulSD, if_pos h]
theorem pow_i {i j : Int} (h : 0 ≤ j ∧ j ≤ 1000000 ∧ i.natAbs < 2 ^ 64) : powD (.int i) (.int j) = some (.int (i ^ j.toNat)) := by simp only [powD, if_pos h]
theorem mod_i {i j : Int} (h : 0 < j) : modD (.int i) (.int j) = some (.int (i % j)) := by simp only [modD, if_pos h]
theorem fdiv_i {i j : Int} (h : 0 < j ∧ j < 1073741824) : fdivD (.int i) (.int j) = some (.int (i / j)) := by simp only [fdivD, if_pos h]
structure Fr (k : Nat) (M M' : Mem) : Prop where
  len : M'.length = M.length
  out : ∀ j, j ≠ k → M'[j]? = M[j]?
theorem Fr.refl {k : Nat} {M : Mem} : Fr k M M := ⟨rfl, fun _ _ => rfl⟩
theorem Fr.trans {k : Nat} {M M1 M2 : Mem} (a : Fr k M M1) (b : Fr k M1 M2) : Fr k M M2 := ⟨b.len.trans a.len, fun j h => (b.out j h).trans (a.out j h)⟩
theorem Fr.set {k : Nat} {M : Mem} {o : O} : Fr k M (M.set k o) := ⟨by simp, fun j h => List.getElem?_set_ne (Ne.symm h)⟩
theorem Fr.take {k : Nat} {M M' : Mem} (a : Fr k M M') : M'.take M.length = M' := List.take_of_length_le (by rw [a.len]; exact Nat.le_refl _)
def Bx (k n : Nat) (M : Mem) : Prop := ∃ a b c : Int, M[k]? = some (.lst [.int a, .int b, .int c]) ∧ 0 ≤ a ∧ 0 ≤ b ∧ b < 2147483648 ∧ 0 ≤ c ∧ c ≤ n
theorem Bx.mono {k n n' : Nat} {M : Mem} (h : Bx k n M) (q : n ≤ n') : Bx k n' M := by
  obtain ⟨a, b, c, h0, h1, h2, h3, h4, h5⟩ := h
  exact ⟨a, b, c, h0, h1, h2, h3, h4, by omega⟩
theorem Bx.lt {k n : Nat} {M : Mem} (h : Bx k n M) : k < M.length := by
  obtain ⟨a, b, c, h0, _⟩ := h
  exact (List.getElem?_eq_some_iff.mp h0).1
theorem mod_rng (a : Int) {m : Int} (h : 0 < m) : 0 ≤ a % m ∧ a % m < m := ⟨Int.emod_nonneg a (by omega), Int.emod_lt_of_pos a h⟩
theorem wp_take {k n : Nat} {m : Int} {M : Mem} {Q : U → Mem → Prop} {X : XP} (hb : Bx k n M) (hn : n ≤ 1099511627776) (h0 : 0 < m) (h1 : m < 1073741824) (h : ∀ d M', 0 ≤ d → d < m → Bx k (n + 1) M' → Fr k M M' → Q (.dat (.int d)) M') :
    Wp (f_law_take [.cell k, .dat (.int m)] M) Q X := by
  obtain ⟨a, b, c, e, ha, hb0, hb1, hc0, hc1⟩ := hb
  have hk := (List.getElem?_eq_some_iff.mp e).1
  have v : view (.cell k) M = some (.lst [.int a, .int b, .int c]) := by simp [view, e]
  unfold f_law_take
  rw [wp_run]
  unfold b_law_take
  have ix0 : ∀ a b c : Int, ixD (.lst [.int a, .int b, .int c]) (.int 0) = some (.int a) := fun a b c => rfl
  have ix1 : ∀ a b c : Int, ixD (.lst [.int a, .int b, .int c]) (.int 1) = some (.int b) := fun a b c => rfl
  have ix2 : ∀ a b c : Int, ixD (.lst [.int a, .int b, .int c]) (.int 2) = some (.int c) := fun a b c => rfl
  have n0 : ixN 3 0 = some 0 := rfl
  have n2 : ixN 3 2 = some 2 := rfl
  simp (config := {dsimp := false}) only [↓rQ_dat, ↓ws_cons, ↓ws_if, ↓wp_tOf, ↓wp_e2, ↓wp_var, ↓wp_c, ↓wp_lift2v, List.map, List.length, List.replicate, Nat.reduceSub, List.cons_append, List.nil_append, List.getElem?_cons_zero, List.getElem?_cons_succ, Option.join_some, ↓wo_some, v, view_dat, ix0, gtD, ltD, uB,
    Nat.reduceAdd, decide_eq_true_eq]
  split
  · rename_i hpos
    simp (config := {dsimp := false}) only [↓rQ_dat, ↓ws_cons, ↓ws_asg, ↓ws_setIx, ↓ws_ret, ↓wp_e2, ↓wp_var, ↓wp_c, ↓wp_lift2v, List.getElem?_cons_zero, List.getElem?_cons_succ, Option.join_some, ↓wo_some, ↓wo_ite, v, view_dat, ix0, modD, fdivD, bind_name, List.set_cons_succ, List.set_cons_zero, uSet, oL, e, List.length, n0, Nat.reduceAdd]
    refine ⟨h0, ⟨h0, h1⟩, ?_⟩
    have hh : (M.set k (O.lst [.int (a / m), .int b, .int c])).take M.length = M.set k (O.lst [.int (a / m), .int b, .int c]) := List.take_of_length_le (by simp)
    rw [hh]
    obtain ⟨r1, r2⟩ := mod_rng a h0
    exact h (a % m) _ r1 r2 ⟨a / m, b, c, by rw [List.getElem?_set_self hk], Int.ediv_nonneg ha (by omega), hb0, hb1, hc0, by omega⟩ Fr.set
  · have hM2 : (M.set k (O.lst [.int a, .int b, .int (c + 1)]))[k]? = some (O.lst [.int a, .int b, .int (c + 1)]) := List.getElem?_set_self hk
    have v2 : view (.cell k) (M.set k (O.lst [.int a, .int b, .int (c + 1)])) = some (.lst [.int a, .int b, .int (c + 1)]) := by simp only [view, hM2]
    simp (config := {dsimp := false}) only [↓rQ_dat, ↓ws_nil, ↓ws_cons, ↓ws_asg, ↓ws_setIx, ↓ws_ret, ↓wp_e2, ↓wp_var, ↓wp_c, ↓wp_lift2v, ↓wp_addI, List.getElem?_cons_zero, List.getElem?_cons_succ, Option.join_some, ↓wo_some, ↓wo_ite, v, view_dat, ix2, modD, fdivD, bind_name, List.set_cons_succ, List.set_cons_zero, uSet, oL, e, List.length, n2, Nat.reduceAdd, List.set]
    have c1 : (-(2 ^ 64) < (7919 : Int) ∧ (7919 : Int) < 2 ^ 64) ∨ (-(2 ^ 64) < c + 1 ∧ c + 1 < 2 ^ 64) := .inl (by decide)
    have c2 : (-(2 ^ 64) < (104729 : Int) ∧ (104729 : Int) < 2 ^ 64) ∨ (-(2 ^ 64) < c + 1 ∧ c + 1 < 2 ^ 64) := .inl (by decide)
    have m1 : mulSD (.int 7919) (.int (c + 1)) = some (.int (7919 * (c + 1))) := mul_i c1
    have m2 : mulSD (.int 104729) (.int (c + 1)) = some (.int (104729 * (c + 1))) := mul_i c2
    obtain ⟨P, pw1⟩ : ∃ P, powD (.int (b + 7919 * (c + 1) + 43)) (.int 5) = some (.int P) := ⟨_, pow_i ⟨by decide, by decide, by omega⟩⟩
    have p5 := mod_rng P (show (0 : Int) < 2147483647 by decide)
    have md1 : modD (.int P) (.int 2147483647) = some (.int (P % 2147483647)) := mod_i (by decide)
    generalize P % 2147483647 = R at p5 md1
    obtain ⟨p6, p7⟩ := p5
    obtain ⟨S, pw2⟩ : ∃ S, powD (.int (R + 104729 * (c + 1))) (.int 3) = some (.int S) := ⟨_, pow_i ⟨by decide, by decide, by omega⟩⟩
    obtain ⟨T, md2⟩ : ∃ T, modD (.int S) (.int 2147483587) = some (.int T) := ⟨_, mod_i (by decide)⟩
    have dv : fdivD (.int T) (.int 8) = some (.int (T / 8)) := fdiv_i (by decide)
    have md3 : modD (.int (T / 8)) (.int m) = some (.int (T / 8 % m)) := mod_i h0
    simp (config := {dsimp := false}) only [↓rQ_dat, ↓ws_nil, ↓ws_cons, ↓ws_asg, ↓ws_ret, ↓wp_e2, ↓wp_var, ↓wp_c, ↓wp_lift2v, ↓wp_addI, List.getElem?_cons_zero, List.getElem?_cons_succ, Option.join_some, ↓wo_some, v2, view_dat, ix1, ix2, m1, m2, pw1, pw2, md1, md2, dv, md3, bind_name, List.set_cons_succ, List.set_cons_zero]
    have hh : (M.set k (O.lst [.int a, .int b, .int (c + 1)])).take M.length = M.set k (O.lst [.int a, .int b, .int (c + 1)]) := List.take_of_length_le (by simp)
    rw [hh]
    obtain ⟨r1, r2⟩ := mod_rng (T / 8) h0
    exact h _ _ r1 r2 ⟨a, b, c + 1, hM2, ha, hb0, hb1, by omega, by omega⟩ Fr.set
theorem wp_cell {ns : List Int} {j : Int} {M : Mem} {Q : U → Mem → Prop} {X : XP} (h0 : 0 ≤ j) (h1 : j < 1000000) (h : ∀ d, Q (.dat (.int d)) M) : Wp (f_law_cell [.dat (.scr ns), .dat (.int j)] M) Q X := by
  unfold f_law_cell
  rw [wp_run]
  unfold b_law_cell
  have tk : M.take M.length = M := List.take_of_length_le (Nat.le_refl _)
  have l1 : lenD (.scr ns) = some (.int ns.length) := rfl
  simp (config := {dsimp := false}) only [↓rQ_dat, ↓ws_cons, ↓ws_if, ↓wp_tOf, ↓wp_e2, ↓wp_var, ↓wp_c, ↓wp_lift2v, ↓wp_call, ↓wp_aCons, ↓wp_aNil, ↓wp_pf1, List.map, List.length, List.replicate, Nat.reduceSub, List.cons_append, List.nil_append, List.getElem?_cons_zero, List.getElem?_cons_succ, Option.join_some, ↓wo_some, view_dat, l1, ltD, uB,
    Nat.reduceAdd, decide_eq_true_eq]
  split
  · rename_i hj
    obtain ⟨x, e, _⟩ := atI_in (xs := ns) h0 hj
    have e1 : ixD (.scr ns) (.int j) = some (.int x) := by show (atI ns j).map _ = _; rw [e]; rfl
    simp (config := {dsimp := false}) only [↓rQ_dat, ↓ws_ret, ↓wp_e2, ↓wp_var, ↓wp_lift2v, List.getElem?_cons_zero, List.getElem?_cons_succ, Option.join_some, ↓wo_some, view_dat, e1, tk]
    exact h x
  · simp (config := {dsimp := false}) only [↓rQ_dat, ↓ws_nil, ↓ws_ret, ↓wp_e2, ↓wp_var, ↓wp_c, ↓wp_lift2v, ↓wp_addI, List.getElem?_cons_zero, List.getElem?_cons_succ, Option.join_some, ↓wo_some, ↓wo_ite, view_dat, mulSD, mulD, tk]
    exact ⟨.inr ⟨by omega, by omega⟩, h _⟩
theorem wp_box {x : Int} {M : Mem} {Q : U → Mem → Prop} {X : XP} (h : ∀ M', Bx M.length 0 M' → M'.length = M.length + 1 → (∀ j, j < M.length → M'[j]? = M[j]?) → Q (.cell M.length) M') : Wp (f_law_box [.dat (.int x)] M) Q X := by
  unfold f_law_box
  rw [wp_run]
  unfold b_law_box
  have tk : (M ++ [O.lst [D.int (if x - 10 ^ (18 : Int).toNat > 0 then x - 10 ^ (18 : Int).toNat else 0), .int (x % 2147483629), .int 0]]).take M.length = M := by simp
  simp (config := {dsimp := false}) only [↓rQ_dat, ↓ws_ret, ↓wp_lst, ↓wp_call, ↓wp_aCons, ↓wp_aNil, ↓wp_pf2, ↓wp_e2, ↓wp_var, ↓wp_c, ↓wp_lift2v, List.map, List.length, List.replicate, Nat.reduceSub, List.cons_append, List.nil_append, List.getElem?_cons_zero, List.getElem?_cons_succ, Option.join_some, ↓wo_some, ↓wo_ite, ↓wo_map, td_nil, td_cons, Option.map_some, view_dat, max2D, subD, powD, modD,
    Nat.reduceAdd, ↓wp_newT]
  refine ⟨⟨by decide, by decide, by decide⟩, by decide, by decide, ?_⟩
  rw [rQ_cell, if_neg (Nat.lt_irrefl _), tk, List.getElem?_append_right (Nat.le_refl _), Nat.sub_self]
  refine ⟨rfl, h _ ⟨_, _, _, by rw [List.getElem?_append_right (Nat.le_refl _), Nat.sub_self]; rfl, ?_, ?_, ?_, Int.le_refl _, Int.le_refl _⟩ (by simp) fun j hj => List.getElem?_append_left hj⟩
  · split <;> omega
  · exact (mod_rng x (by decide)).1
  · have := (mod_rng x (show (0 : Int) < 2147483629 by decide)).2; omega
end SD

set_option Elab.async false
set_option linter.all false
set_option maxRecDepth 100000
set_option maxHeartbeats 4000000
namespace SD
open PySem PySem.Spec PyProof.Rows L2

def dInt : D → Bool
  | .int _ => true
  | .bl _ => true
  | _ => false
def dBl : D → Bool
  | .bl _ => true
  | _ => false
def dStr : D → Bool
  | .str _ => true
  | _ => false
def dTup : D → Bool
  | .tup _ => true
  | _ => false
def dLst : D → Bool
  | .lst _ => true
  | .scr _ => true
  | _ => false
def dDct : D → Bool
  | .dct _ => true
  | _ => false
theorem ty_s {s : Cs} {M : Mem} : (tyU "str" (.dat (.str s)) M = true) = True := eq_true rfl
theorem ty_l {s : List D} {M : Mem} : (tyU "list" (.dat (.lst s)) M = true) = True := eq_true rfl
theorem wp_join {sep : Cs} {ds : List D} {M : Mem} {Q : U → Mem → Prop} {X : XP} : Wp (mJoin (.dat (.str sep)) [.dat (.lst ds)] M) Q X = WO (toStrs ds) fun ss => (ss.map (·.length)).sum + ss.length * sep.length ≤ 16777216 ∧ Q (.dat (.str (joinC sep ss))) M := by
  show Wp (match toStrs ds with | some ss => (if (ss.map (·.length)).sum + ss.length * sep.length ≤ 16777216 then Out.ok (U.dat (.str (joinC sep ss))) M else .bad) | none => .bad) Q X = _
  cases toStrs ds with
  | none => rfl
  | some ss =>
    show Wp (if (ss.map (·.length)).sum + ss.length * sep.length ≤ 16777216 then Out.ok (U.dat (.str (joinC sep ss))) M else .bad) Q X = ((ss.map (·.length)).sum + ss.length * sep.length ≤ 16777216 ∧ Q (.dat (.str (joinC sep ss))) M)
    split
    · rename_i h; simp only [h, true_and]; rfl
    · rename_i h; simp only [h, false_and]; rfl
theorem isND_n {d : D} : isND d .non = some (.bl (isNone d)) := by cases d <;> rfl
theorem notND_n {d : D} : notND d .non = some (.bl (!isNone d)) := by cases d <;> rfl
theorem isi_int {d : D} : isiB "int" d = dInt d := by cases d <;> rfl
theorem isi_bool {d : D} : isiB "bool" d = dBl d := by cases d <;> rfl
theorem isi_str {d : D} : isiB "str" d = dStr d := by cases d <;> rfl
theorem isi_tuple {d : D} : isiB "tuple" d = dTup d := by cases d <;> rfl
theorem isi_list {d : D} : isiB "list" d = dLst d := by cases d <;> rfl
theorem isi_dict {d : D} : isiB "dict" d = dDct d := by cases d <;> rfl
theorem wp_bYes {ρ : En} {M : Mem} {Q : Bool → Mem → Prop} {X : XP} : Wp (bYes ρ M) Q X = Q true M := Eq.trans rfl rfl
theorem take_len {M : Mem} : M.take M.length = M := List.take_length

/-! ### words.py: is_integer, is_limit, is_span -/
def b_is_integer : Sv := (sRet (vAnd (eIsi "int" (eVar 0)) (eB (bNot (tOf (eIsi "bool" (eVar 0)))))))
def f_is_integer : Fn := fnRun 1 b_is_integer
def b_is_limit : Sv := (sRet (vOr (e2 (lift2 isND) (eVar 0) (eC .non)) (eFn 1 [] f_is_integer (aCons (eVar 0) aNil))))
def f_is_limit : Fn := fnRun 1 b_is_limit
def b_is_span : Sv := (sCons (sIf (bOr (bNot (tOf (eIsi "tuple" (eVar 0)))) (tOf (e2 (lift2 neD) (eCall (pf1 lenD) (aCons (eVar 0) aNil)) (eC (.int 2))))) (sRet (eC (.bl false))) sNil) (sCons (sAsg (.tup [1, 2]) (eVar 0)) (sCons (sIf (bOr (bNot (tOf (eFn 1 [] f_is_limit (aCons (eVar 1) aNil)))) (bNot (tOf (eFn 1 [] f_is_limit (aCons (eVar 2) aNil))))) (sRet (eC (.bl false))) sNil) (sRet (vOr (e2 (lift2 isND) (eVar 1) (eC .non)) (vOr (e2 (lift2 isND) (eVar 2) (eC .non)) (e2 (lift2 ltD) (eVar 1) (eVar 2))))))))
def f_is_span : Fn := fnRun 3 b_is_span
def isIntD : D → Bool
  | .int _ => true
  | _ => false
def isLimD (d : D) : Bool := isNone d || isIntD d
def ltLim : D → D → Bool
  | .int i, .int j => decide (i < j)
  | _, _ => true
def isSpanD : D → Bool
  | .tup [l, h] => isLimD l && isLimD h && ltLim l h
  | _ => false
theorem wp_is_integer {d : D} {M : Mem} {Q : U → Mem → Prop} {X : XP} : Wp (f_is_integer [.dat d] M) Q X = Q (.dat (.bl (isIntD d))) M := by
  have h : f_is_integer [.dat d] M = .ok (.dat (.bl (isIntD d))) (M.take M.length) := by cases d <;> rfl
  rw [h, take_len, wp_ok]
theorem wp_is_limit {d : D} {M : Mem} {Q : U → Mem → Prop} {X : XP} : Wp (f_is_limit [.dat d] M) Q X = Q (.dat (.bl (isLimD d))) M := by
  have e : isND d .non = some (.bl (isNone d)) := by cases d <;> rfl
  unfold f_is_limit b_is_limit
  rw [wp_run]
  simp (config := {dsimp := false}) only [↓ws_nil, ↓ws_cons, ↓ws_asg, ↓ws_setIx, ↓ws_ret, ↓ws_retN, ↓ws_if, ↓ws_drop, ↓ws_brk, ↓ws_cnt, ↓ws_for, ↓wp_tOf, ↓wp_not, ↓wp_and, ↓wp_or, ↓wp_vand, ↓wp_vor, ↓wp_eB, ↓wp_eIf, ↓wp_neg, ↓wp_chain, ↓wp_e2, ↓wp_var, ↓wp_c, ↓wp_addI, ↓wp_addS, ↓wp_addL, ↓wp_addT, ↓ws_raise1, ↓ws_raise0, ↓ws_par, ↓ws_par3, uPar3_ok, ↓wp_kin, ↓wp_kix, wo_ks, ↓wp_get1, ↓wp_get2, ↓wp_dget, ↓ws_setKey, uKeyD, keyD, ↓wp_fnK, ↓ws_try, ↓ws_hdN, ↓ws_hdC, ↓ws_suiteN, ↓ws_suiteS, ↓wp_fld, xE, gP_nil, gP_cons, Option.toList, ↓wp_lift2v, ↓wp_aNil, ↓wp_aCons, ↓wp_newF, ↓wp_newT, ↓wp_lst, ↓wp_tup, ↓wp_call, ↓wp_pf1, ↓wp_pf2, ↓wp_pfL, ↓wp_isi, ↓wp_fn, ↓wp_bm, ↓wp_sl, ↓wp_pNone, ↓wp_pSome, ↓wp_slS, ↓wp_slL, ↓wp_disp, ↓wp_newDF, ↓wp_newDT, rf_l, rf_d, ↓wp_prNil, ↓wp_prCons, ↓wp_dnew, ↓wp_iVal, ↓wp_rng1, ↓wp_rng2, ↓wp_lc, ↓wp_ok, ↓wp_exc, ↓wp_bad, ↓wp_join, itD, ↓wp_bYes, ↓rQ_dat, ↓rQ_cell, ↓wo_some, ↓wo_none, ↓wo_ite, ↓wo_map, view_dat, td_nil, td_cons, Option.map_some, bind_name, bind_tup, sa_c, sa_n, toKey, uB, uI, uD, uI1, uI2, ty_s, ty_l, List.map, List.length, List.replicate, Nat.reduceSub, Nat.reduceAdd, Nat.reduceLeDiff, Nat.zero_add, List.cons_append, List.nil_append, List.append_nil, List.getElem?_cons_zero, List.getElem?_cons_succ, Option.join_some, List.set_cons_zero, List.set_cons_succ, decide_eq_true_eq, Bool.not_eq_true', Bool.not_true, Bool.not_false, if_true, if_false, Bool.false_eq_true, eq_self, true_and, and_true, isND_n, notND_n, isi_int, isi_bool, isi_str, isi_tuple, isi_list, isi_dict, dInt, dBl, dStr, dTup, dLst, dDct, wipeE, List.set, subD, ltD, gtD, leD, geD, max2D, min2D, eqD_ii, neD_ii, eqD_ss, neD_ss, eqD_nil, neD_nil, e, ↓wp_is_integer, take_len]
  unfold isLimD
  cases isNone d
  · exact if_neg (by decide)
  · exact if_pos rfl
theorem wp_is_span {d : D} {M : Mem} {Q : U → Mem → Prop} {X : XP} : Wp (f_is_span [.dat d] M) Q X = Q (.dat (.bl (isSpanD d))) M := by
  have e : ∀ d, isND d .non = some (.bl (isNone d)) := fun d => by cases d <;> rfl
  unfold f_is_span b_is_span
  rw [wp_run]
  cases d with
  | tup ds =>
    match ds with
    | [] => simp (config := {dsimp := false}) only [↓ws_nil, ↓ws_cons, ↓ws_asg, ↓ws_setIx, ↓ws_ret, ↓ws_retN, ↓ws_if, ↓ws_drop, ↓ws_brk, ↓ws_cnt, ↓ws_for, ↓wp_tOf, ↓wp_not, ↓wp_and, ↓wp_or, ↓wp_vand, ↓wp_vor, ↓wp_eB, ↓wp_eIf, ↓wp_neg, ↓wp_chain, ↓wp_e2, ↓wp_var, ↓wp_c, ↓wp_addI, ↓wp_addS, ↓wp_addL, ↓wp_addT, ↓ws_raise1, ↓ws_raise0, ↓ws_par, ↓ws_par3, uPar3_ok, ↓wp_kin, ↓wp_kix, wo_ks, ↓wp_get1, ↓wp_get2, ↓wp_dget, ↓ws_setKey, uKeyD, keyD, ↓wp_fnK, ↓ws_try, ↓ws_hdN, ↓ws_hdC, ↓ws_suiteN, ↓ws_suiteS, ↓wp_fld, xE, gP_nil, gP_cons, Option.toList, ↓wp_lift2v, ↓wp_aNil, ↓wp_aCons, ↓wp_newF, ↓wp_newT, ↓wp_lst, ↓wp_tup, ↓wp_call, ↓wp_pf1, ↓wp_pf2, ↓wp_pfL, ↓wp_isi, ↓wp_fn, ↓wp_bm, ↓wp_sl, ↓wp_pNone, ↓wp_pSome, ↓wp_slS, ↓wp_slL, ↓wp_disp, ↓wp_newDF, ↓wp_newDT, rf_l, rf_d, ↓wp_prNil, ↓wp_prCons, ↓wp_dnew, ↓wp_iVal, ↓wp_rng1, ↓wp_rng2, ↓wp_lc, ↓wp_ok, ↓wp_exc, ↓wp_bad, ↓wp_join, itD, ↓wp_bYes, ↓rQ_dat, ↓rQ_cell, ↓wo_some, ↓wo_none, ↓wo_ite, ↓wo_map, view_dat, td_nil, td_cons, Option.map_some, bind_name, bind_tup, sa_c, sa_n, toKey, uB, uI, uD, uI1, uI2, ty_s, ty_l, List.map, List.length, List.replicate, Nat.reduceSub, Nat.reduceAdd, Nat.reduceLeDiff, Nat.zero_add, List.cons_append, List.nil_append, List.append_nil, List.getElem?_cons_zero, List.getElem?_cons_succ, Option.join_some, List.set_cons_zero, List.set_cons_succ, decide_eq_true_eq, Bool.not_eq_true', Bool.not_true, Bool.not_false, if_true, if_false, Bool.false_eq_true, eq_self, true_and, and_true, isND_n, notND_n, isi_int, isi_bool, isi_str, isi_tuple, isi_list, isi_dict, dInt, dBl, dStr, dTup, dLst, dDct, wipeE, List.set, subD, ltD, gtD, leD, geD, max2D, min2D, eqD_ii, neD_ii, eqD_ss, neD_ss, eqD_nil, neD_nil, lenD, take_len]; rfl
    | [a] => simp (config := {dsimp := false}) only [↓ws_nil, ↓ws_cons, ↓ws_asg, ↓ws_setIx, ↓ws_ret, ↓ws_retN, ↓ws_if, ↓ws_drop, ↓ws_brk, ↓ws_cnt, ↓ws_for, ↓wp_tOf, ↓wp_not, ↓wp_and, ↓wp_or, ↓wp_vand, ↓wp_vor, ↓wp_eB, ↓wp_eIf, ↓wp_neg, ↓wp_chain, ↓wp_e2, ↓wp_var, ↓wp_c, ↓wp_addI, ↓wp_addS, ↓wp_addL, ↓wp_addT, ↓ws_raise1, ↓ws_raise0, ↓ws_par, ↓ws_par3, uPar3_ok, ↓wp_kin, ↓wp_kix, wo_ks, ↓wp_get1, ↓wp_get2, ↓wp_dget, ↓ws_setKey, uKeyD, keyD, ↓wp_fnK, ↓ws_try, ↓ws_hdN, ↓ws_hdC, ↓ws_suiteN, ↓ws_suiteS, ↓wp_fld, xE, gP_nil, gP_cons, Option.toList, ↓wp_lift2v, ↓wp_aNil, ↓wp_aCons, ↓wp_newF, ↓wp_newT, ↓wp_lst, ↓wp_tup, ↓wp_call, ↓wp_pf1, ↓wp_pf2, ↓wp_pfL, ↓wp_isi, ↓wp_fn, ↓wp_bm, ↓wp_sl, ↓wp_pNone, ↓wp_pSome, ↓wp_slS, ↓wp_slL, ↓wp_disp, ↓wp_newDF, ↓wp_newDT, rf_l, rf_d, ↓wp_prNil, ↓wp_prCons, ↓wp_dnew, ↓wp_iVal, ↓wp_rng1, ↓wp_rng2, ↓wp_lc, ↓wp_ok, ↓wp_exc, ↓wp_bad, ↓wp_join, itD, ↓wp_bYes, ↓rQ_dat, ↓rQ_cell, ↓wo_some, ↓wo_none, ↓wo_ite, ↓wo_map, view_dat, td_nil, td_cons, Option.map_some, bind_name, bind_tup, sa_c, sa_n, toKey, uB, uI, uD, uI1, uI2, ty_s, ty_l, List.map, List.length, List.replicate, Nat.reduceSub, Nat.reduceAdd, Nat.reduceLeDiff, Nat.zero_add, List.cons_append, List.nil_append, List.append_nil, List.getElem?_cons_zero, List.getElem?_cons_succ, Option.join_some, List.set_cons_zero, List.set_cons_succ, decide_eq_true_eq, Bool.not_eq_true', Bool.not_true, Bool.not_false, if_true, if_false, Bool.false_eq_true, eq_self, true_and, and_true, isND_n, notND_n, isi_int, isi_bool, isi_str, isi_tuple, isi_list, isi_dict, dInt, dBl, dStr, dTup, dLst, dDct, wipeE, List.set, subD, ltD, gtD, leD, geD, max2D, min2D, eqD_ii, neD_ii, eqD_ss, neD_ss, eqD_nil, neD_nil, lenD, take_len]; rfl
    | [a, b] =>
      simp (config := {dsimp := false}) only [↓ws_nil, ↓ws_cons, ↓ws_asg, ↓ws_setIx, ↓ws_ret, ↓ws_retN, ↓ws_if, ↓ws_drop, ↓ws_brk, ↓ws_cnt, ↓ws_for, ↓wp_tOf, ↓wp_not, ↓wp_and, ↓wp_or, ↓wp_vand, ↓wp_vor, ↓wp_eB, ↓wp_eIf, ↓wp_neg, ↓wp_chain, ↓wp_e2, ↓wp_var, ↓wp_c, ↓wp_addI, ↓wp_addS, ↓wp_addL, ↓wp_addT, ↓ws_raise1, ↓ws_raise0, ↓ws_par, ↓ws_par3, uPar3_ok, ↓wp_kin, ↓wp_kix, wo_ks, ↓wp_get1, ↓wp_get2, ↓wp_dget, ↓ws_setKey, uKeyD, keyD, ↓wp_fnK, ↓ws_try, ↓ws_hdN, ↓ws_hdC, ↓ws_suiteN, ↓ws_suiteS, ↓wp_fld, xE, gP_nil, gP_cons, Option.toList, ↓wp_lift2v, ↓wp_aNil, ↓wp_aCons, ↓wp_newF, ↓wp_newT, ↓wp_lst, ↓wp_tup, ↓wp_call, ↓wp_pf1, ↓wp_pf2, ↓wp_pfL, ↓wp_isi, ↓wp_fn, ↓wp_bm, ↓wp_sl, ↓wp_pNone, ↓wp_pSome, ↓wp_slS, ↓wp_slL, ↓wp_disp, ↓wp_newDF, ↓wp_newDT, rf_l, rf_d, ↓wp_prNil, ↓wp_prCons, ↓wp_dnew, ↓wp_iVal, ↓wp_rng1, ↓wp_rng2, ↓wp_lc, ↓wp_ok, ↓wp_exc, ↓wp_bad, ↓wp_join, itD, ↓wp_bYes, ↓rQ_dat, ↓rQ_cell, ↓wo_some, ↓wo_none, ↓wo_ite, ↓wo_map, view_dat, td_nil, td_cons, Option.map_some, bind_name, bind_tup, sa_c, sa_n, toKey, uB, uI, uD, uI1, uI2, ty_s, ty_l, List.map, List.length, List.replicate, Nat.reduceSub, Nat.reduceAdd, Nat.reduceLeDiff, Nat.zero_add, List.cons_append, List.nil_append, List.append_nil, List.getElem?_cons_zero, List.getElem?_cons_succ, Option.join_some, List.set_cons_zero, List.set_cons_succ, decide_eq_true_eq, Bool.not_eq_true', Bool.not_true, Bool.not_false, if_true, if_false, Bool.false_eq_true, eq_self, true_and, and_true, isND_n, notND_n, isi_int, isi_bool, isi_str, isi_tuple, isi_list, isi_dict, dInt, dBl, dStr, dTup, dLst, dDct, wipeE, List.set, subD, ltD, gtD, leD, geD, max2D, min2D, eqD_ii, neD_ii, eqD_ss, neD_ss, eqD_nil, neD_nil, lenD, ↓wp_is_limit]
      rw [if_neg (by decide)]
      show _ = Q (.dat (.bl (isLimD a && isLimD b && ltLim a b))) M
      cases ha : isLimD a
      · rw [if_pos (by decide)]; simp (config := {dsimp := false}) only [↓ws_nil, ↓ws_cons, ↓ws_asg, ↓ws_setIx, ↓ws_ret, ↓ws_retN, ↓ws_if, ↓ws_drop, ↓ws_brk, ↓ws_cnt, ↓ws_for, ↓wp_tOf, ↓wp_not, ↓wp_and, ↓wp_or, ↓wp_vand, ↓wp_vor, ↓wp_eB, ↓wp_eIf, ↓wp_neg, ↓wp_chain, ↓wp_e2, ↓wp_var, ↓wp_c, ↓wp_addI, ↓wp_addS, ↓wp_addL, ↓wp_addT, ↓ws_raise1, ↓ws_raise0, ↓ws_par, ↓ws_par3, uPar3_ok, ↓wp_kin, ↓wp_kix, wo_ks, ↓wp_get1, ↓wp_get2, ↓wp_dget, ↓ws_setKey, uKeyD, keyD, ↓wp_fnK, ↓ws_try, ↓ws_hdN, ↓ws_hdC, ↓ws_suiteN, ↓ws_suiteS, ↓wp_fld, xE, gP_nil, gP_cons, Option.toList, ↓wp_lift2v, ↓wp_aNil, ↓wp_aCons, ↓wp_newF, ↓wp_newT, ↓wp_lst, ↓wp_tup, ↓wp_call, ↓wp_pf1, ↓wp_pf2, ↓wp_pfL, ↓wp_isi, ↓wp_fn, ↓wp_bm, ↓wp_sl, ↓wp_pNone, ↓wp_pSome, ↓wp_slS, ↓wp_slL, ↓wp_disp, ↓wp_newDF, ↓wp_newDT, rf_l, rf_d, ↓wp_prNil, ↓wp_prCons, ↓wp_dnew, ↓wp_iVal, ↓wp_rng1, ↓wp_rng2, ↓wp_lc, ↓wp_ok, ↓wp_exc, ↓wp_bad, ↓wp_join, itD, ↓wp_bYes, ↓rQ_dat, ↓rQ_cell, ↓wo_some, ↓wo_none, ↓wo_ite, ↓wo_map, view_dat, td_nil, td_cons, Option.map_some, bind_name, bind_tup, sa_c, sa_n, toKey, uB, uI, uD, uI1, uI2, ty_s, ty_l, List.map, List.length, List.replicate, Nat.reduceSub, Nat.reduceAdd, Nat.reduceLeDiff, Nat.zero_add, List.cons_append, List.nil_append, List.append_nil, List.getElem?_cons_zero, List.getElem?_cons_succ, Option.join_some, List.set_cons_zero, List.set_cons_succ, decide_eq_true_eq, Bool.not_eq_true', Bool.not_true, Bool.not_false, if_true, if_false, Bool.false_eq_true, eq_self, true_and, and_true, isND_n, notND_n, isi_int, isi_bool, isi_str, isi_tuple, isi_list, isi_dict, dInt, dBl, dStr, dTup, dLst, dDct, wipeE, List.set, subD, ltD, gtD, leD, geD, max2D, min2D, eqD_ii, neD_ii, eqD_ss, neD_ss, eqD_nil, neD_nil, take_len]; rfl
      · cases hb : isLimD b
        · rw [if_neg (by decide)]; rw [if_pos (by decide)]; simp (config := {dsimp := false}) only [↓ws_nil, ↓ws_cons, ↓ws_asg, ↓ws_setIx, ↓ws_ret, ↓ws_retN, ↓ws_if, ↓ws_drop, ↓ws_brk, ↓ws_cnt, ↓ws_for, ↓wp_tOf, ↓wp_not, ↓wp_and, ↓wp_or, ↓wp_vand, ↓wp_vor, ↓wp_eB, ↓wp_eIf, ↓wp_neg, ↓wp_chain, ↓wp_e2, ↓wp_var, ↓wp_c, ↓wp_addI, ↓wp_addS, ↓wp_addL, ↓wp_addT, ↓ws_raise1, ↓ws_raise0, ↓ws_par, ↓ws_par3, uPar3_ok, ↓wp_kin, ↓wp_kix, wo_ks, ↓wp_get1, ↓wp_get2, ↓wp_dget, ↓ws_setKey, uKeyD, keyD, ↓wp_fnK, ↓ws_try, ↓ws_hdN, ↓ws_hdC, ↓ws_suiteN, ↓ws_suiteS, ↓wp_fld, xE, gP_nil, gP_cons, Option.toList, ↓wp_lift2v, ↓wp_aNil, ↓wp_aCons, ↓wp_newF, ↓wp_newT, ↓wp_lst, ↓wp_tup, ↓wp_call, ↓wp_pf1, ↓wp_pf2, ↓wp_pfL, ↓wp_isi, ↓wp_fn, ↓wp_bm, ↓wp_sl, ↓wp_pNone, ↓wp_pSome, ↓wp_slS, ↓wp_slL, ↓wp_disp, ↓wp_newDF, ↓wp_newDT, rf_l, rf_d, ↓wp_prNil, ↓wp_prCons, ↓wp_dnew, ↓wp_iVal, ↓wp_rng1, ↓wp_rng2, ↓wp_lc, ↓wp_ok, ↓wp_exc, ↓wp_bad, ↓wp_join, itD, ↓wp_bYes, ↓rQ_dat, ↓rQ_cell, ↓wo_some, ↓wo_none, ↓wo_ite, ↓wo_map, view_dat, td_nil, td_cons, Option.map_some, bind_name, bind_tup, sa_c, sa_n, toKey, uB, uI, uD, uI1, uI2, ty_s, ty_l, List.map, List.length, List.replicate, Nat.reduceSub, Nat.reduceAdd, Nat.reduceLeDiff, Nat.zero_add, List.cons_append, List.nil_append, List.append_nil, List.getElem?_cons_zero, List.getElem?_cons_succ, Option.join_some, List.set_cons_zero, List.set_cons_succ, decide_eq_true_eq, Bool.not_eq_true', Bool.not_true, Bool.not_false, if_true, if_false, Bool.false_eq_true, eq_self, true_and, and_true, isND_n, notND_n, isi_int, isi_bool, isi_str, isi_tuple, isi_list, isi_dict, dInt, dBl, dStr, dTup, dLst, dDct, wipeE, List.set, subD, ltD, gtD, leD, geD, max2D, min2D, eqD_ii, neD_ii, eqD_ss, neD_ss, eqD_nil, neD_nil, take_len]; rfl
        · rw [if_neg (by decide)]; rw [if_neg (by decide)]
          cases a <;> first | (cases ha; done) | (cases b <;> first | (cases hb; done) | (simp [isNone, wp_ok, ltLim, wo_some, rQ_dat, take_len]))
    | a :: b :: c :: ds =>
      simp (config := {dsimp := false}) only [↓ws_nil, ↓ws_cons, ↓ws_asg, ↓ws_setIx, ↓ws_ret, ↓ws_retN, ↓ws_if, ↓ws_drop, ↓ws_brk, ↓ws_cnt, ↓ws_for, ↓wp_tOf, ↓wp_not, ↓wp_and, ↓wp_or, ↓wp_vand, ↓wp_vor, ↓wp_eB, ↓wp_eIf, ↓wp_neg, ↓wp_chain, ↓wp_e2, ↓wp_var, ↓wp_c, ↓wp_addI, ↓wp_addS, ↓wp_addL, ↓wp_addT, ↓ws_raise1, ↓ws_raise0, ↓ws_par, ↓ws_par3, uPar3_ok, ↓wp_kin, ↓wp_kix, wo_ks, ↓wp_get1, ↓wp_get2, ↓wp_dget, ↓ws_setKey, uKeyD, keyD, ↓wp_fnK, ↓ws_try, ↓ws_hdN, ↓ws_hdC, ↓ws_suiteN, ↓ws_suiteS, ↓wp_fld, xE, gP_nil, gP_cons, Option.toList, ↓wp_lift2v, ↓wp_aNil, ↓wp_aCons, ↓wp_newF, ↓wp_newT, ↓wp_lst, ↓wp_tup, ↓wp_call, ↓wp_pf1, ↓wp_pf2, ↓wp_pfL, ↓wp_isi, ↓wp_fn, ↓wp_bm, ↓wp_sl, ↓wp_pNone, ↓wp_pSome, ↓wp_slS, ↓wp_slL, ↓wp_disp, ↓wp_newDF, ↓wp_newDT, rf_l, rf_d, ↓wp_prNil, ↓wp_prCons, ↓wp_dnew, ↓wp_iVal, ↓wp_rng1, ↓wp_rng2, ↓wp_lc, ↓wp_ok, ↓wp_exc, ↓wp_bad, ↓wp_join, itD, ↓wp_bYes, ↓rQ_dat, ↓rQ_cell, ↓wo_some, ↓wo_none, ↓wo_ite, ↓wo_map, view_dat, td_nil, td_cons, Option.map_some, bind_name, bind_tup, sa_c, sa_n, toKey, uB, uI, uD, uI1, uI2, ty_s, ty_l, List.map, List.length, List.replicate, Nat.reduceSub, Nat.reduceAdd, Nat.reduceLeDiff, Nat.zero_add, List.cons_append, List.nil_append, List.append_nil, List.getElem?_cons_zero, List.getElem?_cons_succ, Option.join_some, List.set_cons_zero, List.set_cons_succ, decide_eq_true_eq, Bool.not_eq_true', Bool.not_true, Bool.not_false, if_true, if_false, Bool.false_eq_true, eq_self, true_and, and_true, isND_n, notND_n, isi_int, isi_bool, isi_str, isi_tuple, isi_list, isi_dict, dInt, dBl, dStr, dTup, dLst, dDct, wipeE, List.set, subD, ltD, gtD, leD, geD, max2D, min2D, eqD_ii, neD_ii, eqD_ss, neD_ss, eqD_nil, neD_nil, lenD, take_len]
      rw [if_pos (by simp; omega)]
      rfl
  | _ => simp (config := {dsimp := false}) only [↓ws_nil, ↓ws_cons, ↓ws_asg, ↓ws_setIx, ↓ws_ret, ↓ws_retN, ↓ws_if, ↓ws_drop, ↓ws_brk, ↓ws_cnt, ↓ws_for, ↓wp_tOf, ↓wp_not, ↓wp_and, ↓wp_or, ↓wp_vand, ↓wp_vor, ↓wp_eB, ↓wp_eIf, ↓wp_neg, ↓wp_chain, ↓wp_e2, ↓wp_var, ↓wp_c, ↓wp_addI, ↓wp_addS, ↓wp_addL, ↓wp_addT, ↓ws_raise1, ↓ws_raise0, ↓ws_par, ↓ws_par3, uPar3_ok, ↓wp_kin, ↓wp_kix, wo_ks, ↓wp_get1, ↓wp_get2, ↓wp_dget, ↓ws_setKey, uKeyD, keyD, ↓wp_fnK, ↓ws_try, ↓ws_hdN, ↓ws_hdC, ↓ws_suiteN, ↓ws_suiteS, ↓wp_fld, xE, gP_nil, gP_cons, Option.toList, ↓wp_lift2v, ↓wp_aNil, ↓wp_aCons, ↓wp_newF, ↓wp_newT, ↓wp_lst, ↓wp_tup, ↓wp_call, ↓wp_pf1, ↓wp_pf2, ↓wp_pfL, ↓wp_isi, ↓wp_fn, ↓wp_bm, ↓wp_sl, ↓wp_pNone, ↓wp_pSome, ↓wp_slS, ↓wp_slL, ↓wp_disp, ↓wp_newDF, ↓wp_newDT, rf_l, rf_d, ↓wp_prNil, ↓wp_prCons, ↓wp_dnew, ↓wp_iVal, ↓wp_rng1, ↓wp_rng2, ↓wp_lc, ↓wp_ok, ↓wp_exc, ↓wp_bad, ↓wp_join, itD, ↓wp_bYes, ↓rQ_dat, ↓rQ_cell, ↓wo_some, ↓wo_none, ↓wo_ite, ↓wo_map, view_dat, td_nil, td_cons, Option.map_some, bind_name, bind_tup, sa_c, sa_n, toKey, uB, uI, uD, uI1, uI2, ty_s, ty_l, List.map, List.length, List.replicate, Nat.reduceSub, Nat.reduceAdd, Nat.reduceLeDiff, Nat.zero_add, List.cons_append, List.nil_append, List.append_nil, List.getElem?_cons_zero, List.getElem?_cons_succ, Option.join_some, List.set_cons_zero, List.set_cons_succ, decide_eq_true_eq, Bool.not_eq_true', Bool.not_true, Bool.not_false, if_true, if_false, Bool.false_eq_true, eq_self, true_and, and_true, isND_n, notND_n, isi_int, isi_bool, isi_str, isi_tuple, isi_list, isi_dict, dInt, dBl, dStr, dTup, dLst, dDct, wipeE, List.set, subD, ltD, gtD, leD, geD, max2D, min2D, eqD_ii, neD_ii, eqD_ss, neD_ss, eqD_nil, neD_nil, take_len]; rfl
end SD

set_option Elab.async false
set_option linter.all false
set_option maxRecDepth 100000
set_option maxHeartbeats 4000000
namespace SD
open PySem PySem.Spec PyProof.Rows L2

theorem wp_lcM {β : Type} {ρ : En} {M : Mem} {t : Tgt} {test : Tv} {elt : Ev} (f : β → D) (p : β → Bool) (g : β → D) {Q : List D → Mem → Prop} {xs : List β} (h : ∀ b ∈ xs, WO (t.bind (.dat (f b)) ρ) fun ρ1 => Wp (test ρ1 M) (fun b' M1 => b' = p b ∧ M1 = M) x0 ∧ (p b = true → Wp (elt ρ1 M) (fun u M1 => u = .dat (g b) ∧ M1 = M) x0))
    (q : Q ((xs.filter p).map g) M) : Wp (lcL t test elt ρ (xs.map f) M) Q x0 := by
  suffices hs : lcL t test elt ρ (xs.map f) M = .ok ((xs.filter p).map g) M by rw [hs]; exact q
  clear q
  induction xs with
  | nil => rfl
  | cons d ds ih =>
    have h1 := h d List.mem_cons_self
    have ih' := ih fun e he => h e (List.mem_cons_of_mem _ he)
    rw [List.map_cons]
    unfold lcL
    cases hb : t.bind (.dat (f d)) ρ with
    | none => rw [hb] at h1; exact h1.elim
    | some ρ1 =>
      rw [hb] at h1
      obtain ⟨h2, h3⟩ := h1
      obtain ⟨b, M1, e1, rfl, rfl⟩ := h2.ok
      simp only [e1, Out.bind]
      by_cases hp : p d = true
      · obtain ⟨u, M2, e2, rfl, rfl⟩ := (h3 hp).ok
        simp only [hp, if_true, e2, ih', List.filter_cons_of_pos, List.map_cons]
      · simp only [hp, List.filter_cons, ih']
        simp
theorem toBs_map (bs : List Bool) : toBs (bs.map D.bl) = some bs := by
  induction bs with
  | nil => rfl
  | cons b bs ih => show (toBs (bs.map D.bl)).map (b :: ·) = _; rw [ih]; rfl
theorem filter_yes {β : Type} {xs : List β} : xs.filter (fun _ => true) = xs := List.filter_eq_self.mpr fun _ _ => rfl
theorem chars_ok : ∀ {es : List D}, (∀ e ∈ es, ∃ c, e = .str [c]) → ∃ s : Cs, toStrs es = some (s.map fun c => [c]) ∧ es = s.map fun c => .str [c]
  | [], _ => ⟨[], rfl, rfl⟩
  | e :: es, h => by
    obtain ⟨c, rfl⟩ := h e List.mem_cons_self
    obtain ⟨s, h1, h2⟩ := chars_ok fun e he => h e (List.mem_cons_of_mem _ he)
    refine ⟨c :: s, ?_, by rw [h2]; rfl⟩
    show (toStrs es).map ([c] :: ·) = _
    rw [h1]; rfl
theorem joinC_one : ∀ s : Cs, joinC [] (s.map fun c => [c]) = s
  | [] => rfl
  | [c] => rfl
  | c :: d :: s => by
    show [c] ++ ([] ++ joinC [] ((d :: s).map fun c => [c])) = _
    rw [joinC_one (d :: s)]; rfl
theorem ones_len (s : Cs) : ((s.map fun c => [c]).map (·.length)).sum = s.length := by
  induction s with
  | nil => rfl
  | cons c s ih => simp only [List.map_cons, List.sum_cons, ih, List.length_cons, List.length_nil]; omega
theorem ups_len {lo : Int} {n : Nat} : (intsUp lo n).length = n := by simp [intsUp]
theorem cut_len {α : Type} (s : List α) (lo hi : Option Int) : (cutL s lo hi).length ≤ s.length := by
  unfold cutL
  rw [List.length_take, List.length_drop]; omega
/-! ### is_name -/
def letters : Cs := [97, 98, 99, 100, 101, 102, 103, 104, 105, 106, 107, 108, 109, 110, 111, 112, 113, 114, 115, 116, 117, 118, 119, 120, 121, 122]
def cTable : Cs := [116, 97, 98, 108, 101]
def b_is_name : Sv := (sCons (sIf (bOr (bNot (tOf (eIsi "str" (eVar 0)))) (bOr (tOf (e2 (lift2 eqD) (eVar 0) (eC (.str [116, 97, 98, 108, 101])))) (bNot (tOf (eChain (lift2 leD) (lift2 leD) (eC (.int 1)) (eCall (pf1 lenD) (aCons (eVar 0) aNil)) (eC (.int 8))))))) (sRet (eC (.bl false))) sNil) (sRet (eCall (pf1 allD) (aCons (eLc false (iVal (eVar 0)) (.name 1) bYes (e2 (lift2 inD) (eVar 1) (eC (.str [97, 98, 99, 100, 101, 102, 103, 104, 105, 106, 107, 108, 109, 110, 111, 112, 113, 114, 115, 116, 117, 118, 119, 120, 121, 122]))) [1]) aNil))))
def f_is_name : Fn := fnRun 2 b_is_name
def letterB (c : Nat) : Bool := subS [c] letters
def isNameC (s : Cs) : Bool := !(s == cTable) && decide (1 ≤ s.length) && decide (s.length ≤ 8) && s.all letterB
def isNameD : D → Bool
  | .str s => isNameC s
  | _ => false
theorem wp_is_name {d : D} {M : Mem} {Q : U → Mem → Prop} {X : XP} (hs : ∀ s, d = .str s → s.length ≤ 16777216) : Wp (f_is_name [.dat d] M) Q X = Q (.dat (.bl (isNameD d))) M := by
  unfold f_is_name b_is_name
  rw [wp_run]
  cases d with
  | str s =>
    have hl := hs s rfl
    have l1 : lenD (.str s) = some (.int s.length) := if_pos hl
    simp (config := {dsimp := false}) only [↓ws_nil, ↓ws_cons, ↓ws_asg, ↓ws_setIx, ↓ws_ret, ↓ws_retN, ↓ws_if, ↓ws_drop, ↓ws_brk, ↓ws_cnt, ↓ws_for, ↓wp_tOf, ↓wp_not, ↓wp_and, ↓wp_or, ↓wp_vand, ↓wp_vor, ↓wp_eB, ↓wp_eIf, ↓wp_neg, ↓wp_chain, ↓wp_e2, ↓wp_var, ↓wp_c, ↓wp_addI, ↓wp_addS, ↓wp_addL, ↓wp_addT, ↓ws_raise1, ↓ws_raise0, ↓ws_par, ↓ws_par3, uPar3_ok, ↓wp_kin, ↓wp_kix, wo_ks, ↓wp_get1, ↓wp_get2, ↓wp_dget, ↓ws_setKey, uKeyD, keyD, ↓wp_fnK, ↓ws_try, ↓ws_hdN, ↓ws_hdC, ↓ws_suiteN, ↓ws_suiteS, ↓wp_fld, xE, gP_nil, gP_cons, Option.toList, ↓wp_lift2v, ↓wp_aNil, ↓wp_aCons, ↓wp_newF, ↓wp_newT, ↓wp_lst, ↓wp_tup, ↓wp_call, ↓wp_pf1, ↓wp_pf2, ↓wp_pfL, ↓wp_isi, ↓wp_fn, ↓wp_bm, ↓wp_sl, ↓wp_pNone, ↓wp_pSome, ↓wp_slS, ↓wp_slL, ↓wp_disp, ↓wp_newDF, ↓wp_newDT, rf_l, rf_d, ↓wp_prNil, ↓wp_prCons, ↓wp_dnew, ↓wp_iVal, ↓wp_rng1, ↓wp_rng2, ↓wp_lc, ↓wp_ok, ↓wp_exc, ↓wp_bad, ↓wp_join, itD, ↓wp_bYes, ↓rQ_dat, ↓rQ_cell, ↓wo_some, ↓wo_none, ↓wo_ite, ↓wo_map, view_dat, td_nil, td_cons, Option.map_some, bind_name, bind_tup, sa_c, sa_n, toKey, uB, uI, uD, uI1, uI2, ty_s, ty_l, List.map, List.length, List.replicate, Nat.reduceSub, Nat.reduceAdd, Nat.reduceLeDiff, Nat.zero_add, List.cons_append, List.nil_append, List.append_nil, List.getElem?_cons_zero, List.getElem?_cons_succ, Option.join_some, List.set_cons_zero, List.set_cons_succ, decide_eq_true_eq, Bool.not_eq_true', Bool.not_true, Bool.not_false, if_true, if_false, Bool.false_eq_true, eq_self, true_and, and_true, isND_n, notND_n, isi_int, isi_bool, isi_str, isi_tuple, isi_list, isi_dict, dInt, dBl, dStr, dTup, dLst, dDct, wipeE, List.set, subD, ltD, gtD, leD, geD, max2D, min2D, eqD_ii, neD_ii, eqD_ss, neD_ss, eqD_nil, neD_nil, l1, take_len, wipeE]
    show _ = Q (.dat (.bl (isNameC s))) M
    unfold isNameC
    by_cases h1 : (s == [116, 97, 98, 108, 101]) = true
    · rw [if_pos h1, show (s == cTable) = true from h1]; rfl
    · rw [if_neg h1, show (s == cTable) = false from by rw [Bool.not_eq_true] at h1; exact h1]
      by_cases h2 : (1 : Int) ≤ s.length
      · by_cases h3 : (s.length : Int) ≤ 8
        · have h2' : 1 ≤ s.length := by omega
          have h3' : s.length ≤ 8 := by omega
          rw [if_pos h2, if_neg (by simp [h3]), decide_eq_true h2', decide_eq_true h3']
          have key : ∀ (M : Mem), lcL (.name 1) bYes (e2 (lift2 inD) (eVar 1) (eC (.str letters))) [some (.dat (.str s)), none] (s.map fun c => D.str [c]) M = .ok ((s.map letterB).map D.bl) M := by
            intro M
            have w : Wp (lcL (.name 1) bYes (e2 (lift2 inD) (eVar 1) (eC (.str letters))) [some (.dat (.str s)), none] (s.map fun c => D.str [c]) M) (fun es M' => es = (s.map letterB).map D.bl ∧ M' = M) x0 := by
              refine wp_lcM _ (fun _ => true) (fun c => D.bl (letterB c)) (fun c hc => ?_) ⟨?_, rfl⟩
              · simp (config := {dsimp := false}) only [↓ws_nil, ↓ws_cons, ↓ws_asg, ↓ws_setIx, ↓ws_ret, ↓ws_retN, ↓ws_if, ↓ws_drop, ↓ws_brk, ↓ws_cnt, ↓ws_for, ↓wp_tOf, ↓wp_not, ↓wp_and, ↓wp_or, ↓wp_vand, ↓wp_vor, ↓wp_eB, ↓wp_eIf, ↓wp_neg, ↓wp_chain, ↓wp_e2, ↓wp_var, ↓wp_c, ↓wp_addI, ↓wp_addS, ↓wp_addL, ↓wp_addT, ↓ws_raise1, ↓ws_raise0, ↓ws_par, ↓ws_par3, uPar3_ok, ↓wp_kin, ↓wp_kix, wo_ks, ↓wp_get1, ↓wp_get2, ↓wp_dget, ↓ws_setKey, uKeyD, keyD, ↓wp_fnK, ↓ws_try, ↓ws_hdN, ↓ws_hdC, ↓ws_suiteN, ↓ws_suiteS, ↓wp_fld, xE, gP_nil, gP_cons, Option.toList, ↓wp_lift2v, ↓wp_aNil, ↓wp_aCons, ↓wp_newF, ↓wp_newT, ↓wp_lst, ↓wp_tup, ↓wp_call, ↓wp_pf1, ↓wp_pf2, ↓wp_pfL, ↓wp_isi, ↓wp_fn, ↓wp_bm, ↓wp_sl, ↓wp_pNone, ↓wp_pSome, ↓wp_slS, ↓wp_slL, ↓wp_disp, ↓wp_newDF, ↓wp_newDT, rf_l, rf_d, ↓wp_prNil, ↓wp_prCons, ↓wp_dnew, ↓wp_iVal, ↓wp_rng1, ↓wp_rng2, ↓wp_lc, ↓wp_ok, ↓wp_exc, ↓wp_bad, ↓wp_join, itD, ↓wp_bYes, ↓rQ_dat, ↓rQ_cell, ↓wo_some, ↓wo_none, ↓wo_ite, ↓wo_map, view_dat, td_nil, td_cons, Option.map_some, bind_name, bind_tup, sa_c, sa_n, toKey, uB, uI, uD, uI1, uI2, ty_s, ty_l, List.map, List.length, List.replicate, Nat.reduceSub, Nat.reduceAdd, Nat.reduceLeDiff, Nat.zero_add, List.cons_append, List.nil_append, List.append_nil, List.getElem?_cons_zero, List.getElem?_cons_succ, Option.join_some, List.set_cons_zero, List.set_cons_succ, decide_eq_true_eq, Bool.not_eq_true', Bool.not_true, Bool.not_false, if_true, if_false, Bool.false_eq_true, eq_self, true_and, and_true, isND_n, notND_n, isi_int, isi_bool, isi_str, isi_tuple, isi_list, isi_dict, dInt, dBl, dStr, dTup, dLst, dDct, wipeE, List.set, subD, ltD, gtD, leD, geD, max2D, min2D, eqD_ii, neD_ii, eqD_ss, neD_ss, eqD_nil, neD_nil, inD]; simp [letterB]
              · rw [filter_yes, List.map_map]; rfl
            obtain ⟨es, M', e, rfl, rfl⟩ := w.ok
            exact e
          simp (config := {dsimp := false}) only [↓ws_nil, ↓ws_cons, ↓ws_asg, ↓ws_setIx, ↓ws_ret, ↓ws_retN, ↓ws_if, ↓ws_drop, ↓ws_brk, ↓ws_cnt, ↓ws_for, ↓wp_tOf, ↓wp_not, ↓wp_and, ↓wp_or, ↓wp_vand, ↓wp_vor, ↓wp_eB, ↓wp_eIf, ↓wp_neg, ↓wp_chain, ↓wp_e2, ↓wp_var, ↓wp_c, ↓wp_addI, ↓wp_addS, ↓wp_addL, ↓wp_addT, ↓ws_raise1, ↓ws_raise0, ↓ws_par, ↓ws_par3, uPar3_ok, ↓wp_kin, ↓wp_kix, wo_ks, ↓wp_get1, ↓wp_get2, ↓wp_dget, ↓ws_setKey, uKeyD, keyD, ↓wp_fnK, ↓ws_try, ↓ws_hdN, ↓ws_hdC, ↓ws_suiteN, ↓ws_suiteS, ↓wp_fld, xE, gP_nil, gP_cons, Option.toList, ↓wp_lift2v, ↓wp_aNil, ↓wp_aCons, ↓wp_newF, ↓wp_newT, ↓wp_lst, ↓wp_tup, ↓wp_call, ↓wp_pf1, ↓wp_pf2, ↓wp_pfL, ↓wp_isi, ↓wp_fn, ↓wp_bm, ↓wp_sl, ↓wp_pNone, ↓wp_pSome, ↓wp_slS, ↓wp_slL, ↓wp_disp, ↓wp_newDF, ↓wp_newDT, rf_l, rf_d, ↓wp_prNil, ↓wp_prCons, ↓wp_dnew, ↓wp_iVal, ↓wp_rng1, ↓wp_rng2, ↓wp_lc, ↓wp_ok, ↓wp_exc, ↓wp_bad, ↓wp_join, itD, ↓wp_bYes, ↓rQ_dat, ↓rQ_cell, ↓wo_some, ↓wo_none, ↓wo_ite, ↓wo_map, view_dat, td_nil, td_cons, Option.map_some, bind_name, bind_tup, sa_c, sa_n, toKey, uB, uI, uD, uI1, uI2, ty_s, ty_l, List.map, List.length, List.replicate, Nat.reduceSub, Nat.reduceAdd, Nat.reduceLeDiff, Nat.zero_add, List.cons_append, List.nil_append, List.append_nil, List.getElem?_cons_zero, List.getElem?_cons_succ, Option.join_some, List.set_cons_zero, List.set_cons_succ, decide_eq_true_eq, Bool.not_eq_true', Bool.not_true, Bool.not_false, if_true, if_false, Bool.false_eq_true, eq_self, true_and, and_true, isND_n, notND_n, isi_int, isi_bool, isi_str, isi_tuple, isi_list, isi_dict, dInt, dBl, dStr, dTup, dLst, dDct, wipeE, List.set, subD, ltD, gtD, leD, geD, max2D, min2D, eqD_ii, neD_ii, eqD_ss, neD_ss, eqD_nil, neD_nil, List.set, List.length_map]
          rw [show ([97, 98, 99, 100, 101, 102, 103, 104, 105, 106, 107, 108, 109, 110, 111, 112, 113, 114, 115, 116, 117, 118, 119, 120, 121, 122] : Cs) = letters from rfl, key]
          simp (config := {dsimp := false}) only [↓ws_nil, ↓ws_cons, ↓ws_asg, ↓ws_setIx, ↓ws_ret, ↓ws_retN, ↓ws_if, ↓ws_drop, ↓ws_brk, ↓ws_cnt, ↓ws_for, ↓wp_tOf, ↓wp_not, ↓wp_and, ↓wp_or, ↓wp_vand, ↓wp_vor, ↓wp_eB, ↓wp_eIf, ↓wp_neg, ↓wp_chain, ↓wp_e2, ↓wp_var, ↓wp_c, ↓wp_addI, ↓wp_addS, ↓wp_addL, ↓wp_addT, ↓ws_raise1, ↓ws_raise0, ↓ws_par, ↓ws_par3, uPar3_ok, ↓wp_kin, ↓wp_kix, wo_ks, ↓wp_get1, ↓wp_get2, ↓wp_dget, ↓ws_setKey, uKeyD, keyD, ↓wp_fnK, ↓ws_try, ↓ws_hdN, ↓ws_hdC, ↓ws_suiteN, ↓ws_suiteS, ↓wp_fld, xE, gP_nil, gP_cons, Option.toList, ↓wp_lift2v, ↓wp_aNil, ↓wp_aCons, ↓wp_newF, ↓wp_newT, ↓wp_lst, ↓wp_tup, ↓wp_call, ↓wp_pf1, ↓wp_pf2, ↓wp_pfL, ↓wp_isi, ↓wp_fn, ↓wp_bm, ↓wp_sl, ↓wp_pNone, ↓wp_pSome, ↓wp_slS, ↓wp_slL, ↓wp_disp, ↓wp_newDF, ↓wp_newDT, rf_l, rf_d, ↓wp_prNil, ↓wp_prCons, ↓wp_dnew, ↓wp_iVal, ↓wp_rng1, ↓wp_rng2, ↓wp_lc, ↓wp_ok, ↓wp_exc, ↓wp_bad, ↓wp_join, itD, ↓wp_bYes, ↓rQ_dat, ↓rQ_cell, ↓wo_some, ↓wo_none, ↓wo_ite, ↓wo_map, view_dat, td_nil, td_cons, Option.map_some, bind_name, bind_tup, sa_c, sa_n, toKey, uB, uI, uD, uI1, uI2, ty_s, ty_l, List.map, List.length, List.replicate, Nat.reduceSub, Nat.reduceAdd, Nat.reduceLeDiff, Nat.zero_add, List.cons_append, List.nil_append, List.append_nil, List.getElem?_cons_zero, List.getElem?_cons_succ, Option.join_some, List.set_cons_zero, List.set_cons_succ, decide_eq_true_eq, Bool.not_eq_true', Bool.not_true, Bool.not_false, if_true, if_false, Bool.false_eq_true, eq_self, true_and, and_true, isND_n, notND_n, isi_int, isi_bool, isi_str, isi_tuple, isi_list, isi_dict, dInt, dBl, dStr, dTup, dLst, dDct, wipeE, List.set, subD, ltD, gtD, leD, geD, max2D, min2D, eqD_ii, neD_ii, eqD_ss, neD_ss, eqD_nil, neD_nil, allD, toBs_map, hl]
          rw [take_len, List.all_map]; rfl
        · have h3' : ¬ s.length ≤ 8 := by omega
          rw [if_pos h2, if_pos (by simp [h3]), decide_eq_false h3']; simp [rQ_dat]
      · have h2' : ¬ 1 ≤ s.length := by omega
        rw [if_neg h2, decide_eq_false h2']; simp [rQ_dat]
  | _ => simp (config := {dsimp := false}) only [↓ws_nil, ↓ws_cons, ↓ws_asg, ↓ws_setIx, ↓ws_ret, ↓ws_retN, ↓ws_if, ↓ws_drop, ↓ws_brk, ↓ws_cnt, ↓ws_for, ↓wp_tOf, ↓wp_not, ↓wp_and, ↓wp_or, ↓wp_vand, ↓wp_vor, ↓wp_eB, ↓wp_eIf, ↓wp_neg, ↓wp_chain, ↓wp_e2, ↓wp_var, ↓wp_c, ↓wp_addI, ↓wp_addS, ↓wp_addL, ↓wp_addT, ↓ws_raise1, ↓ws_raise0, ↓ws_par, ↓ws_par3, uPar3_ok, ↓wp_kin, ↓wp_kix, wo_ks, ↓wp_get1, ↓wp_get2, ↓wp_dget, ↓ws_setKey, uKeyD, keyD, ↓wp_fnK, ↓ws_try, ↓ws_hdN, ↓ws_hdC, ↓ws_suiteN, ↓ws_suiteS, ↓wp_fld, xE, gP_nil, gP_cons, Option.toList, ↓wp_lift2v, ↓wp_aNil, ↓wp_aCons, ↓wp_newF, ↓wp_newT, ↓wp_lst, ↓wp_tup, ↓wp_call, ↓wp_pf1, ↓wp_pf2, ↓wp_pfL, ↓wp_isi, ↓wp_fn, ↓wp_bm, ↓wp_sl, ↓wp_pNone, ↓wp_pSome, ↓wp_slS, ↓wp_slL, ↓wp_disp, ↓wp_newDF, ↓wp_newDT, rf_l, rf_d, ↓wp_prNil, ↓wp_prCons, ↓wp_dnew, ↓wp_iVal, ↓wp_rng1, ↓wp_rng2, ↓wp_lc, ↓wp_ok, ↓wp_exc, ↓wp_bad, ↓wp_join, itD, ↓wp_bYes, ↓rQ_dat, ↓rQ_cell, ↓wo_some, ↓wo_none, ↓wo_ite, ↓wo_map, view_dat, td_nil, td_cons, Option.map_some, bind_name, bind_tup, sa_c, sa_n, toKey, uB, uI, uD, uI1, uI2, ty_s, ty_l, List.map, List.length, List.replicate, Nat.reduceSub, Nat.reduceAdd, Nat.reduceLeDiff, Nat.zero_add, List.cons_append, List.nil_append, List.append_nil, List.getElem?_cons_zero, List.getElem?_cons_succ, Option.join_some, List.set_cons_zero, List.set_cons_succ, decide_eq_true_eq, Bool.not_eq_true', Bool.not_true, Bool.not_false, if_true, if_false, Bool.false_eq_true, eq_self, true_and, and_true, isND_n, notND_n, isi_int, isi_bool, isi_str, isi_tuple, isi_list, isi_dict, dInt, dBl, dStr, dTup, dLst, dDct, wipeE, List.set, subD, ltD, gtD, leD, geD, max2D, min2D, eqD_ii, neD_ii, eqD_ss, neD_ss, eqD_nil, neD_nil, take_len]; rfl
end SD

set_option Elab.async false
set_option linter.all false
set_option maxRecDepth 100000
set_option maxHeartbeats 4000000
namespace SD
open PySem PySem.Spec PyProof.Rows L2

/-! ### words.py: spans -/
def b_need_span : Sv := (sIf (bNot (tOf (eFn 1 [] f_is_span (aCons (eVar 0) aNil)))) (sRaise1 "InvalidSpan" "value" (eVar 0)) sNil)
def f_need_span : Fn := fnRun 1 b_need_span
def b_greater_limit : Sv := (sCons (sIf (bOr (tOf (e2 (lift2 isND) (eVar 0) (eC .non))) (tOf (e2 (lift2 isND) (eVar 1) (eC .non)))) (sRet (eIf (tOf (e2 (lift2 isND) (eVar 0) (eC .non))) (eVar 1) (eVar 0))) sNil) (sRet (eCall (pf1 maxLD) (aCons (eLst false (aCons (eVar 0) (aCons (eVar 1) aNil))) aNil))))
def f_greater_limit : Fn := fnRun 2 b_greater_limit
def b_lesser_limit : Sv := (sCons (sIf (bOr (tOf (e2 (lift2 isND) (eVar 0) (eC .non))) (tOf (e2 (lift2 isND) (eVar 1) (eC .non)))) (sRet (eIf (tOf (e2 (lift2 isND) (eVar 0) (eC .non))) (eVar 1) (eVar 0))) sNil) (sRet (eCall (pf1 minLD) (aCons (eLst false (aCons (eVar 0) (aCons (eVar 1) aNil))) aNil))))
def f_lesser_limit : Fn := fnRun 2 b_lesser_limit
def b_common : Sv := (sCons (sDrop (eFn 1 [] f_need_span (aCons (eVar 0) aNil))) (sCons (sDrop (eFn 1 [] f_need_span (aCons (eVar 1) aNil))) (sCons (sAsg (.name 2) (eTup (aCons (eFn 2 [] f_greater_limit (aCons (e2 (lift2 ixD) (eVar 0) (eC (.int 0))) (aCons (e2 (lift2 ixD) (eVar 1) (eC (.int 0))) aNil))) (aCons (eFn 2 [] f_lesser_limit (aCons (e2 (lift2 ixD) (eVar 0) (eC (.int 1))) (aCons (e2 (lift2 ixD) (eVar 1) (eC (.int 1))) aNil))) aNil)))) (sRet (eIf (tOf (eFn 1 [] f_is_span (aCons (eVar 2) aNil))) (eVar 2) (eC .non))))))
def f_common : Fn := fnRun 3 b_common
def b_need_key : Sv := (sIf (bNot (tOf (eFn 1 [] f_is_integer (aCons (eVar 0) aNil)))) (sRaise1 "InvalidKey" "value" (eVar 0)) sNil)
def f_need_key : Fn := fnRun 1 b_need_key
def b_has_key : Sv := (sCons (sAsg (.tup [2, 3]) (eVar 0)) (sRet (vAnd (vOr (e2 (lift2 isND) (eVar 2) (eC .non)) (e2 (lift2 leD) (eVar 2) (eVar 1))) (vOr (e2 (lift2 isND) (eVar 3) (eC .non)) (e2 (lift2 ltD) (eVar 1) (eVar 3))))))
def f_has_key : Fn := fnRun 4 b_has_key
def b_in_span : Sv := (sCons (sDrop (eFn 1 [] f_need_span (aCons (eVar 0) aNil))) (sCons (sDrop (eFn 1 [] f_need_key (aCons (eVar 1) aNil))) (sRet (eFn 2 [] f_has_key (aCons (eVar 0) (aCons (eVar 1) aNil))))))
def f_in_span : Fn := fnRun 2 b_in_span
def b_meet : Sv := (sRet (e2 (lift2 notND) (eFn 2 [] f_common (aCons (eVar 0) (aCons (eVar 1) aNil))) (eC .non)))
def f_meet : Fn := fnRun 2 b_meet

/-- a limit, a span -/
def lim : Option Int → D
  | none => .non
  | some i => .int i
abbrev Sp2 := Option Int × Option Int
def spD (s : Sp2) : D := .tup [lim s.1, lim s.2]
def ltO : Option Int → Option Int → Bool
  | some l, some h => decide (l < h)
  | _, _ => true
def okS (s : Sp2) : Bool := ltO s.1 s.2
def loK : Option Int → Int → Bool
  | none, _ => true
  | some l, k => decide (l ≤ k)
def hiK : Option Int → Int → Bool
  | none, _ => true
  | some h, k => decide (k < h)
def hasK (s : Sp2) (k : Int) : Bool := loK s.1 k && hiK s.2 k
def glO : Option Int → Option Int → Option Int
  | none, y => y
  | x, none => x
  | some a, some b => some (max a b)
def llO : Option Int → Option Int → Option Int
  | none, y => y
  | x, none => x
  | some a, some b => some (min a b)
def commS (s t : Sp2) : Sp2 := (glO s.1 t.1, llO s.2 t.2)
theorem lim_isLim (o : Option Int) : isLimD (lim o) = true := by cases o <;> rfl
theorem isNone_lim (o : Option Int) : isNone (lim o) = o.isNone := by cases o <;> rfl
theorem isSpan_sp (s : Sp2) : isSpanD (spD s) = okS s := by
  obtain ⟨l, h⟩ := s
  cases l <;> cases h <;> rfl
theorem isLim_ex {d : D} (h : isLimD d = true) : ∃ o, d = lim o := by
  cases d with
  | non => exact ⟨none, rfl⟩
  | int i => exact ⟨some i, rfl⟩
  | _ => cases h
theorem isSpan_ex {d : D} (h : isSpanD d = true) : ∃ s, d = spD s ∧ okS s = true := by
  unfold isSpanD at h
  split at h
  · rename_i l u
    rw [Bool.and_eq_true, Bool.and_eq_true] at h
    obtain ⟨a, rfl⟩ := isLim_ex h.1.1
    obtain ⟨b, rfl⟩ := isLim_ex h.1.2
    refine ⟨(a, b), rfl, ?_⟩
    have := h.2
    cases a <;> cases b <;> first | rfl | exact this
  · cases h
theorem wp_need_span {d : D} {M : Mem} {Q : U → Mem → Prop} {X : XP} : Wp (f_need_span [.dat d] M) Q X = if isSpanD d = true then Q (.dat .non) M else X "InvalidSpan" [("value", d)] M := by
  unfold f_need_span b_need_span
  rw [wp_run]
  simp (config := {dsimp := false}) only [↓ws_nil, ↓ws_cons, ↓ws_asg, ↓ws_setIx, ↓ws_ret, ↓ws_retN, ↓ws_if, ↓ws_drop, ↓ws_brk, ↓ws_cnt, ↓ws_for, ↓wp_tOf, ↓wp_not, ↓wp_and, ↓wp_or, ↓wp_vand, ↓wp_vor, ↓wp_eB, ↓wp_eIf, ↓wp_neg, ↓wp_chain, ↓wp_e2, ↓wp_var, ↓wp_c, ↓wp_addI, ↓wp_addS, ↓wp_addL, ↓wp_addT, ↓ws_raise1, ↓ws_raise0, ↓ws_par, ↓ws_par3, uPar3_ok, ↓wp_kin, ↓wp_kix, wo_ks, ↓wp_get1, ↓wp_get2, ↓wp_dget, ↓ws_setKey, uKeyD, keyD, ↓wp_fnK, ↓ws_try, ↓ws_hdN, ↓ws_hdC, ↓ws_suiteN, ↓ws_suiteS, ↓wp_fld, xE, gP_nil, gP_cons, Option.toList, ↓wp_lift2v, ↓wp_aNil, ↓wp_aCons, ↓wp_newF, ↓wp_newT, ↓wp_lst, ↓wp_tup, ↓wp_call, ↓wp_pf1, ↓wp_pf2, ↓wp_pfL, ↓wp_isi, ↓wp_fn, ↓wp_bm, ↓wp_sl, ↓wp_pNone, ↓wp_pSome, ↓wp_slS, ↓wp_slL, ↓wp_disp, ↓wp_newDF, ↓wp_newDT, rf_l, rf_d, ↓wp_prNil, ↓wp_prCons, ↓wp_dnew, ↓wp_iVal, ↓wp_rng1, ↓wp_rng2, ↓wp_lc, ↓wp_ok, ↓wp_exc, ↓wp_bad, ↓wp_join, itD, ↓wp_bYes, ↓rQ_dat, ↓rQ_cell, ↓wo_some, ↓wo_none, ↓wo_ite, ↓wo_map, view_dat, td_nil, td_cons, Option.map_some, bind_name, bind_tup, sa_c, sa_n, toKey, uB, uI, uD, uI1, uI2, ty_s, ty_l, List.map, List.length, List.replicate, Nat.reduceSub, Nat.reduceAdd, Nat.reduceLeDiff, Nat.zero_add, List.cons_append, List.nil_append, List.append_nil, List.getElem?_cons_zero, List.getElem?_cons_succ, Option.join_some, List.set_cons_zero, List.set_cons_succ, decide_eq_true_eq, Bool.not_eq_true', Bool.not_true, Bool.not_false, if_true, if_false, Bool.false_eq_true, eq_self, true_and, and_true, isND_n, notND_n, isi_int, isi_bool, isi_str, isi_tuple, isi_list, isi_dict, dInt, dBl, dStr, dTup, dLst, dDct, wipeE, List.set, subD, ltD, gtD, leD, geD, max2D, min2D, eqD_ii, neD_ii, eqD_ss, neD_ss, eqD_nil, neD_nil, ↓wp_is_span, take_len]
  cases isSpanD d <;> rfl
theorem wp_need_key {d : D} {M : Mem} {Q : U → Mem → Prop} {X : XP} : Wp (f_need_key [.dat d] M) Q X = if isIntD d = true then Q (.dat .non) M else X "InvalidKey" [("value", d)] M := by
  unfold f_need_key b_need_key
  rw [wp_run]
  simp (config := {dsimp := false}) only [↓ws_nil, ↓ws_cons, ↓ws_asg, ↓ws_setIx, ↓ws_ret, ↓ws_retN, ↓ws_if, ↓ws_drop, ↓ws_brk, ↓ws_cnt, ↓ws_for, ↓wp_tOf, ↓wp_not, ↓wp_and, ↓wp_or, ↓wp_vand, ↓wp_vor, ↓wp_eB, ↓wp_eIf, ↓wp_neg, ↓wp_chain, ↓wp_e2, ↓wp_var, ↓wp_c, ↓wp_addI, ↓wp_addS, ↓wp_addL, ↓wp_addT, ↓ws_raise1, ↓ws_raise0, ↓ws_par, ↓ws_par3, uPar3_ok, ↓wp_kin, ↓wp_kix, wo_ks, ↓wp_get1, ↓wp_get2, ↓wp_dget, ↓ws_setKey, uKeyD, keyD, ↓wp_fnK, ↓ws_try, ↓ws_hdN, ↓ws_hdC, ↓ws_suiteN, ↓ws_suiteS, ↓wp_fld, xE, gP_nil, gP_cons, Option.toList, ↓wp_lift2v, ↓wp_aNil, ↓wp_aCons, ↓wp_newF, ↓wp_newT, ↓wp_lst, ↓wp_tup, ↓wp_call, ↓wp_pf1, ↓wp_pf2, ↓wp_pfL, ↓wp_isi, ↓wp_fn, ↓wp_bm, ↓wp_sl, ↓wp_pNone, ↓wp_pSome, ↓wp_slS, ↓wp_slL, ↓wp_disp, ↓wp_newDF, ↓wp_newDT, rf_l, rf_d, ↓wp_prNil, ↓wp_prCons, ↓wp_dnew, ↓wp_iVal, ↓wp_rng1, ↓wp_rng2, ↓wp_lc, ↓wp_ok, ↓wp_exc, ↓wp_bad, ↓wp_join, itD, ↓wp_bYes, ↓rQ_dat, ↓rQ_cell, ↓wo_some, ↓wo_none, ↓wo_ite, ↓wo_map, view_dat, td_nil, td_cons, Option.map_some, bind_name, bind_tup, sa_c, sa_n, toKey, uB, uI, uD, uI1, uI2, ty_s, ty_l, List.map, List.length, List.replicate, Nat.reduceSub, Nat.reduceAdd, Nat.reduceLeDiff, Nat.zero_add, List.cons_append, List.nil_append, List.append_nil, List.getElem?_cons_zero, List.getElem?_cons_succ, Option.join_some, List.set_cons_zero, List.set_cons_succ, decide_eq_true_eq, Bool.not_eq_true', Bool.not_true, Bool.not_false, if_true, if_false, Bool.false_eq_true, eq_self, true_and, and_true, isND_n, notND_n, isi_int, isi_bool, isi_str, isi_tuple, isi_list, isi_dict, dInt, dBl, dStr, dTup, dLst, dDct, wipeE, List.set, subD, ltD, gtD, leD, geD, max2D, min2D, eqD_ii, neD_ii, eqD_ss, neD_ss, eqD_nil, neD_nil, ↓wp_is_integer, take_len]
  cases isIntD d <;> rfl
theorem wp_has_key {s : Sp2} {k : Int} {M : Mem} {Q : U → Mem → Prop} {X : XP} : Wp (f_has_key [.dat (spD s), .dat (.int k)] M) Q X = Q (.dat (.bl (hasK s k))) M := by
  unfold f_has_key b_has_key
  rw [wp_run]
  obtain ⟨l, h⟩ := s
  unfold spD
  simp (config := {dsimp := false}) only [↓ws_nil, ↓ws_cons, ↓ws_asg, ↓ws_setIx, ↓ws_ret, ↓ws_retN, ↓ws_if, ↓ws_drop, ↓ws_brk, ↓ws_cnt, ↓ws_for, ↓wp_tOf, ↓wp_not, ↓wp_and, ↓wp_or, ↓wp_vand, ↓wp_vor, ↓wp_eB, ↓wp_eIf, ↓wp_neg, ↓wp_chain, ↓wp_e2, ↓wp_var, ↓wp_c, ↓wp_addI, ↓wp_addS, ↓wp_addL, ↓wp_addT, ↓ws_raise1, ↓ws_raise0, ↓ws_par, ↓ws_par3, uPar3_ok, ↓wp_kin, ↓wp_kix, wo_ks, ↓wp_get1, ↓wp_get2, ↓wp_dget, ↓ws_setKey, uKeyD, keyD, ↓wp_fnK, ↓ws_try, ↓ws_hdN, ↓ws_hdC, ↓ws_suiteN, ↓ws_suiteS, ↓wp_fld, xE, gP_nil, gP_cons, Option.toList, ↓wp_lift2v, ↓wp_aNil, ↓wp_aCons, ↓wp_newF, ↓wp_newT, ↓wp_lst, ↓wp_tup, ↓wp_call, ↓wp_pf1, ↓wp_pf2, ↓wp_pfL, ↓wp_isi, ↓wp_fn, ↓wp_bm, ↓wp_sl, ↓wp_pNone, ↓wp_pSome, ↓wp_slS, ↓wp_slL, ↓wp_disp, ↓wp_newDF, ↓wp_newDT, rf_l, rf_d, ↓wp_prNil, ↓wp_prCons, ↓wp_dnew, ↓wp_iVal, ↓wp_rng1, ↓wp_rng2, ↓wp_lc, ↓wp_ok, ↓wp_exc, ↓wp_bad, ↓wp_join, itD, ↓wp_bYes, ↓rQ_dat, ↓rQ_cell, ↓wo_some, ↓wo_none, ↓wo_ite, ↓wo_map, view_dat, td_nil, td_cons, Option.map_some, bind_name, bind_tup, sa_c, sa_n, toKey, uB, uI, uD, uI1, uI2, ty_s, ty_l, List.map, List.length, List.replicate, Nat.reduceSub, Nat.reduceAdd, Nat.reduceLeDiff, Nat.zero_add, List.cons_append, List.nil_append, List.append_nil, List.getElem?_cons_zero, List.getElem?_cons_succ, Option.join_some, List.set_cons_zero, List.set_cons_succ, decide_eq_true_eq, Bool.not_eq_true', Bool.not_true, Bool.not_false, if_true, if_false, Bool.false_eq_true, eq_self, true_and, and_true, isND_n, notND_n, isi_int, isi_bool, isi_str, isi_tuple, isi_list, isi_dict, dInt, dBl, dStr, dTup, dLst, dDct, wipeE, List.set, subD, ltD, gtD, leD, geD, max2D, min2D, eqD_ii, neD_ii, eqD_ss, neD_ss, eqD_nil, neD_nil, take_len]
  cases l <;> cases h <;> simp [lim, isNone, leD, ltD, wo_some, wp_ok, uB, rQ_dat, take_len, hasK, loK, hiK]
  · rename_i a
    by_cases h1 : a ≤ k
    · simp only [h1, decide_true, if_true]; simp (config := {dsimp := false}) only [↓ws_nil, ↓ws_cons, ↓ws_asg, ↓ws_setIx, ↓ws_ret, ↓ws_retN, ↓ws_if, ↓ws_drop, ↓ws_brk, ↓ws_cnt, ↓ws_for, ↓wp_tOf, ↓wp_not, ↓wp_and, ↓wp_or, ↓wp_vand, ↓wp_vor, ↓wp_eB, ↓wp_eIf, ↓wp_neg, ↓wp_chain, ↓wp_e2, ↓wp_var, ↓wp_c, ↓wp_addI, ↓wp_addS, ↓wp_addL, ↓wp_addT, ↓ws_raise1, ↓ws_raise0, ↓ws_par, ↓ws_par3, uPar3_ok, ↓wp_kin, ↓wp_kix, wo_ks, ↓wp_get1, ↓wp_get2, ↓wp_dget, ↓ws_setKey, uKeyD, keyD, ↓wp_fnK, ↓ws_try, ↓ws_hdN, ↓ws_hdC, ↓ws_suiteN, ↓ws_suiteS, ↓wp_fld, xE, gP_nil, gP_cons, Option.toList, ↓wp_lift2v, ↓wp_aNil, ↓wp_aCons, ↓wp_newF, ↓wp_newT, ↓wp_lst, ↓wp_tup, ↓wp_call, ↓wp_pf1, ↓wp_pf2, ↓wp_pfL, ↓wp_isi, ↓wp_fn, ↓wp_bm, ↓wp_sl, ↓wp_pNone, ↓wp_pSome, ↓wp_slS, ↓wp_slL, ↓wp_disp, ↓wp_newDF, ↓wp_newDT, rf_l, rf_d, ↓wp_prNil, ↓wp_prCons, ↓wp_dnew, ↓wp_iVal, ↓wp_rng1, ↓wp_rng2, ↓wp_lc, ↓wp_ok, ↓wp_exc, ↓wp_bad, ↓wp_join, itD, ↓wp_bYes, ↓rQ_dat, ↓rQ_cell, ↓wo_some, ↓wo_none, ↓wo_ite, ↓wo_map, view_dat, td_nil, td_cons, Option.map_some, bind_name, bind_tup, sa_c, sa_n, toKey, uB, uI, uD, uI1, uI2, ty_s, ty_l, List.map, List.length, List.replicate, Nat.reduceSub, Nat.reduceAdd, Nat.reduceLeDiff, Nat.zero_add, List.cons_append, List.nil_append, List.append_nil, List.getElem?_cons_zero, List.getElem?_cons_succ, Option.join_some, List.set_cons_zero, List.set_cons_succ, decide_eq_true_eq, Bool.not_eq_true', Bool.not_true, Bool.not_false, if_true, if_false, Bool.false_eq_true, eq_self, true_and, and_true, isND_n, notND_n, isi_int, isi_bool, isi_str, isi_tuple, isi_list, isi_dict, dInt, dBl, dStr, dTup, dLst, dDct, wipeE, List.set, subD, ltD, gtD, leD, geD, max2D, min2D, eqD_ii, neD_ii, eqD_ss, neD_ss, eqD_nil, neD_nil, isNone, take_len]
    · simp [h1]
  · rename_i a b
    by_cases h1 : a ≤ k
    · simp only [h1, decide_true, if_true]; simp (config := {dsimp := false}) only [↓ws_nil, ↓ws_cons, ↓ws_asg, ↓ws_setIx, ↓ws_ret, ↓ws_retN, ↓ws_if, ↓ws_drop, ↓ws_brk, ↓ws_cnt, ↓ws_for, ↓wp_tOf, ↓wp_not, ↓wp_and, ↓wp_or, ↓wp_vand, ↓wp_vor, ↓wp_eB, ↓wp_eIf, ↓wp_neg, ↓wp_chain, ↓wp_e2, ↓wp_var, ↓wp_c, ↓wp_addI, ↓wp_addS, ↓wp_addL, ↓wp_addT, ↓ws_raise1, ↓ws_raise0, ↓ws_par, ↓ws_par3, uPar3_ok, ↓wp_kin, ↓wp_kix, wo_ks, ↓wp_get1, ↓wp_get2, ↓wp_dget, ↓ws_setKey, uKeyD, keyD, ↓wp_fnK, ↓ws_try, ↓ws_hdN, ↓ws_hdC, ↓ws_suiteN, ↓ws_suiteS, ↓wp_fld, xE, gP_nil, gP_cons, Option.toList, ↓wp_lift2v, ↓wp_aNil, ↓wp_aCons, ↓wp_newF, ↓wp_newT, ↓wp_lst, ↓wp_tup, ↓wp_call, ↓wp_pf1, ↓wp_pf2, ↓wp_pfL, ↓wp_isi, ↓wp_fn, ↓wp_bm, ↓wp_sl, ↓wp_pNone, ↓wp_pSome, ↓wp_slS, ↓wp_slL, ↓wp_disp, ↓wp_newDF, ↓wp_newDT, rf_l, rf_d, ↓wp_prNil, ↓wp_prCons, ↓wp_dnew, ↓wp_iVal, ↓wp_rng1, ↓wp_rng2, ↓wp_lc, ↓wp_ok, ↓wp_exc, ↓wp_bad, ↓wp_join, itD, ↓wp_bYes, ↓rQ_dat, ↓rQ_cell, ↓wo_some, ↓wo_none, ↓wo_ite, ↓wo_map, view_dat, td_nil, td_cons, Option.map_some, bind_name, bind_tup, sa_c, sa_n, toKey, uB, uI, uD, uI1, uI2, ty_s, ty_l, List.map, List.length, List.replicate, Nat.reduceSub, Nat.reduceAdd, Nat.reduceLeDiff, Nat.zero_add, List.cons_append, List.nil_append, List.append_nil, List.getElem?_cons_zero, List.getElem?_cons_succ, Option.join_some, List.set_cons_zero, List.set_cons_succ, decide_eq_true_eq, Bool.not_eq_true', Bool.not_true, Bool.not_false, if_true, if_false, Bool.false_eq_true, eq_self, true_and, and_true, isND_n, notND_n, isi_int, isi_bool, isi_str, isi_tuple, isi_list, isi_dict, dInt, dBl, dStr, dTup, dLst, dDct, wipeE, List.set, subD, ltD, gtD, leD, geD, max2D, min2D, eqD_ii, neD_ii, eqD_ss, neD_ss, eqD_nil, neD_nil, isNone, take_len]; simp
    · simp [h1]
theorem wp_in_span {d e : D} {M : Mem} {Q : U → Mem → Prop} {X : XP} : Wp (f_in_span [.dat d, .dat e] M) Q X =
    if isSpanD d = true then (if isIntD e = true then Wp (f_has_key [.dat d, .dat e] M) (fun u M1 => rQ M Q u M1) (fun c fs M1 => X c fs (M1.take M.length)) else X "InvalidKey" [("value", e)] M) else X "InvalidSpan" [("value", d)] M := by
  unfold f_in_span b_in_span
  rw [wp_run]
  simp (config := {dsimp := false}) only [↓ws_nil, ↓ws_cons, ↓ws_asg, ↓ws_setIx, ↓ws_ret, ↓ws_retN, ↓ws_if, ↓ws_drop, ↓ws_brk, ↓ws_cnt, ↓ws_for, ↓wp_tOf, ↓wp_not, ↓wp_and, ↓wp_or, ↓wp_vand, ↓wp_vor, ↓wp_eB, ↓wp_eIf, ↓wp_neg, ↓wp_chain, ↓wp_e2, ↓wp_var, ↓wp_c, ↓wp_addI, ↓wp_addS, ↓wp_addL, ↓wp_addT, ↓ws_raise1, ↓ws_raise0, ↓ws_par, ↓ws_par3, uPar3_ok, ↓wp_kin, ↓wp_kix, wo_ks, ↓wp_get1, ↓wp_get2, ↓wp_dget, ↓ws_setKey, uKeyD, keyD, ↓wp_fnK, ↓ws_try, ↓ws_hdN, ↓ws_hdC, ↓ws_suiteN, ↓ws_suiteS, ↓wp_fld, xE, gP_nil, gP_cons, Option.toList, ↓wp_lift2v, ↓wp_aNil, ↓wp_aCons, ↓wp_newF, ↓wp_newT, ↓wp_lst, ↓wp_tup, ↓wp_call, ↓wp_pf1, ↓wp_pf2, ↓wp_pfL, ↓wp_isi, ↓wp_fn, ↓wp_bm, ↓wp_sl, ↓wp_pNone, ↓wp_pSome, ↓wp_slS, ↓wp_slL, ↓wp_disp, ↓wp_newDF, ↓wp_newDT, rf_l, rf_d, ↓wp_prNil, ↓wp_prCons, ↓wp_dnew, ↓wp_iVal, ↓wp_rng1, ↓wp_rng2, ↓wp_lc, ↓wp_ok, ↓wp_exc, ↓wp_bad, ↓wp_join, itD, ↓wp_bYes, ↓rQ_dat, ↓rQ_cell, ↓wo_some, ↓wo_none, ↓wo_ite, ↓wo_map, view_dat, td_nil, td_cons, Option.map_some, bind_name, bind_tup, sa_c, sa_n, toKey, uB, uI, uD, uI1, uI2, ty_s, ty_l, List.map, List.length, List.replicate, Nat.reduceSub, Nat.reduceAdd, Nat.reduceLeDiff, Nat.zero_add, List.cons_append, List.nil_append, List.append_nil, List.getElem?_cons_zero, List.getElem?_cons_succ, Option.join_some, List.set_cons_zero, List.set_cons_succ, decide_eq_true_eq, Bool.not_eq_true', Bool.not_true, Bool.not_false, if_true, if_false, Bool.false_eq_true, eq_self, true_and, and_true, isND_n, notND_n, isi_int, isi_bool, isi_str, isi_tuple, isi_list, isi_dict, dInt, dBl, dStr, dTup, dLst, dDct, wipeE, List.set, subD, ltD, gtD, leD, geD, max2D, min2D, eqD_ii, neD_ii, eqD_ss, neD_ss, eqD_nil, neD_nil, ↓wp_need_span, ↓wp_need_key, take_len]
  rfl
theorem wp_greater {a b : Option Int} {M : Mem} {Q : U → Mem → Prop} {X : XP} : Wp (f_greater_limit [.dat (lim a), .dat (lim b)] M) Q X = Q (.dat (lim (glO a b))) M := by
  unfold f_greater_limit b_greater_limit
  rw [wp_run]
  simp (config := {dsimp := false}) only [↓ws_nil, ↓ws_cons, ↓ws_asg, ↓ws_setIx, ↓ws_ret, ↓ws_retN, ↓ws_if, ↓ws_drop, ↓ws_brk, ↓ws_cnt, ↓ws_for, ↓wp_tOf, ↓wp_not, ↓wp_and, ↓wp_or, ↓wp_vand, ↓wp_vor, ↓wp_eB, ↓wp_eIf, ↓wp_neg, ↓wp_chain, ↓wp_e2, ↓wp_var, ↓wp_c, ↓wp_addI, ↓wp_addS, ↓wp_addL, ↓wp_addT, ↓ws_raise1, ↓ws_raise0, ↓ws_par, ↓ws_par3, uPar3_ok, ↓wp_kin, ↓wp_kix, wo_ks, ↓wp_get1, ↓wp_get2, ↓wp_dget, ↓ws_setKey, uKeyD, keyD, ↓wp_fnK, ↓ws_try, ↓ws_hdN, ↓ws_hdC, ↓ws_suiteN, ↓ws_suiteS, ↓wp_fld, xE, gP_nil, gP_cons, Option.toList, ↓wp_lift2v, ↓wp_aNil, ↓wp_aCons, ↓wp_newF, ↓wp_newT, ↓wp_lst, ↓wp_tup, ↓wp_call, ↓wp_pf1, ↓wp_pf2, ↓wp_pfL, ↓wp_isi, ↓wp_fn, ↓wp_bm, ↓wp_sl, ↓wp_pNone, ↓wp_pSome, ↓wp_slS, ↓wp_slL, ↓wp_disp, ↓wp_newDF, ↓wp_newDT, rf_l, rf_d, ↓wp_prNil, ↓wp_prCons, ↓wp_dnew, ↓wp_iVal, ↓wp_rng1, ↓wp_rng2, ↓wp_lc, ↓wp_ok, ↓wp_exc, ↓wp_bad, ↓wp_join, itD, ↓wp_bYes, ↓rQ_dat, ↓rQ_cell, ↓wo_some, ↓wo_none, ↓wo_ite, ↓wo_map, view_dat, td_nil, td_cons, Option.map_some, bind_name, bind_tup, sa_c, sa_n, toKey, uB, uI, uD, uI1, uI2, ty_s, ty_l, List.map, List.length, List.replicate, Nat.reduceSub, Nat.reduceAdd, Nat.reduceLeDiff, Nat.zero_add, List.cons_append, List.nil_append, List.append_nil, List.getElem?_cons_zero, List.getElem?_cons_succ, Option.join_some, List.set_cons_zero, List.set_cons_succ, decide_eq_true_eq, Bool.not_eq_true', Bool.not_true, Bool.not_false, if_true, if_false, Bool.false_eq_true, eq_self, true_and, and_true, isND_n, notND_n, isi_int, isi_bool, isi_str, isi_tuple, isi_list, isi_dict, dInt, dBl, dStr, dTup, dLst, dDct, wipeE, List.set, subD, ltD, gtD, leD, geD, max2D, min2D, eqD_ii, neD_ii, eqD_ss, neD_ss, eqD_nil, neD_nil, take_len]
  cases a <;> cases b <;> simp [lim, isNone, maxLD, toIs, wo_some, rQ_dat, take_len, glO, maxI]
  rename_i a b
  rw [show (if a < b then b else a) = max a b by rw [Int.max_def]; split <;> split <;> omega]
theorem wp_lesser {a b : Option Int} {M : Mem} {Q : U → Mem → Prop} {X : XP} : Wp (f_lesser_limit [.dat (lim a), .dat (lim b)] M) Q X = Q (.dat (lim (llO a b))) M := by
  unfold f_lesser_limit b_lesser_limit
  rw [wp_run]
  simp (config := {dsimp := false}) only [↓ws_nil, ↓ws_cons, ↓ws_asg, ↓ws_setIx, ↓ws_ret, ↓ws_retN, ↓ws_if, ↓ws_drop, ↓ws_brk, ↓ws_cnt, ↓ws_for, ↓wp_tOf, ↓wp_not, ↓wp_and, ↓wp_or, ↓wp_vand, ↓wp_vor, ↓wp_eB, ↓wp_eIf, ↓wp_neg, ↓wp_chain, ↓wp_e2, ↓wp_var, ↓wp_c, ↓wp_addI, ↓wp_addS, ↓wp_addL, ↓wp_addT, ↓ws_raise1, ↓ws_raise0, ↓ws_par, ↓ws_par3, uPar3_ok, ↓wp_kin, ↓wp_kix, wo_ks, ↓wp_get1, ↓wp_get2, ↓wp_dget, ↓ws_setKey, uKeyD, keyD, ↓wp_fnK, ↓ws_try, ↓ws_hdN, ↓ws_hdC, ↓ws_suiteN, ↓ws_suiteS, ↓wp_fld, xE, gP_nil, gP_cons, Option.toList, ↓wp_lift2v, ↓wp_aNil, ↓wp_aCons, ↓wp_newF, ↓wp_newT, ↓wp_lst, ↓wp_tup, ↓wp_call, ↓wp_pf1, ↓wp_pf2, ↓wp_pfL, ↓wp_isi, ↓wp_fn, ↓wp_bm, ↓wp_sl, ↓wp_pNone, ↓wp_pSome, ↓wp_slS, ↓wp_slL, ↓wp_disp, ↓wp_newDF, ↓wp_newDT, rf_l, rf_d, ↓wp_prNil, ↓wp_prCons, ↓wp_dnew, ↓wp_iVal, ↓wp_rng1, ↓wp_rng2, ↓wp_lc, ↓wp_ok, ↓wp_exc, ↓wp_bad, ↓wp_join, itD, ↓wp_bYes, ↓rQ_dat, ↓rQ_cell, ↓wo_some, ↓wo_none, ↓wo_ite, ↓wo_map, view_dat, td_nil, td_cons, Option.map_some, bind_name, bind_tup, sa_c, sa_n, toKey, uB, uI, uD, uI1, uI2, ty_s, ty_l, List.map, List.length, List.replicate, Nat.reduceSub, Nat.reduceAdd, Nat.reduceLeDiff, Nat.zero_add, List.cons_append, List.nil_append, List.append_nil, List.getElem?_cons_zero, List.getElem?_cons_succ, Option.join_some, List.set_cons_zero, List.set_cons_succ, decide_eq_true_eq, Bool.not_eq_true', Bool.not_true, Bool.not_false, if_true, if_false, Bool.false_eq_true, eq_self, true_and, and_true, isND_n, notND_n, isi_int, isi_bool, isi_str, isi_tuple, isi_list, isi_dict, dInt, dBl, dStr, dTup, dLst, dDct, wipeE, List.set, subD, ltD, gtD, leD, geD, max2D, min2D, eqD_ii, neD_ii, eqD_ss, neD_ss, eqD_nil, neD_nil, take_len]
  cases a <;> cases b <;> simp [lim, isNone, minLD, toIs, wo_some, rQ_dat, take_len, llO, minI]
  rename_i a b
  rw [show (if b < a then b else a) = min a b by rw [Int.min_def]; split <;> split <;> omega]
theorem ix0_sp (s : Sp2) : ixD (spD s) (.int 0) = some (lim s.1) := rfl
theorem ix1_sp (s : Sp2) : ixD (spD s) (.int 1) = some (lim s.2) := rfl
/-- what common tells of two spans -/
def commD (s t : Sp2) : D := if okS (commS s t) = true then spD (commS s t) else .non
theorem wp_common {s t : Sp2} (hs : okS s = true) (ht : okS t = true) {M : Mem} {Q : U → Mem → Prop} {X : XP} : Wp (f_common [.dat (spD s), .dat (spD t)] M) Q X = Q (.dat (commD s t)) M := by
  unfold f_common b_common
  rw [wp_run]
  simp (config := {dsimp := false}) only [↓ws_nil, ↓ws_cons, ↓ws_asg, ↓ws_setIx, ↓ws_ret, ↓ws_retN, ↓ws_if, ↓ws_drop, ↓ws_brk, ↓ws_cnt, ↓ws_for, ↓wp_tOf, ↓wp_not, ↓wp_and, ↓wp_or, ↓wp_vand, ↓wp_vor, ↓wp_eB, ↓wp_eIf, ↓wp_neg, ↓wp_chain, ↓wp_e2, ↓wp_var, ↓wp_c, ↓wp_addI, ↓wp_addS, ↓wp_addL, ↓wp_addT, ↓ws_raise1, ↓ws_raise0, ↓ws_par, ↓ws_par3, uPar3_ok, ↓wp_kin, ↓wp_kix, wo_ks, ↓wp_get1, ↓wp_get2, ↓wp_dget, ↓ws_setKey, uKeyD, keyD, ↓wp_fnK, ↓ws_try, ↓ws_hdN, ↓ws_hdC, ↓ws_suiteN, ↓ws_suiteS, ↓wp_fld, xE, gP_nil, gP_cons, Option.toList, ↓wp_lift2v, ↓wp_aNil, ↓wp_aCons, ↓wp_newF, ↓wp_newT, ↓wp_lst, ↓wp_tup, ↓wp_call, ↓wp_pf1, ↓wp_pf2, ↓wp_pfL, ↓wp_isi, ↓wp_fn, ↓wp_bm, ↓wp_sl, ↓wp_pNone, ↓wp_pSome, ↓wp_slS, ↓wp_slL, ↓wp_disp, ↓wp_newDF, ↓wp_newDT, rf_l, rf_d, ↓wp_prNil, ↓wp_prCons, ↓wp_dnew, ↓wp_iVal, ↓wp_rng1, ↓wp_rng2, ↓wp_lc, ↓wp_ok, ↓wp_exc, ↓wp_bad, ↓wp_join, itD, ↓wp_bYes, ↓rQ_dat, ↓rQ_cell, ↓wo_some, ↓wo_none, ↓wo_ite, ↓wo_map, view_dat, td_nil, td_cons, Option.map_some, bind_name, bind_tup, sa_c, sa_n, toKey, uB, uI, uD, uI1, uI2, ty_s, ty_l, List.map, List.length, List.replicate, Nat.reduceSub, Nat.reduceAdd, Nat.reduceLeDiff, Nat.zero_add, List.cons_append, List.nil_append, List.append_nil, List.getElem?_cons_zero, List.getElem?_cons_succ, Option.join_some, List.set_cons_zero, List.set_cons_succ, decide_eq_true_eq, Bool.not_eq_true', Bool.not_true, Bool.not_false, if_true, if_false, Bool.false_eq_true, eq_self, true_and, and_true, isND_n, notND_n, isi_int, isi_bool, isi_str, isi_tuple, isi_list, isi_dict, dInt, dBl, dStr, dTup, dLst, dDct, wipeE, List.set, subD, ltD, gtD, leD, geD, max2D, min2D, eqD_ii, neD_ii, eqD_ss, neD_ss, eqD_nil, neD_nil, ↓wp_need_span, isSpan_sp, hs, ht, ix0_sp, ix1_sp, ↓wp_greater, ↓wp_lesser]
  rw [show D.tup [lim (glO s.1 t.1), lim (llO s.2 t.2)] = spD (commS s t) from rfl]
  simp (config := {dsimp := false}) only [↓ws_nil, ↓ws_cons, ↓ws_asg, ↓ws_setIx, ↓ws_ret, ↓ws_retN, ↓ws_if, ↓ws_drop, ↓ws_brk, ↓ws_cnt, ↓ws_for, ↓wp_tOf, ↓wp_not, ↓wp_and, ↓wp_or, ↓wp_vand, ↓wp_vor, ↓wp_eB, ↓wp_eIf, ↓wp_neg, ↓wp_chain, ↓wp_e2, ↓wp_var, ↓wp_c, ↓wp_addI, ↓wp_addS, ↓wp_addL, ↓wp_addT, ↓ws_raise1, ↓ws_raise0, ↓ws_par, ↓ws_par3, uPar3_ok, ↓wp_kin, ↓wp_kix, wo_ks, ↓wp_get1, ↓wp_get2, ↓wp_dget, ↓ws_setKey, uKeyD, keyD, ↓wp_fnK, ↓ws_try, ↓ws_hdN, ↓ws_hdC, ↓ws_suiteN, ↓ws_suiteS, ↓wp_fld, xE, gP_nil, gP_cons, Option.toList, ↓wp_lift2v, ↓wp_aNil, ↓wp_aCons, ↓wp_newF, ↓wp_newT, ↓wp_lst, ↓wp_tup, ↓wp_call, ↓wp_pf1, ↓wp_pf2, ↓wp_pfL, ↓wp_isi, ↓wp_fn, ↓wp_bm, ↓wp_sl, ↓wp_pNone, ↓wp_pSome, ↓wp_slS, ↓wp_slL, ↓wp_disp, ↓wp_newDF, ↓wp_newDT, rf_l, rf_d, ↓wp_prNil, ↓wp_prCons, ↓wp_dnew, ↓wp_iVal, ↓wp_rng1, ↓wp_rng2, ↓wp_lc, ↓wp_ok, ↓wp_exc, ↓wp_bad, ↓wp_join, itD, ↓wp_bYes, ↓rQ_dat, ↓rQ_cell, ↓wo_some, ↓wo_none, ↓wo_ite, ↓wo_map, view_dat, td_nil, td_cons, Option.map_some, bind_name, bind_tup, sa_c, sa_n, toKey, uB, uI, uD, uI1, uI2, ty_s, ty_l, List.map, List.length, List.replicate, Nat.reduceSub, Nat.reduceAdd, Nat.reduceLeDiff, Nat.zero_add, List.cons_append, List.nil_append, List.append_nil, List.getElem?_cons_zero, List.getElem?_cons_succ, Option.join_some, List.set_cons_zero, List.set_cons_succ, decide_eq_true_eq, Bool.not_eq_true', Bool.not_true, Bool.not_false, if_true, if_false, Bool.false_eq_true, eq_self, true_and, and_true, isND_n, notND_n, isi_int, isi_bool, isi_str, isi_tuple, isi_list, isi_dict, dInt, dBl, dStr, dTup, dLst, dDct, wipeE, List.set, subD, ltD, gtD, leD, geD, max2D, min2D, eqD_ii, neD_ii, eqD_ss, neD_ss, eqD_nil, neD_nil, ↓wp_is_span, isSpan_sp, take_len]
  unfold commD
  cases okS (commS s t) <;> rfl
theorem wp_commonX {d e : D} (h : isSpanD d = false ∨ isSpanD e = false) {M : Mem} {Q : U → Mem → Prop} {X : XP} : Wp (f_common [.dat d, .dat e] M) Q X = X "InvalidSpan" [("value", if isSpanD d = true then e else d)] M := by
  unfold f_common b_common
  rw [wp_run]
  simp (config := {dsimp := false}) only [↓ws_nil, ↓ws_cons, ↓ws_asg, ↓ws_setIx, ↓ws_ret, ↓ws_retN, ↓ws_if, ↓ws_drop, ↓ws_brk, ↓ws_cnt, ↓ws_for, ↓wp_tOf, ↓wp_not, ↓wp_and, ↓wp_or, ↓wp_vand, ↓wp_vor, ↓wp_eB, ↓wp_eIf, ↓wp_neg, ↓wp_chain, ↓wp_e2, ↓wp_var, ↓wp_c, ↓wp_addI, ↓wp_addS, ↓wp_addL, ↓wp_addT, ↓ws_raise1, ↓ws_raise0, ↓ws_par, ↓ws_par3, uPar3_ok, ↓wp_kin, ↓wp_kix, wo_ks, ↓wp_get1, ↓wp_get2, ↓wp_dget, ↓ws_setKey, uKeyD, keyD, ↓wp_fnK, ↓ws_try, ↓ws_hdN, ↓ws_hdC, ↓ws_suiteN, ↓ws_suiteS, ↓wp_fld, xE, gP_nil, gP_cons, Option.toList, ↓wp_lift2v, ↓wp_aNil, ↓wp_aCons, ↓wp_newF, ↓wp_newT, ↓wp_lst, ↓wp_tup, ↓wp_call, ↓wp_pf1, ↓wp_pf2, ↓wp_pfL, ↓wp_isi, ↓wp_fn, ↓wp_bm, ↓wp_sl, ↓wp_pNone, ↓wp_pSome, ↓wp_slS, ↓wp_slL, ↓wp_disp, ↓wp_newDF, ↓wp_newDT, rf_l, rf_d, ↓wp_prNil, ↓wp_prCons, ↓wp_dnew, ↓wp_iVal, ↓wp_rng1, ↓wp_rng2, ↓wp_lc, ↓wp_ok, ↓wp_exc, ↓wp_bad, ↓wp_join, itD, ↓wp_bYes, ↓rQ_dat, ↓rQ_cell, ↓wo_some, ↓wo_none, ↓wo_ite, ↓wo_map, view_dat, td_nil, td_cons, Option.map_some, bind_name, bind_tup, sa_c, sa_n, toKey, uB, uI, uD, uI1, uI2, ty_s, ty_l, List.map, List.length, List.replicate, Nat.reduceSub, Nat.reduceAdd, Nat.reduceLeDiff, Nat.zero_add, List.cons_append, List.nil_append, List.append_nil, List.getElem?_cons_zero, List.getElem?_cons_succ, Option.join_some, List.set_cons_zero, List.set_cons_succ, decide_eq_true_eq, Bool.not_eq_true', Bool.not_true, Bool.not_false, if_true, if_false, Bool.false_eq_true, eq_self, true_and, and_true, isND_n, notND_n, isi_int, isi_bool, isi_str, isi_tuple, isi_list, isi_dict, dInt, dBl, dStr, dTup, dLst, dDct, wipeE, List.set, subD, ltD, gtD, leD, geD, max2D, min2D, eqD_ii, neD_ii, eqD_ss, neD_ss, eqD_nil, neD_nil, ↓wp_need_span, take_len]
  cases hd : isSpanD d with
  | false => rw [if_neg (by decide), if_neg (by decide)]
  | true =>
    have he : isSpanD e = false := h.resolve_left (by rw [hd]; decide)
    rw [if_pos rfl, if_pos rfl, he]; exact if_neg (by decide)
theorem wp_meet {s t : Sp2} (hs : okS s = true) (ht : okS t = true) {M : Mem} {Q : U → Mem → Prop} {X : XP} : Wp (f_meet [.dat (spD s), .dat (spD t)] M) Q X = Q (.dat (.bl (okS (commS s t)))) M := by
  unfold f_meet b_meet
  rw [wp_run]
  simp (config := {dsimp := false}) only [↓ws_nil, ↓ws_cons, ↓ws_asg, ↓ws_setIx, ↓ws_ret, ↓ws_retN, ↓ws_if, ↓ws_drop, ↓ws_brk, ↓ws_cnt, ↓ws_for, ↓wp_tOf, ↓wp_not, ↓wp_and, ↓wp_or, ↓wp_vand, ↓wp_vor, ↓wp_eB, ↓wp_eIf, ↓wp_neg, ↓wp_chain, ↓wp_e2, ↓wp_var, ↓wp_c, ↓wp_addI, ↓wp_addS, ↓wp_addL, ↓wp_addT, ↓ws_raise1, ↓ws_raise0, ↓ws_par, ↓ws_par3, uPar3_ok, ↓wp_kin, ↓wp_kix, wo_ks, ↓wp_get1, ↓wp_get2, ↓wp_dget, ↓ws_setKey, uKeyD, keyD, ↓wp_fnK, ↓ws_try, ↓ws_hdN, ↓ws_hdC, ↓ws_suiteN, ↓ws_suiteS, ↓wp_fld, xE, gP_nil, gP_cons, Option.toList, ↓wp_lift2v, ↓wp_aNil, ↓wp_aCons, ↓wp_newF, ↓wp_newT, ↓wp_lst, ↓wp_tup, ↓wp_call, ↓wp_pf1, ↓wp_pf2, ↓wp_pfL, ↓wp_isi, ↓wp_fn, ↓wp_bm, ↓wp_sl, ↓wp_pNone, ↓wp_pSome, ↓wp_slS, ↓wp_slL, ↓wp_disp, ↓wp_newDF, ↓wp_newDT, rf_l, rf_d, ↓wp_prNil, ↓wp_prCons, ↓wp_dnew, ↓wp_iVal, ↓wp_rng1, ↓wp_rng2, ↓wp_lc, ↓wp_ok, ↓wp_exc, ↓wp_bad, ↓wp_join, itD, ↓wp_bYes, ↓rQ_dat, ↓rQ_cell, ↓wo_some, ↓wo_none, ↓wo_ite, ↓wo_map, view_dat, td_nil, td_cons, Option.map_some, bind_name, bind_tup, sa_c, sa_n, toKey, uB, uI, uD, uI1, uI2, ty_s, ty_l, List.map, List.length, List.replicate, Nat.reduceSub, Nat.reduceAdd, Nat.reduceLeDiff, Nat.zero_add, List.cons_append, List.nil_append, List.append_nil, List.getElem?_cons_zero, List.getElem?_cons_succ, Option.join_some, List.set_cons_zero, List.set_cons_succ, decide_eq_true_eq, Bool.not_eq_true', Bool.not_true, Bool.not_false, if_true, if_false, Bool.false_eq_true, eq_self, true_and, and_true, isND_n, notND_n, isi_int, isi_bool, isi_str, isi_tuple, isi_list, isi_dict, dInt, dBl, dStr, dTup, dLst, dDct, wipeE, List.set, subD, ltD, gtD, leD, geD, max2D, min2D, eqD_ii, neD_ii, eqD_ss, neD_ss, eqD_nil, neD_nil, ↓wp_common hs ht, take_len]
  unfold commD
  cases okS (commS s t) <;> rfl
theorem wp_meetX {d e : D} (h : isSpanD d = false ∨ isSpanD e = false) {M : Mem} {Q : U → Mem → Prop} {X : XP} : Wp (f_meet [.dat d, .dat e] M) Q X = X "InvalidSpan" [("value", if isSpanD d = true then e else d)] M := by
  unfold f_meet b_meet
  rw [wp_run]
  simp (config := {dsimp := false}) only [↓ws_nil, ↓ws_cons, ↓ws_asg, ↓ws_setIx, ↓ws_ret, ↓ws_retN, ↓ws_if, ↓ws_drop, ↓ws_brk, ↓ws_cnt, ↓ws_for, ↓wp_tOf, ↓wp_not, ↓wp_and, ↓wp_or, ↓wp_vand, ↓wp_vor, ↓wp_eB, ↓wp_eIf, ↓wp_neg, ↓wp_chain, ↓wp_e2, ↓wp_var, ↓wp_c, ↓wp_addI, ↓wp_addS, ↓wp_addL, ↓wp_addT, ↓ws_raise1, ↓ws_raise0, ↓ws_par, ↓ws_par3, uPar3_ok, ↓wp_kin, ↓wp_kix, wo_ks, ↓wp_get1, ↓wp_get2, ↓wp_dget, ↓ws_setKey, uKeyD, keyD, ↓wp_fnK, ↓ws_try, ↓ws_hdN, ↓ws_hdC, ↓ws_suiteN, ↓ws_suiteS, ↓wp_fld, xE, gP_nil, gP_cons, Option.toList, ↓wp_lift2v, ↓wp_aNil, ↓wp_aCons, ↓wp_newF, ↓wp_newT, ↓wp_lst, ↓wp_tup, ↓wp_call, ↓wp_pf1, ↓wp_pf2, ↓wp_pfL, ↓wp_isi, ↓wp_fn, ↓wp_bm, ↓wp_sl, ↓wp_pNone, ↓wp_pSome, ↓wp_slS, ↓wp_slL, ↓wp_disp, ↓wp_newDF, ↓wp_newDT, rf_l, rf_d, ↓wp_prNil, ↓wp_prCons, ↓wp_dnew, ↓wp_iVal, ↓wp_rng1, ↓wp_rng2, ↓wp_lc, ↓wp_ok, ↓wp_exc, ↓wp_bad, ↓wp_join, itD, ↓wp_bYes, ↓rQ_dat, ↓rQ_cell, ↓wo_some, ↓wo_none, ↓wo_ite, ↓wo_map, view_dat, td_nil, td_cons, Option.map_some, bind_name, bind_tup, sa_c, sa_n, toKey, uB, uI, uD, uI1, uI2, ty_s, ty_l, List.map, List.length, List.replicate, Nat.reduceSub, Nat.reduceAdd, Nat.reduceLeDiff, Nat.zero_add, List.cons_append, List.nil_append, List.append_nil, List.getElem?_cons_zero, List.getElem?_cons_succ, Option.join_some, List.set_cons_zero, List.set_cons_succ, decide_eq_true_eq, Bool.not_eq_true', Bool.not_true, Bool.not_false, if_true, if_false, Bool.false_eq_true, eq_self, true_and, and_true, isND_n, notND_n, isi_int, isi_bool, isi_str, isi_tuple, isi_list, isi_dict, dInt, dBl, dStr, dTup, dLst, dDct, wipeE, List.set, subD, ltD, gtD, leD, geD, max2D, min2D, eqD_ii, neD_ii, eqD_ss, neD_ss, eqD_nil, neD_nil, ↓wp_commonX h, take_len]
/-! keys and common spans -/
theorem has_comm (s t : Sp2) (k : Int) : hasK (commS s t) k = (hasK s k && hasK t k) := by
  obtain ⟨a, b⟩ := s
  obtain ⟨c, d⟩ := t
  rw [Bool.eq_iff_iff]
  cases a <;> cases b <;> cases c <;> cases d <;> simp [hasK, commS, glO, llO, loK, hiK] <;> omega
theorem ok_of_has {s : Sp2} {k : Int} (h : hasK s k = true) : okS s = true := by
  obtain ⟨a, b⟩ := s
  cases a <;> cases b <;> simp [hasK, okS, ltO, loK, hiK] at h ⊢
  omega
theorem comm_symm (s t : Sp2) : commS s t = commS t s := by
  obtain ⟨a, b⟩ := s
  obtain ⟨c, d⟩ := t
  cases a <;> cases b <;> cases c <;> cases d <;> simp [commS, glO, llO, Int.max_comm, Int.min_comm]
end SD

set_option Elab.async false
set_option linter.all false
set_option maxRecDepth 100000
set_option maxHeartbeats 4000000
namespace SD
open PySem PySem.Spec PyProof.Rows L2

/-! ### find, split at a separator -/
theorem find_spec (a b : Cs) (hb : b ≠ []) : (findC a b = -1 ∧ ∀ i, TL.pre b (a.drop i) = false) ∨ ∃ i : Nat, findC a b = i ∧ TL.pre b (a.drop i) = true ∧ ∀ k, k < i → TL.pre b (a.drop k) = false := by
  have hy : TL.tl (mkS b) ≠ [] := by rw [mkS_tl]; exact hb
  have tr : ∀ i, StrLaws.At (mkS a) (mkS b) (mkS a).length i ↔ TL.pre b (a.drop i) = true := fun i => by
    have := TL.at_iff (x := mkS a) (y := mkS b) hy i
    rw [mkS_tl, mkS_tl] at this
    exact this
  have fl : ∀ i, ¬ StrLaws.At (mkS a) (mkS b) (mkS a).length i → TL.pre b (a.drop i) = false := fun i h => by
    cases hp : TL.pre b (a.drop i) with
    | false => rfl
    | true => exact absurd ((tr i).mpr hp) h
  unfold findC Txt.find
  rcases StrLaws.occ_head (mkS a) (mkS b) 1 (Nat.le_refl _) with ⟨h0, hn⟩ | ⟨i, r, h0, ha, hn⟩
  · rw [h0]; exact .inl ⟨rfl, fun i => fl i (hn i)⟩
  · rw [h0]; exact .inr ⟨i, rfl, (tr i).mp ha, fun k hk => fl k (hn k hk)⟩
theorem splitC_spl (a : Cs) {b : Cs} (hb : b ≠ []) (h : b.all (· < 256) = true) : splitC a b = TL.spl b 0 [] a := by
  unfold splitC
  have e := TL.split_spl (mkS a) (mkS b) (by rw [mkS_tl]; exact hb) (TL.kind_ok (by
    show (b.toArray).all (· < 256) = true
    simpa using h))
  rw [mkS_tl, mkS_tl] at e
  exact e
theorem splitC_none {a b : Cs} (hb : b ≠ []) (h : b.all (· < 256) = true) (hn : ∀ i, TL.pre b (a.drop i) = false) : splitC a b = [a] := by
  rw [splitC_spl a hb h]
  have := TL.spl_last (S := b) (p := a) (acc := []) fun i _ => hn i
  simpa using this
theorem splitC_cut {a b : Cs} (hb : b ≠ []) (h : b.all (· < 256) = true) {i : Nat} (hi : TL.pre b (a.drop i) = true) (hn : ∀ k, k < i → TL.pre b (a.drop k) = false) : splitC a b = a.take i :: splitC (a.drop (i + b.length)) b := by
  rw [splitC_spl a hb h, splitC_spl _ hb h]
  have hil : i ≤ a.length := by
    rcases Nat.lt_or_ge a.length i with z | z
    · rw [List.drop_of_length_le (by omega)] at hi
      have : ([] : Cs).take b.length = b := by simpa [TL.pre] using hi
      simp at this
      exact absurd this hb
    · exact z
  have run := TL.spl_run b a i 0 [] (by omega) fun k _ h2 => hn k (by omega)
  rw [List.drop_zero, Nat.zero_add, List.nil_append] at run
  rw [run, TL.spl_at hb hi]
/-! ### one sign in a text -/
theorem subS_one (c : Nat) (t : Cs) : subS [c] t = t.contains c := by
  have hy : TL.tl (mkS [c]) ≠ [] := by rw [mkS_tl]; simp
  have tr : ∀ i, StrLaws.At (mkS t) (mkS [c]) (mkS t).length i ↔ TL.pre [c] (t.drop i) = true := fun i => by
    have := TL.at_iff (x := mkS t) (y := mkS [c]) hy i
    rw [mkS_tl, mkS_tl] at this
    exact this
  have pr : ∀ i, TL.pre [c] (t.drop i) = true ↔ t[i]? = some c := fun i => by
    unfold TL.pre
    rw [beq_iff_eq, List.length_singleton]
    rw [← List.head?_drop]
    cases t.drop i with
    | nil => simp
    | cons d r => simp
  unfold subS
  rw [Bool.eq_iff_iff, List.contains_iff_mem]
  rcases StrLaws.occ_head (mkS t) (mkS [c]) 1 (Nat.le_refl _) with ⟨h0, hn⟩ | ⟨i, r, h0, ha, _⟩
  · rw [h0]
    simp only [List.isEmpty_nil, Bool.not_true, Bool.false_eq_true, false_iff]
    intro hm
    obtain ⟨i, hi⟩ := List.mem_iff_getElem?.mp hm
    exact hn i ((tr i).mpr ((pr i).mpr hi))
  · rw [h0]
    simp only [List.isEmpty_cons, Bool.not_false, true_iff]
    exact List.mem_of_getElem? ((pr i).mp ((tr i).mp ha))
/-! ### numbers in texts -/
def isDig (c : Nat) : Bool := decide (48 ≤ c) && decide (c ≤ 57)
theorem dig_sub (c : Nat) : subS [c] [48, 49, 50, 51, 52, 53, 54, 55, 56, 57] = isDig c := by
  rw [subS_one, Bool.eq_iff_iff, List.contains_iff_mem]
  simp only [List.mem_cons, List.not_mem_nil, or_false, isDig, Bool.and_eq_true, decide_eq_true_eq]
  omega
theorem allDig {s : Cs} (h : s.all isDig = true) : NumText.AllDigits s := fun c hc => by
  have := List.all_eq_true.mp h c hc
  simpa [isDig] using this
theorem int_dig {s : Cs} (h : s.all isDig = true) (hne : s ≠ []) (hl : s.length ≤ 640) : intD (.str s) = some (.int (NumText.digitsVal s : Nat)) := by
  have e : PySem.intText? (mkS s) = some ((NumText.digitsVal s : Nat) : Int) := PySem.intText_digits (x := mkS s) (allDig h) hne (by rw [mkS_len]; omega)
  show (if s.length ≤ 640 then (PySem.intText? (mkS s)).map D.int else none) = _
  rw [if_pos hl, e]; rfl
theorem int_neg {s : Cs} (h : s.all isDig = true) (hne : s ≠ []) (hl : s.length ≤ 600) : intD (.str (45 :: s)) = some (.int (-(NumText.digitsVal s : Nat))) := by
  have e : PySem.intText? (mkS (45 :: s)) = some (-((NumText.digitsVal s : Nat) : Int)) := PySem.intText_neg (x := mkS (45 :: s)) rfl (allDig h) hne (by rw [mkS_len, List.length_cons]; omega)
  show (if (45 :: s).length ≤ 640 then (PySem.intText? (mkS (45 :: s))).map D.int else none) = _
  rw [if_pos (by rw [List.length_cons]; omega), e]; rfl
theorem txtI_nat (n : Nat) : txtI (n : Int) = TL.numL n := TL.tl_num n
/-- no needless zero ahead -/
def canon (ds : Cs) : Bool := match ds with
  | [] => false
  | [48] => true
  | 48 :: _ => false
  | _ => true
theorem ofNat_toNat {c : Nat} (h : isDig c = true) : (Char.ofNat c).toNat = c := by
  have h' : 48 ≤ c ∧ c ≤ 57 := by simpa [isDig] using h
  obtain ⟨h1, h2⟩ := h'
  have : c = 48 ∨ c = 49 ∨ c = 50 ∨ c = 51 ∨ c = 52 ∨ c = 53 ∨ c = 54 ∨ c = 55 ∨ c = 56 ∨ c = 57 := by omega
  rcases this with rfl | rfl | rfl | rfl | rfl | rfl | rfl | rfl | rfl | rfl <;> rfl
theorem map_chars {s : Cs} (h : s.all isDig = true) : (s.map Char.ofNat).map Char.toNat = s := by
  induction s with
  | nil => rfl
  | cons c s ih =>
    rw [List.all_cons, Bool.and_eq_true] at h
    rw [List.map_cons, List.map_cons, ofNat_toNat h.1, ih h.2]
theorem numL_val {ds : Cs} (h : ds.all isDig = true) : TL.numL (NumText.digitsVal ds) = match ds.dropWhile (· == 48) with
    | [] => [48]
    | r => r := by
  unfold TL.numL
  rw [NumText.toDigits_all ds (allDig h)]
  have hd : (ds.dropWhile (· == 48)).all isDig = true := List.all_eq_true.mpr fun c hc => List.all_eq_true.mp h c ((List.dropWhile_sublist _).subset hc)
  cases e : ds.dropWhile (· == 48) with
  | nil => rfl
  | cons c r => rw [e] at hd; exact map_chars hd
theorem numL_canon {ds : Cs} (h : ds.all isDig = true) : (TL.numL (NumText.digitsVal ds) == ds) = canon ds := by
  rw [numL_val h]
  match ds with
  | [] => rfl
  | [c] =>
    by_cases hc : c = 48
    · subst hc; rfl
    · rw [List.dropWhile_cons, if_neg (by simpa using hc)]
      unfold canon
      split <;> simp_all
  | c :: d :: r =>
    by_cases hc : c = 48
    · subst hc
      have hl : ((match List.dropWhile (fun x => x == 48) (48 :: d :: r) with | [] => [48] | r => r) : Cs).length ≤ (d :: r).length := by
        rw [List.dropWhile_cons, if_pos (by rfl)]
        have := (List.dropWhile_sublist (fun x : Nat => x == 48) (l := d :: r)).length_le
        split
        · simp
        · exact this
      have ne : ((match List.dropWhile (fun x => x == 48) (48 :: d :: r) with | [] => [48] | r => r) : Cs) ≠ 48 :: d :: r := fun z => by
        rw [z] at hl; simp at hl; omega
      rw [beq_eq_false_iff_ne.mpr ne]; rfl
    · rw [List.dropWhile_cons, if_neg (by simpa using hc)]
      unfold canon
      split <;> simp_all
end SD

set_option Elab.async false
set_option linter.all false
set_option maxRecDepth 100000
set_option maxHeartbeats 4000000
namespace SD
open PySem PySem.Spec PyProof.Rows L2

/-! ### methods of a list that is a cell -/
section
variable {k : Nat} {ds : List D} {M : Mem} {Q : U → Mem → Prop} {X : XP}
theorem wp_append {d : D} (h : M[k]? = some (.lst ds)) (hl : ds.length < 16777216) : Wp (mAppend (.cell k) [.dat d] M) Q X = Q (.dat .non) (M.set k (.lst (ds ++ [d]))) := by
  show Wp (match M[k]? with | some (.lst ds) => _ | _ => _) Q X = _
  rw [h]
  show Wp (if ds.length < 16777216 then _ else _) Q X = _
  rw [if_pos hl]; rfl
theorem wp_popAt {i : Int} (h : M[k]? = some (.lst ds)) (h0 : 0 ≤ i) (h1 : i < ds.length) (hl : ds.length ≤ 16777216) (q : ∀ d, ds[i.toNat]? = some d → Q (.dat d) (M.set k (.lst (ds.eraseIdx i.toNat)))) : Wp (mPopAt (.cell k) [.dat (.int i)] M) Q X := by
  show Wp (match M[k]? with | some (.lst ds) => _ | _ => _) Q X
  rw [h]
  show Wp (if 0 ≤ i ∧ i < ds.length ∧ i < 9223372036854775808 then _ else _) Q X
  rw [if_pos ⟨h0, h1, by omega⟩]
  have hi : i.toNat < ds.length := by omega
  have e : ds[i.toNat]? = some ds[i.toNat] := List.getElem?_eq_getElem hi
  rw [e]
  exact q _ e
theorem wp_insert {i : Int} {d : D} (h : M[k]? = some (.lst ds)) (h0 : 0 ≤ i) (h1 : i ≤ 16777216) (hl : ds.length < 16777216) : Wp (mInsert (.cell k) [.dat (.int i), .dat d] M) Q X = Q (.dat .non) (M.set k (.lst (ds.take i.toNat ++ [d] ++ ds.drop i.toNat))) := by
  show Wp (match M[k]? with | some (.lst ds) => _ | _ => _) Q X = _
  rw [h]
  show Wp (if ds.length < 16777216 ∧ 0 ≤ i ∧ i < 9223372036854775808 then _ else _) Q X = _
  rw [if_pos ⟨hl, h0, by omega⟩]; rfl
theorem view_cl (h : M[k]? = some (.lst ds)) : view (.cell k) M = some (.lst ds) := by
  show (match M[k]? with | some (.lst ds) => some (D.lst ds) | some (.dct ds) => some (D.dct ds) | _ => none) = _
  rw [h]
theorem ty_cl (h : M[k]? = some (.lst ds)) : tyU "list" (.cell k) M = true := by
  unfold tyU; rw [view_cl h]; rfl
end
theorem at_app {M : Mem} {o : O} : (M ++ [o])[M.length]? = some o := by simp
theorem set_app {M : Mem} {o o' : O} : (M ++ [o]).set M.length o' = M ++ [o'] := by
  rw [List.set_append_right _ _ (Nat.le_refl _), Nat.sub_self]; rfl
theorem take_app {M : Mem} {o : O} : (M ++ [o]).take M.length = M := by simp
/-! ### comprehensions that change the memory -/
theorem wp_lcA {t : Tgt} {test : Tv} {elt : Ev} {ρ : En} (J : List D → List D → Mem → Prop) : ∀ (ds seen acc : List D) (M : Mem), J seen acc M →
    (∀ (pre : List D) (d : D) (post acc : List D) (M : Mem), seen ++ ds = pre ++ d :: post → J pre acc M → WO (t.bind (.dat d) ρ) fun ρ1 => Wp (test ρ1 M) (fun b M1 => if b = true then Wp (elt ρ1 M1) (fun u M2 => WO (uD u) fun e => J (pre ++ [d]) (acc ++ [e]) M2) x0 else J (pre ++ [d]) acc M1) x0) →
    Wp (lcL t test elt ρ ds M) (fun es M' => J (seen ++ ds) (acc ++ es) M') x0
  | [], seen, acc, M, hJ, _ => by rw [wp_lcN, List.append_nil, List.append_nil]; exact hJ
  | d :: ds, seen, acc, M, hJ, hs => by
    have h := hs seen d ds acc M rfl hJ
    have next : ∀ acc' M', J (seen ++ [d]) acc' M' → Wp (lcL t test elt ρ ds M') (fun es M' => J (seen ++ d :: ds) (acc' ++ es) M') x0 := fun acc' M' h' => by
      have := wp_lcA J ds (seen ++ [d]) acc' M' h' (fun pre e post acc M e1 => hs pre e post acc M (by simpa using e1))
      exact this.mono (fun es M' h => by rw [List.append_assoc] at h; exact h) fun _ _ _ h => h
    rw [wp_lcC]
    cases hb : t.bind (.dat d) ρ with
    | none => rw [hb] at h; exact h.elim
    | some ρ1 =>
      rw [hb] at h
      show Wp (test ρ1 M) _ x0
      obtain ⟨b, M1, e1, h2⟩ := Wp.ok h
      rw [e1]
      show (if b = true then _ else _)
      cases b with
      | true =>
        rw [if_pos rfl] at h2 ⊢
        obtain ⟨u, M2, e2, h3⟩ := Wp.ok h2
        rw [e2]
        show WO (uD u) _
        cases u with
        | dat e =>
          have h3 : J (seen ++ [d]) (acc ++ [e]) M2 := h3
          show Wp (lcL t test elt ρ ds M2) (fun r M3 => J (seen ++ d :: ds) (acc ++ e :: r) M3) x0
          exact (next _ _ h3).mono (fun es M' h => by rw [List.append_assoc] at h; exact h) fun _ _ _ h => h
        | _ => exact h3.elim
      | false =>
        rw [if_neg (by decide)] at h2 ⊢
        exact next _ _ h2
/-! ### memories that agree on the first cells but k -/
structure Fx (k n : Nat) (M M' : Mem) : Prop where
  len : n ≤ M'.length
  out : ∀ j, j < n → j ≠ k → M'[j]? = M[j]?
theorem Fx.take {k : Nat} {M M' : Mem} (f : Fx k M.length M M') : Fr k M (M'.take M.length) := by
  have h := f.len
  refine ⟨by rw [List.length_take]; omega, fun j hj => ?_⟩
  by_cases hl : j < M.length
  · rw [List.getElem?_take_of_lt hl]; exact f.out j hl hj
  · rw [List.getElem?_eq_none (by rw [List.length_take]; omega), List.getElem?_eq_none (by omega)]
theorem Bx.take {k n m : Nat} {M : Mem} (h : Bx k n M) (hk : k < m) : Bx k n (M.take m) := by
  obtain ⟨a, b, c, e, r⟩ := h
  exact ⟨a, b, c, by rw [List.getElem?_take_of_lt hk]; exact e, r⟩
theorem Bx.app {k n : Nat} {M L : Mem} (h : Bx k n M) : Bx k n (M ++ L) := by
  have hk := h.lt
  obtain ⟨a, b, c, e, r⟩ := h
  exact ⟨a, b, c, by rw [List.getElem?_append_left hk]; exact e, r⟩
theorem Bx.set {k n j : Nat} {M : Mem} {o : O} (h : Bx k n M) (hj : j ≠ k) : Bx k n (M.set j o) := by
  obtain ⟨a, b, c, e, r⟩ := h
  exact ⟨a, b, c, by rw [List.getElem?_set_ne hj]; exact e, r⟩
/-! ### the drawn order -/
def b_law_mixed : Sv := (sCons (sAsg (.name 2) (eCall (pfL true seqD) (aCons (eVar 1) aNil))) (sRet (eLc false (iRng1 (aCons (eCall (pf1 lenD) (aCons (eVar 1) aNil)) aNil)) (.name 3) bYes (eBm "list" mPopAt (eVar 2) (aCons (eFn 2 [] f_law_take (aCons (eVar 0) (aCons (eCall (pf1 lenD) (aCons (eVar 2) aNil)) aNil))) aNil)) [3])))
def f_law_mixed : Fn := fnRun 4 b_law_mixed
theorem perm_erase {ds : List D} {i : Nat} {d : D} (h : ds[i]? = some d) : (d :: ds.eraseIdx i).Perm ds := by
  induction ds generalizing i with
  | nil => simp at h
  | cons a ds ih =>
    cases i with
    | zero => simp at h; subst h; exact .refl _
    | succ i =>
      have := ih (i := i) (by simpa using h)
      exact (List.Perm.swap a d _).trans (this.cons a)
theorem wp_mixed {k n : Nat} {ds : List D} {M : Mem} {Q : U → Mem → Prop} {X : XP} (hb : Bx k n M) (hn : n ≤ 1000000) (hl : ds.length ≤ 1000) (h : ∀ es M', es.Perm ds → Bx k (n + ds.length) M' → Fr k M M' → Q (.dat (.lst es)) M') : Wp (f_law_mixed [.cell k, .dat (.lst ds)] M) Q X := by
  have hk := hb.lt
  unfold f_law_mixed b_law_mixed
  rw [wp_run]
  have sq : seqD (.lst ds) = some ds := rfl
  have l1 : lenD (.lst ds) = some (.int ds.length) := rfl
  simp (config := {dsimp := false}) only [↓ws_nil, ↓ws_cons, ↓ws_asg, ↓ws_setIx, ↓ws_ret, ↓ws_retN, ↓ws_if, ↓ws_drop, ↓ws_brk, ↓ws_cnt, ↓ws_for, ↓wp_tOf, ↓wp_not, ↓wp_and, ↓wp_or, ↓wp_vand, ↓wp_vor, ↓wp_eB, ↓wp_eIf, ↓wp_neg, ↓wp_chain, ↓wp_e2, ↓wp_var, ↓wp_c, ↓wp_addI, ↓wp_addS, ↓wp_addL, ↓wp_addT, ↓ws_raise1, ↓ws_raise0, ↓ws_par, ↓ws_par3, uPar3_ok, ↓wp_kin, ↓wp_kix, wo_ks, ↓wp_get1, ↓wp_get2, ↓wp_dget, ↓ws_setKey, uKeyD, keyD, ↓wp_fnK, ↓ws_try, ↓ws_hdN, ↓ws_hdC, ↓ws_suiteN, ↓ws_suiteS, ↓wp_fld, xE, gP_nil, gP_cons, Option.toList, ↓wp_lift2v, ↓wp_aNil, ↓wp_aCons, ↓wp_newF, ↓wp_newT, ↓wp_lst, ↓wp_tup, ↓wp_call, ↓wp_pf1, ↓wp_pf2, ↓wp_pfL, ↓wp_isi, ↓wp_fn, ↓wp_bm, ↓wp_sl, ↓wp_pNone, ↓wp_pSome, ↓wp_slS, ↓wp_slL, ↓wp_disp, ↓wp_newDF, ↓wp_newDT, rf_l, rf_d, ↓wp_prNil, ↓wp_prCons, ↓wp_dnew, ↓wp_iVal, ↓wp_rng1, ↓wp_rng2, ↓wp_lc, ↓wp_ok, ↓wp_exc, ↓wp_bad, ↓wp_join, itD, ↓wp_bYes, ↓rQ_dat, ↓rQ_cell, ↓wo_some, ↓wo_none, ↓wo_ite, ↓wo_map, view_dat, td_nil, td_cons, Option.map_some, bind_name, bind_tup, sa_c, sa_n, toKey, uB, uI, uD, uI1, uI2, ty_s, ty_l, List.map, List.length, List.replicate, Nat.reduceSub, Nat.reduceAdd, Nat.reduceLeDiff, Nat.zero_add, List.cons_append, List.nil_append, List.append_nil, List.getElem?_cons_zero, List.getElem?_cons_succ, Option.join_some, List.set_cons_zero, List.set_cons_succ, decide_eq_true_eq, Bool.not_eq_true', Bool.not_true, Bool.not_false, if_true, if_false, Bool.false_eq_true, eq_self, true_and, and_true, isND_n, notND_n, isi_int, isi_bool, isi_str, isi_tuple, isi_list, isi_dict, dInt, dBl, dStr, dTup, dLst, dDct, wipeE, List.set, subD, ltD, gtD, leD, geD, max2D, min2D, eqD_ii, neD_ii, eqD_ss, neD_ss, eqD_nil, neD_nil, sq, l1, ups_len]
  refine ⟨⟨by omega, by omega⟩, by omega, ?_⟩
  have w := wp_lcA (t := .name 3) (test := bYes) (elt := eBm "list" mPopAt (eVar 2) (aCons (eFn 2 [] f_law_take (aCons (eVar 0) (aCons (eCall (pf1 lenD) (aCons (eVar 2) aNil)) aNil))) aNil))
    (ρ := wipeE [some (.cell k), some (.dat (.lst ds)), some (.cell M.length), none] [3])
    (fun seen acc M' => Fx k M.length M M' ∧ Bx k (n + seen.length) M' ∧ M'.length = M.length + 1 ∧ ∃ left, M'[M.length]? = some (.lst left) ∧ left.length + seen.length = ds.length ∧ (acc ++ left).Perm ds) (intsUp 0 (ds.length : Int).toNat) [] [] (M ++ [.lst ds])
    ⟨⟨by simp, fun j hj _ => List.getElem?_append_left hj⟩, hb.app, by simp, ds, at_app, by simp, by simp⟩
    (fun pre d post acc M1 he ⟨f1, b1, lm, left, hc, hll, hp⟩ => by
      have hlt : pre.length < ds.length := by
        have := congrArg List.length he
        simp [ups_len] at this; omega
      have hcv := view_cl hc
      have ll : lenD (.lst left) = some (.int left.length) := rfl
      simp (config := {dsimp := false}) only [↓ws_nil, ↓ws_cons, ↓ws_asg, ↓ws_setIx, ↓ws_ret, ↓ws_retN, ↓ws_if, ↓ws_drop, ↓ws_brk, ↓ws_cnt, ↓ws_for, ↓wp_tOf, ↓wp_not, ↓wp_and, ↓wp_or, ↓wp_vand, ↓wp_vor, ↓wp_eB, ↓wp_eIf, ↓wp_neg, ↓wp_chain, ↓wp_e2, ↓wp_var, ↓wp_c, ↓wp_addI, ↓wp_addS, ↓wp_addL, ↓wp_addT, ↓ws_raise1, ↓ws_raise0, ↓ws_par, ↓ws_par3, uPar3_ok, ↓wp_kin, ↓wp_kix, wo_ks, ↓wp_get1, ↓wp_get2, ↓wp_dget, ↓ws_setKey, uKeyD, keyD, ↓wp_fnK, ↓ws_try, ↓ws_hdN, ↓ws_hdC, ↓ws_suiteN, ↓ws_suiteS, ↓wp_fld, xE, gP_nil, gP_cons, Option.toList, ↓wp_lift2v, ↓wp_aNil, ↓wp_aCons, ↓wp_newF, ↓wp_newT, ↓wp_lst, ↓wp_tup, ↓wp_call, ↓wp_pf1, ↓wp_pf2, ↓wp_pfL, ↓wp_isi, ↓wp_fn, ↓wp_bm, ↓wp_sl, ↓wp_pNone, ↓wp_pSome, ↓wp_slS, ↓wp_slL, ↓wp_disp, ↓wp_newDF, ↓wp_newDT, rf_l, rf_d, ↓wp_prNil, ↓wp_prCons, ↓wp_dnew, ↓wp_iVal, ↓wp_rng1, ↓wp_rng2, ↓wp_lc, ↓wp_ok, ↓wp_exc, ↓wp_bad, ↓wp_join, itD, ↓wp_bYes, ↓rQ_dat, ↓rQ_cell, ↓wo_some, ↓wo_none, ↓wo_ite, ↓wo_map, view_dat, td_nil, td_cons, Option.map_some, bind_name, bind_tup, sa_c, sa_n, toKey, uB, uI, uD, uI1, uI2, ty_s, ty_l, List.map, List.length, List.replicate, Nat.reduceSub, Nat.reduceAdd, Nat.reduceLeDiff, Nat.zero_add, List.cons_append, List.nil_append, List.append_nil, List.getElem?_cons_zero, List.getElem?_cons_succ, Option.join_some, List.set_cons_zero, List.set_cons_succ, decide_eq_true_eq, Bool.not_eq_true', Bool.not_true, Bool.not_false, if_true, if_false, Bool.false_eq_true, eq_self, true_and, and_true, isND_n, notND_n, isi_int, isi_bool, isi_str, isi_tuple, isi_list, isi_dict, dInt, dBl, dStr, dTup, dLst, dDct, wipeE, List.set, subD, ltD, gtD, leD, geD, max2D, min2D, eqD_ii, neD_ii, eqD_ss, neD_ss, eqD_nil, neD_nil, wipeE, ty_cl hc, hcv, ll]
      refine wp_take b1 (by omega) (by omega) (by omega) fun i M2 i0 i1 b2 f2 => ?_
      simp (config := {dsimp := false}) only [↓ws_nil, ↓ws_cons, ↓ws_asg, ↓ws_setIx, ↓ws_ret, ↓ws_retN, ↓ws_if, ↓ws_drop, ↓ws_brk, ↓ws_cnt, ↓ws_for, ↓wp_tOf, ↓wp_not, ↓wp_and, ↓wp_or, ↓wp_vand, ↓wp_vor, ↓wp_eB, ↓wp_eIf, ↓wp_neg, ↓wp_chain, ↓wp_e2, ↓wp_var, ↓wp_c, ↓wp_addI, ↓wp_addS, ↓wp_addL, ↓wp_addT, ↓ws_raise1, ↓ws_raise0, ↓ws_par, ↓ws_par3, uPar3_ok, ↓wp_kin, ↓wp_kix, wo_ks, ↓wp_get1, ↓wp_get2, ↓wp_dget, ↓ws_setKey, uKeyD, keyD, ↓wp_fnK, ↓ws_try, ↓ws_hdN, ↓ws_hdC, ↓ws_suiteN, ↓ws_suiteS, ↓wp_fld, xE, gP_nil, gP_cons, Option.toList, ↓wp_lift2v, ↓wp_aNil, ↓wp_aCons, ↓wp_newF, ↓wp_newT, ↓wp_lst, ↓wp_tup, ↓wp_call, ↓wp_pf1, ↓wp_pf2, ↓wp_pfL, ↓wp_isi, ↓wp_fn, ↓wp_bm, ↓wp_sl, ↓wp_pNone, ↓wp_pSome, ↓wp_slS, ↓wp_slL, ↓wp_disp, ↓wp_newDF, ↓wp_newDT, rf_l, rf_d, ↓wp_prNil, ↓wp_prCons, ↓wp_dnew, ↓wp_iVal, ↓wp_rng1, ↓wp_rng2, ↓wp_lc, ↓wp_ok, ↓wp_exc, ↓wp_bad, ↓wp_join, itD, ↓wp_bYes, ↓rQ_dat, ↓rQ_cell, ↓wo_some, ↓wo_none, ↓wo_ite, ↓wo_map, view_dat, td_nil, td_cons, Option.map_some, bind_name, bind_tup, sa_c, sa_n, toKey, uB, uI, uD, uI1, uI2, ty_s, ty_l, List.map, List.length, List.replicate, Nat.reduceSub, Nat.reduceAdd, Nat.reduceLeDiff, Nat.zero_add, List.cons_append, List.nil_append, List.append_nil, List.getElem?_cons_zero, List.getElem?_cons_succ, Option.join_some, List.set_cons_zero, List.set_cons_succ, decide_eq_true_eq, Bool.not_eq_true', Bool.not_true, Bool.not_false, if_true, if_false, Bool.false_eq_true, eq_self, true_and, and_true, isND_n, notND_n, isi_int, isi_bool, isi_str, isi_tuple, isi_list, isi_dict, dInt, dBl, dStr, dTup, dLst, dDct, wipeE, List.set, subD, ltD, gtD, leD, geD, max2D, min2D, eqD_ii, neD_ii, eqD_ss, neD_ss, eqD_nil, neD_nil]
      have hc2 : M2[M.length]? = some (.lst left) := by rw [f2.out _ (by omega)]; exact hc
      refine wp_popAt hc2 i0 i1 (by omega) fun e he2 => ?_
      simp (config := {dsimp := false}) only [↓ws_nil, ↓ws_cons, ↓ws_asg, ↓ws_setIx, ↓ws_ret, ↓ws_retN, ↓ws_if, ↓ws_drop, ↓ws_brk, ↓ws_cnt, ↓ws_for, ↓wp_tOf, ↓wp_not, ↓wp_and, ↓wp_or, ↓wp_vand, ↓wp_vor, ↓wp_eB, ↓wp_eIf, ↓wp_neg, ↓wp_chain, ↓wp_e2, ↓wp_var, ↓wp_c, ↓wp_addI, ↓wp_addS, ↓wp_addL, ↓wp_addT, ↓ws_raise1, ↓ws_raise0, ↓ws_par, ↓ws_par3, uPar3_ok, ↓wp_kin, ↓wp_kix, wo_ks, ↓wp_get1, ↓wp_get2, ↓wp_dget, ↓ws_setKey, uKeyD, keyD, ↓wp_fnK, ↓ws_try, ↓ws_hdN, ↓ws_hdC, ↓ws_suiteN, ↓ws_suiteS, ↓wp_fld, xE, gP_nil, gP_cons, Option.toList, ↓wp_lift2v, ↓wp_aNil, ↓wp_aCons, ↓wp_newF, ↓wp_newT, ↓wp_lst, ↓wp_tup, ↓wp_call, ↓wp_pf1, ↓wp_pf2, ↓wp_pfL, ↓wp_isi, ↓wp_fn, ↓wp_bm, ↓wp_sl, ↓wp_pNone, ↓wp_pSome, ↓wp_slS, ↓wp_slL, ↓wp_disp, ↓wp_newDF, ↓wp_newDT, rf_l, rf_d, ↓wp_prNil, ↓wp_prCons, ↓wp_dnew, ↓wp_iVal, ↓wp_rng1, ↓wp_rng2, ↓wp_lc, ↓wp_ok, ↓wp_exc, ↓wp_bad, ↓wp_join, itD, ↓wp_bYes, ↓rQ_dat, ↓rQ_cell, ↓wo_some, ↓wo_none, ↓wo_ite, ↓wo_map, view_dat, td_nil, td_cons, Option.map_some, bind_name, bind_tup, sa_c, sa_n, toKey, uB, uI, uD, uI1, uI2, ty_s, ty_l, List.map, List.length, List.replicate, Nat.reduceSub, Nat.reduceAdd, Nat.reduceLeDiff, Nat.zero_add, List.cons_append, List.nil_append, List.append_nil, List.getElem?_cons_zero, List.getElem?_cons_succ, Option.join_some, List.set_cons_zero, List.set_cons_succ, decide_eq_true_eq, Bool.not_eq_true', Bool.not_true, Bool.not_false, if_true, if_false, Bool.false_eq_true, eq_self, true_and, and_true, isND_n, notND_n, isi_int, isi_bool, isi_str, isi_tuple, isi_list, isi_dict, dInt, dBl, dStr, dTup, dLst, dDct, wipeE, List.set, subD, ltD, gtD, leD, geD, max2D, min2D, eqD_ii, neD_ii, eqD_ss, neD_ss, eqD_nil, neD_nil]
      refine ⟨⟨by rw [List.length_set]; have := f1.len; rw [f2.len]; exact this, fun j hj hjk => ?_⟩, ?_, by rw [List.length_set, f2.len, lm], left.eraseIdx i.toNat, by rw [List.getElem?_set_self (by rw [f2.len, lm]; omega)], ?_, ?_⟩
      · rw [List.getElem?_set_ne (by omega), f2.out j hjk]; exact f1.out j hj hjk
      · rw [List.length_append]; exact (b2.set (by omega)).mono (by simp; omega)
      · rw [List.length_eraseIdx, if_pos (by omega), List.length_append]; simp; omega
      · refine List.Perm.trans ?_ hp
        rw [List.append_assoc]
        exact List.Perm.append_left _ (perm_erase he2))
  have w2 : Wp (lcL (.name 3) bYes (eBm "list" mPopAt (eVar 2) (aCons (eFn 2 [] f_law_take (aCons (eVar 0) (aCons (eCall (pf1 lenD) (aCons (eVar 2) aNil)) aNil))) aNil)) (wipeE [some (.cell k), some (.dat (.lst ds)), some (.cell M.length), none] [3]) (intsUp 0 (ds.length : Int).toNat) (M ++ [.lst ds]))
      (fun es M' => ∃ M'' : Mem, M'.take M.length = M'' ∧ es.Perm ds ∧ Bx k (n + ds.length) M'' ∧ Fr k M M'') x0 := w.mono (fun es M' ⟨f1, b1, lm, left, hc, hll, hp⟩ => by
    have e0 : left.length = 0 := by rw [List.nil_append, ups_len] at hll; omega
    have e1 : left = [] := List.length_eq_zero_iff.mp e0
    subst e1
    refine ⟨_, rfl, by simpa using hp, ?_, f1.take⟩
    have : Bx k (n + ds.length) M' := b1.mono (by simp [ups_len])
    exact this.take hk) fun _ _ _ h => h
  refine w2.mono (fun es M' ⟨M'', e, hp, b, f⟩ => ?_) fun _ _ _ h => h
  simp (config := {dsimp := false}) only [↓ws_nil, ↓ws_cons, ↓ws_asg, ↓ws_setIx, ↓ws_ret, ↓ws_retN, ↓ws_if, ↓ws_drop, ↓ws_brk, ↓ws_cnt, ↓ws_for, ↓wp_tOf, ↓wp_not, ↓wp_and, ↓wp_or, ↓wp_vand, ↓wp_vor, ↓wp_eB, ↓wp_eIf, ↓wp_neg, ↓wp_chain, ↓wp_e2, ↓wp_var, ↓wp_c, ↓wp_addI, ↓wp_addS, ↓wp_addL, ↓wp_addT, ↓ws_raise1, ↓ws_raise0, ↓ws_par, ↓ws_par3, uPar3_ok, ↓wp_kin, ↓wp_kix, wo_ks, ↓wp_get1, ↓wp_get2, ↓wp_dget, ↓ws_setKey, uKeyD, keyD, ↓wp_fnK, ↓ws_try, ↓ws_hdN, ↓ws_hdC, ↓ws_suiteN, ↓ws_suiteS, ↓wp_fld, xE, gP_nil, gP_cons, Option.toList, ↓wp_lift2v, ↓wp_aNil, ↓wp_aCons, ↓wp_newF, ↓wp_newT, ↓wp_lst, ↓wp_tup, ↓wp_call, ↓wp_pf1, ↓wp_pf2, ↓wp_pfL, ↓wp_isi, ↓wp_fn, ↓wp_bm, ↓wp_sl, ↓wp_pNone, ↓wp_pSome, ↓wp_slS, ↓wp_slL, ↓wp_disp, ↓wp_newDF, ↓wp_newDT, rf_l, rf_d, ↓wp_prNil, ↓wp_prCons, ↓wp_dnew, ↓wp_iVal, ↓wp_rng1, ↓wp_rng2, ↓wp_lc, ↓wp_ok, ↓wp_exc, ↓wp_bad, ↓wp_join, itD, ↓wp_bYes, ↓rQ_dat, ↓rQ_cell, ↓wo_some, ↓wo_none, ↓wo_ite, ↓wo_map, view_dat, td_nil, td_cons, Option.map_some, bind_name, bind_tup, sa_c, sa_n, toKey, uB, uI, uD, uI1, uI2, ty_s, ty_l, List.map, List.length, List.replicate, Nat.reduceSub, Nat.reduceAdd, Nat.reduceLeDiff, Nat.zero_add, List.cons_append, List.nil_append, List.append_nil, List.getElem?_cons_zero, List.getElem?_cons_succ, Option.join_some, List.set_cons_zero, List.set_cons_succ, decide_eq_true_eq, Bool.not_eq_true', Bool.not_true, Bool.not_false, if_true, if_false, Bool.false_eq_true, eq_self, true_and, and_true, isND_n, notND_n, isi_int, isi_bool, isi_str, isi_tuple, isi_list, isi_dict, dInt, dBl, dStr, dTup, dLst, dDct, wipeE, List.set, subD, ltD, gtD, leD, geD, max2D, min2D, eqD_ii, neD_ii, eqD_ss, neD_ss, eqD_nil, neD_nil]
  rw [e]; exact h es M'' hp b f
/-! ### drawn names -/
def b_law_names : Sv := (sCons (sAsg (.name 2) (eC (.str [97, 98, 99, 100, 101, 102, 103, 104, 105, 106, 107, 108, 109, 110, 111, 112, 113, 114, 115, 116, 117, 118, 119, 120, 121, 122]))) (sCons (sIf (tOf (e2 (lift2 eqD) (eFn 2 [] f_law_take (aCons (eVar 0) (aCons (eC (.int 7)) aNil))) (eC (.int 0)))) (sCons (sAsg (.name 6) (eLst false (aCons (eC (.str [98, 101, 103, 105, 110])) (aCons (eC (.str [101, 109, 112, 116, 121])) (aCons (eC (.str [114, 101, 115, 116])) (aCons (eC (.str [115, 116, 101, 112])) (aCons (eC (.str [101, 110, 100])) (aCons (eC (.str [108, 111, 111, 107])) (aCons (eC (.str [111, 108, 100])) (aCons (eC (.str [110, 101, 119])) (aCons (eC (.str [112, 117, 116])) (aCons (eC (.str [112, 97, 114, 116])) (aCons (eC (.str [109, 111, 118, 101])) (aCons (eC (.str [115, 112, 108, 105, 116])) (aCons (eC (.str [108, 111, 99, 107])) aNil))))))))))))))) (sRet (eSl true (eFn 2 [] f_law_mixed (aCons (eVar 0) (aCons (eVar 6) aNil))) pNone (pSome (eVar 1))))) sNil) (sCons (sAsg (.name 3) (e2 (lift2 ixD) (eLst false (aCons (eC (.str [])) (aCons (eC (.str [97])) (aCons (eC (.str [116, 97, 98, 108])) (aCons (eC (.str [114, 101, 115, 116])) (aCons (eC (.str [112, 97, 114, 116])) (aCons (eC (.str [122, 122, 122, 122, 122, 122, 122])) aNil))))))) (eFn 2 [] f_law_take (aCons (eVar 0) (aCons (eC (.int 6)) aNil))))) (sCons (sPar3 7 8 9 (aCons (eFn 2 [] f_law_take (aCons (eVar 0) (aCons (eC (.int 26)) aNil))) (aCons (e2 (lift2 ixD) (eLst false (aCons (eC (.int 1)) (aCons (eC (.int 3)) (aCons (eC (.int 5)) (aCons (eC (.int 7)) (aCons (eC (.int 9)) (aCons (eC (.int 11)) aNil))))))) (eFn 2 [] f_law_take (aCons (eVar 0) (aCons (eC (.int 6)) aNil)))) (aCons (eFn 2 [] f_law_take (aCons (eVar 0) (aCons (eC (.int 3)) aNil))) aNil)))) (sCons (sAsg (.name 4) (eLst true aNil)) (sCons (sFor (.name 5) (iRng1 (aCons (eVar 1) aNil)) (sCons (sAsg (.name 10) (e2 (lift2 ixD) (eVar 2) (e2 (lift2 modD) (e2 (pAdd false) (eVar 7) (e2 (lift2 mulSD) (eVar 8) (eVar 5))) (eC (.int 26))))) (sCons (sAsg (.name 11) (e2 (lift2 ixD) (eLst false (aCons (e2 (pAdd false) (eVar 3) (eVar 10)) (aCons (e2 (pAdd false) (eVar 10) (eVar 3)) (aCons (eVar 10) aNil)))) (eIf (tOf (e2 (lift2 gtD) (eVar 5) (eC (.int 0)))) (eVar 9) (eC (.int 0))))) (sDrop (eBm "list" mAppend (eVar 4) (aCons (eIf (tOf (e2 (lift2 eqD) (eVar 11) (eC (.str [116, 97, 98, 108, 101])))) (eC (.str [116, 97, 98, 108, 101, 115])) (eVar 11)) aNil)))))) (sRet (eVar 4))))))))
def f_law_names : Fn := fnRun 12 b_law_names

def abc : Cs := letters
def words13 : List Cs := [[98, 101, 103, 105, 110], [101, 109, 112, 116, 121], [114, 101, 115, 116], [115, 116, 101, 112], [101, 110, 100], [108, 111, 111, 107], [111, 108, 100], [110, 101, 119], [112, 117, 116], [112, 97, 114, 116], [109, 111, 118, 101], [115, 112, 108, 105, 116], [108, 111, 99, 107]]
def stems : List Cs := [[], [97], [116, 97, 98, 108], [114, 101, 115, 116], [112, 97, 114, 116], [122, 122, 122, 122, 122, 122, 122]]
def steps6 : List Nat := [1, 3, 5, 7, 9, 11]

def nameW (stem : Cs) (way : Nat) (c : Nat) : Cs := match way with
  | 0 => stem ++ [c]
  | 1 => c :: stem
  | _ => [c]
def cTables : Cs := [116, 97, 98, 108, 101, 115]
def fixW (w : Cs) : Cs := if w == cTable then cTables else w
def chr26 (first step k : Nat) : Nat := 97 + (first + step * k) % 26
/-- the k-th name -/
def nameF (stem : Cs) (first step way k : Nat) : Cs := fixW (nameW stem (if k > 0 then way else 0) (chr26 first step k))
def namesF (stem : Cs) (first step way many : Nat) : List Cs := (List.range many).map (nameF stem first step way)
theorem letterB_eq (c : Nat) : letterB c = (decide (97 ≤ c) && decide (c ≤ 122)) := by
  unfold letterB
  rw [Bool.eq_iff_iff]
  have h := subS_one c letters
  rw [h, List.contains_iff_mem]
  simp only [letters, List.mem_cons, List.not_mem_nil, or_false, Bool.and_eq_true, decide_eq_true_eq]
  omega
theorem nameC_of {s : Cs} (h1 : s ≠ cTable) (h2 : 1 ≤ s.length) (h3 : s.length ≤ 8) (h4 : ∀ c ∈ s, 97 ≤ c ∧ c ≤ 122) : isNameC s = true := by
  unfold isNameC
  rw [beq_eq_false_iff_ne.mpr h1, decide_eq_true h2, decide_eq_true h3]
  have : s.all letterB = true := List.all_eq_true.mpr fun c hc => by
    rw [letterB_eq]
    have := h4 c hc
    simp [this]
  rw [this]; rfl
theorem chr_rng (first step k : Nat) : 97 ≤ chr26 first step k ∧ chr26 first step k ≤ 122 := by
  unfold chr26
  have := Nat.mod_lt (first + step * k) (show 0 < 26 by decide)
  omega
theorem chr_inj {first step i j : Nat} (hs : step ∈ steps6) (hi : i < 13) (hj : j < 13) (h : chr26 first step i = chr26 first step j) : i = j := by
  unfold chr26 at h
  simp only [steps6, List.mem_cons, List.not_mem_nil, or_false] at hs
  rcases hs with rfl | rfl | rfl | rfl | rfl | rfl <;> omega
theorem nameW_ok {stem : Cs} (hs : stem ∈ stems) (way : Nat) {c : Nat} (h1 : 97 ≤ c) (h2 : c ≤ 122) : isNameC (fixW (nameW stem way c)) = true ∧ nameW stem way c ≠ cTables := by
  have len : (nameW stem way c).length ≠ 6 ∧ 1 ≤ (nameW stem way c).length ∧ (nameW stem way c).length ≤ 8 ∧ ∀ d ∈ nameW stem way c, 97 ≤ d ∧ d ≤ 122 := by
    simp only [stems, List.mem_cons, List.not_mem_nil, or_false] at hs
    match way with
    | 0 => rcases hs with rfl | rfl | rfl | rfl | rfl | rfl <;> simp [nameW] <;> omega
    | 1 => rcases hs with rfl | rfl | rfl | rfl | rfl | rfl <;> simp [nameW] <;> omega
    | n + 2 => simp [nameW]; omega
  refine ⟨?_, fun e => len.1 (by rw [e]; rfl)⟩
  unfold fixW
  by_cases e : (nameW stem way c == cTable) = true
  · rw [if_pos e]; decide +kernel
  · rw [if_neg e]
    exact nameC_of (fun z => e (by rw [z]; simp)) len.2.1 len.2.2.1 len.2.2.2
theorem fixW_inj {w v : Cs} (hw : w ≠ cTables) (hv : v ≠ cTables) (h : fixW w = fixW v) : w = v := by
  unfold fixW at h
  split at h
  · rename_i e1
    split at h
    · rename_i e2
      rw [beq_iff_eq] at e1 e2
      rw [e1, e2]
    · exact absurd h.symm hv
  · split at h
    · exact absurd h hw
    · exact h
theorem nameW_inj {stem : Cs} (hs : stem ∈ stems) (way : Nat) {c d : Nat} (hcd : c ≠ d) : nameW stem way c ≠ nameW stem way d ∧ nameW stem 0 c ≠ nameW stem way d := by
  simp only [stems, List.mem_cons, List.not_mem_nil, or_false] at hs
  match way with
  | 0 => rcases hs with rfl | rfl | rfl | rfl | rfl | rfl <;> simp [nameW, hcd]
  | 1 => rcases hs with rfl | rfl | rfl | rfl | rfl | rfl <;> simp [nameW, hcd] <;> omega
  | n + 2 => rcases hs with rfl | rfl | rfl | rfl | rfl | rfl <;> simp [nameW, hcd]
theorem namesF_ok {stem : Cs} {first step way many : Nat} (hs : stem ∈ stems) (ht : step ∈ steps6) (hm : many ≤ 13) : (∀ s ∈ namesF stem first step way many, isNameC s = true) ∧ (namesF stem first step way many).Nodup := by
  refine ⟨fun s h => ?_, ?_⟩
  · obtain ⟨k, _, rfl⟩ := List.mem_map.mp h
    exact (nameW_ok hs _ (chr_rng first step k).1 (chr_rng first step k).2).1
  · unfold namesF
    rw [List.nodup_iff_pairwise_ne, List.pairwise_map]
    refine List.Pairwise.imp_of_mem (fun {i j} hi hj hij => ?_) List.pairwise_lt_range
    have hi := List.mem_range.mp hi
    have hj := List.mem_range.mp hj
    intro e
    have hne : chr26 first step i ≠ chr26 first step j := fun z => by have := chr_inj ht (by omega) (by omega) z; omega
    have e := fixW_inj (nameW_ok hs _ (chr_rng first step i).1 (chr_rng first step i).2).2 (nameW_ok hs _ (chr_rng first step j).1 (chr_rng first step j).2).2 e
    have hj0 : j > 0 := by omega
    rw [if_pos hj0] at e
    by_cases hi0 : i > 0
    · rw [if_pos hi0] at e; exact (nameW_inj hs way hne).1 e
    · rw [if_neg hi0] at e; exact (nameW_inj hs way hne).2 e
theorem words_ok : (∀ s ∈ words13, isNameC s = true) ∧ words13.Nodup := by decide +kernel

theorem ws_forM {β : Type} {X : XS} {nx bk ct : En → Mem → Prop} {rt : U → Mem → Prop} {t : Tgt} {body : Sv} (f : β → D) (J : List β → En → Mem → Prop) : ∀ (xs seen : List β) (ρ : En) (M : Mem), J seen ρ M → (∀ (pre : List β) (x : β) (post : List β) (ρ : En) (M : Mem), seen ++ xs = pre ++ x :: post → J pre ρ M → WO (t.bind (.dat (f x)) ρ) fun ρ1 =>
    WS (body ρ1 M) (J (pre ++ [x])) rt nx (J (pre ++ [x])) X) → (∀ ρ M, J (seen ++ xs) ρ M → nx ρ M) → WS (forL t body (xs.map f) ρ M) nx rt bk ct X
  | [], seen, ρ, M, hJ, _, he => he ρ M (by simpa using hJ)
  | d :: ds, seen, ρ, M, hJ, hs, he => by
    have h := hs seen d ds ρ M rfl hJ
    rw [List.map_cons, ws_forC]
    cases hb : t.bind (.dat (f d)) ρ with
    | none => rw [hb] at h; exact h.elim
    | some ρ1 =>
      rw [hb] at h
      have go : ∀ ρ2 M2, J (seen ++ [d]) ρ2 M2 → WS (forL t body (ds.map f) ρ2 M2) nx rt bk ct X := fun ρ2 M2 hJ2 =>
        ws_forM f J ds (seen ++ [d]) ρ2 M2 hJ2 (fun pre e post ρ M e1 => hs pre e post ρ M (by simpa using e1)) (fun ρ M q => he ρ M (by simpa using q))
      exact WS.mono h go (fun _ _ h => h) (fun _ _ h => h) go (fun _ _ _ _ h => h)
/-- range(n), in turns -/
theorem ups_nat (n : Nat) : intsUp 0 n = (List.range n).map fun (i : Nat) => D.int (i : Int) := by
  unfold intsUp
  simp
def unStr : D → Cs
  | .str s => s
  | _ => []
theorem perm_strs {es : List D} {ws : List Cs} (h : es.Perm (ws.map D.str)) : ∃ vs : List Cs, es = vs.map D.str ∧ vs.Perm ws := by
  refine ⟨es.map unStr, ?_, ?_⟩
  · rw [List.map_map]
    refine ((List.map_congr_left (g := id) fun e he => ?_).trans (List.map_id _)).symm
    obtain ⟨w, _, rfl⟩ := List.mem_map.mp (h.subset he)
    rfl
  · have := h.map unStr
    rw [List.map_map] at this
    have e : (unStr ∘ D.str) = id := rfl
    rw [e, List.map_id] at this
    exact this
theorem abc_at {i : Nat} (h : i < 26) : ixD (.str letters) (.int (i : Nat)) = some (.str [97 + i]) := by
  have : i = 0 ∨ i = 1 ∨ i = 2 ∨ i = 3 ∨ i = 4 ∨ i = 5 ∨ i = 6 ∨ i = 7 ∨ i = 8 ∨ i = 9 ∨ i = 10 ∨ i = 11 ∨ i = 12 ∨ i = 13 ∨ i = 14 ∨ i = 15 ∨ i = 16 ∨ i = 17 ∨ i = 18 ∨ i = 19 ∨ i = 20 ∨ i = 21 ∨ i = 22 ∨ i = 23 ∨ i = 24 ∨ i = 25 := by omega
  rcases this with rfl | rfl | rfl | rfl | rfl | rfl | rfl | rfl | rfl | rfl | rfl | rfl | rfl | rfl | rfl | rfl | rfl | rfl | rfl | rfl | rfl | rfl | rfl | rfl | rfl | rfl <;> rfl
theorem cut_to {α : Type} (s : List α) (i : Nat) : cutL s none (some (i : Int)) = s.take i := by
  unfold cutL
  rw [HT.sIx_none, HT.sIx_nat, Nat.sub_zero, List.drop_zero]
  by_cases h : i ≤ s.length
  · rw [Nat.min_eq_left h]
  · rw [Nat.min_eq_right (by omega), List.take_of_length_le (Nat.le_refl _), List.take_of_length_le (by omega)]
theorem cut_from {α : Type} (s : List α) (i : Nat) : cutL s (some (i : Int)) none = s.drop i := by
  unfold cutL
  rw [HT.sIx_none, HT.sIx_nat]
  by_cases h : i ≤ s.length
  · rw [Nat.min_eq_left h, List.take_of_length_le (by rw [List.length_drop]; exact Nat.le_refl _)]
  · rw [Nat.min_eq_right (by omega), List.drop_of_length_le (Nat.le_refl _), List.drop_of_length_le (by omega), List.take_nil]
theorem wp_takeN {k n : Nat} {m : Int} {M : Mem} {Q : U → Mem → Prop} {X : XP} (hb : Bx k n M) (hn : n ≤ 1099511627776) (h0 : 0 < m) (h1 : m < 1073741824) (h : ∀ (d : Nat) M', (d : Int) < m → Bx k (n + 1) M' → Fr k M M' → Q (.dat (.int (d : Int))) M') :
    Wp (f_law_take [.cell k, .dat (.int m)] M) Q X :=
  wp_take hb hn h0 h1 fun d M' a b c f => by
    have e : d = ((d.toNat : Nat) : Int) := (Int.toNat_of_nonneg a).symm
    rw [e]; rw [e] at b
    exact h _ M' b c f
set_option maxRecDepth 100000 in
theorem wp_names {k n many : Nat} {M : Mem} {Q : U → Mem → Prop} {X : XP} (hb : Bx k n M) (hn : n ≤ 500000) (hm : many ≤ 13) (h : ∀ (ns : List Cs) M', ns.length = many → (∀ s ∈ ns, isNameC s = true) → ns.Nodup → Bx k (n + 20) M' → Fr k M M' → Q (.cell M.length) (M' ++ [.lst (ns.map D.str)])) :
    Wp (f_law_names [.cell k, .dat (.int (many : Nat))] M) Q X := by
  have hk := hb.lt
  unfold f_law_names b_law_names
  rw [wp_run]
  simp (config := {dsimp := false}) only [↓ws_nil, ↓ws_cons, ↓ws_asg, ↓ws_setIx, ↓ws_ret, ↓ws_retN, ↓ws_if, ↓ws_drop, ↓ws_brk, ↓ws_cnt, ↓ws_for, ↓wp_tOf, ↓wp_not, ↓wp_and, ↓wp_or, ↓wp_vand, ↓wp_vor, ↓wp_eB, ↓wp_eIf, ↓wp_neg, ↓wp_chain, ↓wp_e2, ↓wp_var, ↓wp_c, ↓wp_addI, ↓wp_addS, ↓wp_addL, ↓wp_addT, ↓ws_raise1, ↓ws_raise0, ↓ws_par, ↓ws_par3, uPar3_ok, ↓wp_kin, ↓wp_kix, wo_ks, ↓wp_get1, ↓wp_get2, ↓wp_dget, ↓ws_setKey, uKeyD, keyD, ↓wp_fnK, ↓ws_try, ↓ws_hdN, ↓ws_hdC, ↓ws_suiteN, ↓ws_suiteS, ↓wp_fld, xE, gP_nil, gP_cons, Option.toList, ↓wp_lift2v, ↓wp_aNil, ↓wp_aCons, ↓wp_newF, ↓wp_newT, ↓wp_lst, ↓wp_tup, ↓wp_call, ↓wp_pf1, ↓wp_pf2, ↓wp_pfL, ↓wp_isi, ↓wp_fn, ↓wp_bm, ↓wp_sl, ↓wp_pNone, ↓wp_pSome, ↓wp_slS, ↓wp_slL, ↓wp_disp, ↓wp_newDF, ↓wp_newDT, rf_l, rf_d, ↓wp_prNil, ↓wp_prCons, ↓wp_dnew, ↓wp_iVal, ↓wp_rng1, ↓wp_rng2, ↓wp_lc, ↓wp_ok, ↓wp_exc, ↓wp_bad, ↓wp_join, itD, ↓wp_bYes, ↓rQ_dat, ↓rQ_cell, ↓wo_some, ↓wo_none, ↓wo_ite, ↓wo_map, view_dat, td_nil, td_cons, Option.map_some, bind_name, bind_tup, sa_c, sa_n, toKey, uB, uI, uD, uI1, uI2, ty_s, ty_l, List.map, List.length, List.replicate, Nat.reduceSub, Nat.reduceAdd, Nat.reduceLeDiff, Nat.zero_add, List.cons_append, List.nil_append, List.append_nil, List.getElem?_cons_zero, List.getElem?_cons_succ, Option.join_some, List.set_cons_zero, List.set_cons_succ, decide_eq_true_eq, Bool.not_eq_true', Bool.not_true, Bool.not_false, if_true, if_false, Bool.false_eq_true, eq_self, true_and, and_true, isND_n, notND_n, isi_int, isi_bool, isi_str, isi_tuple, isi_list, isi_dict, dInt, dBl, dStr, dTup, dLst, dDct, wipeE, List.set, subD, ltD, gtD, leD, geD, max2D, min2D, eqD_ii, neD_ii, eqD_ss, neD_ss, eqD_nil, neD_nil]
  refine wp_take hb (by omega) (by decide) (by decide) fun d0 M1 d00 d01 hb1 f1 => ?_
  simp (config := {dsimp := false}) only [↓ws_nil, ↓ws_cons, ↓ws_asg, ↓ws_setIx, ↓ws_ret, ↓ws_retN, ↓ws_if, ↓ws_drop, ↓ws_brk, ↓ws_cnt, ↓ws_for, ↓wp_tOf, ↓wp_not, ↓wp_and, ↓wp_or, ↓wp_vand, ↓wp_vor, ↓wp_eB, ↓wp_eIf, ↓wp_neg, ↓wp_chain, ↓wp_e2, ↓wp_var, ↓wp_c, ↓wp_addI, ↓wp_addS, ↓wp_addL, ↓wp_addT, ↓ws_raise1, ↓ws_raise0, ↓ws_par, ↓ws_par3, uPar3_ok, ↓wp_kin, ↓wp_kix, wo_ks, ↓wp_get1, ↓wp_get2, ↓wp_dget, ↓ws_setKey, uKeyD, keyD, ↓wp_fnK, ↓ws_try, ↓ws_hdN, ↓ws_hdC, ↓ws_suiteN, ↓ws_suiteS, ↓wp_fld, xE, gP_nil, gP_cons, Option.toList, ↓wp_lift2v, ↓wp_aNil, ↓wp_aCons, ↓wp_newF, ↓wp_newT, ↓wp_lst, ↓wp_tup, ↓wp_call, ↓wp_pf1, ↓wp_pf2, ↓wp_pfL, ↓wp_isi, ↓wp_fn, ↓wp_bm, ↓wp_sl, ↓wp_pNone, ↓wp_pSome, ↓wp_slS, ↓wp_slL, ↓wp_disp, ↓wp_newDF, ↓wp_newDT, rf_l, rf_d, ↓wp_prNil, ↓wp_prCons, ↓wp_dnew, ↓wp_iVal, ↓wp_rng1, ↓wp_rng2, ↓wp_lc, ↓wp_ok, ↓wp_exc, ↓wp_bad, ↓wp_join, itD, ↓wp_bYes, ↓rQ_dat, ↓rQ_cell, ↓wo_some, ↓wo_none, ↓wo_ite, ↓wo_map, view_dat, td_nil, td_cons, Option.map_some, bind_name, bind_tup, sa_c, sa_n, toKey, uB, uI, uD, uI1, uI2, ty_s, ty_l, List.map, List.length, List.replicate, Nat.reduceSub, Nat.reduceAdd, Nat.reduceLeDiff, Nat.zero_add, List.cons_append, List.nil_append, List.append_nil, List.getElem?_cons_zero, List.getElem?_cons_succ, Option.join_some, List.set_cons_zero, List.set_cons_succ, decide_eq_true_eq, Bool.not_eq_true', Bool.not_true, Bool.not_false, if_true, if_false, Bool.false_eq_true, eq_self, true_and, and_true, isND_n, notND_n, isi_int, isi_bool, isi_str, isi_tuple, isi_list, isi_dict, dInt, dBl, dStr, dTup, dLst, dDct, wipeE, List.set, subD, ltD, gtD, leD, geD, max2D, min2D, eqD_ii, neD_ii, eqD_ss, neD_ss, eqD_nil, neD_nil]
  by_cases hd : (d0 == 0) = true
  · rw [if_pos hd]
    rw [show ([.str [98, 101, 103, 105, 110], .str [101, 109, 112, 116, 121], .str [114, 101, 115, 116], .str [115, 116, 101, 112], .str [101, 110, 100], .str [108, 111, 111, 107], .str [111, 108, 100], .str [110, 101, 119], .str [112, 117, 116], .str [112, 97, 114, 116], .str [109, 111, 118, 101], .str [115, 112, 108, 105, 116], .str [108, 111, 99, 107]] : List D) = words13.map D.str from rfl]
    refine wp_mixed (n := n + 1) (ds := words13.map D.str) hb1 (Nat.le_trans (show n + 1 ≤ n + 1 from Nat.le_refl _) (by omega)) (by rw [List.length_map]; decide) fun es M2 hp hb2 f2 => ?_
    obtain ⟨vs, rfl, hv⟩ := perm_strs hp
    simp (config := {dsimp := false}) only [↓ws_nil, ↓ws_cons, ↓ws_asg, ↓ws_setIx, ↓ws_ret, ↓ws_retN, ↓ws_if, ↓ws_drop, ↓ws_brk, ↓ws_cnt, ↓ws_for, ↓wp_tOf, ↓wp_not, ↓wp_and, ↓wp_or, ↓wp_vand, ↓wp_vor, ↓wp_eB, ↓wp_eIf, ↓wp_neg, ↓wp_chain, ↓wp_e2, ↓wp_var, ↓wp_c, ↓wp_addI, ↓wp_addS, ↓wp_addL, ↓wp_addT, ↓ws_raise1, ↓ws_raise0, ↓ws_par, ↓ws_par3, uPar3_ok, ↓wp_kin, ↓wp_kix, wo_ks, ↓wp_get1, ↓wp_get2, ↓wp_dget, ↓ws_setKey, uKeyD, keyD, ↓wp_fnK, ↓ws_try, ↓ws_hdN, ↓ws_hdC, ↓ws_suiteN, ↓ws_suiteS, ↓wp_fld, xE, gP_nil, gP_cons, Option.toList, ↓wp_lift2v, ↓wp_aNil, ↓wp_aCons, ↓wp_newF, ↓wp_newT, ↓wp_lst, ↓wp_tup, ↓wp_call, ↓wp_pf1, ↓wp_pf2, ↓wp_pfL, ↓wp_isi, ↓wp_fn, ↓wp_bm, ↓wp_sl, ↓wp_pNone, ↓wp_pSome, ↓wp_slS, ↓wp_slL, ↓wp_disp, ↓wp_newDF, ↓wp_newDT, rf_l, rf_d, ↓wp_prNil, ↓wp_prCons, ↓wp_dnew, ↓wp_iVal, ↓wp_rng1, ↓wp_rng2, ↓wp_lc, ↓wp_ok, ↓wp_exc, ↓wp_bad, ↓wp_join, itD, ↓wp_bYes, ↓rQ_dat, ↓rQ_cell, ↓wo_some, ↓wo_none, ↓wo_ite, ↓wo_map, view_dat, td_nil, td_cons, Option.map_some, bind_name, bind_tup, sa_c, sa_n, toKey, uB, uI, uD, uI1, uI2, ty_s, ty_l, List.map, List.length, List.replicate, Nat.reduceSub, Nat.reduceAdd, Nat.reduceLeDiff, Nat.zero_add, List.cons_append, List.nil_append, List.append_nil, List.getElem?_cons_zero, List.getElem?_cons_succ, Option.join_some, List.set_cons_zero, List.set_cons_succ, decide_eq_true_eq, Bool.not_eq_true', Bool.not_true, Bool.not_false, if_true, if_false, Bool.false_eq_true, eq_self, true_and, and_true, isND_n, notND_n, isi_int, isi_bool, isi_str, isi_tuple, isi_list, isi_dict, dInt, dBl, dStr, dTup, dLst, dDct, wipeE, List.set, subD, ltD, gtD, leD, geD, max2D, min2D, eqD_ii, neD_ii, eqD_ss, neD_ss, eqD_nil, neD_nil]
    rw [cut_to, ← List.map_take]
    have ml : M2.length = M.length := by rw [f2.len, f1.len]
    rw [← ml]
    simp (config := {dsimp := false}) only [↓ws_nil, ↓ws_cons, ↓ws_asg, ↓ws_setIx, ↓ws_ret, ↓ws_retN, ↓ws_if, ↓ws_drop, ↓ws_brk, ↓ws_cnt, ↓ws_for, ↓wp_tOf, ↓wp_not, ↓wp_and, ↓wp_or, ↓wp_vand, ↓wp_vor, ↓wp_eB, ↓wp_eIf, ↓wp_neg, ↓wp_chain, ↓wp_e2, ↓wp_var, ↓wp_c, ↓wp_addI, ↓wp_addS, ↓wp_addL, ↓wp_addT, ↓ws_raise1, ↓ws_raise0, ↓ws_par, ↓ws_par3, uPar3_ok, ↓wp_kin, ↓wp_kix, wo_ks, ↓wp_get1, ↓wp_get2, ↓wp_dget, ↓ws_setKey, uKeyD, keyD, ↓wp_fnK, ↓ws_try, ↓ws_hdN, ↓ws_hdC, ↓ws_suiteN, ↓ws_suiteS, ↓wp_fld, xE, gP_nil, gP_cons, Option.toList, ↓wp_lift2v, ↓wp_aNil, ↓wp_aCons, ↓wp_newF, ↓wp_newT, ↓wp_lst, ↓wp_tup, ↓wp_call, ↓wp_pf1, ↓wp_pf2, ↓wp_pfL, ↓wp_isi, ↓wp_fn, ↓wp_bm, ↓wp_sl, ↓wp_pNone, ↓wp_pSome, ↓wp_slS, ↓wp_slL, ↓wp_disp, ↓wp_newDF, ↓wp_newDT, rf_l, rf_d, ↓wp_prNil, ↓wp_prCons, ↓wp_dnew, ↓wp_iVal, ↓wp_rng1, ↓wp_rng2, ↓wp_lc, ↓wp_ok, ↓wp_exc, ↓wp_bad, ↓wp_join, itD, ↓wp_bYes, ↓rQ_dat, ↓rQ_cell, ↓wo_some, ↓wo_none, ↓wo_ite, ↓wo_map, view_dat, td_nil, td_cons, Option.map_some, bind_name, bind_tup, sa_c, sa_n, toKey, uB, uI, uD, uI1, uI2, ty_s, ty_l, List.map, List.length, List.replicate, Nat.reduceSub, Nat.reduceAdd, Nat.reduceLeDiff, Nat.zero_add, List.cons_append, List.nil_append, List.append_nil, List.getElem?_cons_zero, List.getElem?_cons_succ, Option.join_some, List.set_cons_zero, List.set_cons_succ, decide_eq_true_eq, Bool.not_eq_true', Bool.not_true, Bool.not_false, if_true, if_false, Bool.false_eq_true, eq_self, true_and, and_true, isND_n, notND_n, isi_int, isi_bool, isi_str, isi_tuple, isi_list, isi_dict, dInt, dBl, dStr, dTup, dLst, dDct, wipeE, List.set, subD, ltD, gtD, leD, geD, max2D, min2D, eqD_ii, neD_ii, eqD_ss, neD_ss, eqD_nil, neD_nil, at_app, take_app]
    rw [if_neg (Nat.lt_irrefl _)]
    have lv : vs.length = 13 := by rw [hv.length_eq]; rfl
    rw [ml]
    exact h _ M2 (by rw [List.length_take]; omega) (fun s hs => words_ok.1 s (hv.subset (List.mem_of_mem_take hs))) ((hv.nodup_iff.mpr words_ok.2).sublist (List.take_sublist _ _)) (hb2.mono (by simp [words13])) (f1.trans f2)
  · rw [if_neg hd]
    refine wp_take hb1 (by omega) (by decide) (by decide) fun d1 M2 d10 d11 hb2 f2 => ?_
    simp (config := {dsimp := false}) only [↓ws_nil, ↓ws_cons, ↓ws_asg, ↓ws_setIx, ↓ws_ret, ↓ws_retN, ↓ws_if, ↓ws_drop, ↓ws_brk, ↓ws_cnt, ↓ws_for, ↓wp_tOf, ↓wp_not, ↓wp_and, ↓wp_or, ↓wp_vand, ↓wp_vor, ↓wp_eB, ↓wp_eIf, ↓wp_neg, ↓wp_chain, ↓wp_e2, ↓wp_var, ↓wp_c, ↓wp_addI, ↓wp_addS, ↓wp_addL, ↓wp_addT, ↓ws_raise1, ↓ws_raise0, ↓ws_par, ↓ws_par3, uPar3_ok, ↓wp_kin, ↓wp_kix, wo_ks, ↓wp_get1, ↓wp_get2, ↓wp_dget, ↓ws_setKey, uKeyD, keyD, ↓wp_fnK, ↓ws_try, ↓ws_hdN, ↓ws_hdC, ↓ws_suiteN, ↓ws_suiteS, ↓wp_fld, xE, gP_nil, gP_cons, Option.toList, ↓wp_lift2v, ↓wp_aNil, ↓wp_aCons, ↓wp_newF, ↓wp_newT, ↓wp_lst, ↓wp_tup, ↓wp_call, ↓wp_pf1, ↓wp_pf2, ↓wp_pfL, ↓wp_isi, ↓wp_fn, ↓wp_bm, ↓wp_sl, ↓wp_pNone, ↓wp_pSome, ↓wp_slS, ↓wp_slL, ↓wp_disp, ↓wp_newDF, ↓wp_newDT, rf_l, rf_d, ↓wp_prNil, ↓wp_prCons, ↓wp_dnew, ↓wp_iVal, ↓wp_rng1, ↓wp_rng2, ↓wp_lc, ↓wp_ok, ↓wp_exc, ↓wp_bad, ↓wp_join, itD, ↓wp_bYes, ↓rQ_dat, ↓rQ_cell, ↓wo_some, ↓wo_none, ↓wo_ite, ↓wo_map, view_dat, td_nil, td_cons, Option.map_some, bind_name, bind_tup, sa_c, sa_n, toKey, uB, uI, uD, uI1, uI2, ty_s, ty_l, List.map, List.length, List.replicate, Nat.reduceSub, Nat.reduceAdd, Nat.reduceLeDiff, Nat.zero_add, List.cons_append, List.nil_append, List.append_nil, List.getElem?_cons_zero, List.getElem?_cons_succ, Option.join_some, List.set_cons_zero, List.set_cons_succ, decide_eq_true_eq, Bool.not_eq_true', Bool.not_true, Bool.not_false, if_true, if_false, Bool.false_eq_true, eq_self, true_and, and_true, isND_n, notND_n, isi_int, isi_bool, isi_str, isi_tuple, isi_list, isi_dict, dInt, dBl, dStr, dTup, dLst, dDct, wipeE, List.set, subD, ltD, gtD, leD, geD, max2D, min2D, eqD_ii, neD_ii, eqD_ss, neD_ss, eqD_nil, neD_nil]
    refine ix_l d10 (by simpa using d11) fun e he => ?_
    obtain ⟨stem, rfl, hs⟩ : ∃ stem, e = .str stem ∧ stem ∈ stems := by
      have : e ∈ stems.map D.str := he
      obtain ⟨s, hs, rfl⟩ := List.mem_map.mp this
      exact ⟨s, rfl, hs⟩
    simp (config := {dsimp := false}) only [↓ws_nil, ↓ws_cons, ↓ws_asg, ↓ws_setIx, ↓ws_ret, ↓ws_retN, ↓ws_if, ↓ws_drop, ↓ws_brk, ↓ws_cnt, ↓ws_for, ↓wp_tOf, ↓wp_not, ↓wp_and, ↓wp_or, ↓wp_vand, ↓wp_vor, ↓wp_eB, ↓wp_eIf, ↓wp_neg, ↓wp_chain, ↓wp_e2, ↓wp_var, ↓wp_c, ↓wp_addI, ↓wp_addS, ↓wp_addL, ↓wp_addT, ↓ws_raise1, ↓ws_raise0, ↓ws_par, ↓ws_par3, uPar3_ok, ↓wp_kin, ↓wp_kix, wo_ks, ↓wp_get1, ↓wp_get2, ↓wp_dget, ↓ws_setKey, uKeyD, keyD, ↓wp_fnK, ↓ws_try, ↓ws_hdN, ↓ws_hdC, ↓ws_suiteN, ↓ws_suiteS, ↓wp_fld, xE, gP_nil, gP_cons, Option.toList, ↓wp_lift2v, ↓wp_aNil, ↓wp_aCons, ↓wp_newF, ↓wp_newT, ↓wp_lst, ↓wp_tup, ↓wp_call, ↓wp_pf1, ↓wp_pf2, ↓wp_pfL, ↓wp_isi, ↓wp_fn, ↓wp_bm, ↓wp_sl, ↓wp_pNone, ↓wp_pSome, ↓wp_slS, ↓wp_slL, ↓wp_disp, ↓wp_newDF, ↓wp_newDT, rf_l, rf_d, ↓wp_prNil, ↓wp_prCons, ↓wp_dnew, ↓wp_iVal, ↓wp_rng1, ↓wp_rng2, ↓wp_lc, ↓wp_ok, ↓wp_exc, ↓wp_bad, ↓wp_join, itD, ↓wp_bYes, ↓rQ_dat, ↓rQ_cell, ↓wo_some, ↓wo_none, ↓wo_ite, ↓wo_map, view_dat, td_nil, td_cons, Option.map_some, bind_name, bind_tup, sa_c, sa_n, toKey, uB, uI, uD, uI1, uI2, ty_s, ty_l, List.map, List.length, List.replicate, Nat.reduceSub, Nat.reduceAdd, Nat.reduceLeDiff, Nat.zero_add, List.cons_append, List.nil_append, List.append_nil, List.getElem?_cons_zero, List.getElem?_cons_succ, Option.join_some, List.set_cons_zero, List.set_cons_succ, decide_eq_true_eq, Bool.not_eq_true', Bool.not_true, Bool.not_false, if_true, if_false, Bool.false_eq_true, eq_self, true_and, and_true, isND_n, notND_n, isi_int, isi_bool, isi_str, isi_tuple, isi_list, isi_dict, dInt, dBl, dStr, dTup, dLst, dDct, wipeE, List.set, subD, ltD, gtD, leD, geD, max2D, min2D, eqD_ii, neD_ii, eqD_ss, neD_ss, eqD_nil, neD_nil]
    refine wp_takeN hb2 (by omega) (by decide) (by decide) fun first M3 d21 hb3 f3 => ?_
    simp (config := {dsimp := false}) only [↓ws_nil, ↓ws_cons, ↓ws_asg, ↓ws_setIx, ↓ws_ret, ↓ws_retN, ↓ws_if, ↓ws_drop, ↓ws_brk, ↓ws_cnt, ↓ws_for, ↓wp_tOf, ↓wp_not, ↓wp_and, ↓wp_or, ↓wp_vand, ↓wp_vor, ↓wp_eB, ↓wp_eIf, ↓wp_neg, ↓wp_chain, ↓wp_e2, ↓wp_var, ↓wp_c, ↓wp_addI, ↓wp_addS, ↓wp_addL, ↓wp_addT, ↓ws_raise1, ↓ws_raise0, ↓ws_par, ↓ws_par3, uPar3_ok, ↓wp_kin, ↓wp_kix, wo_ks, ↓wp_get1, ↓wp_get2, ↓wp_dget, ↓ws_setKey, uKeyD, keyD, ↓wp_fnK, ↓ws_try, ↓ws_hdN, ↓ws_hdC, ↓ws_suiteN, ↓ws_suiteS, ↓wp_fld, xE, gP_nil, gP_cons, Option.toList, ↓wp_lift2v, ↓wp_aNil, ↓wp_aCons, ↓wp_newF, ↓wp_newT, ↓wp_lst, ↓wp_tup, ↓wp_call, ↓wp_pf1, ↓wp_pf2, ↓wp_pfL, ↓wp_isi, ↓wp_fn, ↓wp_bm, ↓wp_sl, ↓wp_pNone, ↓wp_pSome, ↓wp_slS, ↓wp_slL, ↓wp_disp, ↓wp_newDF, ↓wp_newDT, rf_l, rf_d, ↓wp_prNil, ↓wp_prCons, ↓wp_dnew, ↓wp_iVal, ↓wp_rng1, ↓wp_rng2, ↓wp_lc, ↓wp_ok, ↓wp_exc, ↓wp_bad, ↓wp_join, itD, ↓wp_bYes, ↓rQ_dat, ↓rQ_cell, ↓wo_some, ↓wo_none, ↓wo_ite, ↓wo_map, view_dat, td_nil, td_cons, Option.map_some, bind_name, bind_tup, sa_c, sa_n, toKey, uB, uI, uD, uI1, uI2, ty_s, ty_l, List.map, List.length, List.replicate, Nat.reduceSub, Nat.reduceAdd, Nat.reduceLeDiff, Nat.zero_add, List.cons_append, List.nil_append, List.append_nil, List.getElem?_cons_zero, List.getElem?_cons_succ, Option.join_some, List.set_cons_zero, List.set_cons_succ, decide_eq_true_eq, Bool.not_eq_true', Bool.not_true, Bool.not_false, if_true, if_false, Bool.false_eq_true, eq_self, true_and, and_true, isND_n, notND_n, isi_int, isi_bool, isi_str, isi_tuple, isi_list, isi_dict, dInt, dBl, dStr, dTup, dLst, dDct, wipeE, List.set, subD, ltD, gtD, leD, geD, max2D, min2D, eqD_ii, neD_ii, eqD_ss, neD_ss, eqD_nil, neD_nil]
    refine wp_take hb3 (by omega) (by decide) (by decide) fun d3 M4 d30 d31 hb4 f4 => ?_
    simp (config := {dsimp := false}) only [↓ws_nil, ↓ws_cons, ↓ws_asg, ↓ws_setIx, ↓ws_ret, ↓ws_retN, ↓ws_if, ↓ws_drop, ↓ws_brk, ↓ws_cnt, ↓ws_for, ↓wp_tOf, ↓wp_not, ↓wp_and, ↓wp_or, ↓wp_vand, ↓wp_vor, ↓wp_eB, ↓wp_eIf, ↓wp_neg, ↓wp_chain, ↓wp_e2, ↓wp_var, ↓wp_c, ↓wp_addI, ↓wp_addS, ↓wp_addL, ↓wp_addT, ↓ws_raise1, ↓ws_raise0, ↓ws_par, ↓ws_par3, uPar3_ok, ↓wp_kin, ↓wp_kix, wo_ks, ↓wp_get1, ↓wp_get2, ↓wp_dget, ↓ws_setKey, uKeyD, keyD, ↓wp_fnK, ↓ws_try, ↓ws_hdN, ↓ws_hdC, ↓ws_suiteN, ↓ws_suiteS, ↓wp_fld, xE, gP_nil, gP_cons, Option.toList, ↓wp_lift2v, ↓wp_aNil, ↓wp_aCons, ↓wp_newF, ↓wp_newT, ↓wp_lst, ↓wp_tup, ↓wp_call, ↓wp_pf1, ↓wp_pf2, ↓wp_pfL, ↓wp_isi, ↓wp_fn, ↓wp_bm, ↓wp_sl, ↓wp_pNone, ↓wp_pSome, ↓wp_slS, ↓wp_slL, ↓wp_disp, ↓wp_newDF, ↓wp_newDT, rf_l, rf_d, ↓wp_prNil, ↓wp_prCons, ↓wp_dnew, ↓wp_iVal, ↓wp_rng1, ↓wp_rng2, ↓wp_lc, ↓wp_ok, ↓wp_exc, ↓wp_bad, ↓wp_join, itD, ↓wp_bYes, ↓rQ_dat, ↓rQ_cell, ↓wo_some, ↓wo_none, ↓wo_ite, ↓wo_map, view_dat, td_nil, td_cons, Option.map_some, bind_name, bind_tup, sa_c, sa_n, toKey, uB, uI, uD, uI1, uI2, ty_s, ty_l, List.map, List.length, List.replicate, Nat.reduceSub, Nat.reduceAdd, Nat.reduceLeDiff, Nat.zero_add, List.cons_append, List.nil_append, List.append_nil, List.getElem?_cons_zero, List.getElem?_cons_succ, Option.join_some, List.set_cons_zero, List.set_cons_succ, decide_eq_true_eq, Bool.not_eq_true', Bool.not_true, Bool.not_false, if_true, if_false, Bool.false_eq_true, eq_self, true_and, and_true, isND_n, notND_n, isi_int, isi_bool, isi_str, isi_tuple, isi_list, isi_dict, dInt, dBl, dStr, dTup, dLst, dDct, wipeE, List.set, subD, ltD, gtD, leD, geD, max2D, min2D, eqD_ii, neD_ii, eqD_ss, neD_ss, eqD_nil, neD_nil]
    refine ix_l d30 (by simpa using d31) fun e he => ?_
    obtain ⟨step, rfl, ht⟩ : ∃ step : Nat, e = .int step ∧ step ∈ steps6 := by
      have : e ∈ steps6.map fun (i : Nat) => D.int (i : Int) := he
      obtain ⟨s, hs, rfl⟩ := List.mem_map.mp this
      exact ⟨s, rfl, hs⟩
    simp (config := {dsimp := false}) only [↓ws_nil, ↓ws_cons, ↓ws_asg, ↓ws_setIx, ↓ws_ret, ↓ws_retN, ↓ws_if, ↓ws_drop, ↓ws_brk, ↓ws_cnt, ↓ws_for, ↓wp_tOf, ↓wp_not, ↓wp_and, ↓wp_or, ↓wp_vand, ↓wp_vor, ↓wp_eB, ↓wp_eIf, ↓wp_neg, ↓wp_chain, ↓wp_e2, ↓wp_var, ↓wp_c, ↓wp_addI, ↓wp_addS, ↓wp_addL, ↓wp_addT, ↓ws_raise1, ↓ws_raise0, ↓ws_par, ↓ws_par3, uPar3_ok, ↓wp_kin, ↓wp_kix, wo_ks, ↓wp_get1, ↓wp_get2, ↓wp_dget, ↓ws_setKey, uKeyD, keyD, ↓wp_fnK, ↓ws_try, ↓ws_hdN, ↓ws_hdC, ↓ws_suiteN, ↓ws_suiteS, ↓wp_fld, xE, gP_nil, gP_cons, Option.toList, ↓wp_lift2v, ↓wp_aNil, ↓wp_aCons, ↓wp_newF, ↓wp_newT, ↓wp_lst, ↓wp_tup, ↓wp_call, ↓wp_pf1, ↓wp_pf2, ↓wp_pfL, ↓wp_isi, ↓wp_fn, ↓wp_bm, ↓wp_sl, ↓wp_pNone, ↓wp_pSome, ↓wp_slS, ↓wp_slL, ↓wp_disp, ↓wp_newDF, ↓wp_newDT, rf_l, rf_d, ↓wp_prNil, ↓wp_prCons, ↓wp_dnew, ↓wp_iVal, ↓wp_rng1, ↓wp_rng2, ↓wp_lc, ↓wp_ok, ↓wp_exc, ↓wp_bad, ↓wp_join, itD, ↓wp_bYes, ↓rQ_dat, ↓rQ_cell, ↓wo_some, ↓wo_none, ↓wo_ite, ↓wo_map, view_dat, td_nil, td_cons, Option.map_some, bind_name, bind_tup, sa_c, sa_n, toKey, uB, uI, uD, uI1, uI2, ty_s, ty_l, List.map, List.length, List.replicate, Nat.reduceSub, Nat.reduceAdd, Nat.reduceLeDiff, Nat.zero_add, List.cons_append, List.nil_append, List.append_nil, List.getElem?_cons_zero, List.getElem?_cons_succ, Option.join_some, List.set_cons_zero, List.set_cons_succ, decide_eq_true_eq, Bool.not_eq_true', Bool.not_true, Bool.not_false, if_true, if_false, Bool.false_eq_true, eq_self, true_and, and_true, isND_n, notND_n, isi_int, isi_bool, isi_str, isi_tuple, isi_list, isi_dict, dInt, dBl, dStr, dTup, dLst, dDct, wipeE, List.set, subD, ltD, gtD, leD, geD, max2D, min2D, eqD_ii, neD_ii, eqD_ss, neD_ss, eqD_nil, neD_nil]
    refine wp_takeN (m := 3) hb4 (by omega) (by decide) (by decide) fun way M5 d41 hb5 f5 => ?_
    simp (config := {dsimp := false}) only [↓ws_nil, ↓ws_cons, ↓ws_asg, ↓ws_setIx, ↓ws_ret, ↓ws_retN, ↓ws_if, ↓ws_drop, ↓ws_brk, ↓ws_cnt, ↓ws_for, ↓wp_tOf, ↓wp_not, ↓wp_and, ↓wp_or, ↓wp_vand, ↓wp_vor, ↓wp_eB, ↓wp_eIf, ↓wp_neg, ↓wp_chain, ↓wp_e2, ↓wp_var, ↓wp_c, ↓wp_addI, ↓wp_addS, ↓wp_addL, ↓wp_addT, ↓ws_raise1, ↓ws_raise0, ↓ws_par, ↓ws_par3, uPar3_ok, ↓wp_kin, ↓wp_kix, wo_ks, ↓wp_get1, ↓wp_get2, ↓wp_dget, ↓ws_setKey, uKeyD, keyD, ↓wp_fnK, ↓ws_try, ↓ws_hdN, ↓ws_hdC, ↓ws_suiteN, ↓ws_suiteS, ↓wp_fld, xE, gP_nil, gP_cons, Option.toList, ↓wp_lift2v, ↓wp_aNil, ↓wp_aCons, ↓wp_newF, ↓wp_newT, ↓wp_lst, ↓wp_tup, ↓wp_call, ↓wp_pf1, ↓wp_pf2, ↓wp_pfL, ↓wp_isi, ↓wp_fn, ↓wp_bm, ↓wp_sl, ↓wp_pNone, ↓wp_pSome, ↓wp_slS, ↓wp_slL, ↓wp_disp, ↓wp_newDF, ↓wp_newDT, rf_l, rf_d, ↓wp_prNil, ↓wp_prCons, ↓wp_dnew, ↓wp_iVal, ↓wp_rng1, ↓wp_rng2, ↓wp_lc, ↓wp_ok, ↓wp_exc, ↓wp_bad, ↓wp_join, itD, ↓wp_bYes, ↓rQ_dat, ↓rQ_cell, ↓wo_some, ↓wo_none, ↓wo_ite, ↓wo_map, view_dat, td_nil, td_cons, Option.map_some, bind_name, bind_tup, sa_c, sa_n, toKey, uB, uI, uD, uI1, uI2, ty_s, ty_l, List.map, List.length, List.replicate, Nat.reduceSub, Nat.reduceAdd, Nat.reduceLeDiff, Nat.zero_add, List.cons_append, List.nil_append, List.append_nil, List.getElem?_cons_zero, List.getElem?_cons_succ, Option.join_some, List.set_cons_zero, List.set_cons_succ, decide_eq_true_eq, Bool.not_eq_true', Bool.not_true, Bool.not_false, if_true, if_false, Bool.false_eq_true, eq_self, true_and, and_true, isND_n, notND_n, isi_int, isi_bool, isi_str, isi_tuple, isi_list, isi_dict, dInt, dBl, dStr, dTup, dLst, dDct, wipeE, List.set, subD, ltD, gtD, leD, geD, max2D, min2D, eqD_ii, neD_ii, eqD_ss, neD_ss, eqD_nil, neD_nil]
    have fr := (((f1.trans f2).trans f3).trans f4).trans f5
    have ml : M5.length = M.length := fr.len
    rw [ml]
    have ct : ((many : Int)).toNat = many := Int.toNat_natCast many
    rw [ct, ups_nat]
    refine ⟨⟨by omega, by omega⟩, ?_⟩
    refine ws_forM (fun (i : Nat) => D.int (i : Int)) (fun seen ρ M' => M' = M5 ++ [.lst ((namesF stem first step way seen.length).map D.str)] ∧ ∃ a b c d, ρ = [some (.cell k), some (.dat (.int many)), some (.dat (.str letters)), some (.dat (.str stem)), some (.cell M.length), a, b, some (.dat (.int first)), some (.dat (.int step)), some (.dat (.int way)), c, d]) _ [] _ _ ⟨rfl, _, _, _, _, rfl⟩ (fun pre i post ρ M6 he ⟨hM, a, b, c, d, hr⟩ => ?_) fun ρ M6 ⟨hM, a, b, c, d, hr⟩ => ?_
    · subst hM hr
      have hlt : pre.length < many := by
        have := congrArg List.length he
        simp at this; omega
      have hi : i = pre.length := by
        rw [List.nil_append] at he
        have h1 : (List.range many)[pre.length]? = some i := by rw [he]; simp
        rw [List.getElem?_range hlt] at h1
        exact (Option.some.inj h1).symm
      subst hi
      generalize hkk : pre.length = kk at hlt
      have sb : step ≤ 11 := by
        simp only [steps6, List.mem_cons, List.not_mem_nil, or_false] at ht
        omega
      have m1 : mulSD (.int (step : Int)) (.int (kk : Int)) = some (.int ((step : Int) * (kk : Int))) := mul_i (.inl ⟨by omega, by omega⟩)
      have m2 : modD (.int ((first : Int) + (step : Int) * (kk : Int))) (.int 26) = some (.int (((first + step * kk) % 26 : Nat) : Int)) := by
        rw [mod_i (by decide)]
        congr 2
      have m3 := abc_at (i := (first + step * kk) % 26) (Nat.mod_lt _ (by decide))
      have m4 : [97 + (first + step * kk) % 26] = [chr26 first step kk] := rfl
      rw [m4] at m3
      have sl : stem.length ≤ 7 := by
        simp only [stems, List.mem_cons, List.not_mem_nil, or_false] at hs
        rcases hs with rfl | rfl | rfl | rfl | rfl | rfl <;> decide
      have l7 : (stem.length + [chr26 first step kk].length ≤ 16777216) = True := eq_true (by simp; omega)
      have l8 : ([chr26 first step kk].length + stem.length ≤ 16777216) = True := eq_true (by simp; omega)
      have gt0 : ∀ w : Nat, (if (kk : Int) > 0 then (w : Int) else 0) = (((if kk > 0 then w else 0) : Nat) : Int) := fun w => by split <;> split <;> omega
      have hw : (if kk > 0 then way else 0) < 3 := by split <;> omega
      have pick : ∀ {Q : D → Prop} {v : Nat}, v < 3 → WO (ixD (.lst [.str (stem ++ [chr26 first step kk]), .str (chr26 first step kk :: stem), .str [chr26 first step kk]]) (.int (v : Int))) Q = Q (.str (nameW stem v (chr26 first step kk))) := fun {Q v} hw => by
        have : v = 0 ∨ v = 1 ∨ v = 2 := by omega
        rcases this with rfl | rfl | rfl <;> rfl
      have pick0 : ∀ {Q : D → Prop}, WO (ixD (.lst [.str (stem ++ [chr26 first step kk]), .str (chr26 first step kk :: stem), .str [chr26 first step kk]]) (.int 0)) Q = Q (.str (nameW stem 0 (chr26 first step kk))) := fun {Q} => pick (Q := Q) (v := 0) (by decide)
      have hway : way < 3 := by omega
      have e9 : (namesF stem first step way kk).map D.str ++ [.str (nameF stem first step way kk)] = (namesF stem first step way (kk + 1)).map D.str := by
        unfold namesF
        rw [List.range_succ, List.map_append, List.map_append]; rfl
      have nl : ((namesF stem first step way kk).map D.str).length < 16777216 := by unfold namesF; rw [List.length_map, List.length_map, List.length_range]; omega
      have tyc := ty_cl (M := M5 ++ [O.lst ((namesF stem first step way kk).map D.str)]) (k := M.length) (ds := (namesF stem first step way kk).map D.str) (by rw [← ml]; exact at_app)
      have ap := fun {d Q X} => wp_append (M := M5 ++ [O.lst ((namesF stem first step way kk).map D.str)]) (k := M.length) (ds := (namesF stem first step way kk).map D.str) (d := d) (Q := Q) (X := X) (by rw [← ml]; exact at_app) nl
      have st : ∀ o', (M5 ++ [O.lst ((namesF stem first step way kk).map D.str)]).set M.length o' = M5 ++ [o'] := fun o' => by rw [← ml]; exact set_app
      have nf : nameF stem first step way kk = fixW (nameW stem (if kk > 0 then way else 0) (chr26 first step kk)) := rfl
      have plen : (pre ++ [kk]).length = kk + 1 := by rw [List.length_append, hkk]; rfl
      simp (config := {dsimp := false}) only [↓ws_nil, ↓ws_cons, ↓ws_asg, ↓ws_setIx, ↓ws_ret, ↓ws_retN, ↓ws_if, ↓ws_drop, ↓ws_brk, ↓ws_cnt, ↓ws_for, ↓wp_tOf, ↓wp_not, ↓wp_and, ↓wp_or, ↓wp_vand, ↓wp_vor, ↓wp_eB, ↓wp_eIf, ↓wp_neg, ↓wp_chain, ↓wp_e2, ↓wp_var, ↓wp_c, ↓wp_addI, ↓wp_addS, ↓wp_addL, ↓wp_addT, ↓ws_raise1, ↓ws_raise0, ↓ws_par, ↓ws_par3, uPar3_ok, ↓wp_kin, ↓wp_kix, wo_ks, ↓wp_get1, ↓wp_get2, ↓wp_dget, ↓ws_setKey, uKeyD, keyD, ↓wp_fnK, ↓ws_try, ↓ws_hdN, ↓ws_hdC, ↓ws_suiteN, ↓ws_suiteS, ↓wp_fld, xE, gP_nil, gP_cons, Option.toList, ↓wp_lift2v, ↓wp_aNil, ↓wp_aCons, ↓wp_newF, ↓wp_newT, ↓wp_lst, ↓wp_tup, ↓wp_call, ↓wp_pf1, ↓wp_pf2, ↓wp_pfL, ↓wp_isi, ↓wp_fn, ↓wp_bm, ↓wp_sl, ↓wp_pNone, ↓wp_pSome, ↓wp_slS, ↓wp_slL, ↓wp_disp, ↓wp_newDF, ↓wp_newDT, rf_l, rf_d, ↓wp_prNil, ↓wp_prCons, ↓wp_dnew, ↓wp_iVal, ↓wp_rng1, ↓wp_rng2, ↓wp_lc, ↓wp_ok, ↓wp_exc, ↓wp_bad, ↓wp_join, itD, ↓wp_bYes, ↓rQ_dat, ↓rQ_cell, ↓wo_some, ↓wo_none, ↓wo_ite, ↓wo_map, view_dat, td_nil, td_cons, Option.map_some, bind_name, bind_tup, sa_c, sa_n, toKey, uB, uI, uD, uI1, uI2, ty_s, ty_l, List.map, List.length, List.replicate, Nat.reduceSub, Nat.reduceAdd, Nat.reduceLeDiff, Nat.zero_add, List.cons_append, List.nil_append, List.append_nil, List.getElem?_cons_zero, List.getElem?_cons_succ, Option.join_some, List.set_cons_zero, List.set_cons_succ, decide_eq_true_eq, Bool.not_eq_true', Bool.not_true, Bool.not_false, if_true, if_false, Bool.false_eq_true, eq_self, true_and, and_true, isND_n, notND_n, isi_int, isi_bool, isi_str, isi_tuple, isi_list, isi_dict, dInt, dBl, dStr, dTup, dLst, dDct, wipeE, List.set, subD, ltD, gtD, leD, geD, max2D, min2D, eqD_ii, neD_ii, eqD_ss, neD_ss, eqD_nil, neD_nil, m1, m2, m3, l7, l8]
      refine ⟨by omega, by omega, ?_⟩
      by_cases hk0 : 0 < (kk : Int)
      · rw [if_pos hk0, pick hway]
        have hk1 : kk > 0 := by omega
        by_cases ht : (nameW stem (way) (chr26 first step kk) == [116, 97, 98, 108, 101]) = true
        · simp (config := {dsimp := false}) only [↓ws_nil, ↓ws_cons, ↓ws_asg, ↓ws_setIx, ↓ws_ret, ↓ws_retN, ↓ws_if, ↓ws_drop, ↓ws_brk, ↓ws_cnt, ↓ws_for, ↓wp_tOf, ↓wp_not, ↓wp_and, ↓wp_or, ↓wp_vand, ↓wp_vor, ↓wp_eB, ↓wp_eIf, ↓wp_neg, ↓wp_chain, ↓wp_e2, ↓wp_var, ↓wp_c, ↓wp_addI, ↓wp_addS, ↓wp_addL, ↓wp_addT, ↓ws_raise1, ↓ws_raise0, ↓ws_par, ↓ws_par3, uPar3_ok, ↓wp_kin, ↓wp_kix, wo_ks, ↓wp_get1, ↓wp_get2, ↓wp_dget, ↓ws_setKey, uKeyD, keyD, ↓wp_fnK, ↓ws_try, ↓ws_hdN, ↓ws_hdC, ↓ws_suiteN, ↓ws_suiteS, ↓wp_fld, xE, gP_nil, gP_cons, Option.toList, ↓wp_lift2v, ↓wp_aNil, ↓wp_aCons, ↓wp_newF, ↓wp_newT, ↓wp_lst, ↓wp_tup, ↓wp_call, ↓wp_pf1, ↓wp_pf2, ↓wp_pfL, ↓wp_isi, ↓wp_fn, ↓wp_bm, ↓wp_sl, ↓wp_pNone, ↓wp_pSome, ↓wp_slS, ↓wp_slL, ↓wp_disp, ↓wp_newDF, ↓wp_newDT, rf_l, rf_d, ↓wp_prNil, ↓wp_prCons, ↓wp_dnew, ↓wp_iVal, ↓wp_rng1, ↓wp_rng2, ↓wp_lc, ↓wp_ok, ↓wp_exc, ↓wp_bad, ↓wp_join, itD, ↓wp_bYes, ↓rQ_dat, ↓rQ_cell, ↓wo_some, ↓wo_none, ↓wo_ite, ↓wo_map, view_dat, td_nil, td_cons, Option.map_some, bind_name, bind_tup, sa_c, sa_n, toKey, uB, uI, uD, uI1, uI2, ty_s, ty_l, List.map, List.length, List.replicate, Nat.reduceSub, Nat.reduceAdd, Nat.reduceLeDiff, Nat.zero_add, List.cons_append, List.nil_append, List.append_nil, List.getElem?_cons_zero, List.getElem?_cons_succ, Option.join_some, List.set_cons_zero, List.set_cons_succ, decide_eq_true_eq, Bool.not_eq_true', Bool.not_true, Bool.not_false, if_true, if_false, Bool.false_eq_true, eq_self, true_and, and_true, isND_n, notND_n, isi_int, isi_bool, isi_str, isi_tuple, isi_list, isi_dict, dInt, dBl, dStr, dTup, dLst, dDct, wipeE, List.set, subD, ltD, gtD, leD, geD, max2D, min2D, eqD_ii, neD_ii, eqD_ss, neD_ss, eqD_nil, neD_nil, tyc, ht, ↓ap, st]
          refine ⟨?_, _, _, _, _, rfl⟩
          rw [plen, ← e9, nf]; rw [if_pos hk1]; unfold fixW cTable; rw [if_pos ht]; rfl
        · simp (config := {dsimp := false}) only [↓ws_nil, ↓ws_cons, ↓ws_asg, ↓ws_setIx, ↓ws_ret, ↓ws_retN, ↓ws_if, ↓ws_drop, ↓ws_brk, ↓ws_cnt, ↓ws_for, ↓wp_tOf, ↓wp_not, ↓wp_and, ↓wp_or, ↓wp_vand, ↓wp_vor, ↓wp_eB, ↓wp_eIf, ↓wp_neg, ↓wp_chain, ↓wp_e2, ↓wp_var, ↓wp_c, ↓wp_addI, ↓wp_addS, ↓wp_addL, ↓wp_addT, ↓ws_raise1, ↓ws_raise0, ↓ws_par, ↓ws_par3, uPar3_ok, ↓wp_kin, ↓wp_kix, wo_ks, ↓wp_get1, ↓wp_get2, ↓wp_dget, ↓ws_setKey, uKeyD, keyD, ↓wp_fnK, ↓ws_try, ↓ws_hdN, ↓ws_hdC, ↓ws_suiteN, ↓ws_suiteS, ↓wp_fld, xE, gP_nil, gP_cons, Option.toList, ↓wp_lift2v, ↓wp_aNil, ↓wp_aCons, ↓wp_newF, ↓wp_newT, ↓wp_lst, ↓wp_tup, ↓wp_call, ↓wp_pf1, ↓wp_pf2, ↓wp_pfL, ↓wp_isi, ↓wp_fn, ↓wp_bm, ↓wp_sl, ↓wp_pNone, ↓wp_pSome, ↓wp_slS, ↓wp_slL, ↓wp_disp, ↓wp_newDF, ↓wp_newDT, rf_l, rf_d, ↓wp_prNil, ↓wp_prCons, ↓wp_dnew, ↓wp_iVal, ↓wp_rng1, ↓wp_rng2, ↓wp_lc, ↓wp_ok, ↓wp_exc, ↓wp_bad, ↓wp_join, itD, ↓wp_bYes, ↓rQ_dat, ↓rQ_cell, ↓wo_some, ↓wo_none, ↓wo_ite, ↓wo_map, view_dat, td_nil, td_cons, Option.map_some, bind_name, bind_tup, sa_c, sa_n, toKey, uB, uI, uD, uI1, uI2, ty_s, ty_l, List.map, List.length, List.replicate, Nat.reduceSub, Nat.reduceAdd, Nat.reduceLeDiff, Nat.zero_add, List.cons_append, List.nil_append, List.append_nil, List.getElem?_cons_zero, List.getElem?_cons_succ, Option.join_some, List.set_cons_zero, List.set_cons_succ, decide_eq_true_eq, Bool.not_eq_true', Bool.not_true, Bool.not_false, if_true, if_false, Bool.false_eq_true, eq_self, true_and, and_true, isND_n, notND_n, isi_int, isi_bool, isi_str, isi_tuple, isi_list, isi_dict, dInt, dBl, dStr, dTup, dLst, dDct, wipeE, List.set, subD, ltD, gtD, leD, geD, max2D, min2D, eqD_ii, neD_ii, eqD_ss, neD_ss, eqD_nil, neD_nil, tyc, ht, ↓ap, st]
          refine ⟨?_, _, _, _, _, rfl⟩
          rw [plen, ← e9, nf]; rw [if_pos hk1]; unfold fixW cTable; rw [if_neg ht]
      · rw [if_neg hk0, pick0]
        have hk1 : ¬ kk > 0 := by omega
        by_cases ht : (nameW stem (0) (chr26 first step kk) == [116, 97, 98, 108, 101]) = true
        · simp (config := {dsimp := false}) only [↓ws_nil, ↓ws_cons, ↓ws_asg, ↓ws_setIx, ↓ws_ret, ↓ws_retN, ↓ws_if, ↓ws_drop, ↓ws_brk, ↓ws_cnt, ↓ws_for, ↓wp_tOf, ↓wp_not, ↓wp_and, ↓wp_or, ↓wp_vand, ↓wp_vor, ↓wp_eB, ↓wp_eIf, ↓wp_neg, ↓wp_chain, ↓wp_e2, ↓wp_var, ↓wp_c, ↓wp_addI, ↓wp_addS, ↓wp_addL, ↓wp_addT, ↓ws_raise1, ↓ws_raise0, ↓ws_par, ↓ws_par3, uPar3_ok, ↓wp_kin, ↓wp_kix, wo_ks, ↓wp_get1, ↓wp_get2, ↓wp_dget, ↓ws_setKey, uKeyD, keyD, ↓wp_fnK, ↓ws_try, ↓ws_hdN, ↓ws_hdC, ↓ws_suiteN, ↓ws_suiteS, ↓wp_fld, xE, gP_nil, gP_cons, Option.toList, ↓wp_lift2v, ↓wp_aNil, ↓wp_aCons, ↓wp_newF, ↓wp_newT, ↓wp_lst, ↓wp_tup, ↓wp_call, ↓wp_pf1, ↓wp_pf2, ↓wp_pfL, ↓wp_isi, ↓wp_fn, ↓wp_bm, ↓wp_sl, ↓wp_pNone, ↓wp_pSome, ↓wp_slS, ↓wp_slL, ↓wp_disp, ↓wp_newDF, ↓wp_newDT, rf_l, rf_d, ↓wp_prNil, ↓wp_prCons, ↓wp_dnew, ↓wp_iVal, ↓wp_rng1, ↓wp_rng2, ↓wp_lc, ↓wp_ok, ↓wp_exc, ↓wp_bad, ↓wp_join, itD, ↓wp_bYes, ↓rQ_dat, ↓rQ_cell, ↓wo_some, ↓wo_none, ↓wo_ite, ↓wo_map, view_dat, td_nil, td_cons, Option.map_some, bind_name, bind_tup, sa_c, sa_n, toKey, uB, uI, uD, uI1, uI2, ty_s, ty_l, List.map, List.length, List.replicate, Nat.reduceSub, Nat.reduceAdd, Nat.reduceLeDiff, Nat.zero_add, List.cons_append, List.nil_append, List.append_nil, List.getElem?_cons_zero, List.getElem?_cons_succ, Option.join_some, List.set_cons_zero, List.set_cons_succ, decide_eq_true_eq, Bool.not_eq_true', Bool.not_true, Bool.not_false, if_true, if_false, Bool.false_eq_true, eq_self, true_and, and_true, isND_n, notND_n, isi_int, isi_bool, isi_str, isi_tuple, isi_list, isi_dict, dInt, dBl, dStr, dTup, dLst, dDct, wipeE, List.set, subD, ltD, gtD, leD, geD, max2D, min2D, eqD_ii, neD_ii, eqD_ss, neD_ss, eqD_nil, neD_nil, tyc, ht, ↓ap, st]
          refine ⟨?_, _, _, _, _, rfl⟩
          rw [plen, ← e9, nf]; rw [if_neg hk1]; unfold fixW cTable; rw [if_pos ht]; rfl
        · simp (config := {dsimp := false}) only [↓ws_nil, ↓ws_cons, ↓ws_asg, ↓ws_setIx, ↓ws_ret, ↓ws_retN, ↓ws_if, ↓ws_drop, ↓ws_brk, ↓ws_cnt, ↓ws_for, ↓wp_tOf, ↓wp_not, ↓wp_and, ↓wp_or, ↓wp_vand, ↓wp_vor, ↓wp_eB, ↓wp_eIf, ↓wp_neg, ↓wp_chain, ↓wp_e2, ↓wp_var, ↓wp_c, ↓wp_addI, ↓wp_addS, ↓wp_addL, ↓wp_addT, ↓ws_raise1, ↓ws_raise0, ↓ws_par, ↓ws_par3, uPar3_ok, ↓wp_kin, ↓wp_kix, wo_ks, ↓wp_get1, ↓wp_get2, ↓wp_dget, ↓ws_setKey, uKeyD, keyD, ↓wp_fnK, ↓ws_try, ↓ws_hdN, ↓ws_hdC, ↓ws_suiteN, ↓ws_suiteS, ↓wp_fld, xE, gP_nil, gP_cons, Option.toList, ↓wp_lift2v, ↓wp_aNil, ↓wp_aCons, ↓wp_newF, ↓wp_newT, ↓wp_lst, ↓wp_tup, ↓wp_call, ↓wp_pf1, ↓wp_pf2, ↓wp_pfL, ↓wp_isi, ↓wp_fn, ↓wp_bm, ↓wp_sl, ↓wp_pNone, ↓wp_pSome, ↓wp_slS, ↓wp_slL, ↓wp_disp, ↓wp_newDF, ↓wp_newDT, rf_l, rf_d, ↓wp_prNil, ↓wp_prCons, ↓wp_dnew, ↓wp_iVal, ↓wp_rng1, ↓wp_rng2, ↓wp_lc, ↓wp_ok, ↓wp_exc, ↓wp_bad, ↓wp_join, itD, ↓wp_bYes, ↓rQ_dat, ↓rQ_cell, ↓wo_some, ↓wo_none, ↓wo_ite, ↓wo_map, view_dat, td_nil, td_cons, Option.map_some, bind_name, bind_tup, sa_c, sa_n, toKey, uB, uI, uD, uI1, uI2, ty_s, ty_l, List.map, List.length, List.replicate, Nat.reduceSub, Nat.reduceAdd, Nat.reduceLeDiff, Nat.zero_add, List.cons_append, List.nil_append, List.append_nil, List.getElem?_cons_zero, List.getElem?_cons_succ, Option.join_some, List.set_cons_zero, List.set_cons_succ, decide_eq_true_eq, Bool.not_eq_true', Bool.not_true, Bool.not_false, if_true, if_false, Bool.false_eq_true, eq_self, true_and, and_true, isND_n, notND_n, isi_int, isi_bool, isi_str, isi_tuple, isi_list, isi_dict, dInt, dBl, dStr, dTup, dLst, dDct, wipeE, List.set, subD, ltD, gtD, leD, geD, max2D, min2D, eqD_ii, neD_ii, eqD_ss, neD_ss, eqD_nil, neD_nil, tyc, ht, ↓ap, st]
          refine ⟨?_, _, _, _, _, rfl⟩
          rw [plen, ← e9, nf]; rw [if_neg hk1]; unfold fixW cTable; rw [if_neg ht]
    · subst hM hr
      rw [show (List.length ([] ++ List.range many)) = many by simp]
      simp (config := {dsimp := false}) only [↓ws_nil, ↓ws_cons, ↓ws_asg, ↓ws_setIx, ↓ws_ret, ↓ws_retN, ↓ws_if, ↓ws_drop, ↓ws_brk, ↓ws_cnt, ↓ws_for, ↓wp_tOf, ↓wp_not, ↓wp_and, ↓wp_or, ↓wp_vand, ↓wp_vor, ↓wp_eB, ↓wp_eIf, ↓wp_neg, ↓wp_chain, ↓wp_e2, ↓wp_var, ↓wp_c, ↓wp_addI, ↓wp_addS, ↓wp_addL, ↓wp_addT, ↓ws_raise1, ↓ws_raise0, ↓ws_par, ↓ws_par3, uPar3_ok, ↓wp_kin, ↓wp_kix, wo_ks, ↓wp_get1, ↓wp_get2, ↓wp_dget, ↓ws_setKey, uKeyD, keyD, ↓wp_fnK, ↓ws_try, ↓ws_hdN, ↓ws_hdC, ↓ws_suiteN, ↓ws_suiteS, ↓wp_fld, xE, gP_nil, gP_cons, Option.toList, ↓wp_lift2v, ↓wp_aNil, ↓wp_aCons, ↓wp_newF, ↓wp_newT, ↓wp_lst, ↓wp_tup, ↓wp_call, ↓wp_pf1, ↓wp_pf2, ↓wp_pfL, ↓wp_isi, ↓wp_fn, ↓wp_bm, ↓wp_sl, ↓wp_pNone, ↓wp_pSome, ↓wp_slS, ↓wp_slL, ↓wp_disp, ↓wp_newDF, ↓wp_newDT, rf_l, rf_d, ↓wp_prNil, ↓wp_prCons, ↓wp_dnew, ↓wp_iVal, ↓wp_rng1, ↓wp_rng2, ↓wp_lc, ↓wp_ok, ↓wp_exc, ↓wp_bad, ↓wp_join, itD, ↓wp_bYes, ↓rQ_dat, ↓rQ_cell, ↓wo_some, ↓wo_none, ↓wo_ite, ↓wo_map, view_dat, td_nil, td_cons, Option.map_some, bind_name, bind_tup, sa_c, sa_n, toKey, uB, uI, uD, uI1, uI2, ty_s, ty_l, List.map, List.length, List.replicate, Nat.reduceSub, Nat.reduceAdd, Nat.reduceLeDiff, Nat.zero_add, List.cons_append, List.nil_append, List.append_nil, List.getElem?_cons_zero, List.getElem?_cons_succ, Option.join_some, List.set_cons_zero, List.set_cons_succ, decide_eq_true_eq, Bool.not_eq_true', Bool.not_true, Bool.not_false, if_true, if_false, Bool.false_eq_true, eq_self, true_and, and_true, isND_n, notND_n, isi_int, isi_bool, isi_str, isi_tuple, isi_list, isi_dict, dInt, dBl, dStr, dTup, dLst, dDct, wipeE, List.set, subD, ltD, gtD, leD, geD, max2D, min2D, eqD_ii, neD_ii, eqD_ss, neD_ss, eqD_nil, neD_nil]
      rw [if_neg (Nat.lt_irrefl _), ← ml, at_app, take_app]
      simp (config := {dsimp := false}) only [↓ws_nil, ↓ws_cons, ↓ws_asg, ↓ws_setIx, ↓ws_ret, ↓ws_retN, ↓ws_if, ↓ws_drop, ↓ws_brk, ↓ws_cnt, ↓ws_for, ↓wp_tOf, ↓wp_not, ↓wp_and, ↓wp_or, ↓wp_vand, ↓wp_vor, ↓wp_eB, ↓wp_eIf, ↓wp_neg, ↓wp_chain, ↓wp_e2, ↓wp_var, ↓wp_c, ↓wp_addI, ↓wp_addS, ↓wp_addL, ↓wp_addT, ↓ws_raise1, ↓ws_raise0, ↓ws_par, ↓ws_par3, uPar3_ok, ↓wp_kin, ↓wp_kix, wo_ks, ↓wp_get1, ↓wp_get2, ↓wp_dget, ↓ws_setKey, uKeyD, keyD, ↓wp_fnK, ↓ws_try, ↓ws_hdN, ↓ws_hdC, ↓ws_suiteN, ↓ws_suiteS, ↓wp_fld, xE, gP_nil, gP_cons, Option.toList, ↓wp_lift2v, ↓wp_aNil, ↓wp_aCons, ↓wp_newF, ↓wp_newT, ↓wp_lst, ↓wp_tup, ↓wp_call, ↓wp_pf1, ↓wp_pf2, ↓wp_pfL, ↓wp_isi, ↓wp_fn, ↓wp_bm, ↓wp_sl, ↓wp_pNone, ↓wp_pSome, ↓wp_slS, ↓wp_slL, ↓wp_disp, ↓wp_newDF, ↓wp_newDT, rf_l, rf_d, ↓wp_prNil, ↓wp_prCons, ↓wp_dnew, ↓wp_iVal, ↓wp_rng1, ↓wp_rng2, ↓wp_lc, ↓wp_ok, ↓wp_exc, ↓wp_bad, ↓wp_join, itD, ↓wp_bYes, ↓rQ_dat, ↓rQ_cell, ↓wo_some, ↓wo_none, ↓wo_ite, ↓wo_map, view_dat, td_nil, td_cons, Option.map_some, bind_name, bind_tup, sa_c, sa_n, toKey, uB, uI, uD, uI1, uI2, ty_s, ty_l, List.map, List.length, List.replicate, Nat.reduceSub, Nat.reduceAdd, Nat.reduceLeDiff, Nat.zero_add, List.cons_append, List.nil_append, List.append_nil, List.getElem?_cons_zero, List.getElem?_cons_succ, Option.join_some, List.set_cons_zero, List.set_cons_succ, decide_eq_true_eq, Bool.not_eq_true', Bool.not_true, Bool.not_false, if_true, if_false, Bool.false_eq_true, eq_self, true_and, and_true, isND_n, notND_n, isi_int, isi_bool, isi_str, isi_tuple, isi_list, isi_dict, dInt, dBl, dStr, dTup, dLst, dDct, wipeE, List.set, subD, ltD, gtD, leD, geD, max2D, min2D, eqD_ii, neD_ii, eqD_ss, neD_ss, eqD_nil, neD_nil]
      obtain ⟨h1, h2⟩ := namesF_ok (first := first) (way := way) hs ht hm
      rw [ml]
      exact h _ M5 (by unfold namesF; rw [List.length_map, List.length_range]) h1 h2 (hb5.mono (by omega)) fr
end SD

set_option synthInstance.maxHeartbeats 0
set_option synthInstance.maxSize 100000
set_option Elab.async false
set_option linter.all false
set_option maxRecDepth 100000
set_option maxHeartbeats 4000000
namespace K21
open PySem PySem.Spec PyProof.Rows L2 SD
abbrev own : List Str := ["NoProgram"]
def b_law_bent : Sv := (sCons (sAsg (.name 2) (eCall (pfL true seqD) (aCons (eVar 1) aNil))) (sCons (sAsg (.name 3) (e2 (lift2 ixD) (eLst false (aCons (eC (.str [])) (aCons (eC (.str [116, 97, 98, 108, 101])) (aCons (eC (.str [108, 111, 99, 107])) (aCons (eC (.str [111, 108, 100])) (aCons (eC (.str [101, 110, 100])) (aCons (eC (.int 5)) (aCons (eC .non) (aCons (eC (.str [65])) (aCons (eC (.str [116, 111, 111, 108, 111, 110, 103, 101, 114])) (aCons (eC (.str [112, 113])) (aCons (eC (.str [115, 104, 97, 114, 101])) aNil)))))))))))) (eFn 2 [] f_law_take (aCons (eVar 0) (aCons (eC (.int 11)) aNil))))) (sCons (sPar 4 5 (aCons (eFn 2 [] f_law_take (aCons (eVar 0) (aCons (e2 (pAdd false) (eCall (pf1 lenD) (aCons (eVar 2) aNil)) (eC (.int 1))) aNil))) (aCons (eFn 2 [] f_law_take (aCons (eVar 0) (aCons (eC (.int 5)) aNil))) aNil))) (sCons (sIf (tOf (e2 (lift2 eqD) (eVar 5) (eC (.int 0)))) (sDrop (eBm "list" mInsert (eVar 2) (aCons (eVar 4) (aCons (eVar 3) aNil)))) sNil) (sCons (sIf (bAnd (tOf (e2 (lift2 eqD) (eVar 5) (eC (.int 1)))) (tOf (e2 (lift2 ltD) (eVar 4) (eCall (pf1 lenD) (aCons (eVar 2) aNil))))) (sSetIx (eVar 2) (eVar 4) (eVar 3)) sNil) (sCons (sIf (tOf (e2 (lift2 eqD) (eVar 5) (eC (.int 2)))) (sRet (eVar 2)) sNil) (sCons (sIf (tOf (e2 (lift2 eqD) (eVar 5) (eC (.int 3)))) (sRet (eCall (pf1 tupD) (aCons (eSl false (eVar 2) pNone (pSome (eNeg (eC (.int 1))))) aNil))) sNil) (sRet (eCall (pf1 tupD) (aCons (eVar 2) aNil))))))))))
def f_law_bent : Fn := fnRun 6 b_law_bent
def b_law_kinds : Sv := (sRet (eLst false (aCons (eC (.str [112, 117, 116])) (aCons (eC (.str [115, 116, 114, 105, 107, 101])) (aCons (eC (.str [114, 101, 97, 100])) (aCons (eC (.str [100, 105, 114, 101, 99, 116])) (aCons (eC (.str [104, 97, 110, 103])) (aCons (eC (.str [116, 97, 107, 101])) (aCons (eC (.str [115, 112, 108, 105, 116])) (aCons (eC (.str [106, 111, 105, 110])) aNil))))))))))
def f_law_kinds : Fn := fnRun 0 b_law_kinds
def b_need_kind : Sv := (sIf (tOf (e2 (lift2 (inX true)) (eVar 0) (eC (tupS [[112, 117, 116], [115, 116, 114, 105, 107, 101], [114, 101, 97, 100], [100, 105, 114, 101, 99, 116], [104, 97, 110, 103], [116, 97, 107, 101], [115, 112, 108, 105, 116], [106, 111, 105, 110]])))) (sRaise1 "NoProgram" "kind" (eVar 0)) sNil)
def f_need_kind : Fn := fnRun 1 b_need_kind
def b_has_step : Sv := (sCons (sIf (bOr (bNot (tOf (eIsi "tuple" (eVar 0)))) (bOr (tOf (e2 (lift2 eqD) (eCall (pf1 lenD) (aCons (eVar 0) aNil)) (eC (.int 0)))) (bNot (tOf (eCall (pf1 allD) (aCons (eLc false (iVal (eVar 0)) (.name 2) bYes (eIsi "str" (eVar 2)) [2]) aNil)))))) (sRet (eC (.bl false))) sNil) (sCons (sIf (tOf (e2 (lift2 eqD) (eCall (pf1 lenD) (aCons (eVar 0) aNil)) (eC (.int 1)))) (sRet (vAnd (eKIn [([108, 111, 111, 107], [[112, 117, 116], [115, 116, 114, 105, 107, 101], [114, 101, 97, 100]]), ([97, 103, 97, 105, 110], [[112, 117, 116], [115, 116, 114, 105, 107, 101], [114, 101, 97, 100]]), ([98, 111, 114, 100, 101, 114], [[100, 105, 114, 101, 99, 116]]), ([107, 101, 121], [[112, 117, 116], [100, 105, 114, 101, 99, 116]]), ([112, 117, 116], [[112, 117, 116], [100, 105, 114, 101, 99, 116]]), ([99, 108, 97, 105, 109], [[112, 117, 116], [100, 105, 114, 101, 99, 116]]), ([115, 116, 114, 105, 107, 101], [[115, 116, 114, 105, 107, 101]]), ([118, 105, 101, 119], [[114, 101, 97, 100]]), ([114, 101, 97, 100], [[114, 101, 97, 100]]), ([109, 111, 118, 101], [[115, 112, 108, 105, 116], [106, 111, 105, 110]]), ([115, 119, 105, 116, 99, 104], [[104, 97, 110, 103], [116, 97, 107, 101], [115, 112, 108, 105, 116], [106, 111, 105, 110]]), ([119, 97, 105, 116], [[104, 97, 110, 103], [116, 97, 107, 101], [115, 112, 108, 105, 116], [106, 111, 105, 110]]), ([99, 108, 111, 115, 101], [[104, 97, 110, 103], [116, 97, 107, 101], [115, 112, 108, 105, 116], [106, 111, 105, 110]]), ([101, 110, 100], [[112, 117, 116], [115, 116, 114, 105, 107, 101], [114, 101, 97, 100], [100, 105, 114, 101, 99, 116], [104, 97, 110, 103], [116, 97, 107, 101], [115, 112, 108, 105, 116], [106, 111, 105, 110]])] false (e2 (lift2 ixD) (eVar 0) (eC (.int 0)))) (e2 (lift2 (inX false)) (eVar 1) (eKIx [([108, 111, 111, 107], [[112, 117, 116], [115, 116, 114, 105, 107, 101], [114, 101, 97, 100]]), ([97, 103, 97, 105, 110], [[112, 117, 116], [115, 116, 114, 105, 107, 101], [114, 101, 97, 100]]), ([98, 111, 114, 100, 101, 114], [[100, 105, 114, 101, 99, 116]]), ([107, 101, 121], [[112, 117, 116], [100, 105, 114, 101, 99, 116]]), ([112, 117, 116], [[112, 117, 116], [100, 105, 114, 101, 99, 116]]), ([99, 108, 97, 105, 109], [[112, 117, 116], [100, 105, 114, 101, 99, 116]]), ([115, 116, 114, 105, 107, 101], [[115, 116, 114, 105, 107, 101]]), ([118, 105, 101, 119], [[114, 101, 97, 100]]), ([114, 101, 97, 100], [[114, 101, 97, 100]]), ([109, 111, 118, 101], [[115, 112, 108, 105, 116], [106, 111, 105, 110]]), ([115, 119, 105, 116, 99, 104], [[104, 97, 110, 103], [116, 97, 107, 101], [115, 112, 108, 105, 116], [106, 111, 105, 110]]), ([119, 97, 105, 116], [[104, 97, 110, 103], [116, 97, 107, 101], [115, 112, 108, 105, 116], [106, 111, 105, 110]]), ([99, 108, 111, 115, 101], [[104, 97, 110, 103], [116, 97, 107, 101], [115, 112, 108, 105, 116], [106, 111, 105, 110]]), ([101, 110, 100], [[112, 117, 116], [115, 116, 114, 105, 107, 101], [114, 101, 97, 100], [100, 105, 114, 101, 99, 116], [104, 97, 110, 103], [116, 97, 107, 101], [115, 112, 108, 105, 116], [106, 111, 105, 110]])] (e2 (lift2 ixD) (eVar 0) (eC (.int 0))))))) sNil) (sCons (sIf (tOf (e2 (lift2 eqD) (e2 (lift2 ixD) (eVar 0) (eC (.int 0))) (eC (.str [115, 99, 97, 110])))) (sRet (vAnd (e2 (lift2 eqD) (eVar 1) (eC (.str [104, 97, 110, 103]))) (vAnd (e2 (lift2 eqD) (eCall (pf1 lenD) (aCons (eVar 0) aNil)) (eC (.int 2))) (e2 (lift2 (inX false)) (e2 (lift2 ixD) (eVar 0) (eC (.int 1))) (eTup (aCons (eC (.str [110, 101, 119])) (aCons (eC (.str [114, 101, 115, 116])) aNil))))))) sNil) (sCons (sIf (bOr (tOf (e2 (lift2 neD) (e2 (lift2 ixD) (eVar 0) (eC (.int 0))) (eC (.str [108, 111, 99, 107])))) (bOr (tOf (e2 (lift2 neD) (eCall (pf1 lenD) (aCons (eVar 0) aNil)) (eC (.int 3)))) (tOf (eKIn [([116, 97, 98, 108, 101], [[112, 117, 116], [115, 116, 114, 105, 107, 101], [114, 101, 97, 100], [104, 97, 110, 103], [116, 97, 107, 101], [115, 112, 108, 105, 116], [106, 111, 105, 110]]), ([112, 97, 114, 116], [[112, 117, 116], [115, 116, 114, 105, 107, 101], [114, 101, 97, 100], [100, 105, 114, 101, 99, 116]]), ([111, 108, 100], [[116, 97, 107, 101], [115, 112, 108, 105, 116], [106, 111, 105, 110]]), ([110, 101, 119], [[104, 97, 110, 103], [115, 112, 108, 105, 116], [106, 111, 105, 110]]), ([114, 101, 115, 116], [[104, 97, 110, 103], [116, 97, 107, 101], [115, 112, 108, 105, 116], [106, 111, 105, 110]])] true (e2 (lift2 ixD) (eVar 0) (eC (.int 1))))))) (sRet (eC (.bl false))) sNil) (sRet (vAnd (e2 (lift2 (inX false)) (eVar 1) (eKIx [([116, 97, 98, 108, 101], [[112, 117, 116], [115, 116, 114, 105, 107, 101], [114, 101, 97, 100], [104, 97, 110, 103], [116, 97, 107, 101], [115, 112, 108, 105, 116], [106, 111, 105, 110]]), ([112, 97, 114, 116], [[112, 117, 116], [115, 116, 114, 105, 107, 101], [114, 101, 97, 100], [100, 105, 114, 101, 99, 116]]), ([111, 108, 100], [[116, 97, 107, 101], [115, 112, 108, 105, 116], [106, 111, 105, 110]]), ([110, 101, 119], [[104, 97, 110, 103], [115, 112, 108, 105, 116], [106, 111, 105, 110]]), ([114, 101, 115, 116], [[104, 97, 110, 103], [116, 97, 107, 101], [115, 112, 108, 105, 116], [106, 111, 105, 110]])] (e2 (lift2 ixD) (eVar 0) (eC (.int 1))))) (eFn 1 [] f_is_name (aCons (e2 (lift2 ixD) (eVar 0) (eC (.int 2))) aNil))))))))
def f_has_step : Fn := fnRun 3 b_has_step
def b_is_step : Sv := (sCons (sDrop (eFn 1 [] f_need_kind (aCons (eVar 1) aNil))) (sRet (eFn 2 [] f_has_step (aCons (eVar 0) (aCons (eVar 1) aNil)))))
def f_is_step : Fn := fnRun 2 b_is_step
def b_law_told : Sv := (sTry own (sRet (eLst false (aCons (eC (.str [116, 111, 108, 100])) (aCons (eFnK 0 2 [1, 0] f_is_step aNil (aCons (eVar 1) (aCons (eVar 0) aNil))) aNil)))) [⟨"NoProgram", some 2, fun a dd => (sRet (eLst false (aCons (eC (.str [107, 105, 110, 100])) (aCons (eFld a dd 2 "kind") aNil))))⟩])
def f_law_told : Fn := fnRun 3 b_law_told
def b_law_drawn_step : Sv := (sCons (sAsg (.name 2) (eLst false (aCons (eC (.str [108, 111, 111, 107])) (aCons (eC (.str [97, 103, 97, 105, 110])) (aCons (eC (.str [98, 111, 114, 100, 101, 114])) (aCons (eC (.str [107, 101, 121])) (aCons (eC (.str [112, 117, 116])) (aCons (eC (.str [99, 108, 97, 105, 109])) (aCons (eC (.str [115, 116, 114, 105, 107, 101])) aNil))))))))) (sCons (sAsg (.name 2) (e2 (pAdd false) (eVar 2) (eLst false (aCons (eC (.str [118, 105, 101, 119])) (aCons (eC (.str [114, 101, 97, 100])) (aCons (eC (.str [109, 111, 118, 101])) (aCons (eC (.str [115, 119, 105, 116, 99, 104])) (aCons (eC (.str [119, 97, 105, 116])) (aCons (eC (.str [99, 108, 111, 115, 101])) aNil))))))))) (sCons (sIf (tOf (e2 (lift2 eqD) (eFn 2 [] f_law_take (aCons (eVar 0) (aCons (eC (.int 2)) aNil))) (eC (.int 0)))) (sCons (sAsg (.name 3) (e2 (lift2 ixD) (eLst false (aCons (eC (.str [116, 97, 98, 108, 101])) (aCons (eC (.str [112, 97, 114, 116])) (aCons (eC (.str [111, 108, 100])) (aCons (eC (.str [110, 101, 119])) (aCons (eC (.str [114, 101, 115, 116])) aNil)))))) (eFn 2 [] f_law_take (aCons (eVar 0) (aCons (eC (.int 5)) aNil))))) (sRet (eTup (aCons (eC (.str [108, 111, 99, 107])) (aCons (eVar 3) (aCons (e2 (lift2 ixD) (eVar 1) (eFn 2 [] f_law_take (aCons (eVar 0) (aCons (eCall (pf1 lenD) (aCons (eVar 1) aNil)) aNil)))) aNil)))))) sNil) (sCons (sIf (tOf (e2 (lift2 eqD) (eFn 2 [] f_law_take (aCons (eVar 0) (aCons (eC (.int 6)) aNil))) (eC (.int 0)))) (sRet (eTup (aCons (eC (.str [115, 99, 97, 110])) (aCons (e2 (lift2 ixD) (eLst false (aCons (eC (.str [110, 101, 119])) (aCons (eC (.str [114, 101, 115, 116])) aNil))) (eFn 2 [] f_law_take (aCons (eVar 0) (aCons (eC (.int 2)) aNil)))) aNil)))) sNil) (sRet (eTup (aCons (e2 (lift2 ixD) (eVar 2) (eFn 2 [] f_law_take (aCons (eVar 0) (aCons (eC (.int 13)) aNil)))) aNil)))))))
def f_law_drawn_step : Fn := fnRun 4 b_law_drawn_step
def b_law_is_name : Sv := (sCons (sIf (bOr (bNot (tOf (eIsi "str" (eVar 0)))) (bOr (tOf (e2 (lift2 eqD) (eVar 0) (eC (.str [116, 97, 98, 108, 101])))) (bOr (tOf (e2 (lift2 ltD) (eCall (pf1 lenD) (aCons (eVar 0) aNil)) (eC (.int 1)))) (tOf (e2 (lift2 gtD) (eCall (pf1 lenD) (aCons (eVar 0) aNil)) (eC (.int 8))))))) (sRet (eC (.bl false))) sNil) (sRet (e2 (lift2 eqD) (eLc false (iVal (eVar 0)) (.name 1) (tOf (e2 (lift2 notInD) (eVar 1) (eC (.str [97, 98, 99, 100, 101, 102, 103, 104, 105, 106, 107, 108, 109, 110, 111, 112, 113, 114, 115, 116, 117, 118, 119, 120, 121, 122])))) (eVar 1) [1]) (eLst false aNil))))
def f_law_is_name : Fn := fnRun 2 b_law_is_name
def b_law_is_step : Sv := (sCons (sPar 4 5 (aCons (eLst false (aCons (eC (.str [112, 117, 116])) (aCons (eC (.str [115, 116, 114, 105, 107, 101])) (aCons (eC (.str [114, 101, 97, 100])) aNil)))) (aCons (eLst false (aCons (eC (.str [104, 97, 110, 103])) (aCons (eC (.str [116, 97, 107, 101])) (aCons (eC (.str [115, 112, 108, 105, 116])) (aCons (eC (.str [106, 111, 105, 110])) aNil))))) aNil))) (sCons (sIf (bOr (bNot (tOf (eIsi "tuple" (eVar 0)))) (bOr (tOf (e2 (lift2 eqD) (eVar 0) (eTup aNil))) (tOf (e2 (lift2 neD) (eLc false (iVal (eVar 0)) (.name 7) (bNot (tOf (eIsi "str" (eVar 7)))) (eVar 7) [7]) (eLst false aNil))))) (sRet (eC (.bl false))) sNil) (sCons (sIf (tOf (e2 (lift2 eqD) (e2 (lift2 ixD) (eVar 0) (eC (.int 0))) (eC (.str [108, 111, 99, 107])))) (sCons (sIf (bOr (tOf (e2 (lift2 neD) (eCall (pf1 lenD) (aCons (eVar 0) aNil)) (eC (.int 3)))) (bNot (tOf (eFn 1 [] f_law_is_name (aCons (e2 (lift2 ixD) (eVar 0) (eC (.int 2))) aNil))))) (sRet (eC (.bl false))) sNil) (sCons (sAsg (.name 6) (eDisp true [((eC (.str [116, 97, 98, 108, 101])), (e2 (pAdd false) (eVar 4) (eVar 5))), ((eC (.str [112, 97, 114, 116])), (e2 (pAdd false) (eVar 4) (eLst false (aCons (eC (.str [100, 105, 114, 101, 99, 116])) aNil)))), ((eC (.str [111, 108, 100])), (eSl false (eVar 5) (pSome (eC (.int 1))) pNone)), ((eC (.str [114, 101, 115, 116])), (eVar 5))])) (sCons (sSetKey (eVar 6) (eC (.str [110, 101, 119])) (eLst false (aCons (eC (.str [104, 97, 110, 103])) (aCons (eC (.str [115, 112, 108, 105, 116])) (aCons (eC (.str [106, 111, 105, 110])) aNil))))) (sRet (e2 (lift2 (inX false)) (eVar 1) (eGet2 (eVar 6) (e2 (lift2 ixD) (eVar 0) (eC (.int 1))) (eLst false aNil))))))) sNil) (sCons (sIf (tOf (e2 (lift2 eqD) (e2 (lift2 ixD) (eVar 0) (eC (.int 0))) (eC (.str [115, 99, 97, 110])))) (sRet (vAnd (e2 (lift2 eqD) (eVar 1) (eC (.str [104, 97, 110, 103]))) (e2 (lift2 (inX false)) (eSl false (eVar 0) (pSome (eC (.int 1))) pNone) (eLst false (aCons (eTup (aCons (eC (.str [110, 101, 119])) aNil)) (aCons (eTup (aCons (eC (.str [114, 101, 115, 116])) aNil)) aNil)))))) sNil) (sCons (sIf (tOf (e2 (lift2 neD) (eCall (pf1 lenD) (aCons (eVar 0) aNil)) (eC (.int 1)))) (sRet (eC (.bl false))) sNil) (sCons (sAsg (.name 2) (eDisp true [((eC (.str [108, 111, 111, 107])), (eVar 4)), ((eC (.str [97, 103, 97, 105, 110])), (eVar 4)), ((eC (.str [98, 111, 114, 100, 101, 114])), (eLst false (aCons (eC (.str [100, 105, 114, 101, 99, 116])) aNil))), ((eC (.str [115, 116, 114, 105, 107, 101])), (eLst false (aCons (eC (.str [115, 116, 114, 105, 107, 101])) aNil))), ((eC (.str [101, 110, 100])), (eFn 0 [] f_law_kinds aNil))])) (sCons (sFor (.name 3) (iVal (eLst false (aCons (eC (.str [107, 101, 121])) (aCons (eC (.str [112, 117, 116])) (aCons (eC (.str [99, 108, 97, 105, 109])) aNil))))) (sSetKey (eVar 2) (eVar 3) (eLst false (aCons (eC (.str [112, 117, 116])) (aCons (eC (.str [100, 105, 114, 101, 99, 116])) aNil))))) (sCons (sFor (.name 3) (iVal (eLst false (aCons (eC (.str [118, 105, 101, 119])) (aCons (eC (.str [114, 101, 97, 100])) aNil)))) (sSetKey (eVar 2) (eVar 3) (eLst false (aCons (eC (.str [114, 101, 97, 100])) aNil)))) (sCons (sFor (.name 3) (iVal (eLst false (aCons (eC (.str [115, 119, 105, 116, 99, 104])) (aCons (eC (.str [119, 97, 105, 116])) (aCons (eC (.str [99, 108, 111, 115, 101])) aNil))))) (sSetKey (eVar 2) (eVar 3) (eVar 5))) (sCons (sSetKey (eVar 2) (eC (.str [109, 111, 118, 101])) (eLst false (aCons (eC (.str [115, 112, 108, 105, 116])) (aCons (eC (.str [106, 111, 105, 110])) aNil)))) (sRet (e2 (lift2 (inX false)) (eVar 1) (eGet2 (eVar 2) (e2 (lift2 ixD) (eVar 0) (eC (.int 0))) (eLst false aNil))))))))))))))
def f_law_is_step : Fn := fnRun 8 b_law_is_step
def b_law : Sv := (sCons (sFor (.name 1) (iRng1 (aCons (eCall (pf2 max2D) (aCons (eC (.int 2)) (aCons (eCall (pf2 min2D) (aCons (eC (.int 12)) (aCons (eCall (pf1 lenD) (aCons (eVar 0) aNil)) aNil))) aNil))) aNil)) (sCons (sAsg (.name 2) (eFn 1 [] f_law_box (aCons (eFn 2 [] f_law_cell (aCons (eVar 0) (aCons (eVar 1) aNil))) aNil))) (sCons (sAsg (.name 3) (e2 (pAdd false) (eFrz (eFn 2 [] f_law_names (aCons (eVar 2) (aCons (eC (.int 3)) aNil)))) (eLst false (aCons (eC (.str [114, 101, 97, 100])) (aCons (eC (.str [101, 110, 100])) aNil))))) (sCons (sFor (.name 4) (iRng1 (aCons (eC (.int 6)) aNil)) (sCons (sAsg (.name 6) (e2 (lift2 ixD) (eLst false (aCons (eFn 2 [] f_law_drawn_step (aCons (eVar 2) (aCons (eVar 3) aNil))) (aCons (eTup (aCons (eC (.str [101, 110, 100])) aNil)) aNil))) (eCall (pf1 intD) (aCons (e2 (lift2 eqD) (eFn 2 [] f_law_take (aCons (eVar 2) (aCons (eC (.int 8)) aNil))) (eC (.int 0))) aNil)))) (sCons (sAsg (.name 7) (e2 (lift2 ixD) (eLst false (aCons (eC .non) (aCons (eC (.int 5)) (aCons (eC (.str [108, 111, 111, 107])) (aCons (eLst false aNil) (aCons (eTup aNil) (aCons (eDnew false) (aCons (eTup (aCons (eC (.str [108, 111, 111, 107])) (aCons (eC (.str [108, 111, 111, 107])) aNil))) (aCons (eTup (aCons (eC (.int 5)) aNil)) (aCons (eTup (aCons (eC (.str [108, 111, 99, 107])) aNil)) aNil)))))))))) (eFn 2 [] f_law_take (aCons (eVar 2) (aCons (eC (.int 9)) aNil))))) (sFor (.name 8) (iVal (eLst false (aCons (eVar 6) (aCons (eFrz (eFn 2 [] f_law_bent (aCons (eVar 2) (aCons (eVar 6) aNil)))) (aCons (eVar 7) aNil))))) (sFor (.name 9) (iVal (eFn 0 [] f_law_kinds aNil)) (sCons (sAsg (.name 10) (eFn 2 [] f_is_step (aCons (eVar 8) (aCons (eVar 9) aNil)))) (sIf (bOr (bNot (tOf (eIsi "bool" (eVar 10)))) (tOf (e2 (lift2 neD) (eVar 10) (eFn 2 [] f_law_is_step (aCons (eVar 8) (aCons (eVar 9) aNil)))))) (sRet (eC (.bl false))) sNil))))))) (sCons (sAsg (.name 5) (e2 (lift2 ixD) (eLst false (aCons (eC .non) (aCons (eC (.int 5)) (aCons (eC (.str [])) (aCons (eC (.str [109, 111, 118, 101])) (aCons (eC (.str [112, 117, 116, 115])) (aCons (eTup (aCons (eC (.str [112, 117, 116])) aNil)) (aCons (eLst false aNil) (aCons (eC (.bl true)) aNil))))))))) (eFn 2 [] f_law_take (aCons (eVar 2) (aCons (eC (.int 8)) aNil))))) (sIf (bOr (tOf (e2 (lift2 neD) (eFn 2 [] f_law_told (aCons (eTup (aCons (eC (.str [101, 110, 100])) aNil)) (aCons (eVar 5) aNil))) (eLst false (aCons (eC (.str [107, 105, 110, 100])) (aCons (eVar 5) aNil))))) (tOf (e2 (lift2 neD) (eFn 2 [] f_law_told (aCons (eC (.int 5)) (aCons (eVar 5) aNil))) (eLst false (aCons (eC (.str [107, 105, 110, 100])) (aCons (eVar 5) aNil)))))) (sRet (eC (.bl false))) sNil)))))) (sRet (eC (.bl true))))
def f_law : Fn := fnRun 11 b_law
end K21

set_option synthInstance.maxHeartbeats 0
set_option synthInstance.maxSize 100000
set_option Elab.async false
set_option linter.all false
set_option maxRecDepth 100000
set_option maxHeartbeats 4000000
namespace K21
open PySem PySem.Spec PyProof.Rows L2 SD
def topS (i : Nat) : Stmt := PySem.Challenge.pw_hungparts_k21_steps_of_kinds.main.body.getD i (.Pass ⟨0, 0, 0, 0⟩)
abbrev st__law_box : Stmt := topS 17
theorem sc__law_box : FnScope ["_law_cell_here"] ["_law_cell_here"] (defScope st__law_box) := ⟨rfl, rfl, rfl, by decide +kernel, rfl, by decide +kernel, by decide +kernel⟩
abbrev st__law_cell : Stmt := topS 16
theorem sc__law_cell : FnScope ["_law_script", "_law_k"] ["_law_script", "_law_k"] (defScope st__law_cell) := ⟨rfl, rfl, rfl, by decide +kernel, rfl, by decide +kernel, by decide +kernel⟩
abbrev st__law_take : Stmt := topS 18
theorem sc__law_take : FnScope ["_law_box_here", "_law_many", "_law_number", "_law_digit"] ["_law_box_here", "_law_many"] (defScope st__law_take) := ⟨rfl, rfl, rfl, by decide +kernel, rfl, by decide +kernel, by decide +kernel⟩
abbrev st__law_mixed : Stmt := topS 19
theorem sc__law_mixed : FnScope ["_law_box_here", "_law_some", "_law_left", "_law_k"] ["_law_box_here", "_law_some"] (defScope st__law_mixed) := ⟨rfl, rfl, rfl, by decide +kernel, rfl, by decide +kernel, by decide +kernel⟩
abbrev st__law_names : Stmt := topS 20
theorem sc__law_names : FnScope ["_law_box_here", "_law_many", "_law_letters", "_law_stem", "_law_found", "_law_k", "_law_words", "_law_first", "_law_step", "_law_way", "_law_sign", "_law_name"] ["_law_box_here", "_law_many"] (defScope st__law_names) := ⟨rfl, rfl, rfl, by decide +kernel, rfl, by decide +kernel, by decide +kernel⟩
abbrev st__law_bent : Stmt := topS 25
theorem sc__law_bent : FnScope ["_law_box_here", "_law_step", "_law_items", "_law_odd", "_law_at", "_law_way"] ["_law_box_here", "_law_step"] (defScope st__law_bent) := ⟨rfl, rfl, rfl, by decide +kernel, rfl, by decide +kernel, by decide +kernel⟩
abbrev st__law_kinds : Stmt := topS 21
theorem sc__law_kinds : FnScope [] [] (defScope st__law_kinds) := ⟨rfl, rfl, rfl, by decide +kernel, rfl, by decide +kernel, by decide +kernel⟩
abbrev st_need_kind : Stmt := topS 12
theorem sc_need_kind : FnScope ["kind"] ["kind"] (defScope st_need_kind) := ⟨rfl, rfl, rfl, by decide +kernel, rfl, by decide +kernel, by decide +kernel⟩
abbrev st_is_name : Stmt := topS 7
theorem sc_is_name : FnScope ["value", "sign"] ["value"] (defScope st_is_name) := ⟨rfl, rfl, rfl, by decide +kernel, rfl, by decide +kernel, by decide +kernel⟩
abbrev st_has_step : Stmt := topS 13
theorem sc_has_step : FnScope ["value", "kind", "item"] ["value", "kind"] (defScope st_has_step) := ⟨rfl, rfl, rfl, by decide +kernel, rfl, by decide +kernel, by decide +kernel⟩
abbrev st_is_step : Stmt := topS 14
theorem sc_is_step : FnScope ["value", "kind"] ["value", "kind"] (defScope st_is_step) := ⟨rfl, rfl, rfl, by decide +kernel, rfl, by decide +kernel, by decide +kernel⟩
abbrev st__law_told : Stmt := topS 26
theorem sc__law_told : FnScope ["_law_thing", "_law_sort", "e"] ["_law_thing", "_law_sort"] (defScope st__law_told) := ⟨rfl, rfl, rfl, by decide +kernel, rfl, by decide +kernel, by decide +kernel⟩
abbrev st__law_drawn_step : Stmt := topS 24
theorem sc__law_drawn_step : FnScope ["_law_box_here", "_law_modes", "_law_plain", "_law_where"] ["_law_box_here", "_law_modes"] (defScope st__law_drawn_step) := ⟨rfl, rfl, rfl, by decide +kernel, rfl, by decide +kernel, by decide +kernel⟩
abbrev st__law_is_name : Stmt := topS 22
theorem sc__law_is_name : FnScope ["_law_thing", "_law_sign"] ["_law_thing"] (defScope st__law_is_name) := ⟨rfl, rfl, rfl, by decide +kernel, rfl, by decide +kernel, by decide +kernel⟩
abbrev st__law_is_step : Stmt := topS 23
theorem sc__law_is_step : FnScope ["_law_thing", "_law_sort", "_law_where", "_law_word", "_law_askers", "_law_changes", "_law_at", "_law_item"] ["_law_thing", "_law_sort"] (defScope st__law_is_step) := ⟨rfl, rfl, rfl, by decide +kernel, rfl, by decide +kernel, by decide +kernel⟩
abbrev st_law : Stmt := topS 27
theorem sc_law : FnScope ["_law_script", "_law_k", "_law_box_here", "_law_modes", "_law_turn", "_law_strange", "_law_step", "_law_odd", "_law_thing", "_law_sort", "_law_told_here"] ["_law_script"] (defScope st_law) := ⟨rfl, rfl, rfl, by decide +kernel, rfl, by decide +kernel, by decide +kernel⟩
structure Txt (P : Program) (w : World) (K : PySem.W.Frag) (mg : Str → Option Value) : Prop where
  d__law_box : DefAt K mg "_law_box" "_law_box" st__law_box ["_law_cell_here"]
  d__law_cell : DefAt K mg "_law_cell" "_law_cell" st__law_cell ["_law_script", "_law_k"]
  d__law_take : DefAt K mg "_law_take" "_law_take" st__law_take ["_law_box_here", "_law_many"]
  d__law_mixed : DefAt K mg "_law_mixed" "_law_mixed" st__law_mixed ["_law_box_here", "_law_some"]
  d__law_names : DefAt K mg "_law_names" "_law_names" st__law_names ["_law_box_here", "_law_many"]
  d__law_bent : DefAt K mg "_law_bent" "_law_bent" st__law_bent ["_law_box_here", "_law_step"]
  d__law_kinds : DefAt K mg "_law_kinds" "_law_kinds" st__law_kinds []
  d_need_kind : DefAt K mg "need_kind" "need_kind" st_need_kind ["kind"]
  d_is_name : DefAt K mg "is_name" "is_name" st_is_name ["value"]
  d_has_step : DefAt K mg "has_step" "has_step" st_has_step ["value", "kind"]
  d_is_step : DefAt K mg "is_step" "is_step" st_is_step ["value", "kind"]
  d__law_told : DefAt K mg "_law_told" "_law_told" st__law_told ["_law_thing", "_law_sort"]
  d__law_drawn_step : DefAt K mg "_law_drawn_step" "_law_drawn_step" st__law_drawn_step ["_law_box_here", "_law_modes"]
  d__law_is_name : DefAt K mg "_law_is_name" "_law_is_name" st__law_is_name ["_law_thing"]
  d__law_is_step : DefAt K mg "_law_is_step" "_law_is_step" st__law_is_step ["_law_thing", "_law_sort"]
  d_law : DefAt K mg "law" "law" st_law ["_law_script"]
  k_is_step_0_kind_value : DefKw K mg "is_step" "is_step" st_is_step ["value", "kind"] 0 ["kind", "value"] [1, 0]
  x_NoProgram : ∃ C, mg "NoProgram" = some (.ref C) ∧ ∀ w, Mk1 P w K "NoProgram" "kind" C
  m_NoProgram : ∀ Cx, mg "NoProgram" = some (.ref Cx) → ∀ c C b, mg c = some (.ref C) → subX own c "NoProgram" = some b → PySem.W.exmOne K (.ref C) (.ref Cx) = some b
  n_all : mg "all" = none
  n_bool : mg "bool" = none
  n_int : mg "int" = none
  n_isinstance : mg "isinstance" = none
  n_len : mg "len" = none
  n_list : mg "list" = none
  n_max : mg "max" = none
  n_min : mg "min" = none
  n_range : mg "range" = none
  n_str : mg "str" = none
  n_super : mg "super" = none
  n_tuple : mg "tuple" = none
  c_LETTERS : ∃ t, mg "LETTERS" = some (.str (mkS [97, 98, 99, 100, 101, 102, 103, 104, 105, 106, 107, 108, 109, 110, 111, 112, 113, 114, 115, 116, 117, 118, 119, 120, 121, 122]) t)
  c_MOST_LETTERS : ∃ t, mg "MOST_LETTERS" = some (.int 8 t)
  c_TABLE : ∃ t, mg "TABLE" = some (.str (mkS [116, 97, 98, 108, 101]) t)
  c_KINDS : ∃ v, mg "KINDS" = some v ∧ ktOf K v [[112, 117, 116], [115, 116, 114, 105, 107, 101], [114, 101, 97, 100], [100, 105, 114, 101, 99, 116], [104, 97, 110, 103], [116, 97, 107, 101], [115, 112, 108, 105, 116], [106, 111, 105, 110]] = true
  t_LOCKED : ∃ d, mg "LOCKED" = some (.ref d) ∧ KTab K w d [([116, 97, 98, 108, 101], [[112, 117, 116], [115, 116, 114, 105, 107, 101], [114, 101, 97, 100], [104, 97, 110, 103], [116, 97, 107, 101], [115, 112, 108, 105, 116], [106, 111, 105, 110]]), ([112, 97, 114, 116], [[112, 117, 116], [115, 116, 114, 105, 107, 101], [114, 101, 97, 100], [100, 105, 114, 101, 99, 116]]), ([111, 108, 100], [[116, 97, 107, 101], [115, 112, 108, 105, 116], [106, 111, 105, 110]]), ([110, 101, 119], [[104, 97, 110, 103], [115, 112, 108, 105, 116], [106, 111, 105, 110]]), ([114, 101, 115, 116], [[104, 97, 110, 103], [116, 97, 107, 101], [115, 112, 108, 105, 116], [106, 111, 105, 110]])]
  t_PLAIN_STEPS : ∃ d, mg "PLAIN_STEPS" = some (.ref d) ∧ KTab K w d [([108, 111, 111, 107], [[112, 117, 116], [115, 116, 114, 105, 107, 101], [114, 101, 97, 100]]), ([97, 103, 97, 105, 110], [[112, 117, 116], [115, 116, 114, 105, 107, 101], [114, 101, 97, 100]]), ([98, 111, 114, 100, 101, 114], [[100, 105, 114, 101, 99, 116]]), ([107, 101, 121], [[112, 117, 116], [100, 105, 114, 101, 99, 116]]), ([112, 117, 116], [[112, 117, 116], [100, 105, 114, 101, 99, 116]]), ([99, 108, 97, 105, 109], [[112, 117, 116], [100, 105, 114, 101, 99, 116]]), ([115, 116, 114, 105, 107, 101], [[115, 116, 114, 105, 107, 101]]), ([118, 105, 101, 119], [[114, 101, 97, 100]]), ([114, 101, 97, 100], [[114, 101, 97, 100]]), ([109, 111, 118, 101], [[115, 112, 108, 105, 116], [106, 111, 105, 110]]), ([115, 119, 105, 116, 99, 104], [[104, 97, 110, 103], [116, 97, 107, 101], [115, 112, 108, 105, 116], [106, 111, 105, 110]]), ([119, 97, 105, 116], [[104, 97, 110, 103], [116, 97, 107, 101], [115, 112, 108, 105, 116], [106, 111, 105, 110]]), ([99, 108, 111, 115, 101], [[104, 97, 110, 103], [116, 97, 107, 101], [115, 112, 108, 105, 116], [106, 111, 105, 110]]), ([101, 110, 100], [[112, 117, 116], [115, 116, 114, 105, 107, 101], [114, 101, 97, 100], [100, 105, 114, 101, 99, 116], [104, 97, 110, 103], [116, 97, 107, 101], [115, 112, 108, 105, 116], [106, 111, 105, 110]])]
instance : FS b_law_box := by unfold b_law_box; infer_instance
instance : FF f_law_box := by unfold f_law_box; infer_instance
theorem bd_law_box {P : Program} {w : World} {K : PySem.W.Frag} {mg : Str → Option Value} {base : Heap} (T : Txt P w K mg) (f : Addr) (cdv : Value) (A : Around) (outer : List Env) (s : Shared) (H : Hp) (E : XK) (hr : Room 0 (A.deeper (envOfC "_law_box" (defScope st__law_box) s.heap.objs.size f cdv))) :
    SS (cxOf (L2.CX P w) P w K mg base ["_law_cell_here"] "_law_box" (defScope st__law_box) f cdv A outer s H E) (fun cls d _ H => E cls d H) (defBody st__law_box) b_law_box := by
  have tk := takes_of (X := cxOf (L2.CX P w) P w K mg base ["_law_cell_here"] "_law_box" (defScope st__law_box) f cdv A outer s H E) rfl rfl rfl rfl
  have hp := passes_of (X := cxOf (L2.CX P w) P w K mg base ["_law_cell_here"] "_law_box" (defScope st__law_box) f cdv A outer s H E) rfl
  exact (ss_one (s_ret (se_lst true (sa_cons (se_callB (call_max2 rfl) c_max2 T.n_max (sa_cons se_int (sa_cons (se_op op_sub o_sub (se_v 0) (se_op op_pow o_pow se_int se_int)) sa_nil))) (sa_cons (se_op op_mod o_mod (se_v 0) se_int) (sa_cons se_int sa_nil))))))
theorem ok__law_box {P : Program} {w : World} {K : PySem.W.Frag} {mg : Str → Option Value} {base : Heap} (T : Txt P w K mg) : Callable P w K mg base 1 "_law_box" 1 [] f_law_box :=
  T.d__law_box.call (k := 0) sc__law_box (bd_law_box T)
instance : FS b_law_cell := by unfold b_law_cell; infer_instance
instance : FF f_law_cell := by unfold f_law_cell; infer_instance
theorem bd_law_cell {P : Program} {w : World} {K : PySem.W.Frag} {mg : Str → Option Value} {base : Heap} (T : Txt P w K mg) (f : Addr) (cdv : Value) (A : Around) (outer : List Env) (s : Shared) (H : Hp) (E : XK) (hr : Room 0 (A.deeper (envOfC "_law_cell" (defScope st__law_cell) s.heap.objs.size f cdv))) :
    SS (cxOf (L2.CX P w) P w K mg base ["_law_script", "_law_k"] "_law_cell" (defScope st__law_cell) f cdv A outer s H E) (fun cls d _ H => E cls d H) (defBody st__law_cell) b_law_cell := by
  have tk := takes_of (X := cxOf (L2.CX P w) P w K mg base ["_law_script", "_law_k"] "_law_cell" (defScope st__law_cell) f cdv A outer s H E) rfl rfl rfl rfl
  have hp := passes_of (X := cxOf (L2.CX P w) P w K mg base ["_law_script", "_law_k"] "_law_cell" (defScope st__law_cell) f cdv A outer s H E) rfl
  exact (ss_cons (s_if (st_sc (sc_op or_lt o_lt (se_v 1) (se_callB call_len c_len T.n_len (sa_cons (se_v 0) sa_nil)))) (ss_one (s_ret (se_ix (se_v 0) (se_v 1)))) ss_nil) (ss_one (s_ret (se_op or_add (o_add (c := false)) (se_op or_mul o_mulS se_int (se_v 1)) se_int))))
theorem ok__law_cell {P : Program} {w : World} {K : PySem.W.Frag} {mg : Str → Option Value} {base : Heap} (T : Txt P w K mg) : Callable P w K mg base 1 "_law_cell" 2 [] f_law_cell :=
  T.d__law_cell.call (k := 0) sc__law_cell (bd_law_cell T)
instance : FS b_law_take := by unfold b_law_take; infer_instance
instance : FF f_law_take := by unfold f_law_take; infer_instance
theorem bd_law_take {P : Program} {w : World} {K : PySem.W.Frag} {mg : Str → Option Value} {base : Heap} (T : Txt P w K mg) (f : Addr) (cdv : Value) (A : Around) (outer : List Env) (s : Shared) (H : Hp) (E : XK) (hr : Room 0 (A.deeper (envOfC "_law_take" (defScope st__law_take) s.heap.objs.size f cdv))) :
    SS (cxOf (L2.CX P w) P w K mg base ["_law_box_here", "_law_many", "_law_number", "_law_digit"] "_law_take" (defScope st__law_take) f cdv A outer s H E) (fun cls d _ H => E cls d H) (defBody st__law_take) b_law_take := by
  have tk := takes_of (X := cxOf (L2.CX P w) P w K mg base ["_law_box_here", "_law_many", "_law_number", "_law_digit"] "_law_take" (defScope st__law_take) f cdv A outer s H E) rfl rfl rfl rfl
  have hp := passes_of (X := cxOf (L2.CX P w) P w K mg base ["_law_box_here", "_law_many", "_law_number", "_law_digit"] "_law_take" (defScope st__law_take) f cdv A outer s H E) rfl
  exact (ss_cons (s_if (st_sc (sc_op or_gt o_gt (se_ix (se_v 0) se_int) se_int)) (ss_cons (s_set 3 sc__law_take.nd (se_op op_mod o_mod (se_ix (se_v 0) se_int) (se_v 1))) (ss_cons (s_setIx (se_v 0) se_int (se_op op_fdiv o_fdiv (se_ix (se_v 0) se_int) (se_v 1))) (ss_one (s_ret (se_v 3))))) ss_nil) (ss_cons (s_setIx (se_v 0) se_int (se_op or_add (o_add (c := false)) (se_ix (se_v 0) se_int) se_int)) (ss_cons (s_set 2 sc__law_take.nd (se_op op_mod o_mod (se_op op_pow o_pow (se_op or_add (o_add (c := false)) (se_op or_add (o_add (c := false)) (se_ix (se_v 0) se_int) (se_op or_mul o_mulS se_int (se_ix (se_v 0) se_int))) se_int) se_int) se_int)) (ss_cons (s_set 2 sc__law_take.nd (se_op op_mod o_mod (se_op op_pow o_pow (se_op or_add (o_add (c := false)) (se_v 2) (se_op or_mul o_mulS se_int (se_ix (se_v 0) se_int))) se_int) se_int)) (ss_one (s_ret (se_op op_mod o_mod (se_op op_fdiv o_fdiv (se_v 2) se_int) (se_v 1))))))))
theorem ok__law_take {P : Program} {w : World} {K : PySem.W.Frag} {mg : Str → Option Value} {base : Heap} (T : Txt P w K mg) : Callable P w K mg base 1 "_law_take" 2 [] f_law_take :=
  T.d__law_take.call (k := 0) sc__law_take (bd_law_take T)
instance : FS b_law_mixed := by unfold b_law_mixed; infer_instance
instance : FF f_law_mixed := by unfold f_law_mixed; infer_instance
theorem bd_law_mixed {P : Program} {w : World} {K : PySem.W.Frag} {mg : Str → Option Value} {base : Heap} (T : Txt P w K mg) (f : Addr) (cdv : Value) (A : Around) (outer : List Env) (s : Shared) (H : Hp) (E : XK) (hr : Room 1 (A.deeper (envOfC "_law_mixed" (defScope st__law_mixed) s.heap.objs.size f cdv))) :
    SS (cxOf (L2.CX P w) P w K mg base ["_law_box_here", "_law_some", "_law_left", "_law_k"] "_law_mixed" (defScope st__law_mixed) f cdv A outer s H E) (fun cls d _ H => E cls d H) (defBody st__law_mixed) b_law_mixed := by
  have tk := takes_of (X := cxOf (L2.CX P w) P w K mg base ["_law_box_here", "_law_some", "_law_left", "_law_k"] "_law_mixed" (defScope st__law_mixed) f cdv A outer s H E) rfl rfl rfl rfl
  have hp := passes_of (X := cxOf (L2.CX P w) P w K mg base ["_law_box_here", "_law_some", "_law_left", "_law_k"] "_law_mixed" (defScope st__law_mixed) f cdv A outer s H E) rfl
  exact (ss_cons (s_set 2 sc__law_mixed.nd (se_callTy call_list_of (c_list (c := true)) T.n_list (sa_cons (se_v 1) sa_nil))) (ss_one (s_ret (se_lc false (own := [("_law_k", 3)]) rfl sc__law_mixed.nd (i_range1 T.n_range (sa_cons (se_callB call_len c_len T.n_len (sa_cons (se_v 1) sa_nil)) sa_nil)) (blkOk_by (N := ["_law_box_here", "_law_some", "_law_left", "_law_k"]) (sc := defScope st__law_mixed) (by decide +kernel)) (fun _ _ _ _ _ => (g_name 3 sc__law_mixed.nd)) (fun _ _ _ _ _ => sts_nil) (fun _ _ _ _ _ => (se_bm PySem.F.plainAttrs_list PySem.F.slot_list_pop PySem.F.type_list_pop mt_popAt m_popAt (se_v 2) (sa_cons (se_fn (ok__law_take T) (hr.mono (by decide)) takes0 (sa_cons (se_v 0) (sa_cons (se_callB call_len c_len T.n_len (sa_cons (se_v 2) sa_nil)) sa_nil))) sa_nil))) (by decide)))))
theorem ok__law_mixed {P : Program} {w : World} {K : PySem.W.Frag} {mg : Str → Option Value} {base : Heap} (T : Txt P w K mg) : Callable P w K mg base 2 "_law_mixed" 2 [] f_law_mixed :=
  T.d__law_mixed.call (k := 1) sc__law_mixed (bd_law_mixed T)
instance : FS b_law_names := by unfold b_law_names; infer_instance
instance : FF f_law_names := by unfold f_law_names; infer_instance
theorem bd_law_names {P : Program} {w : World} {K : PySem.W.Frag} {mg : Str → Option Value} {base : Heap} (T : Txt P w K mg) (f : Addr) (cdv : Value) (A : Around) (outer : List Env) (s : Shared) (H : Hp) (E : XK) (hr : Room 2 (A.deeper (envOfC "_law_names" (defScope st__law_names) s.heap.objs.size f cdv))) :
    SS (cxOf (L2.CX P w) P w K mg base ["_law_box_here", "_law_many", "_law_letters", "_law_stem", "_law_found", "_law_k", "_law_words", "_law_first", "_law_step", "_law_way", "_law_sign", "_law_name"] "_law_names" (defScope st__law_names) f cdv A outer s H E) (fun cls d _ H => E cls d H) (defBody st__law_names) b_law_names := by
  have tk := takes_of (X := cxOf (L2.CX P w) P w K mg base ["_law_box_here", "_law_many", "_law_letters", "_law_stem", "_law_found", "_law_k", "_law_words", "_law_first", "_law_step", "_law_way", "_law_sign", "_law_name"] "_law_names" (defScope st__law_names) f cdv A outer s H E) rfl rfl rfl rfl
  have hp := passes_of (X := cxOf (L2.CX P w) P w K mg base ["_law_box_here", "_law_many", "_law_letters", "_law_stem", "_law_found", "_law_k", "_law_words", "_law_first", "_law_step", "_law_way", "_law_sign", "_law_name"] "_law_names" (defScope st__law_names) f cdv A outer s H E) rfl
  exact (ss_cons (s_set 2 sc__law_names.nd (se_str [97, 98, 99, 100, 101, 102, 103, 104, 105, 106, 107, 108, 109, 110, 111, 112, 113, 114, 115, 116, 117, 118, 119, 120, 121, 122])) (ss_cons (s_if (st_sc (sc_op (op_eqO hr.units) o_eq (se_fn (ok__law_take T) (hr.mono (by decide)) tk (sa_cons (se_v 0) (sa_cons se_int sa_nil))) se_int)) (ss_cons (s_set 6 sc__law_names.nd (se_lst false (sa_cons (se_str [98, 101, 103, 105, 110]) (sa_cons (se_str [101, 109, 112, 116, 121]) (sa_cons (se_str [114, 101, 115, 116]) (sa_cons (se_str [115, 116, 101, 112]) (sa_cons (se_str [101, 110, 100]) (sa_cons (se_str [108, 111, 111, 107]) (sa_cons (se_str [111, 108, 100]) (sa_cons (se_str [110, 101, 119]) (sa_cons (se_str [112, 117, 116]) (sa_cons (se_str [112, 97, 114, 116]) (sa_cons (se_str [109, 111, 118, 101]) (sa_cons (se_str [115, 112, 108, 105, 116]) (sa_cons (se_str [108, 111, 99, 107]) sa_nil))))))))))))))) (ss_one (s_ret (se_sl true (se_fn (ok__law_mixed T) (hr.mono (by decide)) tk (sa_cons (se_v 0) (sa_cons (se_v 6) sa_nil))) so_none (so_some (se_v 1)))))) ss_nil) (ss_cons (s_set 3 sc__law_names.nd (se_ix (se_lst false (sa_cons (se_str []) (sa_cons (se_str [97]) (sa_cons (se_str [116, 97, 98, 108]) (sa_cons (se_str [114, 101, 115, 116]) (sa_cons (se_str [112, 97, 114, 116]) (sa_cons (se_str [122, 122, 122, 122, 122, 122, 122]) sa_nil))))))) (se_fn (ok__law_take T) (hr.mono (by decide)) tk (sa_cons (se_v 0) (sa_cons se_int sa_nil))))) (ss_cons (s_par3 7 8 9 rfl sc__law_names.nd (sa_cons (se_fn (ok__law_take T) (hr.mono (by decide)) tk (sa_cons (se_v 0) (sa_cons se_int sa_nil))) (sa_cons (se_ix (se_lst false (sa_cons se_int (sa_cons se_int (sa_cons se_int (sa_cons se_int (sa_cons se_int (sa_cons se_int sa_nil))))))) (se_fn (ok__law_take T) (hr.mono (by decide)) tk (sa_cons (se_v 0) (sa_cons se_int sa_nil)))) (sa_cons (se_fn (ok__law_take T) (hr.mono (by decide)) tk (sa_cons (se_v 0) (sa_cons se_int sa_nil))) sa_nil)))) (ss_cons (s_set 4 sc__law_names.nd (se_lst true sa_nil)) (ss_cons (s_for hp rfl (i_range1 T.n_range (sa_cons (se_v 1) sa_nil)) (g_name 5 sc__law_names.nd) (ss_cons (s_set 10 sc__law_names.nd (se_ix (se_v 2) (se_op op_mod o_mod (se_op or_add (o_add (c := false)) (se_v 7) (se_op or_mul o_mulS (se_v 8) (se_v 5))) se_int))) (ss_cons (s_set 11 sc__law_names.nd (se_ix (se_lst false (sa_cons (se_op or_add (o_add (c := false)) (se_v 3) (se_v 10)) (sa_cons (se_op or_add (o_add (c := false)) (se_v 10) (se_v 3)) (sa_cons (se_v 10) sa_nil)))) (se_if (st_sc (sc_op or_gt o_gt (se_v 5) se_int)) (se_v 9) se_int))) (ss_one (s_expr (se_bm PySem.F.plainAttrs_list PySem.F.slot_list_append PySem.F.type_list_append mt_append m_append (se_v 4) (sa_cons (se_if (st_sc (sc_op (op_eqO hr.units) o_eq (se_v 11) (se_str [116, 97, 98, 108, 101]))) (se_str [116, 97, 98, 108, 101, 115]) (se_v 11)) sa_nil))))))) (ss_one (s_ret (se_v 4)))))))))
theorem ok__law_names {P : Program} {w : World} {K : PySem.W.Frag} {mg : Str → Option Value} {base : Heap} (T : Txt P w K mg) : Callable P w K mg base 3 "_law_names" 2 [] f_law_names :=
  T.d__law_names.call (k := 2) sc__law_names (bd_law_names T)
instance : FS b_law_bent := by unfold b_law_bent; infer_instance
instance : FF f_law_bent := by unfold f_law_bent; infer_instance
theorem bd_law_bent {P : Program} {w : World} {K : PySem.W.Frag} {mg : Str → Option Value} {base : Heap} (T : Txt P w K mg) (f : Addr) (cdv : Value) (A : Around) (outer : List Env) (s : Shared) (H : Hp) (E : XK) (hr : Room 1 (A.deeper (envOfC "_law_bent" (defScope st__law_bent) s.heap.objs.size f cdv))) :
    SS (cxOf (L2.CX P w) P w K mg base ["_law_box_here", "_law_step", "_law_items", "_law_odd", "_law_at", "_law_way"] "_law_bent" (defScope st__law_bent) f cdv A outer s H E) (fun cls d _ H => E cls d H) (defBody st__law_bent) b_law_bent := by
  have tk := takes_of (X := cxOf (L2.CX P w) P w K mg base ["_law_box_here", "_law_step", "_law_items", "_law_odd", "_law_at", "_law_way"] "_law_bent" (defScope st__law_bent) f cdv A outer s H E) rfl rfl rfl rfl
  have hp := passes_of (X := cxOf (L2.CX P w) P w K mg base ["_law_box_here", "_law_step", "_law_items", "_law_odd", "_law_at", "_law_way"] "_law_bent" (defScope st__law_bent) f cdv A outer s H E) rfl
  exact (ss_cons (s_set 2 sc__law_bent.nd (se_callTy call_list_of (c_list (c := true)) T.n_list (sa_cons (se_v 1) sa_nil))) (ss_cons (s_set 3 sc__law_bent.nd (se_ix (se_lst false (sa_cons (se_str []) (sa_cons (se_str [116, 97, 98, 108, 101]) (sa_cons (se_str [108, 111, 99, 107]) (sa_cons (se_str [111, 108, 100]) (sa_cons (se_str [101, 110, 100]) (sa_cons se_int (sa_cons se_non (sa_cons (se_str [65]) (sa_cons (se_str [116, 111, 111, 108, 111, 110, 103, 101, 114]) (sa_cons (se_str [112, 113]) (sa_cons (se_str [115, 104, 97, 114, 101]) sa_nil)))))))))))) (se_fn (ok__law_take T) (hr.mono (by decide)) tk (sa_cons (se_v 0) (sa_cons se_int sa_nil))))) (ss_cons (s_par 4 5 rfl sc__law_bent.nd (sa_cons (se_fn (ok__law_take T) (hr.mono (by decide)) tk (sa_cons (se_v 0) (sa_cons (se_op or_add (o_add (c := false)) (se_callB call_len c_len T.n_len (sa_cons (se_v 2) sa_nil)) se_int) sa_nil))) (sa_cons (se_fn (ok__law_take T) (hr.mono (by decide)) tk (sa_cons (se_v 0) (sa_cons se_int sa_nil))) sa_nil))) (ss_cons (s_if (st_sc (sc_op (op_eqO hr.units) o_eq (se_v 5) se_int)) (ss_one (s_expr (se_bm PySem.F.plainAttrs_list PySem.F.slot_list_insert PySem.F.type_list_insert mt_insert m_insert (se_v 2) (sa_cons (se_v 4) (sa_cons (se_v 3) sa_nil))))) ss_nil) (ss_cons (s_if (st_w (sw_and (st_sc (sc_op (op_eqO hr.units) o_eq (se_v 5) se_int)) (sw_and1 (st_sc (sc_op or_lt o_lt (se_v 4) (se_callB call_len c_len T.n_len (sa_cons (se_v 2) sa_nil))))))) (ss_one (s_setIx (se_v 2) (se_v 4) (se_v 3))) ss_nil) (ss_cons (s_if (st_sc (sc_op (op_eqO hr.units) o_eq (se_v 5) se_int)) (ss_one (s_ret (se_v 2))) ss_nil) (ss_cons (s_if (st_sc (sc_op (op_eqO hr.units) o_eq (se_v 5) se_int)) (ss_one (s_ret (se_callTy cr_tup c_tup T.n_tuple (sa_cons (se_sl false (se_v 2) so_none (so_some (se_neg se_int))) sa_nil)))) ss_nil) (ss_one (s_ret (se_callTy cr_tup c_tup T.n_tuple (sa_cons (se_v 2) sa_nil)))))))))))
theorem ok__law_bent {P : Program} {w : World} {K : PySem.W.Frag} {mg : Str → Option Value} {base : Heap} (T : Txt P w K mg) : Callable P w K mg base 2 "_law_bent" 2 [] f_law_bent :=
  T.d__law_bent.call (k := 1) sc__law_bent (bd_law_bent T)
instance : FS b_law_kinds := by unfold b_law_kinds; infer_instance
instance : FF f_law_kinds := by unfold f_law_kinds; infer_instance
theorem bd_law_kinds {P : Program} {w : World} {K : PySem.W.Frag} {mg : Str → Option Value} {base : Heap} (T : Txt P w K mg) (f : Addr) (cdv : Value) (A : Around) (outer : List Env) (s : Shared) (H : Hp) (E : XK) (hr : Room 0 (A.deeper (envOfC "_law_kinds" (defScope st__law_kinds) s.heap.objs.size f cdv))) :
    SS (cxOf (L2.CX P w) P w K mg base [] "_law_kinds" (defScope st__law_kinds) f cdv A outer s H E) (fun cls d _ H => E cls d H) (defBody st__law_kinds) b_law_kinds := by
  have tk := takes_of (X := cxOf (L2.CX P w) P w K mg base [] "_law_kinds" (defScope st__law_kinds) f cdv A outer s H E) rfl rfl rfl rfl
  have hp := passes_of (X := cxOf (L2.CX P w) P w K mg base [] "_law_kinds" (defScope st__law_kinds) f cdv A outer s H E) rfl
  exact (ss_one (s_ret (se_lst false (sa_cons (se_str [112, 117, 116]) (sa_cons (se_str [115, 116, 114, 105, 107, 101]) (sa_cons (se_str [114, 101, 97, 100]) (sa_cons (se_str [100, 105, 114, 101, 99, 116]) (sa_cons (se_str [104, 97, 110, 103]) (sa_cons (se_str [116, 97, 107, 101]) (sa_cons (se_str [115, 112, 108, 105, 116]) (sa_cons (se_str [106, 111, 105, 110]) sa_nil)))))))))))
theorem ok__law_kinds {P : Program} {w : World} {K : PySem.W.Frag} {mg : Str → Option Value} {base : Heap} (T : Txt P w K mg) : Callable P w K mg base 1 "_law_kinds" 0 [] f_law_kinds :=
  T.d__law_kinds.call (k := 0) sc__law_kinds (bd_law_kinds T)
instance : FS b_need_kind := by unfold b_need_kind; infer_instance
instance : FF f_need_kind := by unfold f_need_kind; infer_instance
theorem bd_need_kind {P : Program} {w : World} {K : PySem.W.Frag} {mg : Str → Option Value} {base : Heap} (T : Txt P w K mg) (f : Addr) (cdv : Value) (A : Around) (outer : List Env) (s : Shared) (H : Hp) (E : XK) (hr : Room 0 (A.deeper (envOfC "need_kind" (defScope st_need_kind) s.heap.objs.size f cdv))) :
    SS (cxOf (L2.CX P w) P w K mg base ["kind"] "need_kind" (defScope st_need_kind) f cdv A outer s H E) (fun cls d _ H => E cls d H) (defBody st_need_kind) b_need_kind := by
  have tk := takes_of (X := cxOf (L2.CX P w) P w K mg base ["kind"] "need_kind" (defScope st_need_kind) f cdv A outer s H E) rfl rfl rfl rfl
  have hp := passes_of (X := cxOf (L2.CX P w) P w K mg base ["kind"] "need_kind" (defScope st_need_kind) f cdv A outer s H E) rfl
  exact (ss_one (s_if (st_sc (sc_notInX hr.units (se_v 0) (se_gtup [[112, 117, 116], [115, 116, 114, 105, 107, 101], [114, 101, 97, 100], [100, 105, 114, 101, 99, 116], [104, 97, 110, 103], [116, 97, 107, 101], [115, 112, 108, 105, 116], [106, 111, 105, 110]] T.c_KINDS.choose_spec.1 T.c_KINDS.choose_spec.2))) (ss_one (s_raise1 rfl tk (T.x_NoProgram.choose_spec.2 _) T.x_NoProgram.choose_spec.1 T.n_super hr (se_v 0))) ss_nil))
theorem ok_need_kind {P : Program} {w : World} {K : PySem.W.Frag} {mg : Str → Option Value} {base : Heap} (T : Txt P w K mg) : Callable P w K mg base 1 "need_kind" 1 [] f_need_kind :=
  T.d_need_kind.call (k := 0) sc_need_kind (bd_need_kind T)
instance : FS b_is_name := by unfold b_is_name; infer_instance
instance : FF f_is_name := by unfold f_is_name; infer_instance
theorem bd_is_name {P : Program} {w : World} {K : PySem.W.Frag} {mg : Str → Option Value} {base : Heap} (T : Txt P w K mg) (f : Addr) (cdv : Value) (A : Around) (outer : List Env) (s : Shared) (H : Hp) (E : XK) (hr : Room 0 (A.deeper (envOfC "is_name" (defScope st_is_name) s.heap.objs.size f cdv))) :
    SS (cxOf (L2.CX P w) P w K mg base ["value", "sign"] "is_name" (defScope st_is_name) f cdv A outer s H E) (fun cls d _ H => E cls d H) (defBody st_is_name) b_is_name := by
  have tk := takes_of (X := cxOf (L2.CX P w) P w K mg base ["value", "sign"] "is_name" (defScope st_is_name) f cdv A outer s H E) rfl rfl rfl rfl
  have hp := passes_of (X := cxOf (L2.CX P w) P w K mg base ["value", "sign"] "is_name" (defScope st_is_name) f cdv A outer s H E) rfl
  exact (ss_cons (s_if (st_w (sw_or (st_not (st_val (se_isi ii_str T.n_isinstance T.n_str (se_v 0)))) (sw_or (st_sc (sc_op (op_eqO hr.units) o_eq (se_v 0) (se_gstr [116, 97, 98, 108, 101] T.c_TABLE.choose_spec))) (sw_or1 (st_not (st_chain or_le o_le or_le o_le se_int (se_callB call_len c_len T.n_len (sa_cons (se_v 0) sa_nil)) (se_gint 8 T.c_MOST_LETTERS.choose_spec))))))) (ss_one (s_ret se_bl)) ss_nil) (ss_one (s_ret (se_callB (cr_all rfl) c_all T.n_all (sa_cons (se_lc false (own := [("sign", 1)]) rfl sc_is_name.nd (i_val (se_v 0)) (blkOk_by (N := ["value", "sign"]) (sc := defScope st_is_name) (by decide +kernel)) (fun _ _ _ _ _ => (g_name 1 sc_is_name.nd)) (fun _ _ _ _ _ => sts_nil) (fun _ _ _ _ _ => (se_sc (sc_op or_in o_in (se_v 1) (se_gstr [97, 98, 99, 100, 101, 102, 103, 104, 105, 106, 107, 108, 109, 110, 111, 112, 113, 114, 115, 116, 117, 118, 119, 120, 121, 122] T.c_LETTERS.choose_spec)))) (by decide)) sa_nil)))))
theorem ok_is_name {P : Program} {w : World} {K : PySem.W.Frag} {mg : Str → Option Value} {base : Heap} (T : Txt P w K mg) : Callable P w K mg base 1 "is_name" 1 [] f_is_name :=
  T.d_is_name.call (k := 0) sc_is_name (bd_is_name T)
instance : FS b_has_step := by unfold b_has_step; infer_instance
instance : FF f_has_step := by unfold f_has_step; infer_instance
theorem bd_has_step {P : Program} {w : World} {K : PySem.W.Frag} {mg : Str → Option Value} {base : Heap} (T : Txt P w K mg) (f : Addr) (cdv : Value) (A : Around) (outer : List Env) (s : Shared) (H : Hp) (E : XK) (hr : Room 1 (A.deeper (envOfC "has_step" (defScope st_has_step) s.heap.objs.size f cdv))) :
    SS (cxOf (L2.CX P w) P w K mg base ["value", "kind", "item"] "has_step" (defScope st_has_step) f cdv A outer s H E) (fun cls d _ H => E cls d H) (defBody st_has_step) b_has_step := by
  have tk := takes_of (X := cxOf (L2.CX P w) P w K mg base ["value", "kind", "item"] "has_step" (defScope st_has_step) f cdv A outer s H E) rfl rfl rfl rfl
  have hp := passes_of (X := cxOf (L2.CX P w) P w K mg base ["value", "kind", "item"] "has_step" (defScope st_has_step) f cdv A outer s H E) rfl
  exact (ss_cons (s_if (st_w (sw_or (st_not (st_val (se_isi ii_tuple T.n_isinstance T.n_tuple (se_v 0)))) (sw_or (st_sc (sc_op (op_eqO hr.units) o_eq (se_callB call_len c_len T.n_len (sa_cons (se_v 0) sa_nil)) se_int)) (sw_or1 (st_not (st_val (se_callB (cr_all rfl) c_all T.n_all (sa_cons (se_lc false (own := [("item", 2)]) rfl sc_has_step.nd (i_val (se_v 0)) (blkOk_by (N := ["value", "kind", "item"]) (sc := defScope st_has_step) (by decide +kernel)) (fun _ _ _ _ _ => (g_name 2 sc_has_step.nd)) (fun _ _ _ _ _ => sts_nil) (fun _ _ _ _ _ => (se_isi ii_str T.n_isinstance T.n_str (se_v 2))) (by decide)) sa_nil)))))))) (ss_one (s_ret se_bl)) ss_nil) (ss_cons (s_if (st_sc (sc_op (op_eqO hr.units) o_eq (se_callB call_len c_len T.n_len (sa_cons (se_v 0) sa_nil)) se_int)) (ss_one (s_ret (se_and (se_sc (sc_kin T.t_PLAIN_STEPS.choose_spec.2 T.t_PLAIN_STEPS.choose_spec.1 (se_ix (se_v 0) se_int))) (se_one (se_sc (sc_inX hr.units (se_v 1) (se_kix (T.t_PLAIN_STEPS.choose_spec.2) T.t_PLAIN_STEPS.choose_spec.1 (se_ix (se_v 0) se_int)))))))) ss_nil) (ss_cons (s_if (st_sc (sc_op (op_eqO hr.units) o_eq (se_ix (se_v 0) se_int) (se_str [115, 99, 97, 110]))) (ss_one (s_ret (se_and (se_sc (sc_op (op_eqO hr.units) o_eq (se_v 1) (se_str [104, 97, 110, 103]))) (se_and (se_sc (sc_op (op_eqO hr.units) o_eq (se_callB call_len c_len T.n_len (sa_cons (se_v 0) sa_nil)) se_int)) (se_one (se_sc (sc_inX hr.units (se_ix (se_v 0) se_int) (se_tup (sa_cons (se_str [110, 101, 119]) (sa_cons (se_str [114, 101, 115, 116]) sa_nil)))))))))) ss_nil) (ss_cons (s_if (st_w (sw_or (st_sc (sc_op (op_neO hr.units) o_ne (se_ix (se_v 0) se_int) (se_str [108, 111, 99, 107]))) (sw_or (st_sc (sc_op (op_neO hr.units) o_ne (se_callB call_len c_len T.n_len (sa_cons (se_v 0) sa_nil)) se_int)) (sw_or1 (st_sc (sc_knotin T.t_LOCKED.choose_spec.2 T.t_LOCKED.choose_spec.1 (se_ix (se_v 0) se_int))))))) (ss_one (s_ret se_bl)) ss_nil) (ss_one (s_ret (se_and (se_sc (sc_inX hr.units (se_v 1) (se_kix (T.t_LOCKED.choose_spec.2) T.t_LOCKED.choose_spec.1 (se_ix (se_v 0) se_int)))) (se_one (se_fn (ok_is_name T) (hr.mono (by decide)) tk (sa_cons (se_ix (se_v 0) se_int) sa_nil))))))))))
theorem ok_has_step {P : Program} {w : World} {K : PySem.W.Frag} {mg : Str → Option Value} {base : Heap} (T : Txt P w K mg) : Callable P w K mg base 2 "has_step" 2 [] f_has_step :=
  T.d_has_step.call (k := 1) sc_has_step (bd_has_step T)
instance : FS b_is_step := by unfold b_is_step; infer_instance
instance : FF f_is_step := by unfold f_is_step; infer_instance
theorem bd_is_step {P : Program} {w : World} {K : PySem.W.Frag} {mg : Str → Option Value} {base : Heap} (T : Txt P w K mg) (f : Addr) (cdv : Value) (A : Around) (outer : List Env) (s : Shared) (H : Hp) (E : XK) (hr : Room 2 (A.deeper (envOfC "is_step" (defScope st_is_step) s.heap.objs.size f cdv))) :
    SS (cxOf (L2.CX P w) P w K mg base ["value", "kind"] "is_step" (defScope st_is_step) f cdv A outer s H E) (fun cls d _ H => E cls d H) (defBody st_is_step) b_is_step := by
  have tk := takes_of (X := cxOf (L2.CX P w) P w K mg base ["value", "kind"] "is_step" (defScope st_is_step) f cdv A outer s H E) rfl rfl rfl rfl
  have hp := passes_of (X := cxOf (L2.CX P w) P w K mg base ["value", "kind"] "is_step" (defScope st_is_step) f cdv A outer s H E) rfl
  exact (ss_cons (s_expr (se_fn (ok_need_kind T) (hr.mono (by decide)) tk (sa_cons (se_v 1) sa_nil))) (ss_one (s_ret (se_fn (ok_has_step T) (hr.mono (by decide)) tk (sa_cons (se_v 0) (sa_cons (se_v 1) sa_nil))))))
theorem ok_is_step {P : Program} {w : World} {K : PySem.W.Frag} {mg : Str → Option Value} {base : Heap} (T : Txt P w K mg) : Callable P w K mg base 3 "is_step" 2 [] f_is_step :=
  T.d_is_step.call (k := 2) sc_is_step (bd_is_step T)
theorem okk_is_step_0_kind_value {P : Program} {w : World} {K : PySem.W.Frag} {mg : Str → Option Value} {base : Heap} (T : Txt P w K mg) : CallableK P w K mg base 3 "is_step" 0 ["kind", "value"] [1, 0] f_is_step :=
  T.k_is_step_0_kind_value.call (k := 2) sc_is_step rfl (by decide) (bd_is_step T)
instance : FS b_law_told := by unfold b_law_told; infer_instance
instance : FF f_law_told := by unfold f_law_told; infer_instance
theorem bd_law_told {P : Program} {w : World} {K : PySem.W.Frag} {mg : Str → Option Value} {base : Heap} (T : Txt P w K mg) (f : Addr) (cdv : Value) (A : Around) (outer : List Env) (s : Shared) (H : Hp) (E : XK) (hr : Room 3 (A.deeper (envOfC "_law_told" (defScope st__law_told) s.heap.objs.size f cdv))) :
    SS (cxOf (L2.CX P w) P w K mg base ["_law_thing", "_law_sort", "e"] "_law_told" (defScope st__law_told) f cdv A outer s H E) (fun cls d _ H => E cls d H) (defBody st__law_told) b_law_told := by
  have tk := takes_of (X := cxOf (L2.CX P w) P w K mg base ["_law_thing", "_law_sort", "e"] "_law_told" (defScope st__law_told) f cdv A outer s H E) rfl rfl rfl rfl
  have hp := passes_of (X := cxOf (L2.CX P w) P w K mg base ["_law_thing", "_law_sort", "e"] "_law_told" (defScope st__law_told) f cdv A outer s H E) rfl
  exact (ss_one (s_try rfl rfl sc__law_told.nd tk (fun W pn xe tk hp => (ss_one (s_ret (se_lst false (sa_cons (se_str [116, 111, 108, 100]) (sa_cons (se_fnK0 (okk_is_step_0_kind_value T) (hr.mono (by decide)) tk (sk_cons (se_v 1) (sk_cons (se_v 0) sk_nil))) sa_nil)))))) (.named (C := T.x_NoProgram.choose) rfl rfl T.x_NoProgram.choose_spec.1 ⟨rfl, by decide, .inl T.x_NoProgram.choose_spec.1⟩ (T.m_NoProgram _ T.x_NoProgram.choose_spec.1) (leaf_of (by decide)) rfl rfl (bl_ret (bl_lst (bl_cons bl_c (bl_cons bl_fld bl_nil)))) (fun a dd oe pn hz hf => (ss_one (s_ret (se_lst false (sa_cons (se_str [107, 105, 110, 100]) (sa_cons (se_fld 2 (T.x_NoProgram.choose_spec.2 w).xf (T.x_NoProgram.choose_spec.2 w).noN hz hf) sa_nil)))))) .nil)))
theorem ok__law_told {P : Program} {w : World} {K : PySem.W.Frag} {mg : Str → Option Value} {base : Heap} (T : Txt P w K mg) : Callable P w K mg base 4 "_law_told" 2 [] f_law_told :=
  T.d__law_told.call (k := 3) sc__law_told (bd_law_told T)
instance : FS b_law_drawn_step := by unfold b_law_drawn_step; infer_instance
instance : FF f_law_drawn_step := by unfold f_law_drawn_step; infer_instance
theorem bd_law_drawn_step {P : Program} {w : World} {K : PySem.W.Frag} {mg : Str → Option Value} {base : Heap} (T : Txt P w K mg) (f : Addr) (cdv : Value) (A : Around) (outer : List Env) (s : Shared) (H : Hp) (E : XK) (hr : Room 1 (A.deeper (envOfC "_law_drawn_step" (defScope st__law_drawn_step) s.heap.objs.size f cdv))) :
    SS (cxOf (L2.CX P w) P w K mg base ["_law_box_here", "_law_modes", "_law_plain", "_law_where"] "_law_drawn_step" (defScope st__law_drawn_step) f cdv A outer s H E) (fun cls d _ H => E cls d H) (defBody st__law_drawn_step) b_law_drawn_step := by
  have tk := takes_of (X := cxOf (L2.CX P w) P w K mg base ["_law_box_here", "_law_modes", "_law_plain", "_law_where"] "_law_drawn_step" (defScope st__law_drawn_step) f cdv A outer s H E) rfl rfl rfl rfl
  have hp := passes_of (X := cxOf (L2.CX P w) P w K mg base ["_law_box_here", "_law_modes", "_law_plain", "_law_where"] "_law_drawn_step" (defScope st__law_drawn_step) f cdv A outer s H E) rfl
  exact (ss_cons (s_set 2 sc__law_drawn_step.nd (se_lst false (sa_cons (se_str [108, 111, 111, 107]) (sa_cons (se_str [97, 103, 97, 105, 110]) (sa_cons (se_str [98, 111, 114, 100, 101, 114]) (sa_cons (se_str [107, 101, 121]) (sa_cons (se_str [112, 117, 116]) (sa_cons (se_str [99, 108, 97, 105, 109]) (sa_cons (se_str [115, 116, 114, 105, 107, 101]) sa_nil))))))))) (ss_cons (s_set 2 sc__law_drawn_step.nd (se_op or_add (o_add (c := false)) (se_v 2) (se_lst false (sa_cons (se_str [118, 105, 101, 119]) (sa_cons (se_str [114, 101, 97, 100]) (sa_cons (se_str [109, 111, 118, 101]) (sa_cons (se_str [115, 119, 105, 116, 99, 104]) (sa_cons (se_str [119, 97, 105, 116]) (sa_cons (se_str [99, 108, 111, 115, 101]) sa_nil))))))))) (ss_cons (s_if (st_sc (sc_op (op_eqO hr.units) o_eq (se_fn (ok__law_take T) (hr.mono (by decide)) tk (sa_cons (se_v 0) (sa_cons se_int sa_nil))) se_int)) (ss_cons (s_set 3 sc__law_drawn_step.nd (se_ix (se_lst false (sa_cons (se_str [116, 97, 98, 108, 101]) (sa_cons (se_str [112, 97, 114, 116]) (sa_cons (se_str [111, 108, 100]) (sa_cons (se_str [110, 101, 119]) (sa_cons (se_str [114, 101, 115, 116]) sa_nil)))))) (se_fn (ok__law_take T) (hr.mono (by decide)) tk (sa_cons (se_v 0) (sa_cons se_int sa_nil))))) (ss_one (s_ret (se_tup (sa_cons (se_str [108, 111, 99, 107]) (sa_cons (se_v 3) (sa_cons (se_ix (se_v 1) (se_fn (ok__law_take T) (hr.mono (by decide)) tk (sa_cons (se_v 0) (sa_cons (se_callB call_len c_len T.n_len (sa_cons (se_v 1) sa_nil)) sa_nil)))) sa_nil))))))) ss_nil) (ss_cons (s_if (st_sc (sc_op (op_eqO hr.units) o_eq (se_fn (ok__law_take T) (hr.mono (by decide)) tk (sa_cons (se_v 0) (sa_cons se_int sa_nil))) se_int)) (ss_one (s_ret (se_tup (sa_cons (se_str [115, 99, 97, 110]) (sa_cons (se_ix (se_lst false (sa_cons (se_str [110, 101, 119]) (sa_cons (se_str [114, 101, 115, 116]) sa_nil))) (se_fn (ok__law_take T) (hr.mono (by decide)) tk (sa_cons (se_v 0) (sa_cons se_int sa_nil)))) sa_nil))))) ss_nil) (ss_one (s_ret (se_tup (sa_cons (se_ix (se_v 2) (se_fn (ok__law_take T) (hr.mono (by decide)) tk (sa_cons (se_v 0) (sa_cons se_int sa_nil)))) sa_nil))))))))
theorem ok__law_drawn_step {P : Program} {w : World} {K : PySem.W.Frag} {mg : Str → Option Value} {base : Heap} (T : Txt P w K mg) : Callable P w K mg base 2 "_law_drawn_step" 2 [] f_law_drawn_step :=
  T.d__law_drawn_step.call (k := 1) sc__law_drawn_step (bd_law_drawn_step T)
instance : FS b_law_is_name := by unfold b_law_is_name; infer_instance
instance : FF f_law_is_name := by unfold f_law_is_name; infer_instance
theorem bd_law_is_name {P : Program} {w : World} {K : PySem.W.Frag} {mg : Str → Option Value} {base : Heap} (T : Txt P w K mg) (f : Addr) (cdv : Value) (A : Around) (outer : List Env) (s : Shared) (H : Hp) (E : XK) (hr : Room 0 (A.deeper (envOfC "_law_is_name" (defScope st__law_is_name) s.heap.objs.size f cdv))) :
    SS (cxOf (L2.CX P w) P w K mg base ["_law_thing", "_law_sign"] "_law_is_name" (defScope st__law_is_name) f cdv A outer s H E) (fun cls d _ H => E cls d H) (defBody st__law_is_name) b_law_is_name := by
  have tk := takes_of (X := cxOf (L2.CX P w) P w K mg base ["_law_thing", "_law_sign"] "_law_is_name" (defScope st__law_is_name) f cdv A outer s H E) rfl rfl rfl rfl
  have hp := passes_of (X := cxOf (L2.CX P w) P w K mg base ["_law_thing", "_law_sign"] "_law_is_name" (defScope st__law_is_name) f cdv A outer s H E) rfl
  exact (ss_cons (s_if (st_w (sw_or (st_not (st_val (se_isi ii_str T.n_isinstance T.n_str (se_v 0)))) (sw_or (st_sc (sc_op (op_eqO hr.units) o_eq (se_v 0) (se_str [116, 97, 98, 108, 101]))) (sw_or (st_sc (sc_op or_lt o_lt (se_callB call_len c_len T.n_len (sa_cons (se_v 0) sa_nil)) se_int)) (sw_or1 (st_sc (sc_op or_gt o_gt (se_callB call_len c_len T.n_len (sa_cons (se_v 0) sa_nil)) se_int))))))) (ss_one (s_ret se_bl)) ss_nil) (ss_one (s_ret (se_sc (sc_op (op_eqO hr.units) o_eq (se_lc false (own := [("_law_sign", 1)]) rfl sc__law_is_name.nd (i_val (se_v 0)) (blkOk_by (N := ["_law_thing", "_law_sign"]) (sc := defScope st__law_is_name) (by decide +kernel)) (fun _ _ _ _ _ => (g_name 1 sc__law_is_name.nd)) (fun _ _ _ _ _ => (sts_one (st_sc (sc_op or_notIn o_notIn (se_v 1) (se_str [97, 98, 99, 100, 101, 102, 103, 104, 105, 106, 107, 108, 109, 110, 111, 112, 113, 114, 115, 116, 117, 118, 119, 120, 121, 122]))))) (fun _ _ _ _ _ => (se_v 1)) (by decide)) (se_lst false sa_nil))))))
theorem ok__law_is_name {P : Program} {w : World} {K : PySem.W.Frag} {mg : Str → Option Value} {base : Heap} (T : Txt P w K mg) : Callable P w K mg base 1 "_law_is_name" 1 [] f_law_is_name :=
  T.d__law_is_name.call (k := 0) sc__law_is_name (bd_law_is_name T)
instance : FS b_law_is_step := by unfold b_law_is_step; infer_instance
instance : FF f_law_is_step := by unfold f_law_is_step; infer_instance
theorem bd_law_is_step {P : Program} {w : World} {K : PySem.W.Frag} {mg : Str → Option Value} {base : Heap} (T : Txt P w K mg) (f : Addr) (cdv : Value) (A : Around) (outer : List Env) (s : Shared) (H : Hp) (E : XK) (hr : Room 1 (A.deeper (envOfC "_law_is_step" (defScope st__law_is_step) s.heap.objs.size f cdv))) :
    SS (cxOf (L2.CX P w) P w K mg base ["_law_thing", "_law_sort", "_law_where", "_law_word", "_law_askers", "_law_changes", "_law_at", "_law_item"] "_law_is_step" (defScope st__law_is_step) f cdv A outer s H E) (fun cls d _ H => E cls d H) (defBody st__law_is_step) b_law_is_step := by
  have tk := takes_of (X := cxOf (L2.CX P w) P w K mg base ["_law_thing", "_law_sort", "_law_where", "_law_word", "_law_askers", "_law_changes", "_law_at", "_law_item"] "_law_is_step" (defScope st__law_is_step) f cdv A outer s H E) rfl rfl rfl rfl
  have hp := passes_of (X := cxOf (L2.CX P w) P w K mg base ["_law_thing", "_law_sort", "_law_where", "_law_word", "_law_askers", "_law_changes", "_law_at", "_law_item"] "_law_is_step" (defScope st__law_is_step) f cdv A outer s H E) rfl
  exact (ss_cons (s_par 4 5 rfl sc__law_is_step.nd (sa_cons (se_lst false (sa_cons (se_str [112, 117, 116]) (sa_cons (se_str [115, 116, 114, 105, 107, 101]) (sa_cons (se_str [114, 101, 97, 100]) sa_nil)))) (sa_cons (se_lst false (sa_cons (se_str [104, 97, 110, 103]) (sa_cons (se_str [116, 97, 107, 101]) (sa_cons (se_str [115, 112, 108, 105, 116]) (sa_cons (se_str [106, 111, 105, 110]) sa_nil))))) sa_nil))) (ss_cons (s_if (st_w (sw_or (st_not (st_val (se_isi ii_tuple T.n_isinstance T.n_tuple (se_v 0)))) (sw_or (st_sc (sc_op (op_eqO hr.units) o_eq (se_v 0) (se_tup sa_nil))) (sw_or1 (st_sc (sc_op (op_neO hr.units) o_ne (se_lc false (own := [("_law_item", 7)]) rfl sc__law_is_step.nd (i_val (se_v 0)) (blkOk_by (N := ["_law_thing", "_law_sort", "_law_where", "_law_word", "_law_askers", "_law_changes", "_law_at", "_law_item"]) (sc := defScope st__law_is_step) (by decide +kernel)) (fun _ _ _ _ _ => (g_name 7 sc__law_is_step.nd)) (fun _ _ _ _ _ => (sts_one (st_not (st_val (se_isi ii_str T.n_isinstance T.n_str (se_v 7)))))) (fun _ _ _ _ _ => (se_v 7)) (by decide)) (se_lst false sa_nil))))))) (ss_one (s_ret se_bl)) ss_nil) (ss_cons (s_if (st_sc (sc_op (op_eqO hr.units) o_eq (se_ix (se_v 0) se_int) (se_str [108, 111, 99, 107]))) (ss_cons (s_if (st_w (sw_or (st_sc (sc_op (op_neO hr.units) o_ne (se_callB call_len c_len T.n_len (sa_cons (se_v 0) sa_nil)) se_int)) (sw_or1 (st_not (st_val (se_fn (ok__law_is_name T) (hr.mono (by decide)) tk (sa_cons (se_ix (se_v 0) se_int) sa_nil))))))) (ss_one (s_ret se_bl)) ss_nil) (ss_cons (s_set 6 sc__law_is_step.nd (se_disp true (sps_cons (se_str [116, 97, 98, 108, 101]) (se_op or_add (o_add (c := false)) (se_v 4) (se_v 5)) (sps_cons (se_str [112, 97, 114, 116]) (se_op or_add (o_add (c := false)) (se_v 4) (se_lst false (sa_cons (se_str [100, 105, 114, 101, 99, 116]) sa_nil))) (sps_cons (se_str [111, 108, 100]) (se_sl false (se_v 5) (so_some se_int) so_none) (sps_cons (se_str [114, 101, 115, 116]) (se_v 5) sps_nil)))))) (ss_cons (s_setKey hr.units (se_v 6) (se_str [110, 101, 119]) (se_lst false (sa_cons (se_str [104, 97, 110, 103]) (sa_cons (se_str [115, 112, 108, 105, 116]) (sa_cons (se_str [106, 111, 105, 110]) sa_nil))))) (ss_one (s_ret (se_sc (sc_inX hr.units (se_v 1) (se_get2 hr.units (se_v 6) (se_ix (se_v 0) se_int) (se_lst false sa_nil))))))))) ss_nil) (ss_cons (s_if (st_sc (sc_op (op_eqO hr.units) o_eq (se_ix (se_v 0) se_int) (se_str [115, 99, 97, 110]))) (ss_one (s_ret (se_and (se_sc (sc_op (op_eqO hr.units) o_eq (se_v 1) (se_str [104, 97, 110, 103]))) (se_one (se_sc (sc_inX hr.units (se_sl false (se_v 0) (so_some se_int) so_none) (se_lst false (sa_cons (se_tup (sa_cons (se_str [110, 101, 119]) sa_nil)) (sa_cons (se_tup (sa_cons (se_str [114, 101, 115, 116]) sa_nil)) sa_nil))))))))) ss_nil) (ss_cons (s_if (st_sc (sc_op (op_neO hr.units) o_ne (se_callB call_len c_len T.n_len (sa_cons (se_v 0) sa_nil)) se_int)) (ss_one (s_ret se_bl)) ss_nil) (ss_cons (s_set 2 sc__law_is_step.nd (se_disp true (sps_cons (se_str [108, 111, 111, 107]) (se_v 4) (sps_cons (se_str [97, 103, 97, 105, 110]) (se_v 4) (sps_cons (se_str [98, 111, 114, 100, 101, 114]) (se_lst false (sa_cons (se_str [100, 105, 114, 101, 99, 116]) sa_nil)) (sps_cons (se_str [115, 116, 114, 105, 107, 101]) (se_lst false (sa_cons (se_str [115, 116, 114, 105, 107, 101]) sa_nil)) (sps_cons (se_str [101, 110, 100]) (se_fn0 (ok__law_kinds T) (hr.mono (by decide)) tk) sps_nil))))))) (ss_cons (s_for hp rfl (i_val (se_lst false (sa_cons (se_str [107, 101, 121]) (sa_cons (se_str [112, 117, 116]) (sa_cons (se_str [99, 108, 97, 105, 109]) sa_nil))))) (g_name 3 sc__law_is_step.nd) (ss_one (s_setKey hr.units (se_v 2) (se_v 3) (se_lst false (sa_cons (se_str [112, 117, 116]) (sa_cons (se_str [100, 105, 114, 101, 99, 116]) sa_nil)))))) (ss_cons (s_for hp rfl (i_val (se_lst false (sa_cons (se_str [118, 105, 101, 119]) (sa_cons (se_str [114, 101, 97, 100]) sa_nil)))) (g_name 3 sc__law_is_step.nd) (ss_one (s_setKey hr.units (se_v 2) (se_v 3) (se_lst false (sa_cons (se_str [114, 101, 97, 100]) sa_nil))))) (ss_cons (s_for hp rfl (i_val (se_lst false (sa_cons (se_str [115, 119, 105, 116, 99, 104]) (sa_cons (se_str [119, 97, 105, 116]) (sa_cons (se_str [99, 108, 111, 115, 101]) sa_nil))))) (g_name 3 sc__law_is_step.nd) (ss_one (s_setKey hr.units (se_v 2) (se_v 3) (se_v 5)))) (ss_cons (s_setKey hr.units (se_v 2) (se_str [109, 111, 118, 101]) (se_lst false (sa_cons (se_str [115, 112, 108, 105, 116]) (sa_cons (se_str [106, 111, 105, 110]) sa_nil)))) (ss_one (s_ret (se_sc (sc_inX hr.units (se_v 1) (se_get2 hr.units (se_v 2) (se_ix (se_v 0) se_int) (se_lst false sa_nil))))))))))))))))
theorem ok__law_is_step {P : Program} {w : World} {K : PySem.W.Frag} {mg : Str → Option Value} {base : Heap} (T : Txt P w K mg) : Callable P w K mg base 2 "_law_is_step" 2 [] f_law_is_step :=
  T.d__law_is_step.call (k := 1) sc__law_is_step (bd_law_is_step T)
instance : FS b_law := by unfold b_law; infer_instance
instance : FF f_law := by unfold f_law; infer_instance
theorem bd_law {P : Program} {w : World} {K : PySem.W.Frag} {mg : Str → Option Value} {base : Heap} (T : Txt P w K mg) (f : Addr) (cdv : Value) (A : Around) (outer : List Env) (s : Shared) (H : Hp) (E : XK) (hr : Room 4 (A.deeper (envOfC "law" (defScope st_law) s.heap.objs.size f cdv))) :
    SS (cxOf (L2.CX P w) P w K mg base ["_law_script", "_law_k", "_law_box_here", "_law_modes", "_law_turn", "_law_strange", "_law_step", "_law_odd", "_law_thing", "_law_sort", "_law_told_here"] "law" (defScope st_law) f cdv A outer s H E) (fun cls d _ H => E cls d H) (defBody st_law) b_law := by
  have tk := takes_of (X := cxOf (L2.CX P w) P w K mg base ["_law_script", "_law_k", "_law_box_here", "_law_modes", "_law_turn", "_law_strange", "_law_step", "_law_odd", "_law_thing", "_law_sort", "_law_told_here"] "law" (defScope st_law) f cdv A outer s H E) rfl rfl rfl rfl
  have hp := passes_of (X := cxOf (L2.CX P w) P w K mg base ["_law_script", "_law_k", "_law_box_here", "_law_modes", "_law_turn", "_law_strange", "_law_step", "_law_odd", "_law_thing", "_law_sort", "_law_told_here"] "law" (defScope st_law) f cdv A outer s H E) rfl
  exact (ss_cons (s_for hp rfl (i_range1 T.n_range (sa_cons (se_callB (call_max2 rfl) c_max2 T.n_max (sa_cons se_int (sa_cons (se_callB (call_min2 rfl) c_min2 T.n_min (sa_cons se_int (sa_cons (se_callB call_len c_len T.n_len (sa_cons (se_v 0) sa_nil)) sa_nil))) sa_nil))) sa_nil)) (g_name 1 sc_law.nd) (ss_cons (s_set 2 sc_law.nd (se_fn (ok__law_box T) (hr.mono (by decide)) tk (sa_cons (se_fn (ok__law_cell T) (hr.mono (by decide)) tk (sa_cons (se_v 0) (sa_cons (se_v 1) sa_nil))) sa_nil))) (ss_cons (s_set 3 sc_law.nd (se_op or_add (o_add (c := false)) (se_frz (se_fn (ok__law_names T) (hr.mono (by decide)) tk (sa_cons (se_v 2) (sa_cons se_int sa_nil)))) (se_lst false (sa_cons (se_str [114, 101, 97, 100]) (sa_cons (se_str [101, 110, 100]) sa_nil))))) (ss_cons (s_for hp rfl (i_range1 T.n_range (sa_cons se_int sa_nil)) (g_name 4 sc_law.nd) (ss_cons (s_set 6 sc_law.nd (se_ix (se_lst false (sa_cons (se_fn (ok__law_drawn_step T) (hr.mono (by decide)) tk (sa_cons (se_v 2) (sa_cons (se_v 3) sa_nil))) (sa_cons (se_tup (sa_cons (se_str [101, 110, 100]) sa_nil)) sa_nil))) (se_callTy cr_int c_int T.n_int (sa_cons (se_sc (sc_op (op_eqO hr.units) o_eq (se_fn (ok__law_take T) (hr.mono (by decide)) tk (sa_cons (se_v 2) (sa_cons se_int sa_nil))) se_int)) sa_nil)))) (ss_cons (s_set 7 sc_law.nd (se_ix (se_lst false (sa_cons se_non (sa_cons se_int (sa_cons (se_str [108, 111, 111, 107]) (sa_cons (se_lst false sa_nil) (sa_cons (se_tup sa_nil) (sa_cons (se_dnew false) (sa_cons (se_tup (sa_cons (se_str [108, 111, 111, 107]) (sa_cons (se_str [108, 111, 111, 107]) sa_nil))) (sa_cons (se_tup (sa_cons se_int sa_nil)) (sa_cons (se_tup (sa_cons (se_str [108, 111, 99, 107]) sa_nil)) sa_nil)))))))))) (se_fn (ok__law_take T) (hr.mono (by decide)) tk (sa_cons (se_v 2) (sa_cons se_int sa_nil))))) (ss_one (s_for hp rfl (i_val (se_lst false (sa_cons (se_v 6) (sa_cons (se_frz (se_fn (ok__law_bent T) (hr.mono (by decide)) tk (sa_cons (se_v 2) (sa_cons (se_v 6) sa_nil)))) (sa_cons (se_v 7) sa_nil))))) (g_name 8 sc_law.nd) (ss_one (s_for hp rfl (i_val (se_fn0 (ok__law_kinds T) (hr.mono (by decide)) tk)) (g_name 9 sc_law.nd) (ss_cons (s_set 10 sc_law.nd (se_fn (ok_is_step T) (hr.mono (by decide)) tk (sa_cons (se_v 8) (sa_cons (se_v 9) sa_nil)))) (ss_one (s_if (st_w (sw_or (st_not (st_val (se_isi ii_bool T.n_isinstance T.n_bool (se_v 10)))) (sw_or1 (st_sc (sc_op (op_neO hr.units) o_ne (se_v 10) (se_fn (ok__law_is_step T) (hr.mono (by decide)) tk (sa_cons (se_v 8) (sa_cons (se_v 9) sa_nil)))))))) (ss_one (s_ret se_bl)) ss_nil)))))))))) (ss_cons (s_set 5 sc_law.nd (se_ix (se_lst false (sa_cons se_non (sa_cons se_int (sa_cons (se_str []) (sa_cons (se_str [109, 111, 118, 101]) (sa_cons (se_str [112, 117, 116, 115]) (sa_cons (se_tup (sa_cons (se_str [112, 117, 116]) sa_nil)) (sa_cons (se_lst false sa_nil) (sa_cons se_bl sa_nil))))))))) (se_fn (ok__law_take T) (hr.mono (by decide)) tk (sa_cons (se_v 2) (sa_cons se_int sa_nil))))) (ss_one (s_if (st_w (sw_or (st_sc (sc_op (op_neO hr.units) o_ne (se_fn (ok__law_told T) (hr.mono (by decide)) tk (sa_cons (se_tup (sa_cons (se_str [101, 110, 100]) sa_nil)) (sa_cons (se_v 5) sa_nil))) (se_lst false (sa_cons (se_str [107, 105, 110, 100]) (sa_cons (se_v 5) sa_nil))))) (sw_or1 (st_sc (sc_op (op_neO hr.units) o_ne (se_fn (ok__law_told T) (hr.mono (by decide)) tk (sa_cons se_int (sa_cons (se_v 5) sa_nil))) (se_lst false (sa_cons (se_str [107, 105, 110, 100]) (sa_cons (se_v 5) sa_nil)))))))) (ss_one (s_ret se_bl)) ss_nil))))))) (ss_one (s_ret se_bl)))
theorem ok_law {P : Program} {w : World} {K : PySem.W.Frag} {mg : Str → Option Value} {fa : Addr} (T : Txt P w K mg) (hfa : mg "law" = some (.ref fa)) : ∃ fd : FuncData, (∀ (s : Shared) (u : Value), BindsTo s fd ⟨[u], []⟩ [("_law_script", u)]) ∧ ∀ base : Heap, K.In base → base.Ns mainGlobals mg → FnOk P w K mg base (L2.CX P w) 5 fa fd ["_law_script"] (spS K mg 1 f_law) :=
  T.d_law.law (P := P) (w := w) (k := 4) hfa sc_law fun base f cdv A outer s H E hr => bd_law T f cdv A outer s H E hr
theorem txt_mk {P : Program} {w : World} {K : PySem.W.Frag} {h : Heap} {mg : Str → Option Value} (X : K.In h) (G : h.Ns mainGlobals mg)
    (anyK : PySem.W.nsIn K PySem.cStatics "thirdparty.any" = some none) (topK : (P.main.scope.names.lookup ("super" : Str)).isSome = false)
    {f0 : Addr} {od0 an0 : Option Addr} {sl0 : Array (Option Value)} {oc0 kV0 dc0 pm0 cd0 ct0 : Value} (a0 : PySem.W.nsIn K mainGlobals "_law_box" = some (some (.ref f0))) (l0 : K.lookup f0 = some ⟨oc0, od0, .func (PySem.W.fnOf "_law_box" "_law_box" (defArgs st__law_box) (defBody st__law_box) (defScope st__law_box) .none kV0 dc0 pm0 an0 cd0 ct0), sl0⟩) (c0 : PySem.W.codeIn K cd0 "_law_box" = true) (k0 : PySem.W.keepIn K (.ref f0) = true)
    {f1 : Addr} {od1 an1 : Option Addr} {sl1 : Array (Option Value)} {oc1 kV1 dc1 pm1 cd1 ct1 : Value} (a1 : PySem.W.nsIn K mainGlobals "_law_cell" = some (some (.ref f1))) (l1 : K.lookup f1 = some ⟨oc1, od1, .func (PySem.W.fnOf "_law_cell" "_law_cell" (defArgs st__law_cell) (defBody st__law_cell) (defScope st__law_cell) .none kV1 dc1 pm1 an1 cd1 ct1), sl1⟩) (c1 : PySem.W.codeIn K cd1 "_law_cell" = true) (k1 : PySem.W.keepIn K (.ref f1) = true)
    {f2 : Addr} {od2 an2 : Option Addr} {sl2 : Array (Option Value)} {oc2 kV2 dc2 pm2 cd2 ct2 : Value} (a2 : PySem.W.nsIn K mainGlobals "_law_take" = some (some (.ref f2))) (l2 : K.lookup f2 = some ⟨oc2, od2, .func (PySem.W.fnOf "_law_take" "_law_take" (defArgs st__law_take) (defBody st__law_take) (defScope st__law_take) .none kV2 dc2 pm2 an2 cd2 ct2), sl2⟩) (c2 : PySem.W.codeIn K cd2 "_law_take" = true) (k2 : PySem.W.keepIn K (.ref f2) = true)
    {f3 : Addr} {od3 an3 : Option Addr} {sl3 : Array (Option Value)} {oc3 kV3 dc3 pm3 cd3 ct3 : Value} (a3 : PySem.W.nsIn K mainGlobals "_law_mixed" = some (some (.ref f3))) (l3 : K.lookup f3 = some ⟨oc3, od3, .func (PySem.W.fnOf "_law_mixed" "_law_mixed" (defArgs st__law_mixed) (defBody st__law_mixed) (defScope st__law_mixed) .none kV3 dc3 pm3 an3 cd3 ct3), sl3⟩) (c3 : PySem.W.codeIn K cd3 "_law_mixed" = true) (k3 : PySem.W.keepIn K (.ref f3) = true)
    {f4 : Addr} {od4 an4 : Option Addr} {sl4 : Array (Option Value)} {oc4 kV4 dc4 pm4 cd4 ct4 : Value} (a4 : PySem.W.nsIn K mainGlobals "_law_names" = some (some (.ref f4))) (l4 : K.lookup f4 = some ⟨oc4, od4, .func (PySem.W.fnOf "_law_names" "_law_names" (defArgs st__law_names) (defBody st__law_names) (defScope st__law_names) .none kV4 dc4 pm4 an4 cd4 ct4), sl4⟩) (c4 : PySem.W.codeIn K cd4 "_law_names" = true) (k4 : PySem.W.keepIn K (.ref f4) = true)
    {f5 : Addr} {od5 an5 : Option Addr} {sl5 : Array (Option Value)} {oc5 kV5 dc5 pm5 cd5 ct5 : Value} (a5 : PySem.W.nsIn K mainGlobals "_law_bent" = some (some (.ref f5))) (l5 : K.lookup f5 = some ⟨oc5, od5, .func (PySem.W.fnOf "_law_bent" "_law_bent" (defArgs st__law_bent) (defBody st__law_bent) (defScope st__law_bent) .none kV5 dc5 pm5 an5 cd5 ct5), sl5⟩) (c5 : PySem.W.codeIn K cd5 "_law_bent" = true) (k5 : PySem.W.keepIn K (.ref f5) = true)
    {f6 : Addr} {od6 an6 : Option Addr} {sl6 : Array (Option Value)} {oc6 kV6 dc6 pm6 cd6 ct6 : Value} (a6 : PySem.W.nsIn K mainGlobals "_law_kinds" = some (some (.ref f6))) (l6 : K.lookup f6 = some ⟨oc6, od6, .func (PySem.W.fnOf "_law_kinds" "_law_kinds" (defArgs st__law_kinds) (defBody st__law_kinds) (defScope st__law_kinds) .none kV6 dc6 pm6 an6 cd6 ct6), sl6⟩) (c6 : PySem.W.codeIn K cd6 "_law_kinds" = true) (k6 : PySem.W.keepIn K (.ref f6) = true)
    {f7 : Addr} {od7 an7 : Option Addr} {sl7 : Array (Option Value)} {oc7 kV7 dc7 pm7 cd7 ct7 : Value} (a7 : PySem.W.nsIn K mainGlobals "need_kind" = some (some (.ref f7))) (l7 : K.lookup f7 = some ⟨oc7, od7, .func (PySem.W.fnOf "need_kind" "need_kind" (defArgs st_need_kind) (defBody st_need_kind) (defScope st_need_kind) .none kV7 dc7 pm7 an7 cd7 ct7), sl7⟩) (c7 : PySem.W.codeIn K cd7 "need_kind" = true) (k7 : PySem.W.keepIn K (.ref f7) = true)
    {f8 : Addr} {od8 an8 : Option Addr} {sl8 : Array (Option Value)} {oc8 kV8 dc8 pm8 cd8 ct8 : Value} (a8 : PySem.W.nsIn K mainGlobals "is_name" = some (some (.ref f8))) (l8 : K.lookup f8 = some ⟨oc8, od8, .func (PySem.W.fnOf "is_name" "is_name" (defArgs st_is_name) (defBody st_is_name) (defScope st_is_name) .none kV8 dc8 pm8 an8 cd8 ct8), sl8⟩) (c8 : PySem.W.codeIn K cd8 "is_name" = true) (k8 : PySem.W.keepIn K (.ref f8) = true)
    {f9 : Addr} {od9 an9 : Option Addr} {sl9 : Array (Option Value)} {oc9 kV9 dc9 pm9 cd9 ct9 : Value} (a9 : PySem.W.nsIn K mainGlobals "has_step" = some (some (.ref f9))) (l9 : K.lookup f9 = some ⟨oc9, od9, .func (PySem.W.fnOf "has_step" "has_step" (defArgs st_has_step) (defBody st_has_step) (defScope st_has_step) .none kV9 dc9 pm9 an9 cd9 ct9), sl9⟩) (c9 : PySem.W.codeIn K cd9 "has_step" = true) (k9 : PySem.W.keepIn K (.ref f9) = true)
    {f10 : Addr} {od10 an10 : Option Addr} {sl10 : Array (Option Value)} {oc10 kV10 dc10 pm10 cd10 ct10 : Value} (a10 : PySem.W.nsIn K mainGlobals "is_step" = some (some (.ref f10))) (l10 : K.lookup f10 = some ⟨oc10, od10, .func (PySem.W.fnOf "is_step" "is_step" (defArgs st_is_step) (defBody st_is_step) (defScope st_is_step) .none kV10 dc10 pm10 an10 cd10 ct10), sl10⟩) (c10 : PySem.W.codeIn K cd10 "is_step" = true) (k10 : PySem.W.keepIn K (.ref f10) = true)
    {f11 : Addr} {od11 an11 : Option Addr} {sl11 : Array (Option Value)} {oc11 kV11 dc11 pm11 cd11 ct11 : Value} (a11 : PySem.W.nsIn K mainGlobals "_law_told" = some (some (.ref f11))) (l11 : K.lookup f11 = some ⟨oc11, od11, .func (PySem.W.fnOf "_law_told" "_law_told" (defArgs st__law_told) (defBody st__law_told) (defScope st__law_told) .none kV11 dc11 pm11 an11 cd11 ct11), sl11⟩) (c11 : PySem.W.codeIn K cd11 "_law_told" = true) (k11 : PySem.W.keepIn K (.ref f11) = true)
    {f12 : Addr} {od12 an12 : Option Addr} {sl12 : Array (Option Value)} {oc12 kV12 dc12 pm12 cd12 ct12 : Value} (a12 : PySem.W.nsIn K mainGlobals "_law_drawn_step" = some (some (.ref f12))) (l12 : K.lookup f12 = some ⟨oc12, od12, .func (PySem.W.fnOf "_law_drawn_step" "_law_drawn_step" (defArgs st__law_drawn_step) (defBody st__law_drawn_step) (defScope st__law_drawn_step) .none kV12 dc12 pm12 an12 cd12 ct12), sl12⟩) (c12 : PySem.W.codeIn K cd12 "_law_drawn_step" = true) (k12 : PySem.W.keepIn K (.ref f12) = true)
    {f13 : Addr} {od13 an13 : Option Addr} {sl13 : Array (Option Value)} {oc13 kV13 dc13 pm13 cd13 ct13 : Value} (a13 : PySem.W.nsIn K mainGlobals "_law_is_name" = some (some (.ref f13))) (l13 : K.lookup f13 = some ⟨oc13, od13, .func (PySem.W.fnOf "_law_is_name" "_law_is_name" (defArgs st__law_is_name) (defBody st__law_is_name) (defScope st__law_is_name) .none kV13 dc13 pm13 an13 cd13 ct13), sl13⟩) (c13 : PySem.W.codeIn K cd13 "_law_is_name" = true) (k13 : PySem.W.keepIn K (.ref f13) = true)
    {f14 : Addr} {od14 an14 : Option Addr} {sl14 : Array (Option Value)} {oc14 kV14 dc14 pm14 cd14 ct14 : Value} (a14 : PySem.W.nsIn K mainGlobals "_law_is_step" = some (some (.ref f14))) (l14 : K.lookup f14 = some ⟨oc14, od14, .func (PySem.W.fnOf "_law_is_step" "_law_is_step" (defArgs st__law_is_step) (defBody st__law_is_step) (defScope st__law_is_step) .none kV14 dc14 pm14 an14 cd14 ct14), sl14⟩) (c14 : PySem.W.codeIn K cd14 "_law_is_step" = true) (k14 : PySem.W.keepIn K (.ref f14) = true)
    {f15 : Addr} {od15 an15 : Option Addr} {sl15 : Array (Option Value)} {oc15 kV15 dc15 pm15 cd15 ct15 : Value} (a15 : PySem.W.nsIn K mainGlobals "law" = some (some (.ref f15))) (l15 : K.lookup f15 = some ⟨oc15, od15, .func (PySem.W.fnOf "law" "law" (defArgs st_law) (defBody st_law) (defScope st_law) .none kV15 dc15 pm15 an15 cd15 ct15), sl15⟩) (c15 : PySem.W.codeIn K cd15 "law" = true) (k15 : PySem.W.keepIn K (.ref f15) = true)
    {C_NoProgram fI_NoProgram N_NoProgram cda_NoProgram cc_NoProgram : Addr} {nm_NoProgram qq_NoProgram file_NoProgram : Str} {bs_NoProgram bm_NoProgram sub_NoProgram : List Value} {sn_NoProgram : List Str} {ab_NoProgram : Bool} {col_NoProgram : Option Bool} {dd_NoProgram an_NoProgram od_NoProgram cdd_NoProgram cld_NoProgram : Option Addr} {k0_NoProgram k1_NoProgram k2_NoProgram k3_NoProgram k5_NoProgram : Option Value} {doc_NoProgram pm_NoProgram ct_NoProgram oc_NoProgram ccl_NoProgram cl_NoProgram : Value} {osl_NoProgram ccs_NoProgram csl_NoProgram : Array (Option Value)} {vs_NoProgram : Array Value} {tf_NoProgram : PySem.Tok} (nC_NoProgram : PySem.W.nsIn K mainGlobals "NoProgram" = some (some (.ref C_NoProgram))) (lk_NoProgram : K.lookup C_NoProgram = some (excClassObj nm_NoProgram qq_NoProgram C_NoProgram N_NoProgram bs_NoProgram bm_NoProgram true sn_NoProgram sub_NoProgram ab_NoProgram col_NoProgram dd_NoProgram k0_NoProgram k1_NoProgram k2_NoProgram k3_NoProgram k5_NoProgram "ValueError.__new__")) (rv_NoProgram : PySem.HandSPX.refsVE bm_NoProgram = true) (sa_NoProgram : PySem.W.findIn K (.ref C_NoProgram) "__setattr__" = some (some (.builtin "object.__setattr__"))) (ga_NoProgram : PySem.W.findIn K (.ref C_NoProgram) "__getattribute__" = some (some (.builtin "BaseException.__getattribute__"))) (gg_NoProgram : PySem.W.findIn K (.ref C_NoProgram) "__getattr__" = some none) (iC_NoProgram : PySem.W.findIn K (.ref C_NoProgram) "__init__" = some (some (.ref fI_NoProgram))) (tC_NoProgram : PySem.W.typeIn K (.ref fI_NoProgram) = some (.type "function")) (kC_NoProgram : PySem.W.keepIn K (.ref C_NoProgram) = true) (eC_NoProgram : PySem.W.subIn K (.ref C_NoProgram) (.type "BaseException") = some true) (tyC_NoProgram : PySem.W.typeIn K (.ref C_NoProgram) = some (.type "type")) (hdC_NoProgram : PySem.W.hasDictIn K C_NoProgram = true) (vE_NoProgram : PySem.W.subIn K (.ref C_NoProgram) (.type "ValueError") = some true) (ei_NoProgram : PySem.W.excInitIn K C_NoProgram SX.veL "ValueError.__new__" = true) (su_NoProgram : PySem.W.ks_superIn K C_NoProgram C_NoProgram "__init__" = some (some (.builtin "ValueError.__init__"))) (mr_NoProgram : PySem.W.mroIn K C_NoProgram (.ref C_NoProgram) = some true) (fl_NoProgram : K.lookup fI_NoProgram = some ⟨oc_NoProgram, od_NoProgram, .func (PySem.W.ksFn "__init__" "NoProgram.__init__" (defArgs (clsInit (topS 2))) (defBody (clsInit (topS 2))) (defScope (clsInit (topS 2))) .none .none doc_NoProgram pm_NoProgram an_NoProgram (.ref cda_NoProgram) ct_NoProgram cc_NoProgram), osl_NoProgram⟩) (cd_NoProgram : PySem.W.codeIn K (.ref cda_NoProgram) "NoProgram.__init__" = true) (lc_NoProgram : K.lookup cda_NoProgram = some ⟨ccl_NoProgram, cdd_NoProgram, .fields vs_NoProgram, ccs_NoProgram⟩) (v2_NoProgram : vs_NoProgram[2]? = some (.str file_NoProgram tf_NoProgram)) (fe_NoProgram : ((P.main.file : Str) == file_NoProgram) = true) (ce_NoProgram : K.lookup cc_NoProgram = some ⟨cl_NoProgram, cld_NoProgram, .cell (some (.ref C_NoProgram)), csl_NoProgram⟩) (no_NoProgram : PySem.W.findIn K (.ref C_NoProgram) "kind" = some none)
    (e_NoProgram_NoProgram : PySem.W.subIn K (.ref C_NoProgram) (.ref C_NoProgram) = some true)
    (n_all : PySem.W.nsIn K mainGlobals "all" = some none)
    (n_bool : PySem.W.nsIn K mainGlobals "bool" = some none)
    (n_int : PySem.W.nsIn K mainGlobals "int" = some none)
    (n_isinstance : PySem.W.nsIn K mainGlobals "isinstance" = some none)
    (n_len : PySem.W.nsIn K mainGlobals "len" = some none)
    (n_list : PySem.W.nsIn K mainGlobals "list" = some none)
    (n_max : PySem.W.nsIn K mainGlobals "max" = some none)
    (n_min : PySem.W.nsIn K mainGlobals "min" = some none)
    (n_range : PySem.W.nsIn K mainGlobals "range" = some none)
    (n_str : PySem.W.nsIn K mainGlobals "str" = some none)
    (n_super : PySem.W.nsIn K mainGlobals "super" = some none)
    (n_tuple : PySem.W.nsIn K mainGlobals "tuple" = some none)
    {t_LETTERS : PySem.Tok} (c_LETTERS : PySem.W.nsIn K mainGlobals "LETTERS" = some (some (.str (mkS [97, 98, 99, 100, 101, 102, 103, 104, 105, 106, 107, 108, 109, 110, 111, 112, 113, 114, 115, 116, 117, 118, 119, 120, 121, 122]) t_LETTERS)))
    {t_MOST_LETTERS : PySem.Tok} (c_MOST_LETTERS : PySem.W.nsIn K mainGlobals "MOST_LETTERS" = some (some (.int 8 t_MOST_LETTERS)))
    {t_TABLE : PySem.Tok} (c_TABLE : PySem.W.nsIn K mainGlobals "TABLE" = some (some (.str (mkS [116, 97, 98, 108, 101]) t_TABLE)))
    {v_KINDS : Value} (c_KINDS : PySem.W.nsIn K mainGlobals "KINDS" = some (some v_KINDS)) (kt_KINDS : ktOf K v_KINDS [[112, 117, 116], [115, 116, 114, 105, 107, 101], [114, 101, 97, 100], [100, 105, 114, 101, 99, 116], [104, 97, 110, 103], [116, 97, 107, 101], [115, 112, 108, 105, 116], [106, 111, 105, 110]] = true)
    {d_LOCKED : Addr} {es_LOCKED : Array DictEntry} {n_LOCKED : Nat} (t_LOCKED : PySem.W.nsIn K mainGlobals "LOCKED" = some (some (.ref d_LOCKED))) (tl_LOCKED : K.lookup d_LOCKED = some ⟨.type "dict", none, .dict es_LOCKED n_LOCKED, #[]⟩) (ti_LOCKED : PySem.W.KeysLit w.params es_LOCKED.toList) (tw_LOCKED : (d_LOCKED == sysModules) = false) (kt_LOCKED : kdB K es_LOCKED.toList [([116, 97, 98, 108, 101], [[112, 117, 116], [115, 116, 114, 105, 107, 101], [114, 101, 97, 100], [104, 97, 110, 103], [116, 97, 107, 101], [115, 112, 108, 105, 116], [106, 111, 105, 110]]), ([112, 97, 114, 116], [[112, 117, 116], [115, 116, 114, 105, 107, 101], [114, 101, 97, 100], [100, 105, 114, 101, 99, 116]]), ([111, 108, 100], [[116, 97, 107, 101], [115, 112, 108, 105, 116], [106, 111, 105, 110]]), ([110, 101, 119], [[104, 97, 110, 103], [115, 112, 108, 105, 116], [106, 111, 105, 110]]), ([114, 101, 115, 116], [[104, 97, 110, 103], [116, 97, 107, 101], [115, 112, 108, 105, 116], [106, 111, 105, 110]])] = true)
    {d_PLAIN_STEPS : Addr} {es_PLAIN_STEPS : Array DictEntry} {n_PLAIN_STEPS : Nat} (t_PLAIN_STEPS : PySem.W.nsIn K mainGlobals "PLAIN_STEPS" = some (some (.ref d_PLAIN_STEPS))) (tl_PLAIN_STEPS : K.lookup d_PLAIN_STEPS = some ⟨.type "dict", none, .dict es_PLAIN_STEPS n_PLAIN_STEPS, #[]⟩) (ti_PLAIN_STEPS : PySem.W.KeysLit w.params es_PLAIN_STEPS.toList) (tw_PLAIN_STEPS : (d_PLAIN_STEPS == sysModules) = false) (kt_PLAIN_STEPS : kdB K es_PLAIN_STEPS.toList [([108, 111, 111, 107], [[112, 117, 116], [115, 116, 114, 105, 107, 101], [114, 101, 97, 100]]), ([97, 103, 97, 105, 110], [[112, 117, 116], [115, 116, 114, 105, 107, 101], [114, 101, 97, 100]]), ([98, 111, 114, 100, 101, 114], [[100, 105, 114, 101, 99, 116]]), ([107, 101, 121], [[112, 117, 116], [100, 105, 114, 101, 99, 116]]), ([112, 117, 116], [[112, 117, 116], [100, 105, 114, 101, 99, 116]]), ([99, 108, 97, 105, 109], [[112, 117, 116], [100, 105, 114, 101, 99, 116]]), ([115, 116, 114, 105, 107, 101], [[115, 116, 114, 105, 107, 101]]), ([118, 105, 101, 119], [[114, 101, 97, 100]]), ([114, 101, 97, 100], [[114, 101, 97, 100]]), ([109, 111, 118, 101], [[115, 112, 108, 105, 116], [106, 111, 105, 110]]), ([115, 119, 105, 116, 99, 104], [[104, 97, 110, 103], [116, 97, 107, 101], [115, 112, 108, 105, 116], [106, 111, 105, 110]]), ([119, 97, 105, 116], [[104, 97, 110, 103], [116, 97, 107, 101], [115, 112, 108, 105, 116], [106, 111, 105, 110]]), ([99, 108, 111, 115, 101], [[104, 97, 110, 103], [116, 97, 107, 101], [115, 112, 108, 105, 116], [106, 111, 105, 110]]), ([101, 110, 100], [[112, 117, 116], [115, 116, 114, 105, 107, 101], [114, 101, 97, 100], [100, 105, 114, 101, 99, 116], [104, 97, 110, 103], [116, 97, 107, 101], [115, 112, 108, 105, 116], [106, 111, 105, 110]])] = true) : Txt P w K mg :=
  ⟨DefAt.mk' X G a0 l0 c0 k0 (fun _ _ _ _ _ _ us hl => match us, hl with | [_], _ => rfl),
  DefAt.mk' X G a1 l1 c1 k1 (fun _ _ _ _ _ _ us hl => match us, hl with | [_, _], _ => rfl),
  DefAt.mk' X G a2 l2 c2 k2 (fun _ _ _ _ _ _ us hl => match us, hl with | [_, _], _ => rfl),
  DefAt.mk' X G a3 l3 c3 k3 (fun _ _ _ _ _ _ us hl => match us, hl with | [_, _], _ => rfl),
  DefAt.mk' X G a4 l4 c4 k4 (fun _ _ _ _ _ _ us hl => match us, hl with | [_, _], _ => rfl),
  DefAt.mk' X G a5 l5 c5 k5 (fun _ _ _ _ _ _ us hl => match us, hl with | [_, _], _ => rfl),
  DefAt.mk' X G a6 l6 c6 k6 (fun _ _ _ _ _ _ us hl => match us, hl with | [], _ => rfl),
  DefAt.mk' X G a7 l7 c7 k7 (fun _ _ _ _ _ _ us hl => match us, hl with | [_], _ => rfl),
  DefAt.mk' X G a8 l8 c8 k8 (fun _ _ _ _ _ _ us hl => match us, hl with | [_], _ => rfl),
  DefAt.mk' X G a9 l9 c9 k9 (fun _ _ _ _ _ _ us hl => match us, hl with | [_, _], _ => rfl),
  DefAt.mk' X G a10 l10 c10 k10 (fun _ _ _ _ _ _ us hl => match us, hl with | [_, _], _ => rfl),
  DefAt.mk' X G a11 l11 c11 k11 (fun _ _ _ _ _ _ us hl => match us, hl with | [_, _], _ => rfl),
  DefAt.mk' X G a12 l12 c12 k12 (fun _ _ _ _ _ _ us hl => match us, hl with | [_, _], _ => rfl),
  DefAt.mk' X G a13 l13 c13 k13 (fun _ _ _ _ _ _ us hl => match us, hl with | [_], _ => rfl),
  DefAt.mk' X G a14 l14 c14 k14 (fun _ _ _ _ _ _ us hl => match us, hl with | [_, _], _ => rfl),
  DefAt.mk' X G a15 l15 c15 k15 (fun _ _ _ _ _ _ us hl => match us, hl with | [_], _ => rfl),
  DefKw.mk' X G a10 l10 c10 k10 (fun _ _ _ _ _ _ us ws h1 h2 => match us, ws, h1, h2 with | [], [_, _], _, _ => rfl),
  ⟨_, PySem.W.mg_of X G nC_NoProgram, fun w => ⟨nC_NoProgram, kC_NoProgram, eC_NoProgram, tyC_NoProgram, ⟨ga_NoProgram, gg_NoProgram, eC_NoProgram, hdC_NoProgram⟩, no_NoProgram, fun X hg hms hb hbs hl hr hq => SX.made1 (par := "kind") (fld := "kind") (⟨⟨_, _, _, _, _, _, _, _, _, _, _, _, _, _, _, lk_NoProgram, rv_NoProgram⟩, sa_NoProgram, ga_NoProgram, gg_NoProgram, iC_NoProgram, tC_NoProgram, kC_NoProgram, eC_NoProgram, tyC_NoProgram, hdC_NoProgram, vE_NoProgram, ei_NoProgram, su_NoProgram, mr_NoProgram, anyK, ⟨_, _, _, _, _, _, _, _, _, _, _, _, _, _, _, _, _, _, fl_NoProgram, cd_NoProgram, lc_NoProgram, v2_NoProgram, fe_NoProgram, ce_NoProgram⟩, topK⟩ : SX.OwnC K P C_NoProgram fI_NoProgram "NoProgram.__init__" (defArgs (clsInit (topS 2))) (defBody (clsInit (topS 2))) (defScope (clsInit (topS 2)))) (by decide) (fun env => ⟨_, rfl⟩) no_NoProgram (fun s doc pm an cdv ct cc u v => .of_eq rfl) X hg hms hb hbs hl hr hq⟩⟩,
  (fun Cx hx => by have h0 := (PySem.W.mg_of X G nC_NoProgram).symm.trans hx; cases h0; exact xm_of (List.forall_mem_cons.mpr ⟨⟨_, _, PySem.W.mg_of X G nC_NoProgram, exm_ref eC_NoProgram (cls_some lk_NoProgram) tyC_NoProgram e_NoProgram_NoProgram, by decide⟩, (fun _ h => nomatch h)⟩)),
  PySem.W.mg_none_of X G n_all,
  PySem.W.mg_none_of X G n_bool,
  PySem.W.mg_none_of X G n_int,
  PySem.W.mg_none_of X G n_isinstance,
  PySem.W.mg_none_of X G n_len,
  PySem.W.mg_none_of X G n_list,
  PySem.W.mg_none_of X G n_max,
  PySem.W.mg_none_of X G n_min,
  PySem.W.mg_none_of X G n_range,
  PySem.W.mg_none_of X G n_str,
  PySem.W.mg_none_of X G n_super,
  PySem.W.mg_none_of X G n_tuple,
  ⟨_, PySem.W.mg_of X G c_LETTERS⟩,
  ⟨_, PySem.W.mg_of X G c_MOST_LETTERS⟩,
  ⟨_, PySem.W.mg_of X G c_TABLE⟩,
  ⟨_, PySem.W.mg_of X G c_KINDS, kt_KINDS⟩,
  ⟨_, PySem.W.mg_of X G t_LOCKED, ⟨_, _, ⟨tl_LOCKED, ti_LOCKED, tw_LOCKED⟩, kt_LOCKED⟩⟩,
  ⟨_, PySem.W.mg_of X G t_PLAIN_STEPS, ⟨_, _, ⟨tl_PLAIN_STEPS, ti_PLAIN_STEPS, tw_PLAIN_STEPS⟩, kt_PLAIN_STEPS⟩⟩⟩
end K21

set_option Elab.async false
set_option linter.all false
set_option maxRecDepth 100000
set_option maxHeartbeats 4000000
namespace K21
open PySem PySem.Spec PyProof.Rows L2 SD

/-! ### what a step is -/
def plainT : Tab := [([108, 111, 111, 107], [[112, 117, 116], [115, 116, 114, 105, 107, 101], [114, 101, 97, 100]]), ([97, 103, 97, 105, 110], [[112, 117, 116], [115, 116, 114, 105, 107, 101], [114, 101, 97, 100]]), ([98, 111, 114, 100, 101, 114], [[100, 105, 114, 101, 99, 116]]), ([107, 101, 121], [[112, 117, 116], [100, 105, 114, 101, 99, 116]]), ([112, 117, 116], [[112, 117, 116], [100, 105, 114, 101, 99, 116]]), ([99, 108, 97, 105, 109], [[112, 117, 116], [100, 105, 114, 101, 99, 116]]), ([115, 116, 114, 105, 107, 101], [[115, 116, 114, 105, 107, 101]]), ([118, 105, 101, 119], [[114, 101, 97, 100]]), ([114, 101, 97, 100], [[114, 101, 97, 100]]), ([109, 111, 118, 101], [[115, 112, 108, 105, 116], [106, 111, 105, 110]]), ([115, 119, 105, 116, 99, 104], [[104, 97, 110, 103], [116, 97, 107, 101], [115, 112, 108, 105, 116], [106, 111, 105, 110]]), ([119, 97, 105, 116], [[104, 97, 110, 103], [116, 97, 107, 101], [115, 112, 108, 105, 116], [106, 111, 105, 110]]), ([99, 108, 111, 115, 101], [[104, 97, 110, 103], [116, 97, 107, 101], [115, 112, 108, 105, 116], [106, 111, 105, 110]]), ([101, 110, 100], [[112, 117, 116], [115, 116, 114, 105, 107, 101], [114, 101, 97, 100], [100, 105, 114, 101, 99, 116], [104, 97, 110, 103], [116, 97, 107, 101], [115, 112, 108, 105, 116], [106, 111, 105, 110]])]
def lockT : Tab := [([116, 97, 98, 108, 101], [[112, 117, 116], [115, 116, 114, 105, 107, 101], [114, 101, 97, 100], [104, 97, 110, 103], [116, 97, 107, 101], [115, 112, 108, 105, 116], [106, 111, 105, 110]]), ([112, 97, 114, 116], [[112, 117, 116], [115, 116, 114, 105, 107, 101], [114, 101, 97, 100], [100, 105, 114, 101, 99, 116]]), ([111, 108, 100], [[116, 97, 107, 101], [115, 112, 108, 105, 116], [106, 111, 105, 110]]), ([110, 101, 119], [[104, 97, 110, 103], [115, 112, 108, 105, 116], [106, 111, 105, 110]]), ([114, 101, 115, 116], [[104, 97, 110, 103], [116, 97, 107, 101], [115, 112, 108, 105, 116], [106, 111, 105, 110]])]
def kindsL : List Cs := [[112, 117, 116], [115, 116, 114, 105, 107, 101], [114, 101, 97, 100], [100, 105, 114, 101, 99, 116], [104, 97, 110, 103], [116, 97, 107, 101], [115, 112, 108, 105, 116], [106, 111, 105, 110]]
def wScan : Cs := [115, 99, 97, 110]
def wLock : Cs := [108, 111, 99, 107]
def wHang : Cs := [104, 97, 110, 103]
def wNew : Cs := [110, 101, 119]
def wRest : Cs := [114, 101, 115, 116]
def inT (t : Tab) (a z : Cs) : Bool := match findT t a with | some ts => ts.any (· == z) | none => false
def wordsB (ws : List Cs) (z : Cs) : Bool := match ws with
  | [] => false
  | [a] => inT plainT a z
  | [a, b] => a == wScan && (z == wHang && [wNew, wRest].any (· == b))
  | [a, b, c] => a == wLock && (inT lockT b z && isNameC c)
  | _ => false
def stepB (v : D) (z : Cs) : Bool := match v with
  | .tup ds => match toStrs ds with | some ws => wordsB ws z | none => false
  | _ => false
/-- a value that may be asked: no tuple too long, no text too long -/
def Vok (v : D) : Prop := ∀ ds, v = .tup ds → ds.length ≤ 100 ∧ ∀ s, .str s ∈ ds → s.length ≤ 1000

theorem memO_nil {d : D} : memO d [] = some false := rfl
theorem memO_cons {z t : Cs} {ds : List D} : memO (.str z) (.str t :: ds) = (memO (.str z) ds).map fun b => (t == z) || b := by
  show (match some (t == z), orAll (ds.map fun e => eqO eqN e (.str z)) with | some b, some c => some (b || c) | _, _ => none) = _
  unfold memO
  cases orAll (ds.map fun e => eqO eqN e (.str z)) <;> rfl
theorem memO_strs {z : Cs} : ∀ ts : List Cs, memO (.str z) (ts.map D.str) = some (ts.any (· == z))
  | [] => rfl
  | t :: ts => by rw [List.map_cons, memO_cons, memO_strs ts]; rfl
theorem inX_tupS {n : Bool} {z : Cs} {ts : List Cs} : inX n (.str z) (tupS ts) = some (.bl (n != ts.any (· == z))) := by
  show (memO (.str z) (ts.map D.str)).map _ = _
  rw [memO_strs]; rfl
theorem inX_lst {n : Bool} {z : Cs} {ts : List Cs} : inX n (.str z) (.lst (ts.map D.str)) = some (.bl (n != ts.any (· == z))) := by
  show (memO (.str z) (ts.map D.str)).map _ = _
  rw [memO_strs]; rfl
theorem strs_map : ∀ ws : List Cs, toStrs (ws.map D.str) = some ws
  | [] => rfl
  | w :: ws => by show (toStrs (ws.map D.str)).map (w :: ·) = _; rw [strs_map ws]; rfl
theorem strs_all : ∀ {ds : List D}, ds.all dStr = true → ∃ ws : List Cs, ds = ws.map D.str
  | [], _ => ⟨[], rfl⟩
  | d :: ds, h => by
    rw [List.all_cons, Bool.and_eq_true] at h
    obtain ⟨ws, rfl⟩ := strs_all h.2
    cases d with
    | str s => exact ⟨s :: ws, rfl⟩
    | _ => cases h.1
theorem strs_none : ∀ {ds : List D}, ds.all dStr = false → toStrs ds = none
  | [], h => by cases h
  | d :: ds, h => by
    cases d with
    | str s =>
      have : ds.all dStr = false := h
      show (toStrs ds).map (s :: ·) = _
      rw [strs_none this]; rfl
    | _ => rfl
theorem at_ix {ds : List D} {j : Nat} {d : D} (h : ds[j]? = some d) : ixD (.tup ds) (.int (j : Nat)) = some d := by
  show atI ds j = _
  unfold atI ixN
  have hj := (List.getElem?_eq_some_iff.mp h).1
  rw [if_pos (by omega), if_pos (by omega)]
  exact h
theorem ix0_t {d : D} {ds : List D} : ixD (.tup (d :: ds)) (.int 0) = some d := at_ix (j := 0) (by simp)
theorem ix1_t {d e : D} {ds : List D} : ixD (.tup (d :: e :: ds)) (.int 1) = some e := at_ix (j := 1) (by simp)
theorem ix2_t {d e f : D} {ds : List D} : ixD (.tup (d :: e :: f :: ds)) (.int 2) = some f := at_ix (j := 2) (by simp)
theorem len_t {ds : List D} : lenD (.tup ds) = some (.int ds.length) := rfl
theorem allD_map {α : Type} {p : α → Bool} (ds : List α) : allD (.lst (ds.map fun d => .bl (p d))) = some (.bl (ds.all p)) := by
  have h : ds.map (fun d => D.bl (p d)) = (ds.map p).map D.bl := by rw [List.map_map]; rfl
  show (toBs _).map _ = _
  rw [h, toBs_map]
  simp [List.all_map]
theorem ptT {a : Cs} : findT [([108, 111, 111, 107], [[112, 117, 116], [115, 116, 114, 105, 107, 101], [114, 101, 97, 100]]), ([97, 103, 97, 105, 110], [[112, 117, 116], [115, 116, 114, 105, 107, 101], [114, 101, 97, 100]]), ([98, 111, 114, 100, 101, 114], [[100, 105, 114, 101, 99, 116]]), ([107, 101, 121], [[112, 117, 116], [100, 105, 114, 101, 99, 116]]), ([112, 117, 116], [[112, 117, 116], [100, 105, 114, 101, 99, 116]]), ([99, 108, 97, 105, 109], [[112, 117, 116], [100, 105, 114, 101, 99, 116]]), ([115, 116, 114, 105, 107, 101], [[115, 116, 114, 105, 107, 101]]), ([118, 105, 101, 119], [[114, 101, 97, 100]]), ([114, 101, 97, 100], [[114, 101, 97, 100]]), ([109, 111, 118, 101], [[115, 112, 108, 105, 116], [106, 111, 105, 110]]), ([115, 119, 105, 116, 99, 104], [[104, 97, 110, 103], [116, 97, 107, 101], [115, 112, 108, 105, 116], [106, 111, 105, 110]]), ([119, 97, 105, 116], [[104, 97, 110, 103], [116, 97, 107, 101], [115, 112, 108, 105, 116], [106, 111, 105, 110]]), ([99, 108, 111, 115, 101], [[104, 97, 110, 103], [116, 97, 107, 101], [115, 112, 108, 105, 116], [106, 111, 105, 110]]), ([101, 110, 100], [[112, 117, 116], [115, 116, 114, 105, 107, 101], [114, 101, 97, 100], [100, 105, 114, 101, 99, 116], [104, 97, 110, 103], [116, 97, 107, 101], [115, 112, 108, 105, 116], [106, 111, 105, 110]])] a = findT plainT a := rfl
theorem ltT {a : Cs} : findT [([116, 97, 98, 108, 101], [[112, 117, 116], [115, 116, 114, 105, 107, 101], [114, 101, 97, 100], [104, 97, 110, 103], [116, 97, 107, 101], [115, 112, 108, 105, 116], [106, 111, 105, 110]]), ([112, 97, 114, 116], [[112, 117, 116], [115, 116, 114, 105, 107, 101], [114, 101, 97, 100], [100, 105, 114, 101, 99, 116]]), ([111, 108, 100], [[116, 97, 107, 101], [115, 112, 108, 105, 116], [106, 111, 105, 110]]), ([110, 101, 119], [[104, 97, 110, 103], [115, 112, 108, 105, 116], [106, 111, 105, 110]]), ([114, 101, 115, 116], [[104, 97, 110, 103], [116, 97, 107, 101], [115, 112, 108, 105, 116], [106, 111, 105, 110]])] a = findT lockT a := rfl
theorem wp_has_step {v : D} {z : Cs} {M : Mem} {Q : U → Mem → Prop} {X : XP} (hv : Vok v) : Wp (f_has_step [.dat v, .dat (.str z)] M) Q X = Q (.dat (.bl (stepB v z))) M := by
  unfold f_has_step b_has_step
  rw [wp_run]
  cases v with
  | tup ds =>
    obtain ⟨h1, h2⟩ := hv ds rfl
    have key : ∀ (M : Mem), lcL (.name 2) bYes (eIsi "str" (eVar 2)) [some (.dat (.tup ds)), some (.dat (.str z)), none] ds M = .ok (ds.map fun d => .bl (dStr d)) M := by
      intro M
      have w : Wp (lcL (.name 2) bYes (eIsi "str" (eVar 2)) [some (.dat (.tup ds)), some (.dat (.str z)), none] (ds.map id) M) (fun es M' => es = ((ds.filter fun _ => true).map fun d => .bl (dStr d)) ∧ M' = M) x0 := by
        refine wp_lcM id (fun _ => true) (fun d => .bl (dStr d)) (fun c hc => ?_) ⟨rfl, rfl⟩
        simp (config := {dsimp := false}) only [↓ws_nil, ↓ws_cons, ↓ws_asg, ↓ws_setIx, ↓ws_ret, ↓ws_retN, ↓ws_if, ↓ws_drop, ↓ws_brk, ↓ws_cnt, ↓ws_for, ↓wp_tOf, ↓wp_not, ↓wp_and, ↓wp_or, ↓wp_vand, ↓wp_vor, ↓wp_eB, ↓wp_eIf, ↓wp_neg, ↓wp_chain, ↓wp_e2, ↓wp_var, ↓wp_c, ↓wp_addI, ↓wp_addS, ↓wp_addL, ↓wp_addT, ↓ws_raise1, ↓ws_raise0, ↓ws_par, ↓ws_par3, uPar3_ok, ↓wp_kin, ↓wp_kix, wo_ks, ↓wp_get1, ↓wp_get2, ↓wp_dget, ↓ws_setKey, uKeyD, keyD, ↓wp_fnK, ↓ws_try, ↓ws_hdN, ↓ws_hdC, ↓ws_suiteN, ↓ws_suiteS, ↓wp_fld, xE, gP_nil, gP_cons, Option.toList, ↓wp_lift2v, ↓wp_aNil, ↓wp_aCons, ↓wp_newF, ↓wp_newT, ↓wp_lst, ↓wp_tup, ↓wp_call, ↓wp_pf1, ↓wp_pf2, ↓wp_pfL, ↓wp_isi, ↓wp_fn, ↓wp_bm, ↓wp_sl, ↓wp_pNone, ↓wp_pSome, ↓wp_slS, ↓wp_slL, ↓wp_disp, ↓wp_newDF, ↓wp_newDT, rf_l, rf_d, ↓wp_prNil, ↓wp_prCons, ↓wp_dnew, ↓wp_iVal, ↓wp_rng1, ↓wp_rng2, ↓wp_lc, ↓wp_ok, ↓wp_exc, ↓wp_bad, ↓wp_join, itD, ↓wp_bYes, ↓rQ_dat, ↓rQ_cell, ↓wo_some, ↓wo_none, ↓wo_ite, ↓wo_map, view_dat, td_nil, td_cons, Option.map_some, bind_name, bind_tup, sa_c, sa_n, toKey, uB, uI, uD, uI1, uI2, ty_s, ty_l, List.map, List.length, List.replicate, Nat.reduceSub, Nat.reduceAdd, Nat.reduceLeDiff, Nat.zero_add, List.cons_append, List.nil_append, List.append_nil, List.getElem?_cons_zero, List.getElem?_cons_succ, Option.join_some, List.set_cons_zero, List.set_cons_succ, decide_eq_true_eq, Bool.not_eq_true', Bool.not_true, Bool.not_false, if_true, if_false, Bool.false_eq_true, eq_self, true_and, and_true, isND_n, notND_n, isi_int, isi_bool, isi_str, isi_tuple, isi_list, isi_dict, dInt, dBl, dStr, dTup, dLst, dDct, wipeE, List.set, subD, ltD, gtD, leD, geD, max2D, min2D, eqD_ii, neD_ii, eqD_ss, neD_ss, eqD_nil, neD_nil]
        simp
      obtain ⟨es, M', e, rfl, rfl⟩ := w.ok
      rw [List.map_id, filter_yes] at e
      exact e
    have l16 : (ds.length ≤ 16777216) = True := eq_true (by omega)
    cases hall : ds.all dStr with
    | false =>
      have e0 : (((ds.length : Nat) : Int) == 0) = false := by
        cases ds with
        | nil => cases hall
        | cons d ds => simp; omega
      have es : stepB (.tup ds) z = false := by show (match toStrs ds with | some ws => wordsB ws z | none => false) = _; rw [strs_none hall]
      simp (config := {dsimp := false}) only [↓ws_nil, ↓ws_cons, ↓ws_asg, ↓ws_setIx, ↓ws_ret, ↓ws_retN, ↓ws_if, ↓ws_drop, ↓ws_brk, ↓ws_cnt, ↓ws_for, ↓wp_tOf, ↓wp_not, ↓wp_and, ↓wp_or, ↓wp_vand, ↓wp_vor, ↓wp_eB, ↓wp_eIf, ↓wp_neg, ↓wp_chain, ↓wp_e2, ↓wp_var, ↓wp_c, ↓wp_addI, ↓wp_addS, ↓wp_addL, ↓wp_addT, ↓ws_raise1, ↓ws_raise0, ↓ws_par, ↓ws_par3, uPar3_ok, ↓wp_kin, ↓wp_kix, wo_ks, ↓wp_get1, ↓wp_get2, ↓wp_dget, ↓ws_setKey, uKeyD, keyD, ↓wp_fnK, ↓ws_try, ↓ws_hdN, ↓ws_hdC, ↓ws_suiteN, ↓ws_suiteS, ↓wp_fld, xE, gP_nil, gP_cons, Option.toList, ↓wp_lift2v, ↓wp_aNil, ↓wp_aCons, ↓wp_newF, ↓wp_newT, ↓wp_lst, ↓wp_tup, ↓wp_call, ↓wp_pf1, ↓wp_pf2, ↓wp_pfL, ↓wp_isi, ↓wp_fn, ↓wp_bm, ↓wp_sl, ↓wp_pNone, ↓wp_pSome, ↓wp_slS, ↓wp_slL, ↓wp_disp, ↓wp_newDF, ↓wp_newDT, rf_l, rf_d, ↓wp_prNil, ↓wp_prCons, ↓wp_dnew, ↓wp_iVal, ↓wp_rng1, ↓wp_rng2, ↓wp_lc, ↓wp_ok, ↓wp_exc, ↓wp_bad, ↓wp_join, itD, ↓wp_bYes, ↓rQ_dat, ↓rQ_cell, ↓wo_some, ↓wo_none, ↓wo_ite, ↓wo_map, view_dat, td_nil, td_cons, Option.map_some, bind_name, bind_tup, sa_c, sa_n, toKey, uB, uI, uD, uI1, uI2, ty_s, ty_l, List.map, List.length, List.replicate, Nat.reduceSub, Nat.reduceAdd, Nat.reduceLeDiff, Nat.zero_add, List.cons_append, List.nil_append, List.append_nil, List.getElem?_cons_zero, List.getElem?_cons_succ, Option.join_some, List.set_cons_zero, List.set_cons_succ, decide_eq_true_eq, Bool.not_eq_true', Bool.not_true, Bool.not_false, if_true, if_false, Bool.false_eq_true, eq_self, true_and, and_true, isND_n, notND_n, isi_int, isi_bool, isi_str, isi_tuple, isi_list, isi_dict, dInt, dBl, dStr, dTup, dLst, dDct, wipeE, List.set, subD, ltD, gtD, leD, geD, max2D, min2D, eqD_ii, neD_ii, eqD_ss, neD_ss, eqD_nil, neD_nil, -dStr, len_t, e0, l16, key, allD_map, hall, List.length_map, take_len, es]
    | true =>
      obtain ⟨ws, rfl⟩ := strs_all hall
      have es : stepB (.tup (ws.map D.str)) z = wordsB ws z := by show (match toStrs (ws.map D.str) with | some ws => wordsB ws z | none => false) = _; rw [strs_map]
      rw [es]
      match ws with
      | [] => simp (config := {dsimp := false}) only [↓ws_nil, ↓ws_cons, ↓ws_asg, ↓ws_setIx, ↓ws_ret, ↓ws_retN, ↓ws_if, ↓ws_drop, ↓ws_brk, ↓ws_cnt, ↓ws_for, ↓wp_tOf, ↓wp_not, ↓wp_and, ↓wp_or, ↓wp_vand, ↓wp_vor, ↓wp_eB, ↓wp_eIf, ↓wp_neg, ↓wp_chain, ↓wp_e2, ↓wp_var, ↓wp_c, ↓wp_addI, ↓wp_addS, ↓wp_addL, ↓wp_addT, ↓ws_raise1, ↓ws_raise0, ↓ws_par, ↓ws_par3, uPar3_ok, ↓wp_kin, ↓wp_kix, wo_ks, ↓wp_get1, ↓wp_get2, ↓wp_dget, ↓ws_setKey, uKeyD, keyD, ↓wp_fnK, ↓ws_try, ↓ws_hdN, ↓ws_hdC, ↓ws_suiteN, ↓ws_suiteS, ↓wp_fld, xE, gP_nil, gP_cons, Option.toList, ↓wp_lift2v, ↓wp_aNil, ↓wp_aCons, ↓wp_newF, ↓wp_newT, ↓wp_lst, ↓wp_tup, ↓wp_call, ↓wp_pf1, ↓wp_pf2, ↓wp_pfL, ↓wp_isi, ↓wp_fn, ↓wp_bm, ↓wp_sl, ↓wp_pNone, ↓wp_pSome, ↓wp_slS, ↓wp_slL, ↓wp_disp, ↓wp_newDF, ↓wp_newDT, rf_l, rf_d, ↓wp_prNil, ↓wp_prCons, ↓wp_dnew, ↓wp_iVal, ↓wp_rng1, ↓wp_rng2, ↓wp_lc, ↓wp_ok, ↓wp_exc, ↓wp_bad, ↓wp_join, itD, ↓wp_bYes, ↓rQ_dat, ↓rQ_cell, ↓wo_some, ↓wo_none, ↓wo_ite, ↓wo_map, view_dat, td_nil, td_cons, Option.map_some, bind_name, bind_tup, sa_c, sa_n, toKey, uB, uI, uD, uI1, uI2, ty_s, ty_l, List.map, List.length, List.replicate, Nat.reduceSub, Nat.reduceAdd, Nat.reduceLeDiff, Nat.zero_add, List.cons_append, List.nil_append, List.append_nil, List.getElem?_cons_zero, List.getElem?_cons_succ, Option.join_some, List.set_cons_zero, List.set_cons_succ, decide_eq_true_eq, Bool.not_eq_true', Bool.not_true, Bool.not_false, if_true, if_false, Bool.false_eq_true, eq_self, true_and, and_true, isND_n, notND_n, isi_int, isi_bool, isi_str, isi_tuple, isi_list, isi_dict, dInt, dBl, dStr, dTup, dLst, dDct, wipeE, List.set, subD, ltD, gtD, leD, geD, max2D, min2D, eqD_ii, neD_ii, eqD_ss, neD_ss, eqD_nil, neD_nil, -dStr, len_t, take_len]; rfl
      | [a] =>
        have n0 : (((1 : Nat) : Int) == 0) = false := rfl
        have n1 : (((1 : Nat) : Int) == 1) = true := rfl
        have ad : allD (.lst [.bl true]) = some (.bl true) := rfl
        simp only [List.map] at key l16 hall
        simp (config := {dsimp := false}) only [↓ws_nil, ↓ws_cons, ↓ws_asg, ↓ws_setIx, ↓ws_ret, ↓ws_retN, ↓ws_if, ↓ws_drop, ↓ws_brk, ↓ws_cnt, ↓ws_for, ↓wp_tOf, ↓wp_not, ↓wp_and, ↓wp_or, ↓wp_vand, ↓wp_vor, ↓wp_eB, ↓wp_eIf, ↓wp_neg, ↓wp_chain, ↓wp_e2, ↓wp_var, ↓wp_c, ↓wp_addI, ↓wp_addS, ↓wp_addL, ↓wp_addT, ↓ws_raise1, ↓ws_raise0, ↓ws_par, ↓ws_par3, uPar3_ok, ↓wp_kin, ↓wp_kix, wo_ks, ↓wp_get1, ↓wp_get2, ↓wp_dget, ↓ws_setKey, uKeyD, keyD, ↓wp_fnK, ↓ws_try, ↓ws_hdN, ↓ws_hdC, ↓ws_suiteN, ↓ws_suiteS, ↓wp_fld, xE, gP_nil, gP_cons, Option.toList, ↓wp_lift2v, ↓wp_aNil, ↓wp_aCons, ↓wp_newF, ↓wp_newT, ↓wp_lst, ↓wp_tup, ↓wp_call, ↓wp_pf1, ↓wp_pf2, ↓wp_pfL, ↓wp_isi, ↓wp_fn, ↓wp_bm, ↓wp_sl, ↓wp_pNone, ↓wp_pSome, ↓wp_slS, ↓wp_slL, ↓wp_disp, ↓wp_newDF, ↓wp_newDT, rf_l, rf_d, ↓wp_prNil, ↓wp_prCons, ↓wp_dnew, ↓wp_iVal, ↓wp_rng1, ↓wp_rng2, ↓wp_lc, ↓wp_ok, ↓wp_exc, ↓wp_bad, ↓wp_join, itD, ↓wp_bYes, ↓rQ_dat, ↓rQ_cell, ↓wo_some, ↓wo_none, ↓wo_ite, ↓wo_map, view_dat, td_nil, td_cons, Option.map_some, bind_name, bind_tup, sa_c, sa_n, toKey, uB, uI, uD, uI1, uI2, ty_s, ty_l, List.map, List.length, List.replicate, Nat.reduceSub, Nat.reduceAdd, Nat.reduceLeDiff, Nat.zero_add, List.cons_append, List.nil_append, List.append_nil, List.getElem?_cons_zero, List.getElem?_cons_succ, Option.join_some, List.set_cons_zero, List.set_cons_succ, decide_eq_true_eq, Bool.not_eq_true', Bool.not_true, Bool.not_false, if_true, if_false, Bool.false_eq_true, eq_self, true_and, and_true, isND_n, notND_n, isi_int, isi_bool, isi_str, isi_tuple, isi_list, isi_dict, dInt, dBl, dStr, dTup, dLst, dDct, wipeE, List.set, subD, ltD, gtD, leD, geD, max2D, min2D, eqD_ii, neD_ii, eqD_ss, neD_ss, eqD_nil, neD_nil, -dStr, len_t, l16, key, ad, n0, n1, ix0_t, inX_tupS, take_len, ptT, ltT]
        show _ = Q (.dat (.bl (inT plainT a z))) M
        unfold inT
        cases findT plainT a with
        | none => simp (config := {dsimp := false}) only [↓ws_nil, ↓ws_cons, ↓ws_asg, ↓ws_setIx, ↓ws_ret, ↓ws_retN, ↓ws_if, ↓ws_drop, ↓ws_brk, ↓ws_cnt, ↓ws_for, ↓wp_tOf, ↓wp_not, ↓wp_and, ↓wp_or, ↓wp_vand, ↓wp_vor, ↓wp_eB, ↓wp_eIf, ↓wp_neg, ↓wp_chain, ↓wp_e2, ↓wp_var, ↓wp_c, ↓wp_addI, ↓wp_addS, ↓wp_addL, ↓wp_addT, ↓ws_raise1, ↓ws_raise0, ↓ws_par, ↓ws_par3, uPar3_ok, ↓wp_kin, ↓wp_kix, wo_ks, ↓wp_get1, ↓wp_get2, ↓wp_dget, ↓ws_setKey, uKeyD, keyD, ↓wp_fnK, ↓ws_try, ↓ws_hdN, ↓ws_hdC, ↓ws_suiteN, ↓ws_suiteS, ↓wp_fld, xE, gP_nil, gP_cons, Option.toList, ↓wp_lift2v, ↓wp_aNil, ↓wp_aCons, ↓wp_newF, ↓wp_newT, ↓wp_lst, ↓wp_tup, ↓wp_call, ↓wp_pf1, ↓wp_pf2, ↓wp_pfL, ↓wp_isi, ↓wp_fn, ↓wp_bm, ↓wp_sl, ↓wp_pNone, ↓wp_pSome, ↓wp_slS, ↓wp_slL, ↓wp_disp, ↓wp_newDF, ↓wp_newDT, rf_l, rf_d, ↓wp_prNil, ↓wp_prCons, ↓wp_dnew, ↓wp_iVal, ↓wp_rng1, ↓wp_rng2, ↓wp_lc, ↓wp_ok, ↓wp_exc, ↓wp_bad, ↓wp_join, itD, ↓wp_bYes, ↓rQ_dat, ↓rQ_cell, ↓wo_some, ↓wo_none, ↓wo_ite, ↓wo_map, view_dat, td_nil, td_cons, Option.map_some, bind_name, bind_tup, sa_c, sa_n, toKey, uB, uI, uD, uI1, uI2, ty_s, ty_l, List.map, List.length, List.replicate, Nat.reduceSub, Nat.reduceAdd, Nat.reduceLeDiff, Nat.zero_add, List.cons_append, List.nil_append, List.append_nil, List.getElem?_cons_zero, List.getElem?_cons_succ, Option.join_some, List.set_cons_zero, List.set_cons_succ, decide_eq_true_eq, Bool.not_eq_true', Bool.not_true, Bool.not_false, if_true, if_false, Bool.false_eq_true, eq_self, true_and, and_true, isND_n, notND_n, isi_int, isi_bool, isi_str, isi_tuple, isi_list, isi_dict, dInt, dBl, dStr, dTup, dLst, dDct, wipeE, List.set, subD, ltD, gtD, leD, geD, max2D, min2D, eqD_ii, neD_ii, eqD_ss, neD_ss, eqD_nil, neD_nil, take_len]; rfl
        | some ts => simp (config := {dsimp := false}) only [↓ws_nil, ↓ws_cons, ↓ws_asg, ↓ws_setIx, ↓ws_ret, ↓ws_retN, ↓ws_if, ↓ws_drop, ↓ws_brk, ↓ws_cnt, ↓ws_for, ↓wp_tOf, ↓wp_not, ↓wp_and, ↓wp_or, ↓wp_vand, ↓wp_vor, ↓wp_eB, ↓wp_eIf, ↓wp_neg, ↓wp_chain, ↓wp_e2, ↓wp_var, ↓wp_c, ↓wp_addI, ↓wp_addS, ↓wp_addL, ↓wp_addT, ↓ws_raise1, ↓ws_raise0, ↓ws_par, ↓ws_par3, uPar3_ok, ↓wp_kin, ↓wp_kix, wo_ks, ↓wp_get1, ↓wp_get2, ↓wp_dget, ↓ws_setKey, uKeyD, keyD, ↓wp_fnK, ↓ws_try, ↓ws_hdN, ↓ws_hdC, ↓ws_suiteN, ↓ws_suiteS, ↓wp_fld, xE, gP_nil, gP_cons, Option.toList, ↓wp_lift2v, ↓wp_aNil, ↓wp_aCons, ↓wp_newF, ↓wp_newT, ↓wp_lst, ↓wp_tup, ↓wp_call, ↓wp_pf1, ↓wp_pf2, ↓wp_pfL, ↓wp_isi, ↓wp_fn, ↓wp_bm, ↓wp_sl, ↓wp_pNone, ↓wp_pSome, ↓wp_slS, ↓wp_slL, ↓wp_disp, ↓wp_newDF, ↓wp_newDT, rf_l, rf_d, ↓wp_prNil, ↓wp_prCons, ↓wp_dnew, ↓wp_iVal, ↓wp_rng1, ↓wp_rng2, ↓wp_lc, ↓wp_ok, ↓wp_exc, ↓wp_bad, ↓wp_join, itD, ↓wp_bYes, ↓rQ_dat, ↓rQ_cell, ↓wo_some, ↓wo_none, ↓wo_ite, ↓wo_map, view_dat, td_nil, td_cons, Option.map_some, bind_name, bind_tup, sa_c, sa_n, toKey, uB, uI, uD, uI1, uI2, ty_s, ty_l, List.map, List.length, List.replicate, Nat.reduceSub, Nat.reduceAdd, Nat.reduceLeDiff, Nat.zero_add, List.cons_append, List.nil_append, List.append_nil, List.getElem?_cons_zero, List.getElem?_cons_succ, Option.join_some, List.set_cons_zero, List.set_cons_succ, decide_eq_true_eq, Bool.not_eq_true', Bool.not_true, Bool.not_false, if_true, if_false, Bool.false_eq_true, eq_self, true_and, and_true, isND_n, notND_n, isi_int, isi_bool, isi_str, isi_tuple, isi_list, isi_dict, dInt, dBl, dStr, dTup, dLst, dDct, wipeE, List.set, subD, ltD, gtD, leD, geD, max2D, min2D, eqD_ii, neD_ii, eqD_ss, neD_ss, eqD_nil, neD_nil, take_len, inX_tupS]; simp [WO, rQ_dat]
      | [a, b] =>
        have n0 : (((2 : Nat) : Int) == 0) = false := rfl
        have n1 : (((2 : Nat) : Int) == 1) = false := rfl
        have n2 : (((2 : Nat) : Int) == 2) = true := rfl
        have n3 : (((2 : Nat) : Int) == 3) = false := rfl
        have ad : allD (.lst [.bl true, .bl true]) = some (.bl true) := rfl
        simp only [List.map] at key l16 hall
        have i2 : inX false (.str b) (.tup [.str [110, 101, 119], .str [114, 101, 115, 116]]) = some (.bl ([wNew, wRest].any (· == b))) := (inX_tupS (ts := [wNew, wRest])).trans (by cases [wNew, wRest].any (· == b) <;> rfl)
        simp (config := {dsimp := false}) only [↓ws_nil, ↓ws_cons, ↓ws_asg, ↓ws_setIx, ↓ws_ret, ↓ws_retN, ↓ws_if, ↓ws_drop, ↓ws_brk, ↓ws_cnt, ↓ws_for, ↓wp_tOf, ↓wp_not, ↓wp_and, ↓wp_or, ↓wp_vand, ↓wp_vor, ↓wp_eB, ↓wp_eIf, ↓wp_neg, ↓wp_chain, ↓wp_e2, ↓wp_var, ↓wp_c, ↓wp_addI, ↓wp_addS, ↓wp_addL, ↓wp_addT, ↓ws_raise1, ↓ws_raise0, ↓ws_par, ↓ws_par3, uPar3_ok, ↓wp_kin, ↓wp_kix, wo_ks, ↓wp_get1, ↓wp_get2, ↓wp_dget, ↓ws_setKey, uKeyD, keyD, ↓wp_fnK, ↓ws_try, ↓ws_hdN, ↓ws_hdC, ↓ws_suiteN, ↓ws_suiteS, ↓wp_fld, xE, gP_nil, gP_cons, Option.toList, ↓wp_lift2v, ↓wp_aNil, ↓wp_aCons, ↓wp_newF, ↓wp_newT, ↓wp_lst, ↓wp_tup, ↓wp_call, ↓wp_pf1, ↓wp_pf2, ↓wp_pfL, ↓wp_isi, ↓wp_fn, ↓wp_bm, ↓wp_sl, ↓wp_pNone, ↓wp_pSome, ↓wp_slS, ↓wp_slL, ↓wp_disp, ↓wp_newDF, ↓wp_newDT, rf_l, rf_d, ↓wp_prNil, ↓wp_prCons, ↓wp_dnew, ↓wp_iVal, ↓wp_rng1, ↓wp_rng2, ↓wp_lc, ↓wp_ok, ↓wp_exc, ↓wp_bad, ↓wp_join, itD, ↓wp_bYes, ↓rQ_dat, ↓rQ_cell, ↓wo_some, ↓wo_none, ↓wo_ite, ↓wo_map, view_dat, td_nil, td_cons, Option.map_some, bind_name, bind_tup, sa_c, sa_n, toKey, uB, uI, uD, uI1, uI2, ty_s, ty_l, List.map, List.length, List.replicate, Nat.reduceSub, Nat.reduceAdd, Nat.reduceLeDiff, Nat.zero_add, List.cons_append, List.nil_append, List.append_nil, List.getElem?_cons_zero, List.getElem?_cons_succ, Option.join_some, List.set_cons_zero, List.set_cons_succ, decide_eq_true_eq, Bool.not_eq_true', Bool.not_true, Bool.not_false, if_true, if_false, Bool.false_eq_true, eq_self, true_and, and_true, isND_n, notND_n, isi_int, isi_bool, isi_str, isi_tuple, isi_list, isi_dict, dInt, dBl, dStr, dTup, dLst, dDct, wipeE, List.set, subD, ltD, gtD, leD, geD, max2D, min2D, eqD_ii, neD_ii, eqD_ss, neD_ss, eqD_nil, neD_nil, -dStr, len_t, l16, key, ad, n0, n1, n2, n3, ix0_t, ix1_t, i2, take_len, ptT, ltT]
        show _ = Q (.dat (.bl (a == wScan && (z == wHang && [wNew, wRest].any (· == b))))) M
        unfold wScan wHang
        cases h1 : a == [115, 99, 97, 110] <;> cases h2 : z == [104, 97, 110, 103] <;> simp
      | [a, b, c] =>
        simp only [List.map] at key l16 hall h2
        have w3 : ∀ {M Q X}, Wp (f_is_name [.dat (.str c)] M) Q X = Q (.dat (.bl (isNameD (.str c)))) M := fun {M Q X} => wp_is_name fun s e => by cases e; exact Nat.le_trans (h2 _ (by simp)) (by decide)
        have n0 : (((3 : Nat) : Int) == 0) = false := rfl
        have n1 : (((3 : Nat) : Int) == 1) = false := rfl
        have n2 : (((3 : Nat) : Int) == 2) = false := rfl
        have n3 : (((3 : Nat) : Int) == 3) = true := rfl
        have ad : allD (.lst [.bl true, .bl true, .bl true]) = some (.bl true) := rfl
        simp (config := {dsimp := false}) only [↓ws_nil, ↓ws_cons, ↓ws_asg, ↓ws_setIx, ↓ws_ret, ↓ws_retN, ↓ws_if, ↓ws_drop, ↓ws_brk, ↓ws_cnt, ↓ws_for, ↓wp_tOf, ↓wp_not, ↓wp_and, ↓wp_or, ↓wp_vand, ↓wp_vor, ↓wp_eB, ↓wp_eIf, ↓wp_neg, ↓wp_chain, ↓wp_e2, ↓wp_var, ↓wp_c, ↓wp_addI, ↓wp_addS, ↓wp_addL, ↓wp_addT, ↓ws_raise1, ↓ws_raise0, ↓ws_par, ↓ws_par3, uPar3_ok, ↓wp_kin, ↓wp_kix, wo_ks, ↓wp_get1, ↓wp_get2, ↓wp_dget, ↓ws_setKey, uKeyD, keyD, ↓wp_fnK, ↓ws_try, ↓ws_hdN, ↓ws_hdC, ↓ws_suiteN, ↓ws_suiteS, ↓wp_fld, xE, gP_nil, gP_cons, Option.toList, ↓wp_lift2v, ↓wp_aNil, ↓wp_aCons, ↓wp_newF, ↓wp_newT, ↓wp_lst, ↓wp_tup, ↓wp_call, ↓wp_pf1, ↓wp_pf2, ↓wp_pfL, ↓wp_isi, ↓wp_fn, ↓wp_bm, ↓wp_sl, ↓wp_pNone, ↓wp_pSome, ↓wp_slS, ↓wp_slL, ↓wp_disp, ↓wp_newDF, ↓wp_newDT, rf_l, rf_d, ↓wp_prNil, ↓wp_prCons, ↓wp_dnew, ↓wp_iVal, ↓wp_rng1, ↓wp_rng2, ↓wp_lc, ↓wp_ok, ↓wp_exc, ↓wp_bad, ↓wp_join, itD, ↓wp_bYes, ↓rQ_dat, ↓rQ_cell, ↓wo_some, ↓wo_none, ↓wo_ite, ↓wo_map, view_dat, td_nil, td_cons, Option.map_some, bind_name, bind_tup, sa_c, sa_n, toKey, uB, uI, uD, uI1, uI2, ty_s, ty_l, List.map, List.length, List.replicate, Nat.reduceSub, Nat.reduceAdd, Nat.reduceLeDiff, Nat.zero_add, List.cons_append, List.nil_append, List.append_nil, List.getElem?_cons_zero, List.getElem?_cons_succ, Option.join_some, List.set_cons_zero, List.set_cons_succ, decide_eq_true_eq, Bool.not_eq_true', Bool.not_true, Bool.not_false, if_true, if_false, Bool.false_eq_true, eq_self, true_and, and_true, isND_n, notND_n, isi_int, isi_bool, isi_str, isi_tuple, isi_list, isi_dict, dInt, dBl, dStr, dTup, dLst, dDct, wipeE, List.set, subD, ltD, gtD, leD, geD, max2D, min2D, eqD_ii, neD_ii, eqD_ss, neD_ss, eqD_nil, neD_nil, -dStr, len_t, l16, key, ad, n0, n1, n2, n3, ix0_t, ix1_t, ix2_t, inX_tupS, take_len, ↓w3, ptT, ltT]
        show _ = Q (.dat (.bl (a == wLock && (inT lockT b z && isNameC c)))) M
        unfold wLock inT
        cases h1 : a == [115, 99, 97, 110] with
        | true =>
          have : a = [115, 99, 97, 110] := eq_of_beq h1
          subst this
          simp
        | false =>
          cases h2 : a == [108, 111, 99, 107] with
          | false => simp
          | true =>
            cases hf : findT lockT b with
            | none => simp
            | some ts =>
              have wn : isNameD (.str c) = isNameC c := rfl
              cases ht : ts.any (· == z) with
              | false => simp (config := {dsimp := false}) only [↓ws_nil, ↓ws_cons, ↓ws_asg, ↓ws_setIx, ↓ws_ret, ↓ws_retN, ↓ws_if, ↓ws_drop, ↓ws_brk, ↓ws_cnt, ↓ws_for, ↓wp_tOf, ↓wp_not, ↓wp_and, ↓wp_or, ↓wp_vand, ↓wp_vor, ↓wp_eB, ↓wp_eIf, ↓wp_neg, ↓wp_chain, ↓wp_e2, ↓wp_var, ↓wp_c, ↓wp_addI, ↓wp_addS, ↓wp_addL, ↓wp_addT, ↓ws_raise1, ↓ws_raise0, ↓ws_par, ↓ws_par3, uPar3_ok, ↓wp_kin, ↓wp_kix, wo_ks, ↓wp_get1, ↓wp_get2, ↓wp_dget, ↓ws_setKey, uKeyD, keyD, ↓wp_fnK, ↓ws_try, ↓ws_hdN, ↓ws_hdC, ↓ws_suiteN, ↓ws_suiteS, ↓wp_fld, xE, gP_nil, gP_cons, Option.toList, ↓wp_lift2v, ↓wp_aNil, ↓wp_aCons, ↓wp_newF, ↓wp_newT, ↓wp_lst, ↓wp_tup, ↓wp_call, ↓wp_pf1, ↓wp_pf2, ↓wp_pfL, ↓wp_isi, ↓wp_fn, ↓wp_bm, ↓wp_sl, ↓wp_pNone, ↓wp_pSome, ↓wp_slS, ↓wp_slL, ↓wp_disp, ↓wp_newDF, ↓wp_newDT, rf_l, rf_d, ↓wp_prNil, ↓wp_prCons, ↓wp_dnew, ↓wp_iVal, ↓wp_rng1, ↓wp_rng2, ↓wp_lc, ↓wp_ok, ↓wp_exc, ↓wp_bad, ↓wp_join, itD, ↓wp_bYes, ↓rQ_dat, ↓rQ_cell, ↓wo_some, ↓wo_none, ↓wo_ite, ↓wo_map, view_dat, td_nil, td_cons, Option.map_some, bind_name, bind_tup, sa_c, sa_n, toKey, uB, uI, uD, uI1, uI2, ty_s, ty_l, List.map, List.length, List.replicate, Nat.reduceSub, Nat.reduceAdd, Nat.reduceLeDiff, Nat.zero_add, List.cons_append, List.nil_append, List.append_nil, List.getElem?_cons_zero, List.getElem?_cons_succ, Option.join_some, List.set_cons_zero, List.set_cons_succ, decide_eq_true_eq, Bool.not_eq_true', Bool.not_true, Bool.not_false, if_true, if_false, Bool.false_eq_true, eq_self, true_and, and_true, isND_n, notND_n, isi_int, isi_bool, isi_str, isi_tuple, isi_list, isi_dict, dInt, dBl, dStr, dTup, dLst, dDct, wipeE, List.set, subD, ltD, gtD, leD, geD, max2D, min2D, eqD_ii, neD_ii, eqD_ss, neD_ss, eqD_nil, neD_nil, inX_tupS, take_len, ↓w3, ht]; simp
              | true => simp (config := {dsimp := false}) only [↓ws_nil, ↓ws_cons, ↓ws_asg, ↓ws_setIx, ↓ws_ret, ↓ws_retN, ↓ws_if, ↓ws_drop, ↓ws_brk, ↓ws_cnt, ↓ws_for, ↓wp_tOf, ↓wp_not, ↓wp_and, ↓wp_or, ↓wp_vand, ↓wp_vor, ↓wp_eB, ↓wp_eIf, ↓wp_neg, ↓wp_chain, ↓wp_e2, ↓wp_var, ↓wp_c, ↓wp_addI, ↓wp_addS, ↓wp_addL, ↓wp_addT, ↓ws_raise1, ↓ws_raise0, ↓ws_par, ↓ws_par3, uPar3_ok, ↓wp_kin, ↓wp_kix, wo_ks, ↓wp_get1, ↓wp_get2, ↓wp_dget, ↓ws_setKey, uKeyD, keyD, ↓wp_fnK, ↓ws_try, ↓ws_hdN, ↓ws_hdC, ↓ws_suiteN, ↓ws_suiteS, ↓wp_fld, xE, gP_nil, gP_cons, Option.toList, ↓wp_lift2v, ↓wp_aNil, ↓wp_aCons, ↓wp_newF, ↓wp_newT, ↓wp_lst, ↓wp_tup, ↓wp_call, ↓wp_pf1, ↓wp_pf2, ↓wp_pfL, ↓wp_isi, ↓wp_fn, ↓wp_bm, ↓wp_sl, ↓wp_pNone, ↓wp_pSome, ↓wp_slS, ↓wp_slL, ↓wp_disp, ↓wp_newDF, ↓wp_newDT, rf_l, rf_d, ↓wp_prNil, ↓wp_prCons, ↓wp_dnew, ↓wp_iVal, ↓wp_rng1, ↓wp_rng2, ↓wp_lc, ↓wp_ok, ↓wp_exc, ↓wp_bad, ↓wp_join, itD, ↓wp_bYes, ↓rQ_dat, ↓rQ_cell, ↓wo_some, ↓wo_none, ↓wo_ite, ↓wo_map, view_dat, td_nil, td_cons, Option.map_some, bind_name, bind_tup, sa_c, sa_n, toKey, uB, uI, uD, uI1, uI2, ty_s, ty_l, List.map, List.length, List.replicate, Nat.reduceSub, Nat.reduceAdd, Nat.reduceLeDiff, Nat.zero_add, List.cons_append, List.nil_append, List.append_nil, List.getElem?_cons_zero, List.getElem?_cons_succ, Option.join_some, List.set_cons_zero, List.set_cons_succ, decide_eq_true_eq, Bool.not_eq_true', Bool.not_true, Bool.not_false, if_true, if_false, Bool.false_eq_true, eq_self, true_and, and_true, isND_n, notND_n, isi_int, isi_bool, isi_str, isi_tuple, isi_list, isi_dict, dInt, dBl, dStr, dTup, dLst, dDct, wipeE, List.set, subD, ltD, gtD, leD, geD, max2D, min2D, eqD_ii, neD_ii, eqD_ss, neD_ss, eqD_nil, neD_nil, inX_tupS, take_len, ↓w3, ht, ix2_t]; simp [take_len, wn]
      | a :: b :: c :: d :: r =>
        have e0 : (((r.length + 1 + 1 + 1 + 1 : Nat) : Int) == 0) = false := by simp; omega
        have e1 : (((r.length + 1 + 1 + 1 + 1 : Nat) : Int) == 1) = false := by simp; omega
        have e2 : (((r.length + 1 + 1 + 1 + 1 : Nat) : Int) == 2) = false := by simp; omega
        have e3 : (((r.length + 1 + 1 + 1 + 1 : Nat) : Int) == 3) = false := by simp; omega
        have ad := allD_map (p := dStr) ((a :: b :: c :: d :: r).map D.str)
        rw [hall] at ad
        simp only [List.map, List.length_cons, List.length_map, show ∀ s, dStr (.str s) = true from fun _ => rfl] at key l16 ad
        simp (config := {dsimp := false}) only [↓ws_nil, ↓ws_cons, ↓ws_asg, ↓ws_setIx, ↓ws_ret, ↓ws_retN, ↓ws_if, ↓ws_drop, ↓ws_brk, ↓ws_cnt, ↓ws_for, ↓wp_tOf, ↓wp_not, ↓wp_and, ↓wp_or, ↓wp_vand, ↓wp_vor, ↓wp_eB, ↓wp_eIf, ↓wp_neg, ↓wp_chain, ↓wp_e2, ↓wp_var, ↓wp_c, ↓wp_addI, ↓wp_addS, ↓wp_addL, ↓wp_addT, ↓ws_raise1, ↓ws_raise0, ↓ws_par, ↓ws_par3, uPar3_ok, ↓wp_kin, ↓wp_kix, wo_ks, ↓wp_get1, ↓wp_get2, ↓wp_dget, ↓ws_setKey, uKeyD, keyD, ↓wp_fnK, ↓ws_try, ↓ws_hdN, ↓ws_hdC, ↓ws_suiteN, ↓ws_suiteS, ↓wp_fld, xE, gP_nil, gP_cons, Option.toList, ↓wp_lift2v, ↓wp_aNil, ↓wp_aCons, ↓wp_newF, ↓wp_newT, ↓wp_lst, ↓wp_tup, ↓wp_call, ↓wp_pf1, ↓wp_pf2, ↓wp_pfL, ↓wp_isi, ↓wp_fn, ↓wp_bm, ↓wp_sl, ↓wp_pNone, ↓wp_pSome, ↓wp_slS, ↓wp_slL, ↓wp_disp, ↓wp_newDF, ↓wp_newDT, rf_l, rf_d, ↓wp_prNil, ↓wp_prCons, ↓wp_dnew, ↓wp_iVal, ↓wp_rng1, ↓wp_rng2, ↓wp_lc, ↓wp_ok, ↓wp_exc, ↓wp_bad, ↓wp_join, itD, ↓wp_bYes, ↓rQ_dat, ↓rQ_cell, ↓wo_some, ↓wo_none, ↓wo_ite, ↓wo_map, view_dat, td_nil, td_cons, Option.map_some, bind_name, bind_tup, sa_c, sa_n, toKey, uB, uI, uD, uI1, uI2, ty_s, ty_l, List.map, List.length, List.replicate, Nat.reduceSub, Nat.reduceAdd, Nat.reduceLeDiff, Nat.zero_add, List.cons_append, List.nil_append, List.append_nil, List.getElem?_cons_zero, List.getElem?_cons_succ, Option.join_some, List.set_cons_zero, List.set_cons_succ, decide_eq_true_eq, Bool.not_eq_true', Bool.not_true, Bool.not_false, if_true, if_false, Bool.false_eq_true, eq_self, true_and, and_true, isND_n, notND_n, isi_int, isi_bool, isi_str, isi_tuple, isi_list, isi_dict, dInt, dBl, dStr, dTup, dLst, dDct, wipeE, List.set, subD, ltD, gtD, leD, geD, max2D, min2D, eqD_ii, neD_ii, eqD_ss, neD_ss, eqD_nil, neD_nil, -dStr, len_t, l16, key, ad, ix0_t, ix1_t, inX_tupS, take_len, List.length_map, e0, e1, e2, e3, ptT, ltT, show ∀ s, dStr (.str s) = true from fun _ => rfl]
        show _ = Q (.dat (.bl false)) M
        simp
  | _ => simp (config := {dsimp := false}) only [↓ws_nil, ↓ws_cons, ↓ws_asg, ↓ws_setIx, ↓ws_ret, ↓ws_retN, ↓ws_if, ↓ws_drop, ↓ws_brk, ↓ws_cnt, ↓ws_for, ↓wp_tOf, ↓wp_not, ↓wp_and, ↓wp_or, ↓wp_vand, ↓wp_vor, ↓wp_eB, ↓wp_eIf, ↓wp_neg, ↓wp_chain, ↓wp_e2, ↓wp_var, ↓wp_c, ↓wp_addI, ↓wp_addS, ↓wp_addL, ↓wp_addT, ↓ws_raise1, ↓ws_raise0, ↓ws_par, ↓ws_par3, uPar3_ok, ↓wp_kin, ↓wp_kix, wo_ks, ↓wp_get1, ↓wp_get2, ↓wp_dget, ↓ws_setKey, uKeyD, keyD, ↓wp_fnK, ↓ws_try, ↓ws_hdN, ↓ws_hdC, ↓ws_suiteN, ↓ws_suiteS, ↓wp_fld, xE, gP_nil, gP_cons, Option.toList, ↓wp_lift2v, ↓wp_aNil, ↓wp_aCons, ↓wp_newF, ↓wp_newT, ↓wp_lst, ↓wp_tup, ↓wp_call, ↓wp_pf1, ↓wp_pf2, ↓wp_pfL, ↓wp_isi, ↓wp_fn, ↓wp_bm, ↓wp_sl, ↓wp_pNone, ↓wp_pSome, ↓wp_slS, ↓wp_slL, ↓wp_disp, ↓wp_newDF, ↓wp_newDT, rf_l, rf_d, ↓wp_prNil, ↓wp_prCons, ↓wp_dnew, ↓wp_iVal, ↓wp_rng1, ↓wp_rng2, ↓wp_lc, ↓wp_ok, ↓wp_exc, ↓wp_bad, ↓wp_join, itD, ↓wp_bYes, ↓rQ_dat, ↓rQ_cell, ↓wo_some, ↓wo_none, ↓wo_ite, ↓wo_map, view_dat, td_nil, td_cons, Option.map_some, bind_name, bind_tup, sa_c, sa_n, toKey, uB, uI, uD, uI1, uI2, ty_s, ty_l, List.map, List.length, List.replicate, Nat.reduceSub, Nat.reduceAdd, Nat.reduceLeDiff, Nat.zero_add, List.cons_append, List.nil_append, List.append_nil, List.getElem?_cons_zero, List.getElem?_cons_succ, Option.join_some, List.set_cons_zero, List.set_cons_succ, decide_eq_true_eq, Bool.not_eq_true', Bool.not_true, Bool.not_false, if_true, if_false, Bool.false_eq_true, eq_self, true_and, and_true, isND_n, notND_n, isi_int, isi_bool, isi_str, isi_tuple, isi_list, isi_dict, dInt, dBl, dStr, dTup, dLst, dDct, wipeE, List.set, subD, ltD, gtD, leD, geD, max2D, min2D, eqD_ii, neD_ii, eqD_ss, neD_ss, eqD_nil, neD_nil, take_len]; rfl
theorem wp_lis_name {d : D} {M : Mem} {Q : U → Mem → Prop} {X : XP} (hs : ∀ s, d = .str s → s.length ≤ 16777216) : Wp (f_law_is_name [.dat d] M) Q X = Q (.dat (.bl (isNameD d))) M := by
  unfold f_law_is_name b_law_is_name
  rw [wp_run]
  cases d with
  | str s =>
    have hl := hs s rfl
    have l1 : lenD (.str s) = some (.int s.length) := if_pos hl
    simp (config := {dsimp := false}) only [↓ws_nil, ↓ws_cons, ↓ws_asg, ↓ws_setIx, ↓ws_ret, ↓ws_retN, ↓ws_if, ↓ws_drop, ↓ws_brk, ↓ws_cnt, ↓ws_for, ↓wp_tOf, ↓wp_not, ↓wp_and, ↓wp_or, ↓wp_vand, ↓wp_vor, ↓wp_eB, ↓wp_eIf, ↓wp_neg, ↓wp_chain, ↓wp_e2, ↓wp_var, ↓wp_c, ↓wp_addI, ↓wp_addS, ↓wp_addL, ↓wp_addT, ↓ws_raise1, ↓ws_raise0, ↓ws_par, ↓ws_par3, uPar3_ok, ↓wp_kin, ↓wp_kix, wo_ks, ↓wp_get1, ↓wp_get2, ↓wp_dget, ↓ws_setKey, uKeyD, keyD, ↓wp_fnK, ↓ws_try, ↓ws_hdN, ↓ws_hdC, ↓ws_suiteN, ↓ws_suiteS, ↓wp_fld, xE, gP_nil, gP_cons, Option.toList, ↓wp_lift2v, ↓wp_aNil, ↓wp_aCons, ↓wp_newF, ↓wp_newT, ↓wp_lst, ↓wp_tup, ↓wp_call, ↓wp_pf1, ↓wp_pf2, ↓wp_pfL, ↓wp_isi, ↓wp_fn, ↓wp_bm, ↓wp_sl, ↓wp_pNone, ↓wp_pSome, ↓wp_slS, ↓wp_slL, ↓wp_disp, ↓wp_newDF, ↓wp_newDT, rf_l, rf_d, ↓wp_prNil, ↓wp_prCons, ↓wp_dnew, ↓wp_iVal, ↓wp_rng1, ↓wp_rng2, ↓wp_lc, ↓wp_ok, ↓wp_exc, ↓wp_bad, ↓wp_join, itD, ↓wp_bYes, ↓rQ_dat, ↓rQ_cell, ↓wo_some, ↓wo_none, ↓wo_ite, ↓wo_map, view_dat, td_nil, td_cons, Option.map_some, bind_name, bind_tup, sa_c, sa_n, toKey, uB, uI, uD, uI1, uI2, ty_s, ty_l, List.map, List.length, List.replicate, Nat.reduceSub, Nat.reduceAdd, Nat.reduceLeDiff, Nat.zero_add, List.cons_append, List.nil_append, List.append_nil, List.getElem?_cons_zero, List.getElem?_cons_succ, Option.join_some, List.set_cons_zero, List.set_cons_succ, decide_eq_true_eq, Bool.not_eq_true', Bool.not_true, Bool.not_false, if_true, if_false, Bool.false_eq_true, eq_self, true_and, and_true, isND_n, notND_n, isi_int, isi_bool, isi_str, isi_tuple, isi_list, isi_dict, dInt, dBl, dStr, dTup, dLst, dDct, wipeE, List.set, subD, ltD, gtD, leD, geD, max2D, min2D, eqD_ii, neD_ii, eqD_ss, neD_ss, eqD_nil, neD_nil, l1, take_len]
    show _ = Q (.dat (.bl (isNameC s))) M
    unfold isNameC
    by_cases h1 : (s == [116, 97, 98, 108, 101]) = true
    · rw [if_pos h1, show (s == cTable) = true from h1]; rfl
    · rw [if_neg h1, show (s == cTable) = false from by rw [Bool.not_eq_true] at h1; exact h1]
      by_cases h2 : (s.length : Int) < 1
      · have h2' : ¬ 1 ≤ s.length := by omega
        rw [if_pos h2, decide_eq_false h2']; simp [rQ_dat]
      · by_cases h3 : 8 < (s.length : Int)
        · have h3' : ¬ s.length ≤ 8 := by omega
          rw [if_neg h2, if_pos h3, decide_eq_false h3']; simp [rQ_dat]
        · have h2' : 1 ≤ s.length := by omega
          have h3' : s.length ≤ 8 := by omega
          rw [if_neg h2, if_neg h3, decide_eq_true h2', decide_eq_true h3']
          have key : ∀ (M : Mem), lcL (.name 1) (tOf (e2 (lift2 notInD) (eVar 1) (eC (.str letters)))) (eVar 1) [some (.dat (.str s)), none] (s.map fun c => D.str [c]) M = .ok ((s.filter fun c => !letterB c).map fun c => D.str [c]) M := by
            intro M
            have w : Wp (lcL (.name 1) (tOf (e2 (lift2 notInD) (eVar 1) (eC (.str letters)))) (eVar 1) [some (.dat (.str s)), none] (s.map fun c => D.str [c]) M) (fun es M' => es = ((s.filter fun c => !letterB c).map fun c => D.str [c]) ∧ M' = M) x0 := by
              refine wp_lcM _ (fun c => !letterB c) (fun c => D.str [c]) (fun c hc => ?_) ⟨rfl, rfl⟩
              · simp (config := {dsimp := false}) only [↓ws_nil, ↓ws_cons, ↓ws_asg, ↓ws_setIx, ↓ws_ret, ↓ws_retN, ↓ws_if, ↓ws_drop, ↓ws_brk, ↓ws_cnt, ↓ws_for, ↓wp_tOf, ↓wp_not, ↓wp_and, ↓wp_or, ↓wp_vand, ↓wp_vor, ↓wp_eB, ↓wp_eIf, ↓wp_neg, ↓wp_chain, ↓wp_e2, ↓wp_var, ↓wp_c, ↓wp_addI, ↓wp_addS, ↓wp_addL, ↓wp_addT, ↓ws_raise1, ↓ws_raise0, ↓ws_par, ↓ws_par3, uPar3_ok, ↓wp_kin, ↓wp_kix, wo_ks, ↓wp_get1, ↓wp_get2, ↓wp_dget, ↓ws_setKey, uKeyD, keyD, ↓wp_fnK, ↓ws_try, ↓ws_hdN, ↓ws_hdC, ↓ws_suiteN, ↓ws_suiteS, ↓wp_fld, xE, gP_nil, gP_cons, Option.toList, ↓wp_lift2v, ↓wp_aNil, ↓wp_aCons, ↓wp_newF, ↓wp_newT, ↓wp_lst, ↓wp_tup, ↓wp_call, ↓wp_pf1, ↓wp_pf2, ↓wp_pfL, ↓wp_isi, ↓wp_fn, ↓wp_bm, ↓wp_sl, ↓wp_pNone, ↓wp_pSome, ↓wp_slS, ↓wp_slL, ↓wp_disp, ↓wp_newDF, ↓wp_newDT, rf_l, rf_d, ↓wp_prNil, ↓wp_prCons, ↓wp_dnew, ↓wp_iVal, ↓wp_rng1, ↓wp_rng2, ↓wp_lc, ↓wp_ok, ↓wp_exc, ↓wp_bad, ↓wp_join, itD, ↓wp_bYes, ↓rQ_dat, ↓rQ_cell, ↓wo_some, ↓wo_none, ↓wo_ite, ↓wo_map, view_dat, td_nil, td_cons, Option.map_some, bind_name, bind_tup, sa_c, sa_n, toKey, uB, uI, uD, uI1, uI2, ty_s, ty_l, List.map, List.length, List.replicate, Nat.reduceSub, Nat.reduceAdd, Nat.reduceLeDiff, Nat.zero_add, List.cons_append, List.nil_append, List.append_nil, List.getElem?_cons_zero, List.getElem?_cons_succ, Option.join_some, List.set_cons_zero, List.set_cons_succ, decide_eq_true_eq, Bool.not_eq_true', Bool.not_true, Bool.not_false, if_true, if_false, Bool.false_eq_true, eq_self, true_and, and_true, isND_n, notND_n, isi_int, isi_bool, isi_str, isi_tuple, isi_list, isi_dict, dInt, dBl, dStr, dTup, dLst, dDct, wipeE, List.set, subD, ltD, gtD, leD, geD, max2D, min2D, eqD_ii, neD_ii, eqD_ss, neD_ss, eqD_nil, neD_nil, inD, notInD]; simp [letterB]
            obtain ⟨es, M', e, rfl, rfl⟩ := w.ok
            exact e
          simp (config := {dsimp := false}) only [↓ws_nil, ↓ws_cons, ↓ws_asg, ↓ws_setIx, ↓ws_ret, ↓ws_retN, ↓ws_if, ↓ws_drop, ↓ws_brk, ↓ws_cnt, ↓ws_for, ↓wp_tOf, ↓wp_not, ↓wp_and, ↓wp_or, ↓wp_vand, ↓wp_vor, ↓wp_eB, ↓wp_eIf, ↓wp_neg, ↓wp_chain, ↓wp_e2, ↓wp_var, ↓wp_c, ↓wp_addI, ↓wp_addS, ↓wp_addL, ↓wp_addT, ↓ws_raise1, ↓ws_raise0, ↓ws_par, ↓ws_par3, uPar3_ok, ↓wp_kin, ↓wp_kix, wo_ks, ↓wp_get1, ↓wp_get2, ↓wp_dget, ↓ws_setKey, uKeyD, keyD, ↓wp_fnK, ↓ws_try, ↓ws_hdN, ↓ws_hdC, ↓ws_suiteN, ↓ws_suiteS, ↓wp_fld, xE, gP_nil, gP_cons, Option.toList, ↓wp_lift2v, ↓wp_aNil, ↓wp_aCons, ↓wp_newF, ↓wp_newT, ↓wp_lst, ↓wp_tup, ↓wp_call, ↓wp_pf1, ↓wp_pf2, ↓wp_pfL, ↓wp_isi, ↓wp_fn, ↓wp_bm, ↓wp_sl, ↓wp_pNone, ↓wp_pSome, ↓wp_slS, ↓wp_slL, ↓wp_disp, ↓wp_newDF, ↓wp_newDT, rf_l, rf_d, ↓wp_prNil, ↓wp_prCons, ↓wp_dnew, ↓wp_iVal, ↓wp_rng1, ↓wp_rng2, ↓wp_lc, ↓wp_ok, ↓wp_exc, ↓wp_bad, ↓wp_join, itD, ↓wp_bYes, ↓rQ_dat, ↓rQ_cell, ↓wo_some, ↓wo_none, ↓wo_ite, ↓wo_map, view_dat, td_nil, td_cons, Option.map_some, bind_name, bind_tup, sa_c, sa_n, toKey, uB, uI, uD, uI1, uI2, ty_s, ty_l, List.map, List.length, List.replicate, Nat.reduceSub, Nat.reduceAdd, Nat.reduceLeDiff, Nat.zero_add, List.cons_append, List.nil_append, List.append_nil, List.getElem?_cons_zero, List.getElem?_cons_succ, Option.join_some, List.set_cons_zero, List.set_cons_succ, decide_eq_true_eq, Bool.not_eq_true', Bool.not_true, Bool.not_false, if_true, if_false, Bool.false_eq_true, eq_self, true_and, and_true, isND_n, notND_n, isi_int, isi_bool, isi_str, isi_tuple, isi_list, isi_dict, dInt, dBl, dStr, dTup, dLst, dDct, wipeE, List.set, subD, ltD, gtD, leD, geD, max2D, min2D, eqD_ii, neD_ii, eqD_ss, neD_ss, eqD_nil, neD_nil, List.length_map]
          rw [show ([97, 98, 99, 100, 101, 102, 103, 104, 105, 106, 107, 108, 109, 110, 111, 112, 113, 114, 115, 116, 117, 118, 119, 120, 121, 122] : Cs) = letters from rfl, key]
          simp (config := {dsimp := false}) only [↓ws_nil, ↓ws_cons, ↓ws_asg, ↓ws_setIx, ↓ws_ret, ↓ws_retN, ↓ws_if, ↓ws_drop, ↓ws_brk, ↓ws_cnt, ↓ws_for, ↓wp_tOf, ↓wp_not, ↓wp_and, ↓wp_or, ↓wp_vand, ↓wp_vor, ↓wp_eB, ↓wp_eIf, ↓wp_neg, ↓wp_chain, ↓wp_e2, ↓wp_var, ↓wp_c, ↓wp_addI, ↓wp_addS, ↓wp_addL, ↓wp_addT, ↓ws_raise1, ↓ws_raise0, ↓ws_par, ↓ws_par3, uPar3_ok, ↓wp_kin, ↓wp_kix, wo_ks, ↓wp_get1, ↓wp_get2, ↓wp_dget, ↓ws_setKey, uKeyD, keyD, ↓wp_fnK, ↓ws_try, ↓ws_hdN, ↓ws_hdC, ↓ws_suiteN, ↓ws_suiteS, ↓wp_fld, xE, gP_nil, gP_cons, Option.toList, ↓wp_lift2v, ↓wp_aNil, ↓wp_aCons, ↓wp_newF, ↓wp_newT, ↓wp_lst, ↓wp_tup, ↓wp_call, ↓wp_pf1, ↓wp_pf2, ↓wp_pfL, ↓wp_isi, ↓wp_fn, ↓wp_bm, ↓wp_sl, ↓wp_pNone, ↓wp_pSome, ↓wp_slS, ↓wp_slL, ↓wp_disp, ↓wp_newDF, ↓wp_newDT, rf_l, rf_d, ↓wp_prNil, ↓wp_prCons, ↓wp_dnew, ↓wp_iVal, ↓wp_rng1, ↓wp_rng2, ↓wp_lc, ↓wp_ok, ↓wp_exc, ↓wp_bad, ↓wp_join, itD, ↓wp_bYes, ↓rQ_dat, ↓rQ_cell, ↓wo_some, ↓wo_none, ↓wo_ite, ↓wo_map, view_dat, td_nil, td_cons, Option.map_some, bind_name, bind_tup, sa_c, sa_n, toKey, uB, uI, uD, uI1, uI2, ty_s, ty_l, List.map, List.length, List.replicate, Nat.reduceSub, Nat.reduceAdd, Nat.reduceLeDiff, Nat.zero_add, List.cons_append, List.nil_append, List.append_nil, List.getElem?_cons_zero, List.getElem?_cons_succ, Option.join_some, List.set_cons_zero, List.set_cons_succ, decide_eq_true_eq, Bool.not_eq_true', Bool.not_true, Bool.not_false, if_true, if_false, Bool.false_eq_true, eq_self, true_and, and_true, isND_n, notND_n, isi_int, isi_bool, isi_str, isi_tuple, isi_list, isi_dict, dInt, dBl, dStr, dTup, dLst, dDct, wipeE, List.set, subD, ltD, gtD, leD, geD, max2D, min2D, eqD_ii, neD_ii, eqD_ss, neD_ss, eqD_nil, neD_nil, toBs_map, hl]
          have e : (List.map (fun c => D.str [c]) (s.filter fun c => !letterB c)).isEmpty = s.all letterB := by
            clear key l1 hl hs h1 h2 h3 h2' h3'
            induction s with
            | nil => rfl
            | cons c s ih => cases hc : letterB c <;> simp_all
          rw [take_len, e]; rfl
  | _ => simp (config := {dsimp := false}) only [↓ws_nil, ↓ws_cons, ↓ws_asg, ↓ws_setIx, ↓ws_ret, ↓ws_retN, ↓ws_if, ↓ws_drop, ↓ws_brk, ↓ws_cnt, ↓ws_for, ↓wp_tOf, ↓wp_not, ↓wp_and, ↓wp_or, ↓wp_vand, ↓wp_vor, ↓wp_eB, ↓wp_eIf, ↓wp_neg, ↓wp_chain, ↓wp_e2, ↓wp_var, ↓wp_c, ↓wp_addI, ↓wp_addS, ↓wp_addL, ↓wp_addT, ↓ws_raise1, ↓ws_raise0, ↓ws_par, ↓ws_par3, uPar3_ok, ↓wp_kin, ↓wp_kix, wo_ks, ↓wp_get1, ↓wp_get2, ↓wp_dget, ↓ws_setKey, uKeyD, keyD, ↓wp_fnK, ↓ws_try, ↓ws_hdN, ↓ws_hdC, ↓ws_suiteN, ↓ws_suiteS, ↓wp_fld, xE, gP_nil, gP_cons, Option.toList, ↓wp_lift2v, ↓wp_aNil, ↓wp_aCons, ↓wp_newF, ↓wp_newT, ↓wp_lst, ↓wp_tup, ↓wp_call, ↓wp_pf1, ↓wp_pf2, ↓wp_pfL, ↓wp_isi, ↓wp_fn, ↓wp_bm, ↓wp_sl, ↓wp_pNone, ↓wp_pSome, ↓wp_slS, ↓wp_slL, ↓wp_disp, ↓wp_newDF, ↓wp_newDT, rf_l, rf_d, ↓wp_prNil, ↓wp_prCons, ↓wp_dnew, ↓wp_iVal, ↓wp_rng1, ↓wp_rng2, ↓wp_lc, ↓wp_ok, ↓wp_exc, ↓wp_bad, ↓wp_join, itD, ↓wp_bYes, ↓rQ_dat, ↓rQ_cell, ↓wo_some, ↓wo_none, ↓wo_ite, ↓wo_map, view_dat, td_nil, td_cons, Option.map_some, bind_name, bind_tup, sa_c, sa_n, toKey, uB, uI, uD, uI1, uI2, ty_s, ty_l, List.map, List.length, List.replicate, Nat.reduceSub, Nat.reduceAdd, Nat.reduceLeDiff, Nat.zero_add, List.cons_append, List.nil_append, List.append_nil, List.getElem?_cons_zero, List.getElem?_cons_succ, Option.join_some, List.set_cons_zero, List.set_cons_succ, decide_eq_true_eq, Bool.not_eq_true', Bool.not_true, Bool.not_false, if_true, if_false, Bool.false_eq_true, eq_self, true_and, and_true, isND_n, notND_n, isi_int, isi_bool, isi_str, isi_tuple, isi_list, isi_dict, dInt, dBl, dStr, dTup, dLst, dDct, wipeE, List.set, subD, ltD, gtD, leD, geD, max2D, min2D, eqD_ii, neD_ii, eqD_ss, neD_ss, eqD_nil, neD_nil, take_len]; rfl

theorem wp_slT {c : Bool} {d : D} {ds : List D} {M : Mem} {Q : U → Mem → Prop} {X : XP} : Wp (pSl c (.dat (.tup (d :: ds))) (some 1) none M) Q X = Q (.dat (.tup ds)) M := by
  show Wp (if HT.sIx (d :: ds).length 0 (some 1) = 0 ∧ HT.sIx (d :: ds).length (d :: ds).length none = (d :: ds).length then (.bad : Out U) else .ok (.dat (.tup (cutL (d :: ds) (some 1) none))) M) Q X = _
  rw [if_neg (fun h => by have := h.1; revert this; simp [HT.sIx] <;> omega)]
  show Q (.dat (.tup (cutL (d :: ds) (some 1) none))) M = _
  rw [show cutL (d :: ds) (some 1) none = (d :: ds).drop 1 from cut_from _ 1]; rfl
theorem wp_eq_of {o : Out U} {a : U} {M : Mem} (h : Wp o (fun u M' => u = a ∧ M' = M) x0) {Q : U → Mem → Prop} {X : XP} : Wp o Q X = Q a M := by
  obtain ⟨u, M', e, rfl, rfl⟩ := h.ok
  rw [e]; rfl
theorem key_eq {s t : Cs} : ((Sum.inr (mkS s) : Key) = Sum.inr (mkS t)) = (s = t) := by
  apply propext
  constructor
  · intro h; exact mkS_inj (Sum.inr.inj h)
  · intro h; rw [h]
theorem find_cons {w a : Cs} {ts : List Cs} {r : Tab} : findT ((w, ts) :: r) a = if w = a then some ts else findT r a := by
  unfold findT
  rw [List.find?_cons]
  by_cases h : w = a
  · rw [if_pos h]; simp [h]
  · have : (w == a) = false := by simpa using h
    simp [h, this]
theorem wp_kinds {M : Mem} {Q : U → Mem → Prop} {X : XP} : Wp (f_law_kinds [] M) Q X = Q (.dat (.lst [.str [112, 117, 116], .str [115, 116, 114, 105, 107, 101], .str [114, 101, 97, 100], .str [100, 105, 114, 101, 99, 116], .str [104, 97, 110, 103], .str [116, 97, 107, 101], .str [115, 112, 108, 105, 116], .str [106, 111, 105, 110]])) M := by
  unfold f_law_kinds b_law_kinds
  rw [wp_run]
  simp (config := {dsimp := false}) only [↓ws_nil, ↓ws_cons, ↓ws_asg, ↓ws_setIx, ↓ws_ret, ↓ws_retN, ↓ws_if, ↓ws_drop, ↓ws_brk, ↓ws_cnt, ↓ws_for, ↓wp_tOf, ↓wp_not, ↓wp_and, ↓wp_or, ↓wp_vand, ↓wp_vor, ↓wp_eB, ↓wp_eIf, ↓wp_neg, ↓wp_chain, ↓wp_e2, ↓wp_var, ↓wp_c, ↓wp_addI, ↓wp_addS, ↓wp_addL, ↓wp_addT, ↓ws_raise1, ↓ws_raise0, ↓ws_par, ↓ws_par3, uPar3_ok, ↓wp_kin, ↓wp_kix, wo_ks, ↓wp_get1, ↓wp_get2, ↓wp_dget, ↓ws_setKey, uKeyD, keyD, ↓wp_fnK, ↓ws_try, ↓ws_hdN, ↓ws_hdC, ↓ws_suiteN, ↓ws_suiteS, ↓wp_fld, xE, gP_nil, gP_cons, Option.toList, ↓wp_lift2v, ↓wp_aNil, ↓wp_aCons, ↓wp_newF, ↓wp_newT, ↓wp_lst, ↓wp_tup, ↓wp_call, ↓wp_pf1, ↓wp_pf2, ↓wp_pfL, ↓wp_isi, ↓wp_fn, ↓wp_bm, ↓wp_sl, ↓wp_pNone, ↓wp_pSome, ↓wp_slS, ↓wp_slL, ↓wp_disp, ↓wp_newDF, ↓wp_newDT, rf_l, rf_d, ↓wp_prNil, ↓wp_prCons, ↓wp_dnew, ↓wp_iVal, ↓wp_rng1, ↓wp_rng2, ↓wp_lc, ↓wp_ok, ↓wp_exc, ↓wp_bad, ↓wp_join, itD, ↓wp_bYes, ↓rQ_dat, ↓rQ_cell, ↓wo_some, ↓wo_none, ↓wo_ite, ↓wo_map, view_dat, td_nil, td_cons, Option.map_some, bind_name, bind_tup, sa_c, sa_n, toKey, uB, uI, uD, uI1, uI2, ty_s, ty_l, List.map, List.length, List.replicate, Nat.reduceSub, Nat.reduceAdd, Nat.reduceLeDiff, Nat.zero_add, List.cons_append, List.nil_append, List.append_nil, List.getElem?_cons_zero, List.getElem?_cons_succ, Option.join_some, List.set_cons_zero, List.set_cons_succ, decide_eq_true_eq, Bool.not_eq_true', Bool.not_true, Bool.not_false, if_true, if_false, Bool.false_eq_true, eq_self, true_and, and_true, isND_n, notND_n, isi_int, isi_bool, isi_str, isi_tuple, isi_list, isi_dict, dInt, dBl, dStr, dTup, dLst, dDct, wipeE, List.set, subD, ltD, gtD, leD, geD, max2D, min2D, eqD_ii, neD_ii, eqD_ss, neD_ss, eqD_nil, neD_nil, take_len]
theorem cut1 {α : Type} {s : List α} : cutL s (some 1) none = s.drop 1 := cut_from s 1
theorem inScan : ∀ ws : List Cs, inX false (.tup (ws.map D.str)) (.lst [.tup [.str [110, 101, 119]], .tup [.str [114, 101, 115, 116]]]) = some (.bl (match ws with | [b] => [wNew, wRest].any (· == b) | _ => false))
  | [] => rfl
  | [b] => by
    show some (D.bl (false != (((([110, 101, 119] == b) && true) && true) || (((([114, 101, 115, 116] == b) && true) && true) || false)))) = _
    simp [wNew, wRest]
  | b :: c :: r => by
    have e : ∀ w : Cs, eqO eqN (.tup [.str w]) (.tup ((b :: c :: r).map D.str)) = some false := fun w => by
      show (andAll [some (w == b)]).map (fun x => x && 1 == ((b :: c :: r).map D.str).length) = _
      simp [andAll]
    show (orAll [eqO eqN (.tup [.str [110, 101, 119]]) (.tup ((b :: c :: r).map D.str)), eqO eqN (.tup [.str [114, 101, 115, 116]]) (.tup ((b :: c :: r).map D.str))]).map (fun x => D.bl (false != x)) = _
    rw [e, e]; rfl
theorem mg_nil {acc : List (Key × D)} : mergeD acc [] = acc := rfl
theorem mg_cons {acc r : List (Key × D)} {k : Key} {v : D} : mergeD acc ((k, v) :: r) = mergeD (putD acc k v) r := rfl
theorem look_nil {k : Key} : lookK [] k = none := rfl
theorem look_put {kvs : List (Key × D)} {k k' : Key} {v : D} : lookK (putD kvs k v) k' = if k = k' then some v else lookK kvs k' := by
  unfold putD lookK
  by_cases h : (kvs.any fun kv => decide (kv.1 = k)) = true
  · rw [if_pos h]
    induction kvs with
    | nil => cases h
    | cons p r ih =>
      rw [List.map_cons, List.find?_cons, List.find?_cons]
      by_cases hp : p.1 = k
      · rw [if_pos hp]
        by_cases hk : k = k'
        · subst hk; simp [hp]
        · have : ¬ p.1 = k' := fun e => hk (hp.symm.trans e)
          simp only [hp, hk, decide_false, if_false]
          have fd : ∀ r : List (Key × D), (List.find? (fun kv => decide (kv.1 = k')) (r.map fun kv => if kv.1 = k then (kv.1, v) else kv)).map (·.2) = (List.find? (fun kv => decide (kv.1 = k')) r).map (·.2) := by
            intro r
            induction r with
            | nil => rfl
            | cons q r ih =>
              rw [List.map_cons, List.find?_cons, List.find?_cons]
              by_cases hq : q.1 = k
              · rw [if_pos hq]
                have : ¬ q.1 = k' := fun e => hk (hq.symm.trans e)
                simp only [this, decide_false, ih]
              · rw [if_neg hq]
                by_cases h2 : q.1 = k'
                · simp [h2]
                · simp only [h2, decide_false, ih]
          exact fd r
      · rw [if_neg hp]
        have hr : (r.any fun kv => decide (kv.1 = k)) = true := by simpa [hp] using h
        by_cases hk : p.1 = k'
        · have : ¬ k = k' := fun e => hp (hk.trans e.symm)
          simp [hk, this]
        · simp only [hk, decide_false]; exact ih hr
  · rw [if_neg h, List.find?_append]
    by_cases hk : k = k'
    · subst hk
      have : List.find? (fun kv => decide (kv.1 = k)) kvs = none := by
        rw [List.find?_eq_none]; intro x hx hc
        exact h (List.any_eq_true.mpr ⟨x, hx, hc⟩)
      rw [this]; simp
    · rw [if_neg hk]; simp [hk]
theorem put_le {kvs : List (Key × D)} {k : Key} {v : D} {n : Nat} (h : kvs.length ≤ n) : (putD kvs k v).length ≤ n + 1 := by
  unfold putD
  split
  · rw [List.length_map]; omega
  · rw [List.length_append]; simp; omega
theorem stepNo {v : D} {z : Cs} (h : dTup v = false) : stepB v z = false := by cases v <;> first | rfl | cases h
theorem inT_get {t : Tab} {a z : Cs} : inT t a z = ((findT t a).getD []).any (· == z) := by
  unfold inT
  cases findT t a <;> rfl
theorem law_step0 {v : D} {z : Cs} {M : Mem} (hv : Vok v) : Wp (f_law_is_step [.dat v, .dat (.str z)] M) (fun u M' => u = .dat (.bl (stepB v z)) ∧ M' = M) x0 := by
  unfold f_law_is_step b_law_is_step
  rw [wp_run]
  cases v with
  | tup ds =>
    obtain ⟨h1, h2⟩ := hv ds rfl
    have kmem : ∀ (ρ7 : List (Option U)) (M : Mem), lcL (.name 7) (bNot (tOf (eIsi "str" (eVar 7)))) (eVar 7) [some (.dat (.tup ds)), some (.dat (.str z)), none, none, some (.dat (.lst [.str [112, 117, 116], .str [115, 116, 114, 105, 107, 101], .str [114, 101, 97, 100]])), some (.dat (.lst [.str [104, 97, 110, 103], .str [116, 97, 107, 101], .str [115, 112, 108, 105, 116], .str [106, 111, 105, 110]])), none, none] ds M = .ok (ds.filter fun d => !dStr d) M := by
      intro _ M
      have w : Wp (lcL (.name 7) (bNot (tOf (eIsi "str" (eVar 7)))) (eVar 7) [some (.dat (.tup ds)), some (.dat (.str z)), none, none, some (.dat (.lst [.str [112, 117, 116], .str [115, 116, 114, 105, 107, 101], .str [114, 101, 97, 100]])), some (.dat (.lst [.str [104, 97, 110, 103], .str [116, 97, 107, 101], .str [115, 112, 108, 105, 116], .str [106, 111, 105, 110]])), none, none] (ds.map id) M) (fun es M' => es = ((ds.filter fun d => !dStr d).map id) ∧ M' = M) x0 := by
        refine wp_lcM id (fun d => !dStr d) id (fun c hc => ?_) ⟨rfl, rfl⟩
        simp (config := {dsimp := false}) only [↓ws_nil, ↓ws_cons, ↓ws_asg, ↓ws_setIx, ↓ws_ret, ↓ws_retN, ↓ws_if, ↓ws_drop, ↓ws_brk, ↓ws_cnt, ↓ws_for, ↓wp_tOf, ↓wp_not, ↓wp_and, ↓wp_or, ↓wp_vand, ↓wp_vor, ↓wp_eB, ↓wp_eIf, ↓wp_neg, ↓wp_chain, ↓wp_e2, ↓wp_var, ↓wp_c, ↓wp_addI, ↓wp_addS, ↓wp_addL, ↓wp_addT, ↓ws_raise1, ↓ws_raise0, ↓ws_par, ↓ws_par3, uPar3_ok, ↓wp_kin, ↓wp_kix, wo_ks, ↓wp_get1, ↓wp_get2, ↓wp_dget, ↓ws_setKey, uKeyD, keyD, ↓wp_fnK, ↓ws_try, ↓ws_hdN, ↓ws_hdC, ↓ws_suiteN, ↓ws_suiteS, ↓wp_fld, xE, gP_nil, gP_cons, Option.toList, ↓wp_lift2v, ↓wp_aNil, ↓wp_aCons, ↓wp_newF, ↓wp_newT, ↓wp_lst, ↓wp_tup, ↓wp_call, ↓wp_pf1, ↓wp_pf2, ↓wp_pfL, ↓wp_isi, ↓wp_fn, ↓wp_bm, ↓wp_sl, ↓wp_pNone, ↓wp_pSome, ↓wp_slS, ↓wp_slL, ↓wp_disp, ↓wp_newDF, ↓wp_newDT, rf_l, rf_d, ↓wp_prNil, ↓wp_prCons, ↓wp_dnew, ↓wp_iVal, ↓wp_rng1, ↓wp_rng2, ↓wp_lc, ↓wp_ok, ↓wp_exc, ↓wp_bad, ↓wp_join, itD, ↓wp_bYes, ↓rQ_dat, ↓rQ_cell, ↓wo_some, ↓wo_none, ↓wo_ite, ↓wo_map, view_dat, td_nil, td_cons, Option.map_some, bind_name, bind_tup, sa_c, sa_n, toKey, uB, uI, uD, uI1, uI2, ty_s, ty_l, List.map, List.length, List.replicate, Nat.reduceSub, Nat.reduceAdd, Nat.reduceLeDiff, Nat.zero_add, List.cons_append, List.nil_append, List.append_nil, List.getElem?_cons_zero, List.getElem?_cons_succ, Option.join_some, List.set_cons_zero, List.set_cons_succ, decide_eq_true_eq, Bool.not_eq_true', Bool.not_true, Bool.not_false, if_true, if_false, Bool.false_eq_true, eq_self, true_and, and_true, isND_n, notND_n, isi_int, isi_bool, isi_str, isi_tuple, isi_list, isi_dict, dInt, dBl, dStr, dTup, dLst, dDct, wipeE, List.set, subD, ltD, gtD, leD, geD, max2D, min2D, eqD_ii, neD_ii, eqD_ss, neD_ss, eqD_nil, neD_nil, -dStr]
        simp
      obtain ⟨es, M', e, rfl, rfl⟩ := w.ok
      rw [List.map_id, List.map_id] at e
      exact e
    have l16 : (ds.length ≤ 16777216) = True := eq_true (by omega)
    have en : eqD (.tup ds) (.tup []) = some (.bl ds.isEmpty) := by cases ds <;> rfl
    cases hall : ds.all dStr with
    | false =>
      have es : stepB (.tup ds) z = false := by show (match toStrs ds with | some ws => wordsB ws z | none => false) = _; rw [strs_none hall]
      have hf : (ds.filter fun d => !dStr d).isEmpty = false := by
        cases hq : (ds.filter fun d => !dStr d).isEmpty with
        | false => rfl
        | true =>
          rw [List.isEmpty_iff, List.filter_eq_nil_iff] at hq
          have : ds.all dStr = true := List.all_eq_true.mpr fun d hd => by simpa using hq d hd
          rw [this] at hall; cases hall
      have e0 : ds.isEmpty = false := by
        cases ds with
        | nil => cases hall
        | cons d ds => rfl
      simp (config := {dsimp := false}) only [↓ws_nil, ↓ws_cons, ↓ws_asg, ↓ws_setIx, ↓ws_ret, ↓ws_retN, ↓ws_if, ↓ws_drop, ↓ws_brk, ↓ws_cnt, ↓ws_for, ↓wp_tOf, ↓wp_not, ↓wp_and, ↓wp_or, ↓wp_vand, ↓wp_vor, ↓wp_eB, ↓wp_eIf, ↓wp_neg, ↓wp_chain, ↓wp_e2, ↓wp_var, ↓wp_c, ↓wp_addI, ↓wp_addS, ↓wp_addL, ↓wp_addT, ↓ws_raise1, ↓ws_raise0, ↓ws_par, ↓ws_par3, uPar3_ok, ↓wp_kin, ↓wp_kix, wo_ks, ↓wp_get1, ↓wp_get2, ↓wp_dget, ↓ws_setKey, uKeyD, keyD, ↓wp_fnK, ↓ws_try, ↓ws_hdN, ↓ws_hdC, ↓ws_suiteN, ↓ws_suiteS, ↓wp_fld, xE, gP_nil, gP_cons, Option.toList, ↓wp_lift2v, ↓wp_aNil, ↓wp_aCons, ↓wp_newF, ↓wp_newT, ↓wp_lst, ↓wp_tup, ↓wp_call, ↓wp_pf1, ↓wp_pf2, ↓wp_pfL, ↓wp_isi, ↓wp_fn, ↓wp_bm, ↓wp_sl, ↓wp_pNone, ↓wp_pSome, ↓wp_slS, ↓wp_slL, ↓wp_disp, ↓wp_newDF, ↓wp_newDT, rf_l, rf_d, ↓wp_prNil, ↓wp_prCons, ↓wp_dnew, ↓wp_iVal, ↓wp_rng1, ↓wp_rng2, ↓wp_lc, ↓wp_ok, ↓wp_exc, ↓wp_bad, ↓wp_join, itD, ↓wp_bYes, ↓rQ_dat, ↓rQ_cell, ↓wo_some, ↓wo_none, ↓wo_ite, ↓wo_map, view_dat, td_nil, td_cons, Option.map_some, bind_name, bind_tup, sa_c, sa_n, toKey, uB, uI, uD, uI1, uI2, ty_s, ty_l, List.map, List.length, List.replicate, Nat.reduceSub, Nat.reduceAdd, Nat.reduceLeDiff, Nat.zero_add, List.cons_append, List.nil_append, List.append_nil, List.getElem?_cons_zero, List.getElem?_cons_succ, Option.join_some, List.set_cons_zero, List.set_cons_succ, decide_eq_true_eq, Bool.not_eq_true', Bool.not_true, Bool.not_false, if_true, if_false, Bool.false_eq_true, eq_self, true_and, and_true, isND_n, notND_n, isi_int, isi_bool, isi_str, isi_tuple, isi_list, isi_dict, dInt, dBl, dStr, dTup, dLst, dDct, wipeE, List.set, subD, ltD, gtD, leD, geD, max2D, min2D, eqD_ii, neD_ii, eqD_ss, neD_ss, eqD_nil, neD_nil, -dStr, len_t, l16, kmem [], en, e0, hf, take_len, es]
    | true =>
      obtain ⟨ws, rfl⟩ := strs_all hall
      have es : stepB (.tup (ws.map D.str)) z = wordsB ws z := by show (match toStrs (ws.map D.str) with | some ws => wordsB ws z | none => false) = _; rw [strs_map]
      have hf : ((ws.map D.str).filter fun d => !dStr d) = [] := by
        rw [List.filter_eq_nil_iff]; intro d hd
        obtain ⟨w, _, rfl⟩ := List.mem_map.mp hd
        simp [dStr]
      simp only [hf] at kmem
      rw [es]
      match ws with
      | [] =>
        have en0 : eqD (.tup []) (.tup []) = some (.bl true) := rfl
        simp (config := {dsimp := false}) only [↓ws_nil, ↓ws_cons, ↓ws_asg, ↓ws_setIx, ↓ws_ret, ↓ws_retN, ↓ws_if, ↓ws_drop, ↓ws_brk, ↓ws_cnt, ↓ws_for, ↓wp_tOf, ↓wp_not, ↓wp_and, ↓wp_or, ↓wp_vand, ↓wp_vor, ↓wp_eB, ↓wp_eIf, ↓wp_neg, ↓wp_chain, ↓wp_e2, ↓wp_var, ↓wp_c, ↓wp_addI, ↓wp_addS, ↓wp_addL, ↓wp_addT, ↓ws_raise1, ↓ws_raise0, ↓ws_par, ↓ws_par3, uPar3_ok, ↓wp_kin, ↓wp_kix, wo_ks, ↓wp_get1, ↓wp_get2, ↓wp_dget, ↓ws_setKey, uKeyD, keyD, ↓wp_fnK, ↓ws_try, ↓ws_hdN, ↓ws_hdC, ↓ws_suiteN, ↓ws_suiteS, ↓wp_fld, xE, gP_nil, gP_cons, Option.toList, ↓wp_lift2v, ↓wp_aNil, ↓wp_aCons, ↓wp_newF, ↓wp_newT, ↓wp_lst, ↓wp_tup, ↓wp_call, ↓wp_pf1, ↓wp_pf2, ↓wp_pfL, ↓wp_isi, ↓wp_fn, ↓wp_bm, ↓wp_sl, ↓wp_pNone, ↓wp_pSome, ↓wp_slS, ↓wp_slL, ↓wp_disp, ↓wp_newDF, ↓wp_newDT, rf_l, rf_d, ↓wp_prNil, ↓wp_prCons, ↓wp_dnew, ↓wp_iVal, ↓wp_rng1, ↓wp_rng2, ↓wp_lc, ↓wp_ok, ↓wp_exc, ↓wp_bad, ↓wp_join, itD, ↓wp_bYes, ↓rQ_dat, ↓rQ_cell, ↓wo_some, ↓wo_none, ↓wo_ite, ↓wo_map, view_dat, td_nil, td_cons, Option.map_some, bind_name, bind_tup, sa_c, sa_n, toKey, uB, uI, uD, uI1, uI2, ty_s, ty_l, List.map, List.length, List.replicate, Nat.reduceSub, Nat.reduceAdd, Nat.reduceLeDiff, Nat.zero_add, List.cons_append, List.nil_append, List.append_nil, List.getElem?_cons_zero, List.getElem?_cons_succ, Option.join_some, List.set_cons_zero, List.set_cons_succ, decide_eq_true_eq, Bool.not_eq_true', Bool.not_true, Bool.not_false, if_true, if_false, Bool.false_eq_true, eq_self, true_and, and_true, isND_n, notND_n, isi_int, isi_bool, isi_str, isi_tuple, isi_list, isi_dict, dInt, dBl, dStr, dTup, dLst, dDct, wipeE, List.set, subD, ltD, gtD, leD, geD, max2D, min2D, eqD_ii, neD_ii, eqD_ss, neD_ss, eqD_nil, neD_nil, len_t, take_len, en0]; first | rfl | exact ⟨rfl, rfl⟩
      | [a] =>
        have n1 : neD (.int ((1 : Nat) : Int)) (.int 1) = some (.bl false) := rfl
        simp only [List.map] at kmem l16 en
        have n3 : (((1 : Nat) : Int) == 3) = false := rfl
        have n11 : (((1 : Nat) : Int) == 1) = true := rfl
        have is1 := inScan []
        simp only [List.map] at is1
        simp (config := {dsimp := false}) only [↓wp_lcN, ↓wp_lcC, ↓ws_forN, ↓ws_forC, ↓ws_nil, ↓ws_cons, ↓ws_asg, ↓ws_setIx, ↓ws_ret, ↓ws_retN, ↓ws_if, ↓ws_drop, ↓ws_brk, ↓ws_cnt, ↓ws_for, ↓wp_tOf, ↓wp_not, ↓wp_and, ↓wp_or, ↓wp_vand, ↓wp_vor, ↓wp_eB, ↓wp_eIf, ↓wp_neg, ↓wp_chain, ↓wp_e2, ↓wp_var, ↓wp_c, ↓wp_addI, ↓wp_addS, ↓wp_addL, ↓wp_addT, ↓ws_raise1, ↓ws_raise0, ↓ws_par, ↓ws_par3, uPar3_ok, ↓wp_kin, ↓wp_kix, wo_ks, ↓wp_get1, ↓wp_get2, ↓wp_dget, ↓ws_setKey, uKeyD, keyD, ↓wp_fnK, ↓ws_try, ↓ws_hdN, ↓ws_hdC, ↓ws_suiteN, ↓ws_suiteS, ↓wp_fld, xE, gP_nil, gP_cons, Option.toList, ↓wp_lift2v, ↓wp_aNil, ↓wp_aCons, ↓wp_newF, ↓wp_newT, ↓wp_lst, ↓wp_tup, ↓wp_call, ↓wp_pf1, ↓wp_pf2, ↓wp_pfL, ↓wp_isi, ↓wp_fn, ↓wp_bm, ↓wp_sl, ↓wp_pNone, ↓wp_pSome, ↓wp_slS, ↓wp_slL, ↓wp_disp, ↓wp_newDF, ↓wp_newDT, rf_l, rf_d, ↓wp_prNil, ↓wp_prCons, ↓wp_dnew, ↓wp_iVal, ↓wp_rng1, ↓wp_rng2, ↓wp_lc, ↓wp_ok, ↓wp_exc, ↓wp_bad, ↓wp_join, itD, ↓wp_bYes, ↓rQ_dat, ↓rQ_cell, ↓wo_some, ↓wo_none, ↓wo_ite, ↓wo_map, view_dat, td_nil, td_cons, Option.map_some, bind_name, bind_tup, sa_c, sa_n, toKey, uB, uI, uD, uI1, uI2, ty_s, ty_l, List.map, List.length, List.replicate, Nat.reduceSub, Nat.reduceAdd, Nat.reduceLeDiff, Nat.zero_add, List.cons_append, List.nil_append, List.append_nil, List.getElem?_cons_zero, List.getElem?_cons_succ, Option.join_some, List.set_cons_zero, List.set_cons_succ, decide_eq_true_eq, Bool.not_eq_true', Bool.not_true, Bool.not_false, if_true, if_false, Bool.false_eq_true, eq_self, true_and, and_true, isND_n, notND_n, isi_int, isi_bool, isi_str, isi_tuple, isi_list, isi_dict, dInt, dBl, dStr, dTup, dLst, dDct, wipeE, List.set, subD, ltD, gtD, leD, geD, max2D, min2D, eqD_ii, neD_ii, eqD_ss, neD_ss, eqD_nil, neD_nil, -dStr, len_t, l16, kmem [], en, n1, n3, n11, ix0_t, take_len, List.isEmpty_cons, List.isEmpty_nil, ↓wp_slT, ↓wp_kinds, is1, mg_nil, mg_cons, at_app, set_app, oD, uSetK, isDctU, uDct, view, look_put, look_nil, key_eq]
        show _
        by_cases ha : (a == [108, 111, 99, 107]) = true
        · rw [if_pos ha, eq_of_beq ha]; first | rfl | exact ⟨rfl, rfl⟩
        rw [if_neg ha]
        by_cases hb : (a == [115, 99, 97, 110]) = true
        · rw [if_pos hb, eq_of_beq hb]; split <;> first | rfl | exact ⟨rfl, rfl⟩
        rw [if_neg hb]
        repeat refine And.intro (by refine Nat.lt_of_le_of_lt (m := 40) ?_ (by decide); (repeat (first | exact Nat.zero_le _ | refine put_le ?_))) ?_
        generalize hD : Option.getD _ (D.lst []) = dd
        have hd : dd = .lst (((findT plainT a).getD []).map D.str) := by
          rw [← hD]
          unfold plainT
          simp only [find_cons]
          by_cases c0 : ([108, 111, 111, 107] : Cs) = a
          · subst c0; rfl
          by_cases c1 : ([97, 103, 97, 105, 110] : Cs) = a
          · subst c1; rfl
          by_cases c2 : ([98, 111, 114, 100, 101, 114] : Cs) = a
          · subst c2; rfl
          by_cases c3 : ([107, 101, 121] : Cs) = a
          · subst c3; rfl
          by_cases c4 : ([112, 117, 116] : Cs) = a
          · subst c4; rfl
          by_cases c5 : ([99, 108, 97, 105, 109] : Cs) = a
          · subst c5; rfl
          by_cases c6 : ([115, 116, 114, 105, 107, 101] : Cs) = a
          · subst c6; rfl
          by_cases c7 : ([118, 105, 101, 119] : Cs) = a
          · subst c7; rfl
          by_cases c8 : ([114, 101, 97, 100] : Cs) = a
          · subst c8; rfl
          by_cases c9 : ([109, 111, 118, 101] : Cs) = a
          · subst c9; rfl
          by_cases c10 : ([115, 119, 105, 116, 99, 104] : Cs) = a
          · subst c10; rfl
          by_cases c11 : ([119, 97, 105, 116] : Cs) = a
          · subst c11; rfl
          by_cases c12 : ([99, 108, 111, 115, 101] : Cs) = a
          · subst c12; rfl
          by_cases c13 : ([101, 110, 100] : Cs) = a
          · subst c13; rfl
          simp only [c0, c1, c2, c3, c4, c5, c6, c7, c8, c9, c10, c11, c12, c13, if_false]; rfl
        rw [hd, inX_lst]
        simp (config := {dsimp := false}) only [↓ws_nil, ↓ws_cons, ↓ws_asg, ↓ws_setIx, ↓ws_ret, ↓ws_retN, ↓ws_if, ↓ws_drop, ↓ws_brk, ↓ws_cnt, ↓ws_for, ↓wp_tOf, ↓wp_not, ↓wp_and, ↓wp_or, ↓wp_vand, ↓wp_vor, ↓wp_eB, ↓wp_eIf, ↓wp_neg, ↓wp_chain, ↓wp_e2, ↓wp_var, ↓wp_c, ↓wp_addI, ↓wp_addS, ↓wp_addL, ↓wp_addT, ↓ws_raise1, ↓ws_raise0, ↓ws_par, ↓ws_par3, uPar3_ok, ↓wp_kin, ↓wp_kix, wo_ks, ↓wp_get1, ↓wp_get2, ↓wp_dget, ↓ws_setKey, uKeyD, keyD, ↓wp_fnK, ↓ws_try, ↓ws_hdN, ↓ws_hdC, ↓ws_suiteN, ↓ws_suiteS, ↓wp_fld, xE, gP_nil, gP_cons, Option.toList, ↓wp_lift2v, ↓wp_aNil, ↓wp_aCons, ↓wp_newF, ↓wp_newT, ↓wp_lst, ↓wp_tup, ↓wp_call, ↓wp_pf1, ↓wp_pf2, ↓wp_pfL, ↓wp_isi, ↓wp_fn, ↓wp_bm, ↓wp_sl, ↓wp_pNone, ↓wp_pSome, ↓wp_slS, ↓wp_slL, ↓wp_disp, ↓wp_newDF, ↓wp_newDT, rf_l, rf_d, ↓wp_prNil, ↓wp_prCons, ↓wp_dnew, ↓wp_iVal, ↓wp_rng1, ↓wp_rng2, ↓wp_lc, ↓wp_ok, ↓wp_exc, ↓wp_bad, ↓wp_join, itD, ↓wp_bYes, ↓rQ_dat, ↓rQ_cell, ↓wo_some, ↓wo_none, ↓wo_ite, ↓wo_map, view_dat, td_nil, td_cons, Option.map_some, bind_name, bind_tup, sa_c, sa_n, toKey, uB, uI, uD, uI1, uI2, ty_s, ty_l, List.map, List.length, List.replicate, Nat.reduceSub, Nat.reduceAdd, Nat.reduceLeDiff, Nat.zero_add, List.cons_append, List.nil_append, List.append_nil, List.getElem?_cons_zero, List.getElem?_cons_succ, Option.join_some, List.set_cons_zero, List.set_cons_succ, decide_eq_true_eq, Bool.not_eq_true', Bool.not_true, Bool.not_false, if_true, if_false, Bool.false_eq_true, eq_self, true_and, and_true, isND_n, notND_n, isi_int, isi_bool, isi_str, isi_tuple, isi_list, isi_dict, dInt, dBl, dStr, dTup, dLst, dDct, wipeE, List.set, subD, ltD, gtD, leD, geD, max2D, min2D, eqD_ii, neD_ii, eqD_ss, neD_ss, eqD_nil, neD_nil, take_app]
        refine ⟨?_, by simp only [set_app, take_app]⟩
        show U.dat (.bl (false != ((findT plainT a).getD []).any (· == z))) = .dat (.bl (inT plainT a z))
        rw [inT_get, Bool.false_bne]
      | [a, b] =>
        have n1 : (((2 : Nat) : Int) == 1) = false := rfl
        have n3 : (((2 : Nat) : Int) == 3) = false := rfl
        simp only [List.map] at kmem l16 en
        have is1 := inScan [b]
        simp only [List.map] at is1
        simp (config := {dsimp := false}) only [↓wp_lcN, ↓wp_lcC, ↓ws_forN, ↓ws_forC, ↓ws_nil, ↓ws_cons, ↓ws_asg, ↓ws_setIx, ↓ws_ret, ↓ws_retN, ↓ws_if, ↓ws_drop, ↓ws_brk, ↓ws_cnt, ↓ws_for, ↓wp_tOf, ↓wp_not, ↓wp_and, ↓wp_or, ↓wp_vand, ↓wp_vor, ↓wp_eB, ↓wp_eIf, ↓wp_neg, ↓wp_chain, ↓wp_e2, ↓wp_var, ↓wp_c, ↓wp_addI, ↓wp_addS, ↓wp_addL, ↓wp_addT, ↓ws_raise1, ↓ws_raise0, ↓ws_par, ↓ws_par3, uPar3_ok, ↓wp_kin, ↓wp_kix, wo_ks, ↓wp_get1, ↓wp_get2, ↓wp_dget, ↓ws_setKey, uKeyD, keyD, ↓wp_fnK, ↓ws_try, ↓ws_hdN, ↓ws_hdC, ↓ws_suiteN, ↓ws_suiteS, ↓wp_fld, xE, gP_nil, gP_cons, Option.toList, ↓wp_lift2v, ↓wp_aNil, ↓wp_aCons, ↓wp_newF, ↓wp_newT, ↓wp_lst, ↓wp_tup, ↓wp_call, ↓wp_pf1, ↓wp_pf2, ↓wp_pfL, ↓wp_isi, ↓wp_fn, ↓wp_bm, ↓wp_sl, ↓wp_pNone, ↓wp_pSome, ↓wp_slS, ↓wp_slL, ↓wp_disp, ↓wp_newDF, ↓wp_newDT, rf_l, rf_d, ↓wp_prNil, ↓wp_prCons, ↓wp_dnew, ↓wp_iVal, ↓wp_rng1, ↓wp_rng2, ↓wp_lc, ↓wp_ok, ↓wp_exc, ↓wp_bad, ↓wp_join, itD, ↓wp_bYes, ↓rQ_dat, ↓rQ_cell, ↓wo_some, ↓wo_none, ↓wo_ite, ↓wo_map, view_dat, td_nil, td_cons, Option.map_some, bind_name, bind_tup, sa_c, sa_n, toKey, uB, uI, uD, uI1, uI2, ty_s, ty_l, List.map, List.length, List.replicate, Nat.reduceSub, Nat.reduceAdd, Nat.reduceLeDiff, Nat.zero_add, List.cons_append, List.nil_append, List.append_nil, List.getElem?_cons_zero, List.getElem?_cons_succ, Option.join_some, List.set_cons_zero, List.set_cons_succ, decide_eq_true_eq, Bool.not_eq_true', Bool.not_true, Bool.not_false, if_true, if_false, Bool.false_eq_true, eq_self, true_and, and_true, isND_n, notND_n, isi_int, isi_bool, isi_str, isi_tuple, isi_list, isi_dict, dInt, dBl, dStr, dTup, dLst, dDct, wipeE, List.set, subD, ltD, gtD, leD, geD, max2D, min2D, eqD_ii, neD_ii, eqD_ss, neD_ss, eqD_nil, neD_nil, -dStr, len_t, l16, kmem [], en, n1, n3, ix0_t, take_len, List.isEmpty_cons, List.isEmpty_nil, ↓wp_slT, ↓wp_kinds, is1, mg_nil, mg_cons, at_app, set_app, oD, uSetK, isDctU, uDct, view, look_put, look_nil, key_eq]
        show _
        by_cases ha : (a == [108, 111, 99, 107]) = true
        · rw [if_pos ha, eq_of_beq ha]; first | rfl | exact ⟨rfl, rfl⟩
        rw [if_neg ha]
        by_cases hb : (a == [115, 99, 97, 110]) = true
        · rw [if_pos hb, eq_of_beq hb]
          show if (z == wHang) = true then U.dat (.bl ([wNew, wRest].any (· == b))) = .dat (.bl (z == wHang && [wNew, wRest].any (· == b))) else U.dat (.bl false) = .dat (.bl (z == wHang && [wNew, wRest].any (· == b)))
          cases z == wHang <;> simp
        rw [if_neg hb]
        show U.dat (.bl false) = .dat (.bl (a == wScan && (z == wHang && [wNew, wRest].any (· == b))))
        rw [show (a == wScan) = false from by rw [Bool.not_eq_true] at hb; exact hb, Bool.false_and]
      | [a, b, c] =>
        have n1 : (((3 : Nat) : Int) == 1) = false := rfl
        have n3 : (((3 : Nat) : Int) == 3) = true := rfl
        simp only [List.map] at kmem l16 en h2
        have is1 := inScan [b, c]
        simp only [List.map] at is1
        have w3 : ∀ {M Q X}, Wp (f_law_is_name [.dat (.str c)] M) Q X = Q (.dat (.bl (isNameD (.str c)))) M := fun {M Q X} => wp_lis_name fun s e => by cases e; exact Nat.le_trans (h2 _ (by simp)) (by decide)
        simp (config := {dsimp := false}) only [↓wp_lcN, ↓wp_lcC, ↓ws_forN, ↓ws_forC, ↓ws_nil, ↓ws_cons, ↓ws_asg, ↓ws_setIx, ↓ws_ret, ↓ws_retN, ↓ws_if, ↓ws_drop, ↓ws_brk, ↓ws_cnt, ↓ws_for, ↓wp_tOf, ↓wp_not, ↓wp_and, ↓wp_or, ↓wp_vand, ↓wp_vor, ↓wp_eB, ↓wp_eIf, ↓wp_neg, ↓wp_chain, ↓wp_e2, ↓wp_var, ↓wp_c, ↓wp_addI, ↓wp_addS, ↓wp_addL, ↓wp_addT, ↓ws_raise1, ↓ws_raise0, ↓ws_par, ↓ws_par3, uPar3_ok, ↓wp_kin, ↓wp_kix, wo_ks, ↓wp_get1, ↓wp_get2, ↓wp_dget, ↓ws_setKey, uKeyD, keyD, ↓wp_fnK, ↓ws_try, ↓ws_hdN, ↓ws_hdC, ↓ws_suiteN, ↓ws_suiteS, ↓wp_fld, xE, gP_nil, gP_cons, Option.toList, ↓wp_lift2v, ↓wp_aNil, ↓wp_aCons, ↓wp_newF, ↓wp_newT, ↓wp_lst, ↓wp_tup, ↓wp_call, ↓wp_pf1, ↓wp_pf2, ↓wp_pfL, ↓wp_isi, ↓wp_fn, ↓wp_bm, ↓wp_sl, ↓wp_pNone, ↓wp_pSome, ↓wp_slS, ↓wp_slL, ↓wp_disp, ↓wp_newDF, ↓wp_newDT, rf_l, rf_d, ↓wp_prNil, ↓wp_prCons, ↓wp_dnew, ↓wp_iVal, ↓wp_rng1, ↓wp_rng2, ↓wp_lc, ↓wp_ok, ↓wp_exc, ↓wp_bad, ↓wp_join, itD, ↓wp_bYes, ↓rQ_dat, ↓rQ_cell, ↓wo_some, ↓wo_none, ↓wo_ite, ↓wo_map, view_dat, td_nil, td_cons, Option.map_some, bind_name, bind_tup, sa_c, sa_n, toKey, uB, uI, uD, uI1, uI2, ty_s, ty_l, List.map, List.length, List.replicate, Nat.reduceSub, Nat.reduceAdd, Nat.reduceLeDiff, Nat.zero_add, List.cons_append, List.nil_append, List.append_nil, List.getElem?_cons_zero, List.getElem?_cons_succ, Option.join_some, List.set_cons_zero, List.set_cons_succ, decide_eq_true_eq, Bool.not_eq_true', Bool.not_true, Bool.not_false, if_true, if_false, Bool.false_eq_true, eq_self, true_and, and_true, isND_n, notND_n, isi_int, isi_bool, isi_str, isi_tuple, isi_list, isi_dict, dInt, dBl, dStr, dTup, dLst, dDct, wipeE, List.set, subD, ltD, gtD, leD, geD, max2D, min2D, eqD_ii, neD_ii, eqD_ss, neD_ss, eqD_nil, neD_nil, -dStr, len_t, l16, kmem [], en, n1, n3, ix0_t, take_len, List.isEmpty_cons, List.isEmpty_nil, ↓wp_slT, ↓wp_kinds, is1, mg_nil, mg_cons, at_app, set_app, oD, uSetK, isDctU, uDct, view, look_put, look_nil, key_eq, ↓w3, ix1_t, ix2_t, cut1, List.drop]
        show _
        by_cases ha : (a == [108, 111, 99, 107]) = true
        · rw [if_pos ha, eq_of_beq ha]
          have hw : wordsB [[108, 111, 99, 107], b, c] z = (inT lockT b z && isNameC c) := rfl
          rw [hw]
          cases hn : isNameC c with
          | false =>
            have hn' : isNameD (.str c) = false := hn
            rw [hn', if_pos rfl, Bool.and_false]
          | true =>
            have hn' : isNameD (.str c) = true := hn
            rw [hn', if_neg (by decide), Bool.and_true]
            refine And.intro (by refine Nat.lt_of_le_of_lt (m := 40) ?_ (by decide); (repeat (first | exact Nat.zero_le _ | refine put_le ?_))) ?_
            generalize hD : Option.getD _ (D.lst []) = dd
            have hd : dd = .lst (((findT lockT b).getD []).map D.str) := by
              rw [← hD]
              unfold lockT
              simp only [find_cons]
              by_cases c0 : ([110, 101, 119] : Cs) = b
              · subst c0; rfl
              by_cases c1 : ([114, 101, 115, 116] : Cs) = b
              · subst c1; rfl
              by_cases c2 : ([111, 108, 100] : Cs) = b
              · subst c2; rfl
              by_cases c3 : ([112, 97, 114, 116] : Cs) = b
              · subst c3; rfl
              by_cases c4 : ([116, 97, 98, 108, 101] : Cs) = b
              · subst c4; rfl
              simp only [c0, c1, c2, c3, c4, if_false]; rfl
            rw [hd, inX_lst]
            simp (config := {dsimp := false}) only [↓ws_nil, ↓ws_cons, ↓ws_asg, ↓ws_setIx, ↓ws_ret, ↓ws_retN, ↓ws_if, ↓ws_drop, ↓ws_brk, ↓ws_cnt, ↓ws_for, ↓wp_tOf, ↓wp_not, ↓wp_and, ↓wp_or, ↓wp_vand, ↓wp_vor, ↓wp_eB, ↓wp_eIf, ↓wp_neg, ↓wp_chain, ↓wp_e2, ↓wp_var, ↓wp_c, ↓wp_addI, ↓wp_addS, ↓wp_addL, ↓wp_addT, ↓ws_raise1, ↓ws_raise0, ↓ws_par, ↓ws_par3, uPar3_ok, ↓wp_kin, ↓wp_kix, wo_ks, ↓wp_get1, ↓wp_get2, ↓wp_dget, ↓ws_setKey, uKeyD, keyD, ↓wp_fnK, ↓ws_try, ↓ws_hdN, ↓ws_hdC, ↓ws_suiteN, ↓ws_suiteS, ↓wp_fld, xE, gP_nil, gP_cons, Option.toList, ↓wp_lift2v, ↓wp_aNil, ↓wp_aCons, ↓wp_newF, ↓wp_newT, ↓wp_lst, ↓wp_tup, ↓wp_call, ↓wp_pf1, ↓wp_pf2, ↓wp_pfL, ↓wp_isi, ↓wp_fn, ↓wp_bm, ↓wp_sl, ↓wp_pNone, ↓wp_pSome, ↓wp_slS, ↓wp_slL, ↓wp_disp, ↓wp_newDF, ↓wp_newDT, rf_l, rf_d, ↓wp_prNil, ↓wp_prCons, ↓wp_dnew, ↓wp_iVal, ↓wp_rng1, ↓wp_rng2, ↓wp_lc, ↓wp_ok, ↓wp_exc, ↓wp_bad, ↓wp_join, itD, ↓wp_bYes, ↓rQ_dat, ↓rQ_cell, ↓wo_some, ↓wo_none, ↓wo_ite, ↓wo_map, view_dat, td_nil, td_cons, Option.map_some, bind_name, bind_tup, sa_c, sa_n, toKey, uB, uI, uD, uI1, uI2, ty_s, ty_l, List.map, List.length, List.replicate, Nat.reduceSub, Nat.reduceAdd, Nat.reduceLeDiff, Nat.zero_add, List.cons_append, List.nil_append, List.append_nil, List.getElem?_cons_zero, List.getElem?_cons_succ, Option.join_some, List.set_cons_zero, List.set_cons_succ, decide_eq_true_eq, Bool.not_eq_true', Bool.not_true, Bool.not_false, if_true, if_false, Bool.false_eq_true, eq_self, true_and, and_true, isND_n, notND_n, isi_int, isi_bool, isi_str, isi_tuple, isi_list, isi_dict, dInt, dBl, dStr, dTup, dLst, dDct, wipeE, List.set, subD, ltD, gtD, leD, geD, max2D, min2D, eqD_ii, neD_ii, eqD_ss, neD_ss, eqD_nil, neD_nil, take_app]
            refine ⟨?_, by simp only [set_app, take_app]⟩
            rw [inT_get, Bool.false_bne]
        rw [if_neg ha]
        have hw : wordsB [a, b, c] z = false := by
          show (a == wLock && _) = false
          rw [show (a == wLock) = false from by rw [Bool.not_eq_true] at ha; exact ha, Bool.false_and]
        by_cases hb : (a == [115, 99, 97, 110]) = true
        · rw [if_pos hb, hw]; split <;> first | rfl | exact ⟨rfl, rfl⟩
        rw [if_neg hb, hw]
      | a :: b :: c :: d :: r =>
        have e1 : (((r.length + 1 + 1 + 1 + 1 : Nat) : Int) == 1) = false := by simp; omega
        have e3 : (((r.length + 1 + 1 + 1 + 1 : Nat) : Int) == 3) = false := by simp; omega
        simp only [List.map, List.length_cons, List.length_map] at kmem l16 en
        have is1 := inScan (b :: c :: d :: r)
        simp only [List.map] at is1
        simp (config := {dsimp := false}) only [↓ws_nil, ↓ws_cons, ↓ws_asg, ↓ws_setIx, ↓ws_ret, ↓ws_retN, ↓ws_if, ↓ws_drop, ↓ws_brk, ↓ws_cnt, ↓ws_for, ↓wp_tOf, ↓wp_not, ↓wp_and, ↓wp_or, ↓wp_vand, ↓wp_vor, ↓wp_eB, ↓wp_eIf, ↓wp_neg, ↓wp_chain, ↓wp_e2, ↓wp_var, ↓wp_c, ↓wp_addI, ↓wp_addS, ↓wp_addL, ↓wp_addT, ↓ws_raise1, ↓ws_raise0, ↓ws_par, ↓ws_par3, uPar3_ok, ↓wp_kin, ↓wp_kix, wo_ks, ↓wp_get1, ↓wp_get2, ↓wp_dget, ↓ws_setKey, uKeyD, keyD, ↓wp_fnK, ↓ws_try, ↓ws_hdN, ↓ws_hdC, ↓ws_suiteN, ↓ws_suiteS, ↓wp_fld, xE, gP_nil, gP_cons, Option.toList, ↓wp_lift2v, ↓wp_aNil, ↓wp_aCons, ↓wp_newF, ↓wp_newT, ↓wp_lst, ↓wp_tup, ↓wp_call, ↓wp_pf1, ↓wp_pf2, ↓wp_pfL, ↓wp_isi, ↓wp_fn, ↓wp_bm, ↓wp_sl, ↓wp_pNone, ↓wp_pSome, ↓wp_slS, ↓wp_slL, ↓wp_disp, ↓wp_newDF, ↓wp_newDT, rf_l, rf_d, ↓wp_prNil, ↓wp_prCons, ↓wp_dnew, ↓wp_iVal, ↓wp_rng1, ↓wp_rng2, ↓wp_lc, ↓wp_ok, ↓wp_exc, ↓wp_bad, ↓wp_join, itD, ↓wp_bYes, ↓rQ_dat, ↓rQ_cell, ↓wo_some, ↓wo_none, ↓wo_ite, ↓wo_map, view_dat, td_nil, td_cons, Option.map_some, bind_name, bind_tup, sa_c, sa_n, toKey, uB, uI, uD, uI1, uI2, ty_s, ty_l, List.map, List.length, List.replicate, Nat.reduceSub, Nat.reduceAdd, Nat.reduceLeDiff, Nat.zero_add, List.cons_append, List.nil_append, List.append_nil, List.getElem?_cons_zero, List.getElem?_cons_succ, Option.join_some, List.set_cons_zero, List.set_cons_succ, decide_eq_true_eq, Bool.not_eq_true', Bool.not_true, Bool.not_false, if_true, if_false, Bool.false_eq_true, eq_self, true_and, and_true, isND_n, notND_n, isi_int, isi_bool, isi_str, isi_tuple, isi_list, isi_dict, dInt, dBl, dStr, dTup, dLst, dDct, wipeE, List.set, subD, ltD, gtD, leD, geD, max2D, min2D, eqD_ii, neD_ii, eqD_ss, neD_ss, eqD_nil, neD_nil, -dStr, len_t, l16, kmem [], en, e1, e3, ix0_t, take_len, List.isEmpty_cons, List.isEmpty_nil, ↓wp_slT, ↓wp_kinds, is1, mg_nil, mg_cons, at_app, set_app, oD, uSetK, isDctU, uDct, view, look_put, look_nil, key_eq, List.length_map]
        show _
        by_cases ha : (a == [108, 111, 99, 107]) = true
        · rw [if_pos ha, eq_of_beq ha]; first | rfl | exact ⟨rfl, rfl⟩
        rw [if_neg ha]
        by_cases hb : (a == [115, 99, 97, 110]) = true
        · rw [if_pos hb, eq_of_beq hb]; split <;> first | rfl | exact ⟨rfl, rfl⟩
        rw [if_neg hb]
        first | rfl | exact ⟨rfl, rfl⟩
  | _ => simp (config := {dsimp := false}) only [↓ws_nil, ↓ws_cons, ↓ws_asg, ↓ws_setIx, ↓ws_ret, ↓ws_retN, ↓ws_if, ↓ws_drop, ↓ws_brk, ↓ws_cnt, ↓ws_for, ↓wp_tOf, ↓wp_not, ↓wp_and, ↓wp_or, ↓wp_vand, ↓wp_vor, ↓wp_eB, ↓wp_eIf, ↓wp_neg, ↓wp_chain, ↓wp_e2, ↓wp_var, ↓wp_c, ↓wp_addI, ↓wp_addS, ↓wp_addL, ↓wp_addT, ↓ws_raise1, ↓ws_raise0, ↓ws_par, ↓ws_par3, uPar3_ok, ↓wp_kin, ↓wp_kix, wo_ks, ↓wp_get1, ↓wp_get2, ↓wp_dget, ↓ws_setKey, uKeyD, keyD, ↓wp_fnK, ↓ws_try, ↓ws_hdN, ↓ws_hdC, ↓ws_suiteN, ↓ws_suiteS, ↓wp_fld, xE, gP_nil, gP_cons, Option.toList, ↓wp_lift2v, ↓wp_aNil, ↓wp_aCons, ↓wp_newF, ↓wp_newT, ↓wp_lst, ↓wp_tup, ↓wp_call, ↓wp_pf1, ↓wp_pf2, ↓wp_pfL, ↓wp_isi, ↓wp_fn, ↓wp_bm, ↓wp_sl, ↓wp_pNone, ↓wp_pSome, ↓wp_slS, ↓wp_slL, ↓wp_disp, ↓wp_newDF, ↓wp_newDT, rf_l, rf_d, ↓wp_prNil, ↓wp_prCons, ↓wp_dnew, ↓wp_iVal, ↓wp_rng1, ↓wp_rng2, ↓wp_lc, ↓wp_ok, ↓wp_exc, ↓wp_bad, ↓wp_join, itD, ↓wp_bYes, ↓rQ_dat, ↓rQ_cell, ↓wo_some, ↓wo_none, ↓wo_ite, ↓wo_map, view_dat, td_nil, td_cons, Option.map_some, bind_name, bind_tup, sa_c, sa_n, toKey, uB, uI, uD, uI1, uI2, ty_s, ty_l, List.map, List.length, List.replicate, Nat.reduceSub, Nat.reduceAdd, Nat.reduceLeDiff, Nat.zero_add, List.cons_append, List.nil_append, List.append_nil, List.getElem?_cons_zero, List.getElem?_cons_succ, Option.join_some, List.set_cons_zero, List.set_cons_succ, decide_eq_true_eq, Bool.not_eq_true', Bool.not_true, Bool.not_false, if_true, if_false, Bool.false_eq_true, eq_self, true_and, and_true, isND_n, notND_n, isi_int, isi_bool, isi_str, isi_tuple, isi_list, isi_dict, dInt, dBl, dStr, dTup, dLst, dDct, wipeE, List.set, subD, ltD, gtD, leD, geD, max2D, min2D, eqD_ii, neD_ii, eqD_ss, neD_ss, eqD_nil, neD_nil, take_len]; first | rfl | exact ⟨rfl, rfl⟩
theorem wp_law_step {v : D} {z : Cs} {M : Mem} {Q : U → Mem → Prop} {X : XP} (hv : Vok v) : Wp (f_law_is_step [.dat v, .dat (.str z)] M) Q X = Q (.dat (.bl (stepB v z))) M := wp_eq_of (law_step0 hv)
/-! ### asked and told -/
theorem kinds_in {n : Bool} {d : D} {b : Bool} (h : memO d (kindsL.map D.str) = some b) : inX n d (tupS kindsL) = some (.bl (n != b)) := by
  show (memO d (kindsL.map D.str)).map _ = _
  rw [h]; rfl
theorem wp_need_kind {d : D} {M : Mem} {Q : U → Mem → Prop} {X : XP} {b : Bool} (h : memO d (kindsL.map D.str) = some b) : Wp (f_need_kind [.dat d] M) Q X = if b = true then Q (.dat .non) M else X "NoProgram" [("kind", d)] M := by
  unfold f_need_kind b_need_kind
  rw [wp_run]
  have e := kinds_in (n := true) h
  unfold kindsL at e
  simp (config := {dsimp := false}) only [↓ws_nil, ↓ws_cons, ↓ws_asg, ↓ws_setIx, ↓ws_ret, ↓ws_retN, ↓ws_if, ↓ws_drop, ↓ws_brk, ↓ws_cnt, ↓ws_for, ↓wp_tOf, ↓wp_not, ↓wp_and, ↓wp_or, ↓wp_vand, ↓wp_vor, ↓wp_eB, ↓wp_eIf, ↓wp_neg, ↓wp_chain, ↓wp_e2, ↓wp_var, ↓wp_c, ↓wp_addI, ↓wp_addS, ↓wp_addL, ↓wp_addT, ↓ws_raise1, ↓ws_raise0, ↓ws_par, ↓ws_par3, uPar3_ok, ↓wp_kin, ↓wp_kix, wo_ks, ↓wp_get1, ↓wp_get2, ↓wp_dget, ↓ws_setKey, uKeyD, keyD, ↓wp_fnK, ↓ws_try, ↓ws_hdN, ↓ws_hdC, ↓ws_suiteN, ↓ws_suiteS, ↓wp_fld, xE, gP_nil, gP_cons, Option.toList, ↓wp_lift2v, ↓wp_aNil, ↓wp_aCons, ↓wp_newF, ↓wp_newT, ↓wp_lst, ↓wp_tup, ↓wp_call, ↓wp_pf1, ↓wp_pf2, ↓wp_pfL, ↓wp_isi, ↓wp_fn, ↓wp_bm, ↓wp_sl, ↓wp_pNone, ↓wp_pSome, ↓wp_slS, ↓wp_slL, ↓wp_disp, ↓wp_newDF, ↓wp_newDT, rf_l, rf_d, ↓wp_prNil, ↓wp_prCons, ↓wp_dnew, ↓wp_iVal, ↓wp_rng1, ↓wp_rng2, ↓wp_lc, ↓wp_ok, ↓wp_exc, ↓wp_bad, ↓wp_join, itD, ↓wp_bYes, ↓rQ_dat, ↓rQ_cell, ↓wo_some, ↓wo_none, ↓wo_ite, ↓wo_map, view_dat, td_nil, td_cons, Option.map_some, bind_name, bind_tup, sa_c, sa_n, toKey, uB, uI, uD, uI1, uI2, ty_s, ty_l, List.map, List.length, List.replicate, Nat.reduceSub, Nat.reduceAdd, Nat.reduceLeDiff, Nat.zero_add, List.cons_append, List.nil_append, List.append_nil, List.getElem?_cons_zero, List.getElem?_cons_succ, Option.join_some, List.set_cons_zero, List.set_cons_succ, decide_eq_true_eq, Bool.not_eq_true', Bool.not_true, Bool.not_false, if_true, if_false, Bool.false_eq_true, eq_self, true_and, and_true, isND_n, notND_n, isi_int, isi_bool, isi_str, isi_tuple, isi_list, isi_dict, dInt, dBl, dStr, dTup, dLst, dDct, wipeE, List.set, subD, ltD, gtD, leD, geD, max2D, min2D, eqD_ii, neD_ii, eqD_ss, neD_ss, eqD_nil, neD_nil, e, take_len]
  cases b <;> simp
theorem kinds_mem {z : Cs} (hz : z ∈ kindsL) : memO (.str z) (kindsL.map D.str) = some true := by
  rw [memO_strs]
  rw [List.any_eq_true.mpr ⟨z, hz, by simp⟩]
theorem wp_is_step {v : D} {z : Cs} {M : Mem} {Q : U → Mem → Prop} {X : XP} (hv : Vok v) (hz : z ∈ kindsL) : Wp (f_is_step [.dat v, .dat (.str z)] M) Q X = Q (.dat (.bl (stepB v z))) M := by
  unfold f_is_step b_is_step
  rw [wp_run]
  have nk : ∀ {M Q X}, Wp (f_need_kind [.dat (.str z)] M) Q X = Q (.dat .non) M := fun {M Q X} => by rw [wp_need_kind (kinds_mem hz)]; rfl
  have hs : ∀ {M Q X}, Wp (f_has_step [.dat v, .dat (.str z)] M) Q X = Q (.dat (.bl (stepB v z))) M := fun {M Q X} => wp_has_step hv
  simp (config := {dsimp := false}) only [↓ws_nil, ↓ws_cons, ↓ws_asg, ↓ws_setIx, ↓ws_ret, ↓ws_retN, ↓ws_if, ↓ws_drop, ↓ws_brk, ↓ws_cnt, ↓ws_for, ↓wp_tOf, ↓wp_not, ↓wp_and, ↓wp_or, ↓wp_vand, ↓wp_vor, ↓wp_eB, ↓wp_eIf, ↓wp_neg, ↓wp_chain, ↓wp_e2, ↓wp_var, ↓wp_c, ↓wp_addI, ↓wp_addS, ↓wp_addL, ↓wp_addT, ↓ws_raise1, ↓ws_raise0, ↓ws_par, ↓ws_par3, uPar3_ok, ↓wp_kin, ↓wp_kix, wo_ks, ↓wp_get1, ↓wp_get2, ↓wp_dget, ↓ws_setKey, uKeyD, keyD, ↓wp_fnK, ↓ws_try, ↓ws_hdN, ↓ws_hdC, ↓ws_suiteN, ↓ws_suiteS, ↓wp_fld, xE, gP_nil, gP_cons, Option.toList, ↓wp_lift2v, ↓wp_aNil, ↓wp_aCons, ↓wp_newF, ↓wp_newT, ↓wp_lst, ↓wp_tup, ↓wp_call, ↓wp_pf1, ↓wp_pf2, ↓wp_pfL, ↓wp_isi, ↓wp_fn, ↓wp_bm, ↓wp_sl, ↓wp_pNone, ↓wp_pSome, ↓wp_slS, ↓wp_slL, ↓wp_disp, ↓wp_newDF, ↓wp_newDT, rf_l, rf_d, ↓wp_prNil, ↓wp_prCons, ↓wp_dnew, ↓wp_iVal, ↓wp_rng1, ↓wp_rng2, ↓wp_lc, ↓wp_ok, ↓wp_exc, ↓wp_bad, ↓wp_join, itD, ↓wp_bYes, ↓rQ_dat, ↓rQ_cell, ↓wo_some, ↓wo_none, ↓wo_ite, ↓wo_map, view_dat, td_nil, td_cons, Option.map_some, bind_name, bind_tup, sa_c, sa_n, toKey, uB, uI, uD, uI1, uI2, ty_s, ty_l, List.map, List.length, List.replicate, Nat.reduceSub, Nat.reduceAdd, Nat.reduceLeDiff, Nat.zero_add, List.cons_append, List.nil_append, List.append_nil, List.getElem?_cons_zero, List.getElem?_cons_succ, Option.join_some, List.set_cons_zero, List.set_cons_succ, decide_eq_true_eq, Bool.not_eq_true', Bool.not_true, Bool.not_false, if_true, if_false, Bool.false_eq_true, eq_self, true_and, and_true, isND_n, notND_n, isi_int, isi_bool, isi_str, isi_tuple, isi_list, isi_dict, dInt, dBl, dStr, dTup, dLst, dDct, wipeE, List.set, subD, ltD, gtD, leD, geD, max2D, min2D, eqD_ii, neD_ii, eqD_ss, neD_ss, eqD_nil, neD_nil, ↓nk, ↓hs, take_len]
/-- what is no kind: asked for it, told so -/
def Odd (d : D) : Prop := memO d (kindsL.map D.str) = some false
theorem wp_told {v d : D} {M : Mem} {Q : U → Mem → Prop} {X : XP} (hd : Odd d) : Wp (f_law_told [.dat v, .dat d] M) Q X = Q (.dat (.lst [.str [107, 105, 110, 100], d])) M := by
  unfold f_law_told b_law_told
  rw [wp_run]
  have nk : ∀ {M Q X}, Wp (f_need_kind [.dat d] M) Q X = X "NoProgram" [("kind", d)] M := fun {M Q X} => by rw [wp_need_kind hd]; rfl
  have is : ∀ {M Q X}, Wp (f_is_step [.dat v, .dat d] M) Q X = X "NoProgram" [("kind", d)] M := fun {M Q X} => by
    unfold f_is_step b_is_step
    rw [wp_run]
    simp (config := {dsimp := false}) only [↓ws_nil, ↓ws_cons, ↓ws_asg, ↓ws_setIx, ↓ws_ret, ↓ws_retN, ↓ws_if, ↓ws_drop, ↓ws_brk, ↓ws_cnt, ↓ws_for, ↓wp_tOf, ↓wp_not, ↓wp_and, ↓wp_or, ↓wp_vand, ↓wp_vor, ↓wp_eB, ↓wp_eIf, ↓wp_neg, ↓wp_chain, ↓wp_e2, ↓wp_var, ↓wp_c, ↓wp_addI, ↓wp_addS, ↓wp_addL, ↓wp_addT, ↓ws_raise1, ↓ws_raise0, ↓ws_par, ↓ws_par3, uPar3_ok, ↓wp_kin, ↓wp_kix, wo_ks, ↓wp_get1, ↓wp_get2, ↓wp_dget, ↓ws_setKey, uKeyD, keyD, ↓wp_fnK, ↓ws_try, ↓ws_hdN, ↓ws_hdC, ↓ws_suiteN, ↓ws_suiteS, ↓wp_fld, xE, gP_nil, gP_cons, Option.toList, ↓wp_lift2v, ↓wp_aNil, ↓wp_aCons, ↓wp_newF, ↓wp_newT, ↓wp_lst, ↓wp_tup, ↓wp_call, ↓wp_pf1, ↓wp_pf2, ↓wp_pfL, ↓wp_isi, ↓wp_fn, ↓wp_bm, ↓wp_sl, ↓wp_pNone, ↓wp_pSome, ↓wp_slS, ↓wp_slL, ↓wp_disp, ↓wp_newDF, ↓wp_newDT, rf_l, rf_d, ↓wp_prNil, ↓wp_prCons, ↓wp_dnew, ↓wp_iVal, ↓wp_rng1, ↓wp_rng2, ↓wp_lc, ↓wp_ok, ↓wp_exc, ↓wp_bad, ↓wp_join, itD, ↓wp_bYes, ↓rQ_dat, ↓rQ_cell, ↓wo_some, ↓wo_none, ↓wo_ite, ↓wo_map, view_dat, td_nil, td_cons, Option.map_some, bind_name, bind_tup, sa_c, sa_n, toKey, uB, uI, uD, uI1, uI2, ty_s, ty_l, List.map, List.length, List.replicate, Nat.reduceSub, Nat.reduceAdd, Nat.reduceLeDiff, Nat.zero_add, List.cons_append, List.nil_append, List.append_nil, List.getElem?_cons_zero, List.getElem?_cons_succ, Option.join_some, List.set_cons_zero, List.set_cons_succ, decide_eq_true_eq, Bool.not_eq_true', Bool.not_true, Bool.not_false, if_true, if_false, Bool.false_eq_true, eq_self, true_and, and_true, isND_n, notND_n, isi_int, isi_bool, isi_str, isi_tuple, isi_list, isi_dict, dInt, dBl, dStr, dTup, dLst, dDct, wipeE, List.set, subD, ltD, gtD, leD, geD, max2D, min2D, eqD_ii, neD_ii, eqD_ss, neD_ss, eqD_nil, neD_nil, ↓nk, take_len]
  have s1 : subX own "NoProgram" "NoProgram" = some true := by decide
  have lk1 : List.lookup ("kind" : Str) [(("kind" : Str), d)] = some d := by simp [List.lookup]
  simp (config := {dsimp := false}) only [↓ws_nil, ↓ws_cons, ↓ws_asg, ↓ws_setIx, ↓ws_ret, ↓ws_retN, ↓ws_if, ↓ws_drop, ↓ws_brk, ↓ws_cnt, ↓ws_for, ↓wp_tOf, ↓wp_not, ↓wp_and, ↓wp_or, ↓wp_vand, ↓wp_vor, ↓wp_eB, ↓wp_eIf, ↓wp_neg, ↓wp_chain, ↓wp_e2, ↓wp_var, ↓wp_c, ↓wp_addI, ↓wp_addS, ↓wp_addL, ↓wp_addT, ↓ws_raise1, ↓ws_raise0, ↓ws_par, ↓ws_par3, uPar3_ok, ↓wp_kin, ↓wp_kix, wo_ks, ↓wp_get1, ↓wp_get2, ↓wp_dget, ↓ws_setKey, uKeyD, keyD, ↓wp_fnK, ↓ws_try, ↓ws_hdN, ↓ws_hdC, ↓ws_suiteN, ↓ws_suiteS, ↓wp_fld, xE, gP_nil, gP_cons, Option.toList, ↓wp_lift2v, ↓wp_aNil, ↓wp_aCons, ↓wp_newF, ↓wp_newT, ↓wp_lst, ↓wp_tup, ↓wp_call, ↓wp_pf1, ↓wp_pf2, ↓wp_pfL, ↓wp_isi, ↓wp_fn, ↓wp_bm, ↓wp_sl, ↓wp_pNone, ↓wp_pSome, ↓wp_slS, ↓wp_slL, ↓wp_disp, ↓wp_newDF, ↓wp_newDT, rf_l, rf_d, ↓wp_prNil, ↓wp_prCons, ↓wp_dnew, ↓wp_iVal, ↓wp_rng1, ↓wp_rng2, ↓wp_lc, ↓wp_ok, ↓wp_exc, ↓wp_bad, ↓wp_join, itD, ↓wp_bYes, ↓rQ_dat, ↓rQ_cell, ↓wo_some, ↓wo_none, ↓wo_ite, ↓wo_map, view_dat, td_nil, td_cons, Option.map_some, bind_name, bind_tup, sa_c, sa_n, toKey, uB, uI, uD, uI1, uI2, ty_s, ty_l, List.map, List.length, List.replicate, Nat.reduceSub, Nat.reduceAdd, Nat.reduceLeDiff, Nat.zero_add, List.cons_append, List.nil_append, List.append_nil, List.getElem?_cons_zero, List.getElem?_cons_succ, Option.join_some, List.set_cons_zero, List.set_cons_succ, decide_eq_true_eq, Bool.not_eq_true', Bool.not_true, Bool.not_false, if_true, if_false, Bool.false_eq_true, eq_self, true_and, and_true, isND_n, notND_n, isi_int, isi_bool, isi_str, isi_tuple, isi_list, isi_dict, dInt, dBl, dStr, dTup, dLst, dDct, wipeE, List.set, subD, ltD, gtD, leD, geD, max2D, min2D, eqD_ii, neD_ii, eqD_ss, neD_ss, eqD_nil, neD_nil, ↓is, s1, lk1, take_len]
  all_goals decide
/-! ### what is drawn -/
def StepOk (v : D) : Prop := ∃ ws : List Cs, v = .tup (ws.map D.str) ∧ 1 ≤ ws.length ∧ ws.length ≤ 3 ∧ ∀ w ∈ ws, w.length ≤ 100
theorem strs_mem {ms : List Cs} {d : D} (h : d ∈ ms.map D.str) : ∃ w, d = .str w ∧ w ∈ ms := by
  obtain ⟨w, hw, rfl⟩ := List.mem_map.mp h
  exact ⟨w, rfl, hw⟩
def fiveW : List Cs := [[116, 97, 98, 108, 101], [112, 97, 114, 116], [111, 108, 100], [110, 101, 119], [114, 101, 115, 116]]
def twoW : List Cs := [[110, 101, 119], [114, 101, 115, 116]]
def plainW : List Cs := (plainT.take 13).map (·.1)
theorem wp_drawn {k n : Nat} {ms : List Cs} {M : Mem} {Q : U → Mem → Prop} {X : XP} (hb : Bx k n M) (hn : n ≤ 500000) (h0 : 1 ≤ ms.length) (hm : ms.length ≤ 100) (hw : ∀ w ∈ ms, w.length ≤ 100) (h : ∀ v M', StepOk v → Bx k (n + 3) M' → Fr k M M' → Q (.dat v) M') :
    Wp (f_law_drawn_step [.cell k, .dat (.lst (ms.map D.str))] M) Q X := by
  unfold f_law_drawn_step b_law_drawn_step
  rw [wp_run]
  simp (config := {dsimp := false}) only [↓ws_nil, ↓ws_cons, ↓ws_asg, ↓ws_setIx, ↓ws_ret, ↓ws_retN, ↓ws_if, ↓ws_drop, ↓ws_brk, ↓ws_cnt, ↓ws_for, ↓wp_tOf, ↓wp_not, ↓wp_and, ↓wp_or, ↓wp_vand, ↓wp_vor, ↓wp_eB, ↓wp_eIf, ↓wp_neg, ↓wp_chain, ↓wp_e2, ↓wp_var, ↓wp_c, ↓wp_addI, ↓wp_addS, ↓wp_addL, ↓wp_addT, ↓ws_raise1, ↓ws_raise0, ↓ws_par, ↓ws_par3, uPar3_ok, ↓wp_kin, ↓wp_kix, wo_ks, ↓wp_get1, ↓wp_get2, ↓wp_dget, ↓ws_setKey, uKeyD, keyD, ↓wp_fnK, ↓ws_try, ↓ws_hdN, ↓ws_hdC, ↓ws_suiteN, ↓ws_suiteS, ↓wp_fld, xE, gP_nil, gP_cons, Option.toList, ↓wp_lift2v, ↓wp_aNil, ↓wp_aCons, ↓wp_newF, ↓wp_newT, ↓wp_lst, ↓wp_tup, ↓wp_call, ↓wp_pf1, ↓wp_pf2, ↓wp_pfL, ↓wp_isi, ↓wp_fn, ↓wp_bm, ↓wp_sl, ↓wp_pNone, ↓wp_pSome, ↓wp_slS, ↓wp_slL, ↓wp_disp, ↓wp_newDF, ↓wp_newDT, rf_l, rf_d, ↓wp_prNil, ↓wp_prCons, ↓wp_dnew, ↓wp_iVal, ↓wp_rng1, ↓wp_rng2, ↓wp_lc, ↓wp_ok, ↓wp_exc, ↓wp_bad, ↓wp_join, itD, ↓wp_bYes, ↓rQ_dat, ↓rQ_cell, ↓wo_some, ↓wo_none, ↓wo_ite, ↓wo_map, view_dat, td_nil, td_cons, Option.map_some, bind_name, bind_tup, sa_c, sa_n, toKey, uB, uI, uD, uI1, uI2, ty_s, ty_l, List.map, List.length, List.replicate, Nat.reduceSub, Nat.reduceAdd, Nat.reduceLeDiff, Nat.zero_add, List.cons_append, List.nil_append, List.append_nil, List.getElem?_cons_zero, List.getElem?_cons_succ, Option.join_some, List.set_cons_zero, List.set_cons_succ, decide_eq_true_eq, Bool.not_eq_true', Bool.not_true, Bool.not_false, if_true, if_false, Bool.false_eq_true, eq_self, true_and, and_true, isND_n, notND_n, isi_int, isi_bool, isi_str, isi_tuple, isi_list, isi_dict, dInt, dBl, dStr, dTup, dLst, dDct, wipeE, List.set, subD, ltD, gtD, leD, geD, max2D, min2D, eqD_ii, neD_ii, eqD_ss, neD_ss, eqD_nil, neD_nil]
  repeat refine And.intro (by first | omega | decide | (simp only [List.length_append, List.length_cons, List.length_nil, List.length_map, List.sum_cons, List.sum_nil]; omega)) ?_
  refine wp_takeN hb (by omega) (by decide) (by decide) fun d0 M1 d01 hb1 f1 => ?_
  simp (config := {dsimp := false}) only [↓ws_nil, ↓ws_cons, ↓ws_asg, ↓ws_setIx, ↓ws_ret, ↓ws_retN, ↓ws_if, ↓ws_drop, ↓ws_brk, ↓ws_cnt, ↓ws_for, ↓wp_tOf, ↓wp_not, ↓wp_and, ↓wp_or, ↓wp_vand, ↓wp_vor, ↓wp_eB, ↓wp_eIf, ↓wp_neg, ↓wp_chain, ↓wp_e2, ↓wp_var, ↓wp_c, ↓wp_addI, ↓wp_addS, ↓wp_addL, ↓wp_addT, ↓ws_raise1, ↓ws_raise0, ↓ws_par, ↓ws_par3, uPar3_ok, ↓wp_kin, ↓wp_kix, wo_ks, ↓wp_get1, ↓wp_get2, ↓wp_dget, ↓ws_setKey, uKeyD, keyD, ↓wp_fnK, ↓ws_try, ↓ws_hdN, ↓ws_hdC, ↓ws_suiteN, ↓ws_suiteS, ↓wp_fld, xE, gP_nil, gP_cons, Option.toList, ↓wp_lift2v, ↓wp_aNil, ↓wp_aCons, ↓wp_newF, ↓wp_newT, ↓wp_lst, ↓wp_tup, ↓wp_call, ↓wp_pf1, ↓wp_pf2, ↓wp_pfL, ↓wp_isi, ↓wp_fn, ↓wp_bm, ↓wp_sl, ↓wp_pNone, ↓wp_pSome, ↓wp_slS, ↓wp_slL, ↓wp_disp, ↓wp_newDF, ↓wp_newDT, rf_l, rf_d, ↓wp_prNil, ↓wp_prCons, ↓wp_dnew, ↓wp_iVal, ↓wp_rng1, ↓wp_rng2, ↓wp_lc, ↓wp_ok, ↓wp_exc, ↓wp_bad, ↓wp_join, itD, ↓wp_bYes, ↓rQ_dat, ↓rQ_cell, ↓wo_some, ↓wo_none, ↓wo_ite, ↓wo_map, view_dat, td_nil, td_cons, Option.map_some, bind_name, bind_tup, sa_c, sa_n, toKey, uB, uI, uD, uI1, uI2, ty_s, ty_l, List.map, List.length, List.replicate, Nat.reduceSub, Nat.reduceAdd, Nat.reduceLeDiff, Nat.zero_add, List.cons_append, List.nil_append, List.append_nil, List.getElem?_cons_zero, List.getElem?_cons_succ, Option.join_some, List.set_cons_zero, List.set_cons_succ, decide_eq_true_eq, Bool.not_eq_true', Bool.not_true, Bool.not_false, if_true, if_false, Bool.false_eq_true, eq_self, true_and, and_true, isND_n, notND_n, isi_int, isi_bool, isi_str, isi_tuple, isi_list, isi_dict, dInt, dBl, dStr, dTup, dLst, dDct, wipeE, List.set, subD, ltD, gtD, leD, geD, max2D, min2D, eqD_ii, neD_ii, eqD_ss, neD_ss, eqD_nil, neD_nil]
  by_cases hd : (((d0 : Nat) : Int) == 0) = true
  · rw [if_pos hd]
    refine wp_takeN hb1 (by omega) (by decide) (by decide) fun d1 M2 d11 hb2 f2 => ?_
    simp (config := {dsimp := false}) only [↓ws_nil, ↓ws_cons, ↓ws_asg, ↓ws_setIx, ↓ws_ret, ↓ws_retN, ↓ws_if, ↓ws_drop, ↓ws_brk, ↓ws_cnt, ↓ws_for, ↓wp_tOf, ↓wp_not, ↓wp_and, ↓wp_or, ↓wp_vand, ↓wp_vor, ↓wp_eB, ↓wp_eIf, ↓wp_neg, ↓wp_chain, ↓wp_e2, ↓wp_var, ↓wp_c, ↓wp_addI, ↓wp_addS, ↓wp_addL, ↓wp_addT, ↓ws_raise1, ↓ws_raise0, ↓ws_par, ↓ws_par3, uPar3_ok, ↓wp_kin, ↓wp_kix, wo_ks, ↓wp_get1, ↓wp_get2, ↓wp_dget, ↓ws_setKey, uKeyD, keyD, ↓wp_fnK, ↓ws_try, ↓ws_hdN, ↓ws_hdC, ↓ws_suiteN, ↓ws_suiteS, ↓wp_fld, xE, gP_nil, gP_cons, Option.toList, ↓wp_lift2v, ↓wp_aNil, ↓wp_aCons, ↓wp_newF, ↓wp_newT, ↓wp_lst, ↓wp_tup, ↓wp_call, ↓wp_pf1, ↓wp_pf2, ↓wp_pfL, ↓wp_isi, ↓wp_fn, ↓wp_bm, ↓wp_sl, ↓wp_pNone, ↓wp_pSome, ↓wp_slS, ↓wp_slL, ↓wp_disp, ↓wp_newDF, ↓wp_newDT, rf_l, rf_d, ↓wp_prNil, ↓wp_prCons, ↓wp_dnew, ↓wp_iVal, ↓wp_rng1, ↓wp_rng2, ↓wp_lc, ↓wp_ok, ↓wp_exc, ↓wp_bad, ↓wp_join, itD, ↓wp_bYes, ↓rQ_dat, ↓rQ_cell, ↓wo_some, ↓wo_none, ↓wo_ite, ↓wo_map, view_dat, td_nil, td_cons, Option.map_some, bind_name, bind_tup, sa_c, sa_n, toKey, uB, uI, uD, uI1, uI2, ty_s, ty_l, List.map, List.length, List.replicate, Nat.reduceSub, Nat.reduceAdd, Nat.reduceLeDiff, Nat.zero_add, List.cons_append, List.nil_append, List.append_nil, List.getElem?_cons_zero, List.getElem?_cons_succ, Option.join_some, List.set_cons_zero, List.set_cons_succ, decide_eq_true_eq, Bool.not_eq_true', Bool.not_true, Bool.not_false, if_true, if_false, Bool.false_eq_true, eq_self, true_and, and_true, isND_n, notND_n, isi_int, isi_bool, isi_str, isi_tuple, isi_list, isi_dict, dInt, dBl, dStr, dTup, dLst, dDct, wipeE, List.set, subD, ltD, gtD, leD, geD, max2D, min2D, eqD_ii, neD_ii, eqD_ss, neD_ss, eqD_nil, neD_nil]
    refine ix_l (by omega) (by simpa using d11) fun e he => ?_
    obtain ⟨w1, rfl, hw1⟩ : ∃ w, e = .str w ∧ w ∈ fiveW := strs_mem (ms := fiveW) he
    have l1 : lenD (.lst (ms.map D.str)) = some (.int ms.length) := by show some (D.int (ms.map D.str).length) = _; rw [List.length_map]
    simp (config := {dsimp := false}) only [↓ws_nil, ↓ws_cons, ↓ws_asg, ↓ws_setIx, ↓ws_ret, ↓ws_retN, ↓ws_if, ↓ws_drop, ↓ws_brk, ↓ws_cnt, ↓ws_for, ↓wp_tOf, ↓wp_not, ↓wp_and, ↓wp_or, ↓wp_vand, ↓wp_vor, ↓wp_eB, ↓wp_eIf, ↓wp_neg, ↓wp_chain, ↓wp_e2, ↓wp_var, ↓wp_c, ↓wp_addI, ↓wp_addS, ↓wp_addL, ↓wp_addT, ↓ws_raise1, ↓ws_raise0, ↓ws_par, ↓ws_par3, uPar3_ok, ↓wp_kin, ↓wp_kix, wo_ks, ↓wp_get1, ↓wp_get2, ↓wp_dget, ↓ws_setKey, uKeyD, keyD, ↓wp_fnK, ↓ws_try, ↓ws_hdN, ↓ws_hdC, ↓ws_suiteN, ↓ws_suiteS, ↓wp_fld, xE, gP_nil, gP_cons, Option.toList, ↓wp_lift2v, ↓wp_aNil, ↓wp_aCons, ↓wp_newF, ↓wp_newT, ↓wp_lst, ↓wp_tup, ↓wp_call, ↓wp_pf1, ↓wp_pf2, ↓wp_pfL, ↓wp_isi, ↓wp_fn, ↓wp_bm, ↓wp_sl, ↓wp_pNone, ↓wp_pSome, ↓wp_slS, ↓wp_slL, ↓wp_disp, ↓wp_newDF, ↓wp_newDT, rf_l, rf_d, ↓wp_prNil, ↓wp_prCons, ↓wp_dnew, ↓wp_iVal, ↓wp_rng1, ↓wp_rng2, ↓wp_lc, ↓wp_ok, ↓wp_exc, ↓wp_bad, ↓wp_join, itD, ↓wp_bYes, ↓rQ_dat, ↓rQ_cell, ↓wo_some, ↓wo_none, ↓wo_ite, ↓wo_map, view_dat, td_nil, td_cons, Option.map_some, bind_name, bind_tup, sa_c, sa_n, toKey, uB, uI, uD, uI1, uI2, ty_s, ty_l, List.map, List.length, List.replicate, Nat.reduceSub, Nat.reduceAdd, Nat.reduceLeDiff, Nat.zero_add, List.cons_append, List.nil_append, List.append_nil, List.getElem?_cons_zero, List.getElem?_cons_succ, Option.join_some, List.set_cons_zero, List.set_cons_succ, decide_eq_true_eq, Bool.not_eq_true', Bool.not_true, Bool.not_false, if_true, if_false, Bool.false_eq_true, eq_self, true_and, and_true, isND_n, notND_n, isi_int, isi_bool, isi_str, isi_tuple, isi_list, isi_dict, dInt, dBl, dStr, dTup, dLst, dDct, wipeE, List.set, subD, ltD, gtD, leD, geD, max2D, min2D, eqD_ii, neD_ii, eqD_ss, neD_ss, eqD_nil, neD_nil, l1]
    refine wp_takeN hb2 (by omega) (by omega) (by omega) fun d2 M3 d21 hb3 f3 => ?_
    simp (config := {dsimp := false}) only [↓ws_nil, ↓ws_cons, ↓ws_asg, ↓ws_setIx, ↓ws_ret, ↓ws_retN, ↓ws_if, ↓ws_drop, ↓ws_brk, ↓ws_cnt, ↓ws_for, ↓wp_tOf, ↓wp_not, ↓wp_and, ↓wp_or, ↓wp_vand, ↓wp_vor, ↓wp_eB, ↓wp_eIf, ↓wp_neg, ↓wp_chain, ↓wp_e2, ↓wp_var, ↓wp_c, ↓wp_addI, ↓wp_addS, ↓wp_addL, ↓wp_addT, ↓ws_raise1, ↓ws_raise0, ↓ws_par, ↓ws_par3, uPar3_ok, ↓wp_kin, ↓wp_kix, wo_ks, ↓wp_get1, ↓wp_get2, ↓wp_dget, ↓ws_setKey, uKeyD, keyD, ↓wp_fnK, ↓ws_try, ↓ws_hdN, ↓ws_hdC, ↓ws_suiteN, ↓ws_suiteS, ↓wp_fld, xE, gP_nil, gP_cons, Option.toList, ↓wp_lift2v, ↓wp_aNil, ↓wp_aCons, ↓wp_newF, ↓wp_newT, ↓wp_lst, ↓wp_tup, ↓wp_call, ↓wp_pf1, ↓wp_pf2, ↓wp_pfL, ↓wp_isi, ↓wp_fn, ↓wp_bm, ↓wp_sl, ↓wp_pNone, ↓wp_pSome, ↓wp_slS, ↓wp_slL, ↓wp_disp, ↓wp_newDF, ↓wp_newDT, rf_l, rf_d, ↓wp_prNil, ↓wp_prCons, ↓wp_dnew, ↓wp_iVal, ↓wp_rng1, ↓wp_rng2, ↓wp_lc, ↓wp_ok, ↓wp_exc, ↓wp_bad, ↓wp_join, itD, ↓wp_bYes, ↓rQ_dat, ↓rQ_cell, ↓wo_some, ↓wo_none, ↓wo_ite, ↓wo_map, view_dat, td_nil, td_cons, Option.map_some, bind_name, bind_tup, sa_c, sa_n, toKey, uB, uI, uD, uI1, uI2, ty_s, ty_l, List.map, List.length, List.replicate, Nat.reduceSub, Nat.reduceAdd, Nat.reduceLeDiff, Nat.zero_add, List.cons_append, List.nil_append, List.append_nil, List.getElem?_cons_zero, List.getElem?_cons_succ, Option.join_some, List.set_cons_zero, List.set_cons_succ, decide_eq_true_eq, Bool.not_eq_true', Bool.not_true, Bool.not_false, if_true, if_false, Bool.false_eq_true, eq_self, true_and, and_true, isND_n, notND_n, isi_int, isi_bool, isi_str, isi_tuple, isi_list, isi_dict, dInt, dBl, dStr, dTup, dLst, dDct, wipeE, List.set, subD, ltD, gtD, leD, geD, max2D, min2D, eqD_ii, neD_ii, eqD_ss, neD_ss, eqD_nil, neD_nil]
    refine ix_l (by omega) (by rw [List.length_map]; exact d21) fun e he => ?_
    obtain ⟨w2, rfl, hw2⟩ := strs_mem he
    simp (config := {dsimp := false}) only [↓ws_nil, ↓ws_cons, ↓ws_asg, ↓ws_setIx, ↓ws_ret, ↓ws_retN, ↓ws_if, ↓ws_drop, ↓ws_brk, ↓ws_cnt, ↓ws_for, ↓wp_tOf, ↓wp_not, ↓wp_and, ↓wp_or, ↓wp_vand, ↓wp_vor, ↓wp_eB, ↓wp_eIf, ↓wp_neg, ↓wp_chain, ↓wp_e2, ↓wp_var, ↓wp_c, ↓wp_addI, ↓wp_addS, ↓wp_addL, ↓wp_addT, ↓ws_raise1, ↓ws_raise0, ↓ws_par, ↓ws_par3, uPar3_ok, ↓wp_kin, ↓wp_kix, wo_ks, ↓wp_get1, ↓wp_get2, ↓wp_dget, ↓ws_setKey, uKeyD, keyD, ↓wp_fnK, ↓ws_try, ↓ws_hdN, ↓ws_hdC, ↓ws_suiteN, ↓ws_suiteS, ↓wp_fld, xE, gP_nil, gP_cons, Option.toList, ↓wp_lift2v, ↓wp_aNil, ↓wp_aCons, ↓wp_newF, ↓wp_newT, ↓wp_lst, ↓wp_tup, ↓wp_call, ↓wp_pf1, ↓wp_pf2, ↓wp_pfL, ↓wp_isi, ↓wp_fn, ↓wp_bm, ↓wp_sl, ↓wp_pNone, ↓wp_pSome, ↓wp_slS, ↓wp_slL, ↓wp_disp, ↓wp_newDF, ↓wp_newDT, rf_l, rf_d, ↓wp_prNil, ↓wp_prCons, ↓wp_dnew, ↓wp_iVal, ↓wp_rng1, ↓wp_rng2, ↓wp_lc, ↓wp_ok, ↓wp_exc, ↓wp_bad, ↓wp_join, itD, ↓wp_bYes, ↓rQ_dat, ↓rQ_cell, ↓wo_some, ↓wo_none, ↓wo_ite, ↓wo_map, view_dat, td_nil, td_cons, Option.map_some, bind_name, bind_tup, sa_c, sa_n, toKey, uB, uI, uD, uI1, uI2, ty_s, ty_l, List.map, List.length, List.replicate, Nat.reduceSub, Nat.reduceAdd, Nat.reduceLeDiff, Nat.zero_add, List.cons_append, List.nil_append, List.append_nil, List.getElem?_cons_zero, List.getElem?_cons_succ, Option.join_some, List.set_cons_zero, List.set_cons_succ, decide_eq_true_eq, Bool.not_eq_true', Bool.not_true, Bool.not_false, if_true, if_false, Bool.false_eq_true, eq_self, true_and, and_true, isND_n, notND_n, isi_int, isi_bool, isi_str, isi_tuple, isi_list, isi_dict, dInt, dBl, dStr, dTup, dLst, dDct, wipeE, List.set, subD, ltD, gtD, leD, geD, max2D, min2D, eqD_ii, neD_ii, eqD_ss, neD_ss, eqD_nil, neD_nil]
    have fr := (f1.trans f2).trans f3
    rw [← fr.len, take_len]
    refine h _ _ ⟨[[108, 111, 99, 107], w1, w2], rfl, by simp, by simp, fun w hw' => ?_⟩ hb3 fr
    simp only [List.mem_cons, List.not_mem_nil, or_false] at hw'
    rcases hw' with rfl | rfl | rfl
    · decide
    · exact (show ∀ w ∈ fiveW, w.length ≤ 100 by decide) _ hw1
    · exact hw _ hw2
  · rw [if_neg hd]
    refine wp_takeN hb1 (by omega) (by decide) (by decide) fun d1 M2 d11 hb2 f2 => ?_
    simp (config := {dsimp := false}) only [↓ws_nil, ↓ws_cons, ↓ws_asg, ↓ws_setIx, ↓ws_ret, ↓ws_retN, ↓ws_if, ↓ws_drop, ↓ws_brk, ↓ws_cnt, ↓ws_for, ↓wp_tOf, ↓wp_not, ↓wp_and, ↓wp_or, ↓wp_vand, ↓wp_vor, ↓wp_eB, ↓wp_eIf, ↓wp_neg, ↓wp_chain, ↓wp_e2, ↓wp_var, ↓wp_c, ↓wp_addI, ↓wp_addS, ↓wp_addL, ↓wp_addT, ↓ws_raise1, ↓ws_raise0, ↓ws_par, ↓ws_par3, uPar3_ok, ↓wp_kin, ↓wp_kix, wo_ks, ↓wp_get1, ↓wp_get2, ↓wp_dget, ↓ws_setKey, uKeyD, keyD, ↓wp_fnK, ↓ws_try, ↓ws_hdN, ↓ws_hdC, ↓ws_suiteN, ↓ws_suiteS, ↓wp_fld, xE, gP_nil, gP_cons, Option.toList, ↓wp_lift2v, ↓wp_aNil, ↓wp_aCons, ↓wp_newF, ↓wp_newT, ↓wp_lst, ↓wp_tup, ↓wp_call, ↓wp_pf1, ↓wp_pf2, ↓wp_pfL, ↓wp_isi, ↓wp_fn, ↓wp_bm, ↓wp_sl, ↓wp_pNone, ↓wp_pSome, ↓wp_slS, ↓wp_slL, ↓wp_disp, ↓wp_newDF, ↓wp_newDT, rf_l, rf_d, ↓wp_prNil, ↓wp_prCons, ↓wp_dnew, ↓wp_iVal, ↓wp_rng1, ↓wp_rng2, ↓wp_lc, ↓wp_ok, ↓wp_exc, ↓wp_bad, ↓wp_join, itD, ↓wp_bYes, ↓rQ_dat, ↓rQ_cell, ↓wo_some, ↓wo_none, ↓wo_ite, ↓wo_map, view_dat, td_nil, td_cons, Option.map_some, bind_name, bind_tup, sa_c, sa_n, toKey, uB, uI, uD, uI1, uI2, ty_s, ty_l, List.map, List.length, List.replicate, Nat.reduceSub, Nat.reduceAdd, Nat.reduceLeDiff, Nat.zero_add, List.cons_append, List.nil_append, List.append_nil, List.getElem?_cons_zero, List.getElem?_cons_succ, Option.join_some, List.set_cons_zero, List.set_cons_succ, decide_eq_true_eq, Bool.not_eq_true', Bool.not_true, Bool.not_false, if_true, if_false, Bool.false_eq_true, eq_self, true_and, and_true, isND_n, notND_n, isi_int, isi_bool, isi_str, isi_tuple, isi_list, isi_dict, dInt, dBl, dStr, dTup, dLst, dDct, wipeE, List.set, subD, ltD, gtD, leD, geD, max2D, min2D, eqD_ii, neD_ii, eqD_ss, neD_ss, eqD_nil, neD_nil]
    by_cases hd : (((d1 : Nat) : Int) == 0) = true
    · rw [if_pos hd]
      refine wp_takeN hb2 (by omega) (by decide) (by decide) fun d2 M3 d21 hb3 f3 => ?_
      simp (config := {dsimp := false}) only [↓ws_nil, ↓ws_cons, ↓ws_asg, ↓ws_setIx, ↓ws_ret, ↓ws_retN, ↓ws_if, ↓ws_drop, ↓ws_brk, ↓ws_cnt, ↓ws_for, ↓wp_tOf, ↓wp_not, ↓wp_and, ↓wp_or, ↓wp_vand, ↓wp_vor, ↓wp_eB, ↓wp_eIf, ↓wp_neg, ↓wp_chain, ↓wp_e2, ↓wp_var, ↓wp_c, ↓wp_addI, ↓wp_addS, ↓wp_addL, ↓wp_addT, ↓ws_raise1, ↓ws_raise0, ↓ws_par, ↓ws_par3, uPar3_ok, ↓wp_kin, ↓wp_kix, wo_ks, ↓wp_get1, ↓wp_get2, ↓wp_dget, ↓ws_setKey, uKeyD, keyD, ↓wp_fnK, ↓ws_try, ↓ws_hdN, ↓ws_hdC, ↓ws_suiteN, ↓ws_suiteS, ↓wp_fld, xE, gP_nil, gP_cons, Option.toList, ↓wp_lift2v, ↓wp_aNil, ↓wp_aCons, ↓wp_newF, ↓wp_newT, ↓wp_lst, ↓wp_tup, ↓wp_call, ↓wp_pf1, ↓wp_pf2, ↓wp_pfL, ↓wp_isi, ↓wp_fn, ↓wp_bm, ↓wp_sl, ↓wp_pNone, ↓wp_pSome, ↓wp_slS, ↓wp_slL, ↓wp_disp, ↓wp_newDF, ↓wp_newDT, rf_l, rf_d, ↓wp_prNil, ↓wp_prCons, ↓wp_dnew, ↓wp_iVal, ↓wp_rng1, ↓wp_rng2, ↓wp_lc, ↓wp_ok, ↓wp_exc, ↓wp_bad, ↓wp_join, itD, ↓wp_bYes, ↓rQ_dat, ↓rQ_cell, ↓wo_some, ↓wo_none, ↓wo_ite, ↓wo_map, view_dat, td_nil, td_cons, Option.map_some, bind_name, bind_tup, sa_c, sa_n, toKey, uB, uI, uD, uI1, uI2, ty_s, ty_l, List.map, List.length, List.replicate, Nat.reduceSub, Nat.reduceAdd, Nat.reduceLeDiff, Nat.zero_add, List.cons_append, List.nil_append, List.append_nil, List.getElem?_cons_zero, List.getElem?_cons_succ, Option.join_some, List.set_cons_zero, List.set_cons_succ, decide_eq_true_eq, Bool.not_eq_true', Bool.not_true, Bool.not_false, if_true, if_false, Bool.false_eq_true, eq_self, true_and, and_true, isND_n, notND_n, isi_int, isi_bool, isi_str, isi_tuple, isi_list, isi_dict, dInt, dBl, dStr, dTup, dLst, dDct, wipeE, List.set, subD, ltD, gtD, leD, geD, max2D, min2D, eqD_ii, neD_ii, eqD_ss, neD_ss, eqD_nil, neD_nil]
      refine ix_l (by omega) (by simpa using d21) fun e he => ?_
      obtain ⟨w1, rfl, hw1⟩ : ∃ w, e = .str w ∧ w ∈ twoW := strs_mem (ms := twoW) he
      simp (config := {dsimp := false}) only [↓ws_nil, ↓ws_cons, ↓ws_asg, ↓ws_setIx, ↓ws_ret, ↓ws_retN, ↓ws_if, ↓ws_drop, ↓ws_brk, ↓ws_cnt, ↓ws_for, ↓wp_tOf, ↓wp_not, ↓wp_and, ↓wp_or, ↓wp_vand, ↓wp_vor, ↓wp_eB, ↓wp_eIf, ↓wp_neg, ↓wp_chain, ↓wp_e2, ↓wp_var, ↓wp_c, ↓wp_addI, ↓wp_addS, ↓wp_addL, ↓wp_addT, ↓ws_raise1, ↓ws_raise0, ↓ws_par, ↓ws_par3, uPar3_ok, ↓wp_kin, ↓wp_kix, wo_ks, ↓wp_get1, ↓wp_get2, ↓wp_dget, ↓ws_setKey, uKeyD, keyD, ↓wp_fnK, ↓ws_try, ↓ws_hdN, ↓ws_hdC, ↓ws_suiteN, ↓ws_suiteS, ↓wp_fld, xE, gP_nil, gP_cons, Option.toList, ↓wp_lift2v, ↓wp_aNil, ↓wp_aCons, ↓wp_newF, ↓wp_newT, ↓wp_lst, ↓wp_tup, ↓wp_call, ↓wp_pf1, ↓wp_pf2, ↓wp_pfL, ↓wp_isi, ↓wp_fn, ↓wp_bm, ↓wp_sl, ↓wp_pNone, ↓wp_pSome, ↓wp_slS, ↓wp_slL, ↓wp_disp, ↓wp_newDF, ↓wp_newDT, rf_l, rf_d, ↓wp_prNil, ↓wp_prCons, ↓wp_dnew, ↓wp_iVal, ↓wp_rng1, ↓wp_rng2, ↓wp_lc, ↓wp_ok, ↓wp_exc, ↓wp_bad, ↓wp_join, itD, ↓wp_bYes, ↓rQ_dat, ↓rQ_cell, ↓wo_some, ↓wo_none, ↓wo_ite, ↓wo_map, view_dat, td_nil, td_cons, Option.map_some, bind_name, bind_tup, sa_c, sa_n, toKey, uB, uI, uD, uI1, uI2, ty_s, ty_l, List.map, List.length, List.replicate, Nat.reduceSub, Nat.reduceAdd, Nat.reduceLeDiff, Nat.zero_add, List.cons_append, List.nil_append, List.append_nil, List.getElem?_cons_zero, List.getElem?_cons_succ, Option.join_some, List.set_cons_zero, List.set_cons_succ, decide_eq_true_eq, Bool.not_eq_true', Bool.not_true, Bool.not_false, if_true, if_false, Bool.false_eq_true, eq_self, true_and, and_true, isND_n, notND_n, isi_int, isi_bool, isi_str, isi_tuple, isi_list, isi_dict, dInt, dBl, dStr, dTup, dLst, dDct, wipeE, List.set, subD, ltD, gtD, leD, geD, max2D, min2D, eqD_ii, neD_ii, eqD_ss, neD_ss, eqD_nil, neD_nil]
      have fr := (f1.trans f2).trans f3
      rw [← fr.len, take_len]
      refine h _ _ ⟨[[115, 99, 97, 110], w1], rfl, by simp, by simp, fun w hw' => ?_⟩ hb3 fr
      simp only [List.mem_cons, List.not_mem_nil, or_false] at hw'
      rcases hw' with rfl | rfl
      · decide
      · exact (show ∀ w ∈ twoW, w.length ≤ 100 by decide) _ hw1
    · rw [if_neg hd]
      refine wp_takeN hb2 (by omega) (by decide) (by decide) fun d2 M3 d21 hb3 f3 => ?_
      simp (config := {dsimp := false}) only [↓ws_nil, ↓ws_cons, ↓ws_asg, ↓ws_setIx, ↓ws_ret, ↓ws_retN, ↓ws_if, ↓ws_drop, ↓ws_brk, ↓ws_cnt, ↓ws_for, ↓wp_tOf, ↓wp_not, ↓wp_and, ↓wp_or, ↓wp_vand, ↓wp_vor, ↓wp_eB, ↓wp_eIf, ↓wp_neg, ↓wp_chain, ↓wp_e2, ↓wp_var, ↓wp_c, ↓wp_addI, ↓wp_addS, ↓wp_addL, ↓wp_addT, ↓ws_raise1, ↓ws_raise0, ↓ws_par, ↓ws_par3, uPar3_ok, ↓wp_kin, ↓wp_kix, wo_ks, ↓wp_get1, ↓wp_get2, ↓wp_dget, ↓ws_setKey, uKeyD, keyD, ↓wp_fnK, ↓ws_try, ↓ws_hdN, ↓ws_hdC, ↓ws_suiteN, ↓ws_suiteS, ↓wp_fld, xE, gP_nil, gP_cons, Option.toList, ↓wp_lift2v, ↓wp_aNil, ↓wp_aCons, ↓wp_newF, ↓wp_newT, ↓wp_lst, ↓wp_tup, ↓wp_call, ↓wp_pf1, ↓wp_pf2, ↓wp_pfL, ↓wp_isi, ↓wp_fn, ↓wp_bm, ↓wp_sl, ↓wp_pNone, ↓wp_pSome, ↓wp_slS, ↓wp_slL, ↓wp_disp, ↓wp_newDF, ↓wp_newDT, rf_l, rf_d, ↓wp_prNil, ↓wp_prCons, ↓wp_dnew, ↓wp_iVal, ↓wp_rng1, ↓wp_rng2, ↓wp_lc, ↓wp_ok, ↓wp_exc, ↓wp_bad, ↓wp_join, itD, ↓wp_bYes, ↓rQ_dat, ↓rQ_cell, ↓wo_some, ↓wo_none, ↓wo_ite, ↓wo_map, view_dat, td_nil, td_cons, Option.map_some, bind_name, bind_tup, sa_c, sa_n, toKey, uB, uI, uD, uI1, uI2, ty_s, ty_l, List.map, List.length, List.replicate, Nat.reduceSub, Nat.reduceAdd, Nat.reduceLeDiff, Nat.zero_add, List.cons_append, List.nil_append, List.append_nil, List.getElem?_cons_zero, List.getElem?_cons_succ, Option.join_some, List.set_cons_zero, List.set_cons_succ, decide_eq_true_eq, Bool.not_eq_true', Bool.not_true, Bool.not_false, if_true, if_false, Bool.false_eq_true, eq_self, true_and, and_true, isND_n, notND_n, isi_int, isi_bool, isi_str, isi_tuple, isi_list, isi_dict, dInt, dBl, dStr, dTup, dLst, dDct, wipeE, List.set, subD, ltD, gtD, leD, geD, max2D, min2D, eqD_ii, neD_ii, eqD_ss, neD_ss, eqD_nil, neD_nil]
      refine ix_l (by omega) (by simpa using d21) fun e he => ?_
      obtain ⟨w1, rfl, hw1⟩ : ∃ w, e = .str w ∧ w ∈ plainW := strs_mem (ms := plainW) he
      simp (config := {dsimp := false}) only [↓ws_nil, ↓ws_cons, ↓ws_asg, ↓ws_setIx, ↓ws_ret, ↓ws_retN, ↓ws_if, ↓ws_drop, ↓ws_brk, ↓ws_cnt, ↓ws_for, ↓wp_tOf, ↓wp_not, ↓wp_and, ↓wp_or, ↓wp_vand, ↓wp_vor, ↓wp_eB, ↓wp_eIf, ↓wp_neg, ↓wp_chain, ↓wp_e2, ↓wp_var, ↓wp_c, ↓wp_addI, ↓wp_addS, ↓wp_addL, ↓wp_addT, ↓ws_raise1, ↓ws_raise0, ↓ws_par, ↓ws_par3, uPar3_ok, ↓wp_kin, ↓wp_kix, wo_ks, ↓wp_get1, ↓wp_get2, ↓wp_dget, ↓ws_setKey, uKeyD, keyD, ↓wp_fnK, ↓ws_try, ↓ws_hdN, ↓ws_hdC, ↓ws_suiteN, ↓ws_suiteS, ↓wp_fld, xE, gP_nil, gP_cons, Option.toList, ↓wp_lift2v, ↓wp_aNil, ↓wp_aCons, ↓wp_newF, ↓wp_newT, ↓wp_lst, ↓wp_tup, ↓wp_call, ↓wp_pf1, ↓wp_pf2, ↓wp_pfL, ↓wp_isi, ↓wp_fn, ↓wp_bm, ↓wp_sl, ↓wp_pNone, ↓wp_pSome, ↓wp_slS, ↓wp_slL, ↓wp_disp, ↓wp_newDF, ↓wp_newDT, rf_l, rf_d, ↓wp_prNil, ↓wp_prCons, ↓wp_dnew, ↓wp_iVal, ↓wp_rng1, ↓wp_rng2, ↓wp_lc, ↓wp_ok, ↓wp_exc, ↓wp_bad, ↓wp_join, itD, ↓wp_bYes, ↓rQ_dat, ↓rQ_cell, ↓wo_some, ↓wo_none, ↓wo_ite, ↓wo_map, view_dat, td_nil, td_cons, Option.map_some, bind_name, bind_tup, sa_c, sa_n, toKey, uB, uI, uD, uI1, uI2, ty_s, ty_l, List.map, List.length, List.replicate, Nat.reduceSub, Nat.reduceAdd, Nat.reduceLeDiff, Nat.zero_add, List.cons_append, List.nil_append, List.append_nil, List.getElem?_cons_zero, List.getElem?_cons_succ, Option.join_some, List.set_cons_zero, List.set_cons_succ, decide_eq_true_eq, Bool.not_eq_true', Bool.not_true, Bool.not_false, if_true, if_false, Bool.false_eq_true, eq_self, true_and, and_true, isND_n, notND_n, isi_int, isi_bool, isi_str, isi_tuple, isi_list, isi_dict, dInt, dBl, dStr, dTup, dLst, dDct, wipeE, List.set, subD, ltD, gtD, leD, geD, max2D, min2D, eqD_ii, neD_ii, eqD_ss, neD_ss, eqD_nil, neD_nil]
      have fr := (f1.trans f2).trans f3
      rw [← fr.len, take_len]
      refine h _ _ ⟨[w1], rfl, by simp, by simp, fun w hw' => ?_⟩ hb3 fr
      simp only [List.mem_cons, List.not_mem_nil, or_false] at hw'
      subst hw'
      exact (show ∀ w ∈ plainW, w.length ≤ 100 by decide) _ hw1
/-- an item of what is bent -/
def ItemOk (d : D) : Prop := ∀ s, d = .str s → s.length ≤ 100
def oddL : List D := [.str [], .str [116, 97, 98, 108, 101], .str [108, 111, 99, 107], .str [111, 108, 100], .str [101, 110, 100], .int 5, .non, .str [65], .str [116, 111, 111, 108, 111, 110, 103, 101, 114], .str [112, 113], .str [115, 104, 97, 114, 101]]
theorem odd_ok : ∀ d ∈ oddL, ItemOk d := by
  intro d hd s e
  subst e
  simp only [oddL, List.mem_cons, List.not_mem_nil, or_false, D.str.injEq, reduceCtorEq, false_or, or_false] at hd
  rcases hd with rfl | rfl | rfl | rfl | rfl | rfl | rfl | rfl | rfl <;> decide
theorem wp_slC {k : Nat} {c : Bool} {ds : List D} {lo hi : Option Int} {M : Mem} {Q : U → Mem → Prop} {X : XP} (h : M[k]? = some (.lst ds)) : Wp (pSl c (.cell k) lo hi M) Q X = Wp (newL c (cutL ds lo hi) M) Q X := by
  unfold pSl
  rw [view_cl h]
theorem cut_mem {α : Type} {s : List α} {lo hi : Option Int} {d : α} (h : d ∈ cutL s lo hi) : d ∈ s := by
  unfold cutL at h
  exact List.mem_of_mem_drop (List.mem_of_mem_take h)
theorem fr_last {k : Nat} {M M' : Mem} {o : O} (f : SD.Fr k (M ++ [o]) M') (hk : k < M.length) : ∃ N, M' = N ++ [o] ∧ SD.Fr k M N := by
  have hl : M'.length = M.length + 1 := by rw [f.len, List.length_append]; rfl
  have ho : M'[M.length]? = some o := (f.out _ (by omega)).trans at_app
  refine ⟨M'.take M.length, ?_, by rw [List.length_take]; omega, fun j hj => ?_⟩
  · apply List.ext_getElem?
    intro i
    by_cases hi : i < M.length
    · rw [List.getElem?_append_left (by rw [List.length_take]; omega), List.getElem?_take_of_lt hi]
    · by_cases he : i = M.length
      · subst he; rw [ho, List.getElem?_append_right (by rw [List.length_take]; omega), List.length_take]; simp [hl]
      · rw [List.getElem?_eq_none (by omega), List.getElem?_eq_none (by rw [List.length_append, List.length_take]; simp; omega)]
  · by_cases hi : j < M.length
    · rw [List.getElem?_take_of_lt hi, f.out j hj, List.getElem?_append_left hi]
    · rw [List.getElem?_eq_none (by rw [List.length_take]; omega), List.getElem?_eq_none (by omega)]
theorem wp_bent {k n : Nat} {ds : List D} {M : Mem} {Q : U → Mem → Prop} {X : XP} (hb : Bx k n M) (hn : n ≤ 500000) (h0 : ds.length ≤ 3) (hw : ∀ d ∈ ds, ItemOk d) (h : ∀ es M', es.length ≤ 4 → (∀ d ∈ es, ItemOk d) → Bx k (n + 3) M' → SD.Fr k M M' → Q (.dat (.tup es)) M' ∧ Q (.cell M.length) (M' ++ [.lst es])) :
    Wp (f_law_bent [.cell k, .dat (.tup ds)] M) Q X := by
  unfold f_law_bent b_law_bent
  rw [wp_run]
  have hk := hb.lt
  have sq : seqD (.tup ds) = some ds := rfl
  simp (config := {dsimp := false}) only [↓ws_nil, ↓ws_cons, ↓ws_asg, ↓ws_setIx, ↓ws_ret, ↓ws_retN, ↓ws_if, ↓ws_drop, ↓ws_brk, ↓ws_cnt, ↓ws_for, ↓wp_tOf, ↓wp_not, ↓wp_and, ↓wp_or, ↓wp_vand, ↓wp_vor, ↓wp_eB, ↓wp_eIf, ↓wp_neg, ↓wp_chain, ↓wp_e2, ↓wp_var, ↓wp_c, ↓wp_addI, ↓wp_addS, ↓wp_addL, ↓wp_addT, ↓ws_raise1, ↓ws_raise0, ↓ws_par, ↓ws_par3, uPar3_ok, ↓wp_kin, ↓wp_kix, wo_ks, ↓wp_get1, ↓wp_get2, ↓wp_dget, ↓ws_setKey, uKeyD, keyD, ↓wp_fnK, ↓ws_try, ↓ws_hdN, ↓ws_hdC, ↓ws_suiteN, ↓ws_suiteS, ↓wp_fld, xE, gP_nil, gP_cons, Option.toList, ↓wp_lift2v, ↓wp_aNil, ↓wp_aCons, ↓wp_newF, ↓wp_newT, ↓wp_lst, ↓wp_tup, ↓wp_call, ↓wp_pf1, ↓wp_pf2, ↓wp_pfL, ↓wp_isi, ↓wp_fn, ↓wp_bm, ↓wp_sl, ↓wp_pNone, ↓wp_pSome, ↓wp_slS, ↓wp_slL, ↓wp_disp, ↓wp_newDF, ↓wp_newDT, rf_l, rf_d, ↓wp_prNil, ↓wp_prCons, ↓wp_dnew, ↓wp_iVal, ↓wp_rng1, ↓wp_rng2, ↓wp_lc, ↓wp_ok, ↓wp_exc, ↓wp_bad, ↓wp_join, itD, ↓wp_bYes, ↓rQ_dat, ↓rQ_cell, ↓wo_some, ↓wo_none, ↓wo_ite, ↓wo_map, view_dat, td_nil, td_cons, Option.map_some, bind_name, bind_tup, sa_c, sa_n, toKey, uB, uI, uD, uI1, uI2, ty_s, ty_l, List.map, List.length, List.replicate, Nat.reduceSub, Nat.reduceAdd, Nat.reduceLeDiff, Nat.zero_add, List.cons_append, List.nil_append, List.append_nil, List.getElem?_cons_zero, List.getElem?_cons_succ, Option.join_some, List.set_cons_zero, List.set_cons_succ, decide_eq_true_eq, Bool.not_eq_true', Bool.not_true, Bool.not_false, if_true, if_false, Bool.false_eq_true, eq_self, true_and, and_true, isND_n, notND_n, isi_int, isi_bool, isi_str, isi_tuple, isi_list, isi_dict, dInt, dBl, dStr, dTup, dLst, dDct, wipeE, List.set, subD, ltD, gtD, leD, geD, max2D, min2D, eqD_ii, neD_ii, eqD_ss, neD_ss, eqD_nil, neD_nil, sq]
  refine wp_takeN (hb.app (L := [.lst ds])) (by omega) (by decide) (by decide) fun d0 M1 d01 hb1 f1 => ?_
  simp (config := {dsimp := false}) only [↓ws_nil, ↓ws_cons, ↓ws_asg, ↓ws_setIx, ↓ws_ret, ↓ws_retN, ↓ws_if, ↓ws_drop, ↓ws_brk, ↓ws_cnt, ↓ws_for, ↓wp_tOf, ↓wp_not, ↓wp_and, ↓wp_or, ↓wp_vand, ↓wp_vor, ↓wp_eB, ↓wp_eIf, ↓wp_neg, ↓wp_chain, ↓wp_e2, ↓wp_var, ↓wp_c, ↓wp_addI, ↓wp_addS, ↓wp_addL, ↓wp_addT, ↓ws_raise1, ↓ws_raise0, ↓ws_par, ↓ws_par3, uPar3_ok, ↓wp_kin, ↓wp_kix, wo_ks, ↓wp_get1, ↓wp_get2, ↓wp_dget, ↓ws_setKey, uKeyD, keyD, ↓wp_fnK, ↓ws_try, ↓ws_hdN, ↓ws_hdC, ↓ws_suiteN, ↓ws_suiteS, ↓wp_fld, xE, gP_nil, gP_cons, Option.toList, ↓wp_lift2v, ↓wp_aNil, ↓wp_aCons, ↓wp_newF, ↓wp_newT, ↓wp_lst, ↓wp_tup, ↓wp_call, ↓wp_pf1, ↓wp_pf2, ↓wp_pfL, ↓wp_isi, ↓wp_fn, ↓wp_bm, ↓wp_sl, ↓wp_pNone, ↓wp_pSome, ↓wp_slS, ↓wp_slL, ↓wp_disp, ↓wp_newDF, ↓wp_newDT, rf_l, rf_d, ↓wp_prNil, ↓wp_prCons, ↓wp_dnew, ↓wp_iVal, ↓wp_rng1, ↓wp_rng2, ↓wp_lc, ↓wp_ok, ↓wp_exc, ↓wp_bad, ↓wp_join, itD, ↓wp_bYes, ↓rQ_dat, ↓rQ_cell, ↓wo_some, ↓wo_none, ↓wo_ite, ↓wo_map, view_dat, td_nil, td_cons, Option.map_some, bind_name, bind_tup, sa_c, sa_n, toKey, uB, uI, uD, uI1, uI2, ty_s, ty_l, List.map, List.length, List.replicate, Nat.reduceSub, Nat.reduceAdd, Nat.reduceLeDiff, Nat.zero_add, List.cons_append, List.nil_append, List.append_nil, List.getElem?_cons_zero, List.getElem?_cons_succ, Option.join_some, List.set_cons_zero, List.set_cons_succ, decide_eq_true_eq, Bool.not_eq_true', Bool.not_true, Bool.not_false, if_true, if_false, Bool.false_eq_true, eq_self, true_and, and_true, isND_n, notND_n, isi_int, isi_bool, isi_str, isi_tuple, isi_list, isi_dict, dInt, dBl, dStr, dTup, dLst, dDct, wipeE, List.set, subD, ltD, gtD, leD, geD, max2D, min2D, eqD_ii, neD_ii, eqD_ss, neD_ss, eqD_nil, neD_nil]
  refine ix_l (by omega) (by simpa using d01) fun e he => ?_
  have oe : ItemOk e := odd_ok e he
  have c1 : M1[M.length]? = some (.lst ds) := (f1.out _ (by omega)).trans at_app
  have ll : lenD (.lst ds) = some (.int ds.length) := rfl
  simp (config := {dsimp := false}) only [↓ws_nil, ↓ws_cons, ↓ws_asg, ↓ws_setIx, ↓ws_ret, ↓ws_retN, ↓ws_if, ↓ws_drop, ↓ws_brk, ↓ws_cnt, ↓ws_for, ↓wp_tOf, ↓wp_not, ↓wp_and, ↓wp_or, ↓wp_vand, ↓wp_vor, ↓wp_eB, ↓wp_eIf, ↓wp_neg, ↓wp_chain, ↓wp_e2, ↓wp_var, ↓wp_c, ↓wp_addI, ↓wp_addS, ↓wp_addL, ↓wp_addT, ↓ws_raise1, ↓ws_raise0, ↓ws_par, ↓ws_par3, uPar3_ok, ↓wp_kin, ↓wp_kix, wo_ks, ↓wp_get1, ↓wp_get2, ↓wp_dget, ↓ws_setKey, uKeyD, keyD, ↓wp_fnK, ↓ws_try, ↓ws_hdN, ↓ws_hdC, ↓ws_suiteN, ↓ws_suiteS, ↓wp_fld, xE, gP_nil, gP_cons, Option.toList, ↓wp_lift2v, ↓wp_aNil, ↓wp_aCons, ↓wp_newF, ↓wp_newT, ↓wp_lst, ↓wp_tup, ↓wp_call, ↓wp_pf1, ↓wp_pf2, ↓wp_pfL, ↓wp_isi, ↓wp_fn, ↓wp_bm, ↓wp_sl, ↓wp_pNone, ↓wp_pSome, ↓wp_slS, ↓wp_slL, ↓wp_disp, ↓wp_newDF, ↓wp_newDT, rf_l, rf_d, ↓wp_prNil, ↓wp_prCons, ↓wp_dnew, ↓wp_iVal, ↓wp_rng1, ↓wp_rng2, ↓wp_lc, ↓wp_ok, ↓wp_exc, ↓wp_bad, ↓wp_join, itD, ↓wp_bYes, ↓rQ_dat, ↓rQ_cell, ↓wo_some, ↓wo_none, ↓wo_ite, ↓wo_map, view_dat, td_nil, td_cons, Option.map_some, bind_name, bind_tup, sa_c, sa_n, toKey, uB, uI, uD, uI1, uI2, ty_s, ty_l, List.map, List.length, List.replicate, Nat.reduceSub, Nat.reduceAdd, Nat.reduceLeDiff, Nat.zero_add, List.cons_append, List.nil_append, List.append_nil, List.getElem?_cons_zero, List.getElem?_cons_succ, Option.join_some, List.set_cons_zero, List.set_cons_succ, decide_eq_true_eq, Bool.not_eq_true', Bool.not_true, Bool.not_false, if_true, if_false, Bool.false_eq_true, eq_self, true_and, and_true, isND_n, notND_n, isi_int, isi_bool, isi_str, isi_tuple, isi_list, isi_dict, dInt, dBl, dStr, dTup, dLst, dDct, wipeE, List.set, subD, ltD, gtD, leD, geD, max2D, min2D, eqD_ii, neD_ii, eqD_ss, neD_ss, eqD_nil, neD_nil, view_cl c1, ll]
  refine wp_takeN hb1 (by omega) (by omega) (by omega) fun d2 M2 d21 hb2 f2 => ?_
  simp (config := {dsimp := false}) only [↓ws_nil, ↓ws_cons, ↓ws_asg, ↓ws_setIx, ↓ws_ret, ↓ws_retN, ↓ws_if, ↓ws_drop, ↓ws_brk, ↓ws_cnt, ↓ws_for, ↓wp_tOf, ↓wp_not, ↓wp_and, ↓wp_or, ↓wp_vand, ↓wp_vor, ↓wp_eB, ↓wp_eIf, ↓wp_neg, ↓wp_chain, ↓wp_e2, ↓wp_var, ↓wp_c, ↓wp_addI, ↓wp_addS, ↓wp_addL, ↓wp_addT, ↓ws_raise1, ↓ws_raise0, ↓ws_par, ↓ws_par3, uPar3_ok, ↓wp_kin, ↓wp_kix, wo_ks, ↓wp_get1, ↓wp_get2, ↓wp_dget, ↓ws_setKey, uKeyD, keyD, ↓wp_fnK, ↓ws_try, ↓ws_hdN, ↓ws_hdC, ↓ws_suiteN, ↓ws_suiteS, ↓wp_fld, xE, gP_nil, gP_cons, Option.toList, ↓wp_lift2v, ↓wp_aNil, ↓wp_aCons, ↓wp_newF, ↓wp_newT, ↓wp_lst, ↓wp_tup, ↓wp_call, ↓wp_pf1, ↓wp_pf2, ↓wp_pfL, ↓wp_isi, ↓wp_fn, ↓wp_bm, ↓wp_sl, ↓wp_pNone, ↓wp_pSome, ↓wp_slS, ↓wp_slL, ↓wp_disp, ↓wp_newDF, ↓wp_newDT, rf_l, rf_d, ↓wp_prNil, ↓wp_prCons, ↓wp_dnew, ↓wp_iVal, ↓wp_rng1, ↓wp_rng2, ↓wp_lc, ↓wp_ok, ↓wp_exc, ↓wp_bad, ↓wp_join, itD, ↓wp_bYes, ↓rQ_dat, ↓rQ_cell, ↓wo_some, ↓wo_none, ↓wo_ite, ↓wo_map, view_dat, td_nil, td_cons, Option.map_some, bind_name, bind_tup, sa_c, sa_n, toKey, uB, uI, uD, uI1, uI2, ty_s, ty_l, List.map, List.length, List.replicate, Nat.reduceSub, Nat.reduceAdd, Nat.reduceLeDiff, Nat.zero_add, List.cons_append, List.nil_append, List.append_nil, List.getElem?_cons_zero, List.getElem?_cons_succ, Option.join_some, List.set_cons_zero, List.set_cons_succ, decide_eq_true_eq, Bool.not_eq_true', Bool.not_true, Bool.not_false, if_true, if_false, Bool.false_eq_true, eq_self, true_and, and_true, isND_n, notND_n, isi_int, isi_bool, isi_str, isi_tuple, isi_list, isi_dict, dInt, dBl, dStr, dTup, dLst, dDct, wipeE, List.set, subD, ltD, gtD, leD, geD, max2D, min2D, eqD_ii, neD_ii, eqD_ss, neD_ss, eqD_nil, neD_nil]
  refine wp_takeN hb2 (by omega) (by decide) (by decide) fun way M3 d31 hb3 f3 => ?_
  obtain ⟨N, rfl, fr⟩ := fr_last ((f1.trans f2).trans f3) hk
  have ml := fr.len
  have hbN : Bx k (n + 3) N := by have := hb3.take (m := N.length) (by omega); rwa [take_app] at this
  rw [← ml] at h ⊢
  clear he c1 hb1 hb2 hb3 f1 f2 f3
  have q00 : (((0 : Nat) : Int) == 0) = true := rfl
  have q01 : (((0 : Nat) : Int) == 1) = false := rfl
  have q02 : (((0 : Nat) : Int) == 2) = false := rfl
  have q03 : (((0 : Nat) : Int) == 3) = false := rfl
  have q10 : (((1 : Nat) : Int) == 0) = false := rfl
  have q11 : (((1 : Nat) : Int) == 1) = true := rfl
  have q12 : (((1 : Nat) : Int) == 2) = false := rfl
  have q13 : (((1 : Nat) : Int) == 3) = false := rfl
  have q20 : (((2 : Nat) : Int) == 0) = false := rfl
  have q21 : (((2 : Nat) : Int) == 1) = false := rfl
  have q22 : (((2 : Nat) : Int) == 2) = true := rfl
  have q23 : (((2 : Nat) : Int) == 3) = false := rfl
  have q30 : (((3 : Nat) : Int) == 0) = false := rfl
  have q31 : (((3 : Nat) : Int) == 1) = false := rfl
  have q32 : (((3 : Nat) : Int) == 2) = false := rfl
  have q33 : (((3 : Nat) : Int) == 3) = true := rfl
  have q40 : (((4 : Nat) : Int) == 0) = false := rfl
  have q41 : (((4 : Nat) : Int) == 1) = false := rfl
  have q42 : (((4 : Nat) : Int) == 2) = false := rfl
  have q43 : (((4 : Nat) : Int) == 3) = false := rfl
  have rl : ∀ es : List D, ((O.lst es).refs = []) = True := fun es => eq_true rfl
  have vN : ∀ es : List D, view (.cell N.length) (N ++ [.lst es]) = some (.lst es) := fun es => view_cl at_app
  have tN : ∀ es : List D, tyU "list" (.cell N.length) (N ++ [.lst es]) = true := fun es => ty_cl at_app
  have td : ∀ es : List D, tupD (.lst es) = some (.tup es) := fun _ => rfl
  have lN : ∀ es : List D, lenD (.lst es) = some (.int es.length) := fun _ => rfl
  have : way = 0 ∨ way = 1 ∨ way = 2 ∨ way = 3 ∨ way = 4 := by omega
  rcases this with rfl | rfl | rfl | rfl | rfl
  · have ins : ∀ {Q X}, Wp (mInsert (.cell N.length) [.dat (.int (d2 : Nat)), .dat e] (N ++ [.lst ds])) Q X = Q (.dat .non) (N ++ [.lst (ds.take d2 ++ [e] ++ ds.drop d2)]) := fun {Q X} => by
      rw [wp_insert at_app (by omega) (by omega) (by omega), set_app, Int.toNat_natCast]
    simp (config := {dsimp := false}) only [↓ws_nil, ↓ws_cons, ↓ws_asg, ↓ws_setIx, ↓ws_ret, ↓ws_retN, ↓ws_if, ↓ws_drop, ↓ws_brk, ↓ws_cnt, ↓ws_for, ↓wp_tOf, ↓wp_not, ↓wp_and, ↓wp_or, ↓wp_vand, ↓wp_vor, ↓wp_eB, ↓wp_eIf, ↓wp_neg, ↓wp_chain, ↓wp_e2, ↓wp_var, ↓wp_c, ↓wp_addI, ↓wp_addS, ↓wp_addL, ↓wp_addT, ↓ws_raise1, ↓ws_raise0, ↓ws_par, ↓ws_par3, uPar3_ok, ↓wp_kin, ↓wp_kix, wo_ks, ↓wp_get1, ↓wp_get2, ↓wp_dget, ↓ws_setKey, uKeyD, keyD, ↓wp_fnK, ↓ws_try, ↓ws_hdN, ↓ws_hdC, ↓ws_suiteN, ↓ws_suiteS, ↓wp_fld, xE, gP_nil, gP_cons, Option.toList, ↓wp_lift2v, ↓wp_aNil, ↓wp_aCons, ↓wp_newF, ↓wp_newT, ↓wp_lst, ↓wp_tup, ↓wp_call, ↓wp_pf1, ↓wp_pf2, ↓wp_pfL, ↓wp_isi, ↓wp_fn, ↓wp_bm, ↓wp_sl, ↓wp_pNone, ↓wp_pSome, ↓wp_slS, ↓wp_slL, ↓wp_disp, ↓wp_newDF, ↓wp_newDT, rf_l, rf_d, ↓wp_prNil, ↓wp_prCons, ↓wp_dnew, ↓wp_iVal, ↓wp_rng1, ↓wp_rng2, ↓wp_lc, ↓wp_ok, ↓wp_exc, ↓wp_bad, ↓wp_join, itD, ↓wp_bYes, ↓rQ_dat, ↓rQ_cell, ↓wo_some, ↓wo_none, ↓wo_ite, ↓wo_map, view_dat, td_nil, td_cons, Option.map_some, bind_name, bind_tup, sa_c, sa_n, toKey, uB, uI, uD, uI1, uI2, ty_s, ty_l, List.map, List.length, List.replicate, Nat.reduceSub, Nat.reduceAdd, Nat.reduceLeDiff, Nat.zero_add, List.cons_append, List.nil_append, List.append_nil, List.getElem?_cons_zero, List.getElem?_cons_succ, Option.join_some, List.set_cons_zero, List.set_cons_succ, decide_eq_true_eq, Bool.not_eq_true', Bool.not_true, Bool.not_false, if_true, if_false, Bool.false_eq_true, eq_self, true_and, and_true, isND_n, notND_n, isi_int, isi_bool, isi_str, isi_tuple, isi_list, isi_dict, dInt, dBl, dStr, dTup, dLst, dDct, wipeE, List.set, subD, ltD, gtD, leD, geD, max2D, min2D, eqD_ii, neD_ii, eqD_ss, neD_ss, eqD_nil, neD_nil, q00, q01, q02, q03, q10, q11, q12, q13, q20, q21, q22, q23, q30, q31, q32, q33, q40, q41, q42, q43, tN, ↓ins, vN, td, take_app]
    rw [← ml, take_app]
    refine (h (ds.take d2 ++ [e] ++ ds.drop d2) N ?_ ?_ hbN fr).1
    · simp only [List.length_append, List.length_take, List.length_drop, List.length_cons, List.length_nil]; omega
    · intro x hx
      rw [List.append_assoc, List.mem_append, List.mem_append] at hx
      rcases hx with hx | hx | hx
      · exact hw x (List.mem_of_mem_take hx)
      · rw [List.mem_singleton] at hx; subst hx; exact oe
      · exact hw x (List.mem_of_mem_drop hx)
  · simp (config := {dsimp := false}) only [↓ws_nil, ↓ws_cons, ↓ws_asg, ↓ws_setIx, ↓ws_ret, ↓ws_retN, ↓ws_if, ↓ws_drop, ↓ws_brk, ↓ws_cnt, ↓ws_for, ↓wp_tOf, ↓wp_not, ↓wp_and, ↓wp_or, ↓wp_vand, ↓wp_vor, ↓wp_eB, ↓wp_eIf, ↓wp_neg, ↓wp_chain, ↓wp_e2, ↓wp_var, ↓wp_c, ↓wp_addI, ↓wp_addS, ↓wp_addL, ↓wp_addT, ↓ws_raise1, ↓ws_raise0, ↓ws_par, ↓ws_par3, uPar3_ok, ↓wp_kin, ↓wp_kix, wo_ks, ↓wp_get1, ↓wp_get2, ↓wp_dget, ↓ws_setKey, uKeyD, keyD, ↓wp_fnK, ↓ws_try, ↓ws_hdN, ↓ws_hdC, ↓ws_suiteN, ↓ws_suiteS, ↓wp_fld, xE, gP_nil, gP_cons, Option.toList, ↓wp_lift2v, ↓wp_aNil, ↓wp_aCons, ↓wp_newF, ↓wp_newT, ↓wp_lst, ↓wp_tup, ↓wp_call, ↓wp_pf1, ↓wp_pf2, ↓wp_pfL, ↓wp_isi, ↓wp_fn, ↓wp_bm, ↓wp_sl, ↓wp_pNone, ↓wp_pSome, ↓wp_slS, ↓wp_slL, ↓wp_disp, ↓wp_newDF, ↓wp_newDT, rf_l, rf_d, ↓wp_prNil, ↓wp_prCons, ↓wp_dnew, ↓wp_iVal, ↓wp_rng1, ↓wp_rng2, ↓wp_lc, ↓wp_ok, ↓wp_exc, ↓wp_bad, ↓wp_join, itD, ↓wp_bYes, ↓rQ_dat, ↓rQ_cell, ↓wo_some, ↓wo_none, ↓wo_ite, ↓wo_map, view_dat, td_nil, td_cons, Option.map_some, bind_name, bind_tup, sa_c, sa_n, toKey, uB, uI, uD, uI1, uI2, ty_s, ty_l, List.map, List.length, List.replicate, Nat.reduceSub, Nat.reduceAdd, Nat.reduceLeDiff, Nat.zero_add, List.cons_append, List.nil_append, List.append_nil, List.getElem?_cons_zero, List.getElem?_cons_succ, Option.join_some, List.set_cons_zero, List.set_cons_succ, decide_eq_true_eq, Bool.not_eq_true', Bool.not_true, Bool.not_false, if_true, if_false, Bool.false_eq_true, eq_self, true_and, and_true, isND_n, notND_n, isi_int, isi_bool, isi_str, isi_tuple, isi_list, isi_dict, dInt, dBl, dStr, dTup, dLst, dDct, wipeE, List.set, subD, ltD, gtD, leD, geD, max2D, min2D, eqD_ii, neD_ii, eqD_ss, neD_ss, eqD_nil, neD_nil, q00, q01, q02, q03, q10, q11, q12, q13, q20, q21, q22, q23, q30, q31, q32, q33, q40, q41, q42, q43, vN, lN, td, take_app]
    by_cases hlt : (d2 : Int) < ds.length
    · have ixd : ixN ds.length (d2 : Nat) = some d2 := by unfold ixN; rw [if_pos (by omega), if_pos hlt, Int.toNat_natCast]
      have lt1 : decide ((d2 : Int) < (ds.length : Int)) = true := decide_eq_true hlt
      rw [if_pos hlt]
      simp (config := {dsimp := false}) only [↓ws_nil, ↓ws_cons, ↓ws_asg, ↓ws_setIx, ↓ws_ret, ↓ws_retN, ↓ws_if, ↓ws_drop, ↓ws_brk, ↓ws_cnt, ↓ws_for, ↓wp_tOf, ↓wp_not, ↓wp_and, ↓wp_or, ↓wp_vand, ↓wp_vor, ↓wp_eB, ↓wp_eIf, ↓wp_neg, ↓wp_chain, ↓wp_e2, ↓wp_var, ↓wp_c, ↓wp_addI, ↓wp_addS, ↓wp_addL, ↓wp_addT, ↓ws_raise1, ↓ws_raise0, ↓ws_par, ↓ws_par3, uPar3_ok, ↓wp_kin, ↓wp_kix, wo_ks, ↓wp_get1, ↓wp_get2, ↓wp_dget, ↓ws_setKey, uKeyD, keyD, ↓wp_fnK, ↓ws_try, ↓ws_hdN, ↓ws_hdC, ↓ws_suiteN, ↓ws_suiteS, ↓wp_fld, xE, gP_nil, gP_cons, Option.toList, ↓wp_lift2v, ↓wp_aNil, ↓wp_aCons, ↓wp_newF, ↓wp_newT, ↓wp_lst, ↓wp_tup, ↓wp_call, ↓wp_pf1, ↓wp_pf2, ↓wp_pfL, ↓wp_isi, ↓wp_fn, ↓wp_bm, ↓wp_sl, ↓wp_pNone, ↓wp_pSome, ↓wp_slS, ↓wp_slL, ↓wp_disp, ↓wp_newDF, ↓wp_newDT, rf_l, rf_d, ↓wp_prNil, ↓wp_prCons, ↓wp_dnew, ↓wp_iVal, ↓wp_rng1, ↓wp_rng2, ↓wp_lc, ↓wp_ok, ↓wp_exc, ↓wp_bad, ↓wp_join, itD, ↓wp_bYes, ↓rQ_dat, ↓rQ_cell, ↓wo_some, ↓wo_none, ↓wo_ite, ↓wo_map, view_dat, td_nil, td_cons, Option.map_some, bind_name, bind_tup, sa_c, sa_n, toKey, uB, uI, uD, uI1, uI2, ty_s, ty_l, List.map, List.length, List.replicate, Nat.reduceSub, Nat.reduceAdd, Nat.reduceLeDiff, Nat.zero_add, List.cons_append, List.nil_append, List.append_nil, List.getElem?_cons_zero, List.getElem?_cons_succ, Option.join_some, List.set_cons_zero, List.set_cons_succ, decide_eq_true_eq, Bool.not_eq_true', Bool.not_true, Bool.not_false, if_true, if_false, Bool.false_eq_true, eq_self, true_and, and_true, isND_n, notND_n, isi_int, isi_bool, isi_str, isi_tuple, isi_list, isi_dict, dInt, dBl, dStr, dTup, dLst, dDct, wipeE, List.set, subD, ltD, gtD, leD, geD, max2D, min2D, eqD_ii, neD_ii, eqD_ss, neD_ss, eqD_nil, neD_nil, uSet, oL, at_app, ixd, set_app, vN, td, q00, q01, q02, q03, q10, q11, q12, q13, q20, q21, q22, q23, q30, q31, q32, q33, q40, q41, q42, q43]
      rw [← ml, take_app]
      refine (h (ds.set d2 e) N (by rw [List.length_set]; omega) (fun x hx => ?_) hbN fr).1
      rcases List.mem_or_eq_of_mem_set hx with hx | rfl
      · exact hw x hx
      · exact oe
    · rw [if_neg hlt]
      rw [← ml, take_app]
      exact (h ds N (by omega) hw hbN fr).1
  · simp (config := {dsimp := false}) only [↓ws_nil, ↓ws_cons, ↓ws_asg, ↓ws_setIx, ↓ws_ret, ↓ws_retN, ↓ws_if, ↓ws_drop, ↓ws_brk, ↓ws_cnt, ↓ws_for, ↓wp_tOf, ↓wp_not, ↓wp_and, ↓wp_or, ↓wp_vand, ↓wp_vor, ↓wp_eB, ↓wp_eIf, ↓wp_neg, ↓wp_chain, ↓wp_e2, ↓wp_var, ↓wp_c, ↓wp_addI, ↓wp_addS, ↓wp_addL, ↓wp_addT, ↓ws_raise1, ↓ws_raise0, ↓ws_par, ↓ws_par3, uPar3_ok, ↓wp_kin, ↓wp_kix, wo_ks, ↓wp_get1, ↓wp_get2, ↓wp_dget, ↓ws_setKey, uKeyD, keyD, ↓wp_fnK, ↓ws_try, ↓ws_hdN, ↓ws_hdC, ↓ws_suiteN, ↓ws_suiteS, ↓wp_fld, xE, gP_nil, gP_cons, Option.toList, ↓wp_lift2v, ↓wp_aNil, ↓wp_aCons, ↓wp_newF, ↓wp_newT, ↓wp_lst, ↓wp_tup, ↓wp_call, ↓wp_pf1, ↓wp_pf2, ↓wp_pfL, ↓wp_isi, ↓wp_fn, ↓wp_bm, ↓wp_sl, ↓wp_pNone, ↓wp_pSome, ↓wp_slS, ↓wp_slL, ↓wp_disp, ↓wp_newDF, ↓wp_newDT, rf_l, rf_d, ↓wp_prNil, ↓wp_prCons, ↓wp_dnew, ↓wp_iVal, ↓wp_rng1, ↓wp_rng2, ↓wp_lc, ↓wp_ok, ↓wp_exc, ↓wp_bad, ↓wp_join, itD, ↓wp_bYes, ↓rQ_dat, ↓rQ_cell, ↓wo_some, ↓wo_none, ↓wo_ite, ↓wo_map, view_dat, td_nil, td_cons, Option.map_some, bind_name, bind_tup, sa_c, sa_n, toKey, uB, uI, uD, uI1, uI2, ty_s, ty_l, List.map, List.length, List.replicate, Nat.reduceSub, Nat.reduceAdd, Nat.reduceLeDiff, Nat.zero_add, List.cons_append, List.nil_append, List.append_nil, List.getElem?_cons_zero, List.getElem?_cons_succ, Option.join_some, List.set_cons_zero, List.set_cons_succ, decide_eq_true_eq, Bool.not_eq_true', Bool.not_true, Bool.not_false, if_true, if_false, Bool.false_eq_true, eq_self, true_and, and_true, isND_n, notND_n, isi_int, isi_bool, isi_str, isi_tuple, isi_list, isi_dict, dInt, dBl, dStr, dTup, dLst, dDct, wipeE, List.set, subD, ltD, gtD, leD, geD, max2D, min2D, eqD_ii, neD_ii, eqD_ss, neD_ss, eqD_nil, neD_nil, q00, q01, q02, q03, q10, q11, q12, q13, q20, q21, q22, q23, q30, q31, q32, q33, q40, q41, q42, q43, vN, lN, td, take_app]
    rw [if_neg (by omega), ← ml, at_app, take_app]
    simp (config := {dsimp := false}) only [↓ws_nil, ↓ws_cons, ↓ws_asg, ↓ws_setIx, ↓ws_ret, ↓ws_retN, ↓ws_if, ↓ws_drop, ↓ws_brk, ↓ws_cnt, ↓ws_for, ↓wp_tOf, ↓wp_not, ↓wp_and, ↓wp_or, ↓wp_vand, ↓wp_vor, ↓wp_eB, ↓wp_eIf, ↓wp_neg, ↓wp_chain, ↓wp_e2, ↓wp_var, ↓wp_c, ↓wp_addI, ↓wp_addS, ↓wp_addL, ↓wp_addT, ↓ws_raise1, ↓ws_raise0, ↓ws_par, ↓ws_par3, uPar3_ok, ↓wp_kin, ↓wp_kix, wo_ks, ↓wp_get1, ↓wp_get2, ↓wp_dget, ↓ws_setKey, uKeyD, keyD, ↓wp_fnK, ↓ws_try, ↓ws_hdN, ↓ws_hdC, ↓ws_suiteN, ↓ws_suiteS, ↓wp_fld, xE, gP_nil, gP_cons, Option.toList, ↓wp_lift2v, ↓wp_aNil, ↓wp_aCons, ↓wp_newF, ↓wp_newT, ↓wp_lst, ↓wp_tup, ↓wp_call, ↓wp_pf1, ↓wp_pf2, ↓wp_pfL, ↓wp_isi, ↓wp_fn, ↓wp_bm, ↓wp_sl, ↓wp_pNone, ↓wp_pSome, ↓wp_slS, ↓wp_slL, ↓wp_disp, ↓wp_newDF, ↓wp_newDT, rf_l, rf_d, ↓wp_prNil, ↓wp_prCons, ↓wp_dnew, ↓wp_iVal, ↓wp_rng1, ↓wp_rng2, ↓wp_lc, ↓wp_ok, ↓wp_exc, ↓wp_bad, ↓wp_join, itD, ↓wp_bYes, ↓rQ_dat, ↓rQ_cell, ↓wo_some, ↓wo_none, ↓wo_ite, ↓wo_map, view_dat, td_nil, td_cons, Option.map_some, bind_name, bind_tup, sa_c, sa_n, toKey, uB, uI, uD, uI1, uI2, ty_s, ty_l, List.map, List.length, List.replicate, Nat.reduceSub, Nat.reduceAdd, Nat.reduceLeDiff, Nat.zero_add, List.cons_append, List.nil_append, List.append_nil, List.getElem?_cons_zero, List.getElem?_cons_succ, Option.join_some, List.set_cons_zero, List.set_cons_succ, decide_eq_true_eq, Bool.not_eq_true', Bool.not_true, Bool.not_false, if_true, if_false, Bool.false_eq_true, eq_self, true_and, and_true, isND_n, notND_n, isi_int, isi_bool, isi_str, isi_tuple, isi_list, isi_dict, dInt, dBl, dStr, dTup, dLst, dDct, wipeE, List.set, subD, ltD, gtD, leD, geD, max2D, min2D, eqD_ii, neD_ii, eqD_ss, neD_ss, eqD_nil, neD_nil, rl]
    exact (h ds N (by omega) hw hbN fr).2
  · simp (config := {dsimp := false}) only [↓ws_nil, ↓ws_cons, ↓ws_asg, ↓ws_setIx, ↓ws_ret, ↓ws_retN, ↓ws_if, ↓ws_drop, ↓ws_brk, ↓ws_cnt, ↓ws_for, ↓wp_tOf, ↓wp_not, ↓wp_and, ↓wp_or, ↓wp_vand, ↓wp_vor, ↓wp_eB, ↓wp_eIf, ↓wp_neg, ↓wp_chain, ↓wp_e2, ↓wp_var, ↓wp_c, ↓wp_addI, ↓wp_addS, ↓wp_addL, ↓wp_addT, ↓ws_raise1, ↓ws_raise0, ↓ws_par, ↓ws_par3, uPar3_ok, ↓wp_kin, ↓wp_kix, wo_ks, ↓wp_get1, ↓wp_get2, ↓wp_dget, ↓ws_setKey, uKeyD, keyD, ↓wp_fnK, ↓ws_try, ↓ws_hdN, ↓ws_hdC, ↓ws_suiteN, ↓ws_suiteS, ↓wp_fld, xE, gP_nil, gP_cons, Option.toList, ↓wp_lift2v, ↓wp_aNil, ↓wp_aCons, ↓wp_newF, ↓wp_newT, ↓wp_lst, ↓wp_tup, ↓wp_call, ↓wp_pf1, ↓wp_pf2, ↓wp_pfL, ↓wp_isi, ↓wp_fn, ↓wp_bm, ↓wp_sl, ↓wp_pNone, ↓wp_pSome, ↓wp_slS, ↓wp_slL, ↓wp_disp, ↓wp_newDF, ↓wp_newDT, rf_l, rf_d, ↓wp_prNil, ↓wp_prCons, ↓wp_dnew, ↓wp_iVal, ↓wp_rng1, ↓wp_rng2, ↓wp_lc, ↓wp_ok, ↓wp_exc, ↓wp_bad, ↓wp_join, itD, ↓wp_bYes, ↓rQ_dat, ↓rQ_cell, ↓wo_some, ↓wo_none, ↓wo_ite, ↓wo_map, view_dat, td_nil, td_cons, Option.map_some, bind_name, bind_tup, sa_c, sa_n, toKey, uB, uI, uD, uI1, uI2, ty_s, ty_l, List.map, List.length, List.replicate, Nat.reduceSub, Nat.reduceAdd, Nat.reduceLeDiff, Nat.zero_add, List.cons_append, List.nil_append, List.append_nil, List.getElem?_cons_zero, List.getElem?_cons_succ, Option.join_some, List.set_cons_zero, List.set_cons_succ, decide_eq_true_eq, Bool.not_eq_true', Bool.not_true, Bool.not_false, if_true, if_false, Bool.false_eq_true, eq_self, true_and, and_true, isND_n, notND_n, isi_int, isi_bool, isi_str, isi_tuple, isi_list, isi_dict, dInt, dBl, dStr, dTup, dLst, dDct, wipeE, List.set, subD, ltD, gtD, leD, geD, max2D, min2D, eqD_ii, neD_ii, eqD_ss, neD_ss, eqD_nil, neD_nil, q00, q01, q02, q03, q10, q11, q12, q13, q20, q21, q22, q23, q30, q31, q32, q33, q40, q41, q42, q43, vN, lN, td, take_app]
    rw [wp_slC at_app]
    simp (config := {dsimp := false}) only [↓ws_nil, ↓ws_cons, ↓ws_asg, ↓ws_setIx, ↓ws_ret, ↓ws_retN, ↓ws_if, ↓ws_drop, ↓ws_brk, ↓ws_cnt, ↓ws_for, ↓wp_tOf, ↓wp_not, ↓wp_and, ↓wp_or, ↓wp_vand, ↓wp_vor, ↓wp_eB, ↓wp_eIf, ↓wp_neg, ↓wp_chain, ↓wp_e2, ↓wp_var, ↓wp_c, ↓wp_addI, ↓wp_addS, ↓wp_addL, ↓wp_addT, ↓ws_raise1, ↓ws_raise0, ↓ws_par, ↓ws_par3, uPar3_ok, ↓wp_kin, ↓wp_kix, wo_ks, ↓wp_get1, ↓wp_get2, ↓wp_dget, ↓ws_setKey, uKeyD, keyD, ↓wp_fnK, ↓ws_try, ↓ws_hdN, ↓ws_hdC, ↓ws_suiteN, ↓ws_suiteS, ↓wp_fld, xE, gP_nil, gP_cons, Option.toList, ↓wp_lift2v, ↓wp_aNil, ↓wp_aCons, ↓wp_newF, ↓wp_newT, ↓wp_lst, ↓wp_tup, ↓wp_call, ↓wp_pf1, ↓wp_pf2, ↓wp_pfL, ↓wp_isi, ↓wp_fn, ↓wp_bm, ↓wp_sl, ↓wp_pNone, ↓wp_pSome, ↓wp_slS, ↓wp_slL, ↓wp_disp, ↓wp_newDF, ↓wp_newDT, rf_l, rf_d, ↓wp_prNil, ↓wp_prCons, ↓wp_dnew, ↓wp_iVal, ↓wp_rng1, ↓wp_rng2, ↓wp_lc, ↓wp_ok, ↓wp_exc, ↓wp_bad, ↓wp_join, itD, ↓wp_bYes, ↓rQ_dat, ↓rQ_cell, ↓wo_some, ↓wo_none, ↓wo_ite, ↓wo_map, view_dat, td_nil, td_cons, Option.map_some, bind_name, bind_tup, sa_c, sa_n, toKey, uB, uI, uD, uI1, uI2, ty_s, ty_l, List.map, List.length, List.replicate, Nat.reduceSub, Nat.reduceAdd, Nat.reduceLeDiff, Nat.zero_add, List.cons_append, List.nil_append, List.append_nil, List.getElem?_cons_zero, List.getElem?_cons_succ, Option.join_some, List.set_cons_zero, List.set_cons_succ, decide_eq_true_eq, Bool.not_eq_true', Bool.not_true, Bool.not_false, if_true, if_false, Bool.false_eq_true, eq_self, true_and, and_true, isND_n, notND_n, isi_int, isi_bool, isi_str, isi_tuple, isi_list, isi_dict, dInt, dBl, dStr, dTup, dLst, dDct, wipeE, List.set, subD, ltD, gtD, leD, geD, max2D, min2D, eqD_ii, neD_ii, eqD_ss, neD_ss, eqD_nil, neD_nil, td]
    rw [← ml, take_app]
    exact (h _ N (Nat.le_trans (cut_len _ _ _) (by omega)) (fun x hx => hw x (cut_mem hx)) hbN fr).1
  · simp (config := {dsimp := false}) only [↓ws_nil, ↓ws_cons, ↓ws_asg, ↓ws_setIx, ↓ws_ret, ↓ws_retN, ↓ws_if, ↓ws_drop, ↓ws_brk, ↓ws_cnt, ↓ws_for, ↓wp_tOf, ↓wp_not, ↓wp_and, ↓wp_or, ↓wp_vand, ↓wp_vor, ↓wp_eB, ↓wp_eIf, ↓wp_neg, ↓wp_chain, ↓wp_e2, ↓wp_var, ↓wp_c, ↓wp_addI, ↓wp_addS, ↓wp_addL, ↓wp_addT, ↓ws_raise1, ↓ws_raise0, ↓ws_par, ↓ws_par3, uPar3_ok, ↓wp_kin, ↓wp_kix, wo_ks, ↓wp_get1, ↓wp_get2, ↓wp_dget, ↓ws_setKey, uKeyD, keyD, ↓wp_fnK, ↓ws_try, ↓ws_hdN, ↓ws_hdC, ↓ws_suiteN, ↓ws_suiteS, ↓wp_fld, xE, gP_nil, gP_cons, Option.toList, ↓wp_lift2v, ↓wp_aNil, ↓wp_aCons, ↓wp_newF, ↓wp_newT, ↓wp_lst, ↓wp_tup, ↓wp_call, ↓wp_pf1, ↓wp_pf2, ↓wp_pfL, ↓wp_isi, ↓wp_fn, ↓wp_bm, ↓wp_sl, ↓wp_pNone, ↓wp_pSome, ↓wp_slS, ↓wp_slL, ↓wp_disp, ↓wp_newDF, ↓wp_newDT, rf_l, rf_d, ↓wp_prNil, ↓wp_prCons, ↓wp_dnew, ↓wp_iVal, ↓wp_rng1, ↓wp_rng2, ↓wp_lc, ↓wp_ok, ↓wp_exc, ↓wp_bad, ↓wp_join, itD, ↓wp_bYes, ↓rQ_dat, ↓rQ_cell, ↓wo_some, ↓wo_none, ↓wo_ite, ↓wo_map, view_dat, td_nil, td_cons, Option.map_some, bind_name, bind_tup, sa_c, sa_n, toKey, uB, uI, uD, uI1, uI2, ty_s, ty_l, List.map, List.length, List.replicate, Nat.reduceSub, Nat.reduceAdd, Nat.reduceLeDiff, Nat.zero_add, List.cons_append, List.nil_append, List.append_nil, List.getElem?_cons_zero, List.getElem?_cons_succ, Option.join_some, List.set_cons_zero, List.set_cons_succ, decide_eq_true_eq, Bool.not_eq_true', Bool.not_true, Bool.not_false, if_true, if_false, Bool.false_eq_true, eq_self, true_and, and_true, isND_n, notND_n, isi_int, isi_bool, isi_str, isi_tuple, isi_list, isi_dict, dInt, dBl, dStr, dTup, dLst, dDct, wipeE, List.set, subD, ltD, gtD, leD, geD, max2D, min2D, eqD_ii, neD_ii, eqD_ss, neD_ss, eqD_nil, neD_nil, q00, q01, q02, q03, q10, q11, q12, q13, q20, q21, q22, q23, q30, q31, q32, q33, q40, q41, q42, q43, vN, lN, td, take_app]
    rw [← ml, take_app]
    exact (h ds N (by omega) hw hbN fr).1
def FrzQ (Q : U → Mem → Prop) (M : Mem) (u : U) (M1 : Mem) : Prop := match u with
  | .cell k => k = M.length ∧ k + 1 = M1.length ∧ ∃ ds, M1[k]? = some (.lst ds) ∧ Q (.dat (.lst ds)) (M1.take k)
  | u => Q u M1
theorem wp_frz {f : Ev} {ρ : En} {M : Mem} {Q : U → Mem → Prop} {X : XP} (h : Wp (f ρ M) (FrzQ Q M) X) : Wp (eFrz f ρ M) Q X := by
  unfold eFrz
  rw [wp_bind]
  refine h.mono (fun u M1 hq => ?_) fun _ _ _ h => h
  cases u with
  | cell k =>
    obtain ⟨rfl, h2, ds, h3, h4⟩ := hq
    show Wp (if _ ∧ _ then _ else _) Q X
    rw [if_pos ⟨rfl, h2⟩, h3]
    exact h4
  | _ => exact hq
theorem frz_dat {Q : U → Mem → Prop} {M M' : Mem} {d : D} : FrzQ Q M (.dat d) M' = Q (.dat d) M' := rfl
theorem frz_last {Q : U → Mem → Prop} {M M' : Mem} {es : List D} (hl : M'.length = M.length) (h : Q (.dat (.lst es)) M') : FrzQ Q M (.cell M.length) (M' ++ [.lst es]) := by
  refine ⟨rfl, by rw [List.length_append, hl]; rfl, es, by rw [← hl]; exact at_app, ?_⟩
  rw [← hl, take_app]; exact h
theorem vok_step {v : D} (h : StepOk v) : Vok v := by
  obtain ⟨ws, rfl, h1, h2, h3⟩ := h
  intro ds e
  cases e
  refine ⟨by rw [List.length_map]; omega, fun s hs => ?_⟩
  obtain ⟨w, hw, e⟩ := List.mem_map.mp hs
  cases e
  exact Nat.le_trans (h3 _ hw) (by decide)
theorem ne_bl {b : Bool} : neD (.bl b) (.bl b) = some (.bl false) := by cases b <;> rfl
theorem law_true : ∀ ns : List Int, ns.length ≤ 63 → ∃ M, f_law [.dat (.scr ns)] [] = .ok (.dat (.bl true)) M := by
  intro ns hns
  suffices h : Wp (f_law [.dat (.scr ns)] []) (fun u M => u = .dat (.bl true)) x0 by
    obtain ⟨u, M, e, rfl⟩ := h.ok
    exact ⟨M, e⟩
  unfold f_law b_law
  rw [wp_run]
  have l1 : lenD (.scr ns) = some (.int ns.length) := rfl
  simp (config := {dsimp := false}) only [↓ws_nil, ↓ws_cons, ↓ws_asg, ↓ws_setIx, ↓ws_ret, ↓ws_retN, ↓ws_if, ↓ws_drop, ↓ws_brk, ↓ws_cnt, ↓ws_for, ↓wp_tOf, ↓wp_not, ↓wp_and, ↓wp_or, ↓wp_vand, ↓wp_vor, ↓wp_eB, ↓wp_eIf, ↓wp_neg, ↓wp_chain, ↓wp_e2, ↓wp_var, ↓wp_c, ↓wp_addI, ↓wp_addS, ↓wp_addL, ↓wp_addT, ↓ws_raise1, ↓ws_raise0, ↓ws_par, ↓ws_par3, uPar3_ok, ↓wp_kin, ↓wp_kix, wo_ks, ↓wp_get1, ↓wp_get2, ↓wp_dget, ↓ws_setKey, uKeyD, keyD, ↓wp_fnK, ↓ws_try, ↓ws_hdN, ↓ws_hdC, ↓ws_suiteN, ↓ws_suiteS, ↓wp_fld, xE, gP_nil, gP_cons, Option.toList, ↓wp_lift2v, ↓wp_aNil, ↓wp_aCons, ↓wp_newF, ↓wp_newT, ↓wp_lst, ↓wp_tup, ↓wp_call, ↓wp_pf1, ↓wp_pf2, ↓wp_pfL, ↓wp_isi, ↓wp_fn, ↓wp_bm, ↓wp_sl, ↓wp_pNone, ↓wp_pSome, ↓wp_slS, ↓wp_slL, ↓wp_disp, ↓wp_newDF, ↓wp_newDT, rf_l, rf_d, ↓wp_prNil, ↓wp_prCons, ↓wp_dnew, ↓wp_iVal, ↓wp_rng1, ↓wp_rng2, ↓wp_lc, ↓wp_ok, ↓wp_exc, ↓wp_bad, ↓wp_join, itD, ↓wp_bYes, ↓rQ_dat, ↓rQ_cell, ↓wo_some, ↓wo_none, ↓wo_ite, ↓wo_map, view_dat, td_nil, td_cons, Option.map_some, bind_name, bind_tup, sa_c, sa_n, toKey, uB, uI, uD, uI1, uI2, ty_s, ty_l, List.map, List.length, List.replicate, Nat.reduceSub, Nat.reduceAdd, Nat.reduceLeDiff, Nat.zero_add, List.cons_append, List.nil_append, List.append_nil, List.getElem?_cons_zero, List.getElem?_cons_succ, Option.join_some, List.set_cons_zero, List.set_cons_succ, decide_eq_true_eq, Bool.not_eq_true', Bool.not_true, Bool.not_false, if_true, if_false, Bool.false_eq_true, eq_self, true_and, and_true, isND_n, notND_n, isi_int, isi_bool, isi_str, isi_tuple, isi_list, isi_dict, dInt, dBl, dStr, dTup, dLst, dDct, wipeE, List.set, subD, ltD, gtD, leD, geD, max2D, min2D, eqD_ii, neD_ii, eqD_ss, neD_ss, eqD_nil, neD_nil, l1]
  refine ⟨⟨by split <;> split <;> omega, by split <;> split <;> omega⟩, ?_⟩
  refine ws_forL (fun _ ρ M => ∃ a b c d e f g i j k, ρ = [some (.dat (.scr ns)), a, b, c, d, e, f, g, i, j, k]) _ [] _ _ ⟨_, _, _, _, _, _, _, _, _, _, rfl⟩ (fun pre d post ρ M he ⟨a, b, c, d1, e, f, g, i, j, k, hr⟩ => ?_) fun ρ M ⟨a, b, c, d1, e, f, g, i, j, k, hr⟩ => ?_
  · subst hr
    have hd : ∃ j : Nat, d = .int j ∧ j < 64 := by
      have hm : d ∈ intsUp 0 (if (if (ns.length : Int) < 12 then (ns.length : Int) else 12) > 2 then (if (ns.length : Int) < 12 then (ns.length : Int) else 12) else 2).toNat := by
        rw [List.nil_append] at he
        rw [he]; simp
      unfold intsUp at hm
      obtain ⟨j, hj, rfl⟩ := List.mem_map.mp hm
      refine ⟨j, by simp, ?_⟩
      rw [List.mem_range] at hj
      revert hj
      split <;> split <;> omega
    obtain ⟨j, rfl, hj⟩ := hd
    simp (config := {dsimp := false}) only [↓ws_nil, ↓ws_cons, ↓ws_asg, ↓ws_setIx, ↓ws_ret, ↓ws_retN, ↓ws_if, ↓ws_drop, ↓ws_brk, ↓ws_cnt, ↓ws_for, ↓wp_tOf, ↓wp_not, ↓wp_and, ↓wp_or, ↓wp_vand, ↓wp_vor, ↓wp_eB, ↓wp_eIf, ↓wp_neg, ↓wp_chain, ↓wp_e2, ↓wp_var, ↓wp_c, ↓wp_addI, ↓wp_addS, ↓wp_addL, ↓wp_addT, ↓ws_raise1, ↓ws_raise0, ↓ws_par, ↓ws_par3, uPar3_ok, ↓wp_kin, ↓wp_kix, wo_ks, ↓wp_get1, ↓wp_get2, ↓wp_dget, ↓ws_setKey, uKeyD, keyD, ↓wp_fnK, ↓ws_try, ↓ws_hdN, ↓ws_hdC, ↓ws_suiteN, ↓ws_suiteS, ↓wp_fld, xE, gP_nil, gP_cons, Option.toList, ↓wp_lift2v, ↓wp_aNil, ↓wp_aCons, ↓wp_newF, ↓wp_newT, ↓wp_lst, ↓wp_tup, ↓wp_call, ↓wp_pf1, ↓wp_pf2, ↓wp_pfL, ↓wp_isi, ↓wp_fn, ↓wp_bm, ↓wp_sl, ↓wp_pNone, ↓wp_pSome, ↓wp_slS, ↓wp_slL, ↓wp_disp, ↓wp_newDF, ↓wp_newDT, rf_l, rf_d, ↓wp_prNil, ↓wp_prCons, ↓wp_dnew, ↓wp_iVal, ↓wp_rng1, ↓wp_rng2, ↓wp_lc, ↓wp_ok, ↓wp_exc, ↓wp_bad, ↓wp_join, itD, ↓wp_bYes, ↓rQ_dat, ↓rQ_cell, ↓wo_some, ↓wo_none, ↓wo_ite, ↓wo_map, view_dat, td_nil, td_cons, Option.map_some, bind_name, bind_tup, sa_c, sa_n, toKey, uB, uI, uD, uI1, uI2, ty_s, ty_l, List.map, List.length, List.replicate, Nat.reduceSub, Nat.reduceAdd, Nat.reduceLeDiff, Nat.zero_add, List.cons_append, List.nil_append, List.append_nil, List.getElem?_cons_zero, List.getElem?_cons_succ, Option.join_some, List.set_cons_zero, List.set_cons_succ, decide_eq_true_eq, Bool.not_eq_true', Bool.not_true, Bool.not_false, if_true, if_false, Bool.false_eq_true, eq_self, true_and, and_true, isND_n, notND_n, isi_int, isi_bool, isi_str, isi_tuple, isi_list, isi_dict, dInt, dBl, dStr, dTup, dLst, dDct, wipeE, List.set, subD, ltD, gtD, leD, geD, max2D, min2D, eqD_ii, neD_ii, eqD_ss, neD_ss, eqD_nil, neD_nil]
    refine wp_cell (by omega) (by omega) fun x => ?_
    simp (config := {dsimp := false}) only [↓ws_nil, ↓ws_cons, ↓ws_asg, ↓ws_setIx, ↓ws_ret, ↓ws_retN, ↓ws_if, ↓ws_drop, ↓ws_brk, ↓ws_cnt, ↓ws_for, ↓wp_tOf, ↓wp_not, ↓wp_and, ↓wp_or, ↓wp_vand, ↓wp_vor, ↓wp_eB, ↓wp_eIf, ↓wp_neg, ↓wp_chain, ↓wp_e2, ↓wp_var, ↓wp_c, ↓wp_addI, ↓wp_addS, ↓wp_addL, ↓wp_addT, ↓ws_raise1, ↓ws_raise0, ↓ws_par, ↓ws_par3, uPar3_ok, ↓wp_kin, ↓wp_kix, wo_ks, ↓wp_get1, ↓wp_get2, ↓wp_dget, ↓ws_setKey, uKeyD, keyD, ↓wp_fnK, ↓ws_try, ↓ws_hdN, ↓ws_hdC, ↓ws_suiteN, ↓ws_suiteS, ↓wp_fld, xE, gP_nil, gP_cons, Option.toList, ↓wp_lift2v, ↓wp_aNil, ↓wp_aCons, ↓wp_newF, ↓wp_newT, ↓wp_lst, ↓wp_tup, ↓wp_call, ↓wp_pf1, ↓wp_pf2, ↓wp_pfL, ↓wp_isi, ↓wp_fn, ↓wp_bm, ↓wp_sl, ↓wp_pNone, ↓wp_pSome, ↓wp_slS, ↓wp_slL, ↓wp_disp, ↓wp_newDF, ↓wp_newDT, rf_l, rf_d, ↓wp_prNil, ↓wp_prCons, ↓wp_dnew, ↓wp_iVal, ↓wp_rng1, ↓wp_rng2, ↓wp_lc, ↓wp_ok, ↓wp_exc, ↓wp_bad, ↓wp_join, itD, ↓wp_bYes, ↓rQ_dat, ↓rQ_cell, ↓wo_some, ↓wo_none, ↓wo_ite, ↓wo_map, view_dat, td_nil, td_cons, Option.map_some, bind_name, bind_tup, sa_c, sa_n, toKey, uB, uI, uD, uI1, uI2, ty_s, ty_l, List.map, List.length, List.replicate, Nat.reduceSub, Nat.reduceAdd, Nat.reduceLeDiff, Nat.zero_add, List.cons_append, List.nil_append, List.append_nil, List.getElem?_cons_zero, List.getElem?_cons_succ, Option.join_some, List.set_cons_zero, List.set_cons_succ, decide_eq_true_eq, Bool.not_eq_true', Bool.not_true, Bool.not_false, if_true, if_false, Bool.false_eq_true, eq_self, true_and, and_true, isND_n, notND_n, isi_int, isi_bool, isi_str, isi_tuple, isi_list, isi_dict, dInt, dBl, dStr, dTup, dLst, dDct, wipeE, List.set, subD, ltD, gtD, leD, geD, max2D, min2D, eqD_ii, neD_ii, eqD_ss, neD_ss, eqD_nil, neD_nil]
    refine wp_box fun M1 hb hl _ => ?_
    simp (config := {dsimp := false}) only [↓ws_nil, ↓ws_cons, ↓ws_asg, ↓ws_setIx, ↓ws_ret, ↓ws_retN, ↓ws_if, ↓ws_drop, ↓ws_brk, ↓ws_cnt, ↓ws_for, ↓wp_tOf, ↓wp_not, ↓wp_and, ↓wp_or, ↓wp_vand, ↓wp_vor, ↓wp_eB, ↓wp_eIf, ↓wp_neg, ↓wp_chain, ↓wp_e2, ↓wp_var, ↓wp_c, ↓wp_addI, ↓wp_addS, ↓wp_addL, ↓wp_addT, ↓ws_raise1, ↓ws_raise0, ↓ws_par, ↓ws_par3, uPar3_ok, ↓wp_kin, ↓wp_kix, wo_ks, ↓wp_get1, ↓wp_get2, ↓wp_dget, ↓ws_setKey, uKeyD, keyD, ↓wp_fnK, ↓ws_try, ↓ws_hdN, ↓ws_hdC, ↓ws_suiteN, ↓ws_suiteS, ↓wp_fld, xE, gP_nil, gP_cons, Option.toList, ↓wp_lift2v, ↓wp_aNil, ↓wp_aCons, ↓wp_newF, ↓wp_newT, ↓wp_lst, ↓wp_tup, ↓wp_call, ↓wp_pf1, ↓wp_pf2, ↓wp_pfL, ↓wp_isi, ↓wp_fn, ↓wp_bm, ↓wp_sl, ↓wp_pNone, ↓wp_pSome, ↓wp_slS, ↓wp_slL, ↓wp_disp, ↓wp_newDF, ↓wp_newDT, rf_l, rf_d, ↓wp_prNil, ↓wp_prCons, ↓wp_dnew, ↓wp_iVal, ↓wp_rng1, ↓wp_rng2, ↓wp_lc, ↓wp_ok, ↓wp_exc, ↓wp_bad, ↓wp_join, itD, ↓wp_bYes, ↓rQ_dat, ↓rQ_cell, ↓wo_some, ↓wo_none, ↓wo_ite, ↓wo_map, view_dat, td_nil, td_cons, Option.map_some, bind_name, bind_tup, sa_c, sa_n, toKey, uB, uI, uD, uI1, uI2, ty_s, ty_l, List.map, List.length, List.replicate, Nat.reduceSub, Nat.reduceAdd, Nat.reduceLeDiff, Nat.zero_add, List.cons_append, List.nil_append, List.append_nil, List.getElem?_cons_zero, List.getElem?_cons_succ, Option.join_some, List.set_cons_zero, List.set_cons_succ, decide_eq_true_eq, Bool.not_eq_true', Bool.not_true, Bool.not_false, if_true, if_false, Bool.false_eq_true, eq_self, true_and, and_true, isND_n, notND_n, isi_int, isi_bool, isi_str, isi_tuple, isi_list, isi_dict, dInt, dBl, dStr, dTup, dLst, dDct, wipeE, List.set, subD, ltD, gtD, leD, geD, max2D, min2D, eqD_ii, neD_ii, eqD_ss, neD_ss, eqD_nil, neD_nil]
    refine wp_frz ?_
    simp (config := {dsimp := false}) only [↓ws_nil, ↓ws_cons, ↓ws_asg, ↓ws_setIx, ↓ws_ret, ↓ws_retN, ↓ws_if, ↓ws_drop, ↓ws_brk, ↓ws_cnt, ↓ws_for, ↓wp_tOf, ↓wp_not, ↓wp_and, ↓wp_or, ↓wp_vand, ↓wp_vor, ↓wp_eB, ↓wp_eIf, ↓wp_neg, ↓wp_chain, ↓wp_e2, ↓wp_var, ↓wp_c, ↓wp_addI, ↓wp_addS, ↓wp_addL, ↓wp_addT, ↓ws_raise1, ↓ws_raise0, ↓ws_par, ↓ws_par3, uPar3_ok, ↓wp_kin, ↓wp_kix, wo_ks, ↓wp_get1, ↓wp_get2, ↓wp_dget, ↓ws_setKey, uKeyD, keyD, ↓wp_fnK, ↓ws_try, ↓ws_hdN, ↓ws_hdC, ↓ws_suiteN, ↓ws_suiteS, ↓wp_fld, xE, gP_nil, gP_cons, Option.toList, ↓wp_lift2v, ↓wp_aNil, ↓wp_aCons, ↓wp_newF, ↓wp_newT, ↓wp_lst, ↓wp_tup, ↓wp_call, ↓wp_pf1, ↓wp_pf2, ↓wp_pfL, ↓wp_isi, ↓wp_fn, ↓wp_bm, ↓wp_sl, ↓wp_pNone, ↓wp_pSome, ↓wp_slS, ↓wp_slL, ↓wp_disp, ↓wp_newDF, ↓wp_newDT, rf_l, rf_d, ↓wp_prNil, ↓wp_prCons, ↓wp_dnew, ↓wp_iVal, ↓wp_rng1, ↓wp_rng2, ↓wp_lc, ↓wp_ok, ↓wp_exc, ↓wp_bad, ↓wp_join, itD, ↓wp_bYes, ↓rQ_dat, ↓rQ_cell, ↓wo_some, ↓wo_none, ↓wo_ite, ↓wo_map, view_dat, td_nil, td_cons, Option.map_some, bind_name, bind_tup, sa_c, sa_n, toKey, uB, uI, uD, uI1, uI2, ty_s, ty_l, List.map, List.length, List.replicate, Nat.reduceSub, Nat.reduceAdd, Nat.reduceLeDiff, Nat.zero_add, List.cons_append, List.nil_append, List.append_nil, List.getElem?_cons_zero, List.getElem?_cons_succ, Option.join_some, List.set_cons_zero, List.set_cons_succ, decide_eq_true_eq, Bool.not_eq_true', Bool.not_true, Bool.not_false, if_true, if_false, Bool.false_eq_true, eq_self, true_and, and_true, isND_n, notND_n, isi_int, isi_bool, isi_str, isi_tuple, isi_list, isi_dict, dInt, dBl, dStr, dTup, dLst, dDct, wipeE, List.set, subD, ltD, gtD, leD, geD, max2D, min2D, eqD_ii, neD_ii, eqD_ss, neD_ss, eqD_nil, neD_nil]
    refine wp_names (many := 3) hb (by decide) (by decide) fun nm M2 nl nok _ hb2 fr2 => ?_
    refine frz_last fr2.len ?_
    have nms : ∀ w ∈ nm ++ [[114, 101, 97, 100], [101, 110, 100]], w.length ≤ 100 := by
      intro w hw
      rw [List.mem_append] at hw
      rcases hw with hw | hw
      · have := nok w hw
        unfold isNameC at this
        simp only [Bool.and_eq_true, decide_eq_true_eq] at this
        omega
      · simp only [List.mem_cons, List.not_mem_nil, or_false] at hw
        rcases hw with rfl | rfl <;> decide
    have e5 : nm.map D.str ++ [.str [114, 101, 97, 100], .str [101, 110, 100]] = (nm ++ [[114, 101, 97, 100], [101, 110, 100]]).map D.str := by rw [List.map_append]; rfl
    have n5 : (nm ++ [[114, 101, 97, 100], [101, 110, 100]]).length = 5 := by rw [List.length_append, nl]; rfl
    simp (config := {dsimp := false}) only [↓ws_nil, ↓ws_cons, ↓ws_asg, ↓ws_setIx, ↓ws_ret, ↓ws_retN, ↓ws_if, ↓ws_drop, ↓ws_brk, ↓ws_cnt, ↓ws_for, ↓wp_tOf, ↓wp_not, ↓wp_and, ↓wp_or, ↓wp_vand, ↓wp_vor, ↓wp_eB, ↓wp_eIf, ↓wp_neg, ↓wp_chain, ↓wp_e2, ↓wp_var, ↓wp_c, ↓wp_addI, ↓wp_addS, ↓wp_addL, ↓wp_addT, ↓ws_raise1, ↓ws_raise0, ↓ws_par, ↓ws_par3, uPar3_ok, ↓wp_kin, ↓wp_kix, wo_ks, ↓wp_get1, ↓wp_get2, ↓wp_dget, ↓ws_setKey, uKeyD, keyD, ↓wp_fnK, ↓ws_try, ↓ws_hdN, ↓ws_hdC, ↓ws_suiteN, ↓ws_suiteS, ↓wp_fld, xE, gP_nil, gP_cons, Option.toList, ↓wp_lift2v, ↓wp_aNil, ↓wp_aCons, ↓wp_newF, ↓wp_newT, ↓wp_lst, ↓wp_tup, ↓wp_call, ↓wp_pf1, ↓wp_pf2, ↓wp_pfL, ↓wp_isi, ↓wp_fn, ↓wp_bm, ↓wp_sl, ↓wp_pNone, ↓wp_pSome, ↓wp_slS, ↓wp_slL, ↓wp_disp, ↓wp_newDF, ↓wp_newDT, rf_l, rf_d, ↓wp_prNil, ↓wp_prCons, ↓wp_dnew, ↓wp_iVal, ↓wp_rng1, ↓wp_rng2, ↓wp_lc, ↓wp_ok, ↓wp_exc, ↓wp_bad, ↓wp_join, itD, ↓wp_bYes, ↓rQ_dat, ↓rQ_cell, ↓wo_some, ↓wo_none, ↓wo_ite, ↓wo_map, view_dat, td_nil, td_cons, Option.map_some, bind_name, bind_tup, sa_c, sa_n, toKey, uB, uI, uD, uI1, uI2, ty_s, ty_l, List.map, List.length, List.replicate, Nat.reduceSub, Nat.reduceAdd, Nat.reduceLeDiff, Nat.zero_add, List.cons_append, List.nil_append, List.append_nil, List.getElem?_cons_zero, List.getElem?_cons_succ, Option.join_some, List.set_cons_zero, List.set_cons_succ, decide_eq_true_eq, Bool.not_eq_true', Bool.not_true, Bool.not_false, if_true, if_false, Bool.false_eq_true, eq_self, true_and, and_true, isND_n, notND_n, isi_int, isi_bool, isi_str, isi_tuple, isi_list, isi_dict, dInt, dBl, dStr, dTup, dLst, dDct, wipeE, List.set, subD, ltD, gtD, leD, geD, max2D, min2D, eqD_ii, neD_ii, eqD_ss, neD_ss, eqD_nil, neD_nil]
    rw [List.length_map, nl]
    repeat refine And.intro (by first | omega | decide | (simp only [List.length_append, List.length_cons, List.length_nil, List.length_map, List.sum_cons, List.sum_nil]; omega)) ?_
    rw [e5]
    generalize nm ++ [[114, 101, 97, 100], [101, 110, 100]] = ms at *
    have hlM : M.length < M2.length := hb2.lt
    refine ws_forL (fun pre ρ M' => Bx M.length (60 + 20 * pre.length) M' ∧ ∃ a b c d e f g, ρ = [some (.dat (.scr ns)), some (.dat (.int (j : Nat))), some (.cell M.length), some (.dat (.lst (ms.map D.str))), a, b, c, d, e, f, g]) _ [] _ _ ⟨hb2.mono (by simp), _, _, _, _, _, _, _, rfl⟩ (fun pre t post ρ M3 he3 ⟨hb3, a, b, c, d1, e, f, g, hr⟩ => ?_) fun ρ M3 ⟨hb3, a, b, c, d1, e, f, g, hr⟩ => ?_
    · subst hr
      have hp : pre.length < 6 := by
        have := congrArg List.length he3
        simp [ups_len] at this; omega
      simp (config := {dsimp := false}) only [↓ws_nil, ↓ws_cons, ↓ws_asg, ↓ws_setIx, ↓ws_ret, ↓ws_retN, ↓ws_if, ↓ws_drop, ↓ws_brk, ↓ws_cnt, ↓ws_for, ↓wp_tOf, ↓wp_not, ↓wp_and, ↓wp_or, ↓wp_vand, ↓wp_vor, ↓wp_eB, ↓wp_eIf, ↓wp_neg, ↓wp_chain, ↓wp_e2, ↓wp_var, ↓wp_c, ↓wp_addI, ↓wp_addS, ↓wp_addL, ↓wp_addT, ↓ws_raise1, ↓ws_raise0, ↓ws_par, ↓ws_par3, uPar3_ok, ↓wp_kin, ↓wp_kix, wo_ks, ↓wp_get1, ↓wp_get2, ↓wp_dget, ↓ws_setKey, uKeyD, keyD, ↓wp_fnK, ↓ws_try, ↓ws_hdN, ↓ws_hdC, ↓ws_suiteN, ↓ws_suiteS, ↓wp_fld, xE, gP_nil, gP_cons, Option.toList, ↓wp_lift2v, ↓wp_aNil, ↓wp_aCons, ↓wp_newF, ↓wp_newT, ↓wp_lst, ↓wp_tup, ↓wp_call, ↓wp_pf1, ↓wp_pf2, ↓wp_pfL, ↓wp_isi, ↓wp_fn, ↓wp_bm, ↓wp_sl, ↓wp_pNone, ↓wp_pSome, ↓wp_slS, ↓wp_slL, ↓wp_disp, ↓wp_newDF, ↓wp_newDT, rf_l, rf_d, ↓wp_prNil, ↓wp_prCons, ↓wp_dnew, ↓wp_iVal, ↓wp_rng1, ↓wp_rng2, ↓wp_lc, ↓wp_ok, ↓wp_exc, ↓wp_bad, ↓wp_join, itD, ↓wp_bYes, ↓rQ_dat, ↓rQ_cell, ↓wo_some, ↓wo_none, ↓wo_ite, ↓wo_map, view_dat, td_nil, td_cons, Option.map_some, bind_name, bind_tup, sa_c, sa_n, toKey, uB, uI, uD, uI1, uI2, ty_s, ty_l, List.map, List.length, List.replicate, Nat.reduceSub, Nat.reduceAdd, Nat.reduceLeDiff, Nat.zero_add, List.cons_append, List.nil_append, List.append_nil, List.getElem?_cons_zero, List.getElem?_cons_succ, Option.join_some, List.set_cons_zero, List.set_cons_succ, decide_eq_true_eq, Bool.not_eq_true', Bool.not_true, Bool.not_false, if_true, if_false, Bool.false_eq_true, eq_self, true_and, and_true, isND_n, notND_n, isi_int, isi_bool, isi_str, isi_tuple, isi_list, isi_dict, dInt, dBl, dStr, dTup, dLst, dDct, wipeE, List.set, subD, ltD, gtD, leD, geD, max2D, min2D, eqD_ii, neD_ii, eqD_ss, neD_ss, eqD_nil, neD_nil]
      refine wp_drawn hb3 (by omega) (by omega) (by omega) nms fun v M4 sv hb4 fr4 => ?_
      simp (config := {dsimp := false}) only [↓ws_nil, ↓ws_cons, ↓ws_asg, ↓ws_setIx, ↓ws_ret, ↓ws_retN, ↓ws_if, ↓ws_drop, ↓ws_brk, ↓ws_cnt, ↓ws_for, ↓wp_tOf, ↓wp_not, ↓wp_and, ↓wp_or, ↓wp_vand, ↓wp_vor, ↓wp_eB, ↓wp_eIf, ↓wp_neg, ↓wp_chain, ↓wp_e2, ↓wp_var, ↓wp_c, ↓wp_addI, ↓wp_addS, ↓wp_addL, ↓wp_addT, ↓ws_raise1, ↓ws_raise0, ↓ws_par, ↓ws_par3, uPar3_ok, ↓wp_kin, ↓wp_kix, wo_ks, ↓wp_get1, ↓wp_get2, ↓wp_dget, ↓ws_setKey, uKeyD, keyD, ↓wp_fnK, ↓ws_try, ↓ws_hdN, ↓ws_hdC, ↓ws_suiteN, ↓ws_suiteS, ↓wp_fld, xE, gP_nil, gP_cons, Option.toList, ↓wp_lift2v, ↓wp_aNil, ↓wp_aCons, ↓wp_newF, ↓wp_newT, ↓wp_lst, ↓wp_tup, ↓wp_call, ↓wp_pf1, ↓wp_pf2, ↓wp_pfL, ↓wp_isi, ↓wp_fn, ↓wp_bm, ↓wp_sl, ↓wp_pNone, ↓wp_pSome, ↓wp_slS, ↓wp_slL, ↓wp_disp, ↓wp_newDF, ↓wp_newDT, rf_l, rf_d, ↓wp_prNil, ↓wp_prCons, ↓wp_dnew, ↓wp_iVal, ↓wp_rng1, ↓wp_rng2, ↓wp_lc, ↓wp_ok, ↓wp_exc, ↓wp_bad, ↓wp_join, itD, ↓wp_bYes, ↓rQ_dat, ↓rQ_cell, ↓wo_some, ↓wo_none, ↓wo_ite, ↓wo_map, view_dat, td_nil, td_cons, Option.map_some, bind_name, bind_tup, sa_c, sa_n, toKey, uB, uI, uD, uI1, uI2, ty_s, ty_l, List.map, List.length, List.replicate, Nat.reduceSub, Nat.reduceAdd, Nat.reduceLeDiff, Nat.zero_add, List.cons_append, List.nil_append, List.append_nil, List.getElem?_cons_zero, List.getElem?_cons_succ, Option.join_some, List.set_cons_zero, List.set_cons_succ, decide_eq_true_eq, Bool.not_eq_true', Bool.not_true, Bool.not_false, if_true, if_false, Bool.false_eq_true, eq_self, true_and, and_true, isND_n, notND_n, isi_int, isi_bool, isi_str, isi_tuple, isi_list, isi_dict, dInt, dBl, dStr, dTup, dLst, dDct, wipeE, List.set, subD, ltD, gtD, leD, geD, max2D, min2D, eqD_ii, neD_ii, eqD_ss, neD_ss, eqD_nil, neD_nil]
      refine wp_takeN hb4 (by omega) (by decide) (by decide) fun d2 M5 d21 hb5 fr5 => ?_
      have ib : ∀ b : Bool, SD.intD (.bl b) = some (.int (if b = true then 1 else 0)) := fun b => rfl
      simp (config := {dsimp := false}) only [↓ws_nil, ↓ws_cons, ↓ws_asg, ↓ws_setIx, ↓ws_ret, ↓ws_retN, ↓ws_if, ↓ws_drop, ↓ws_brk, ↓ws_cnt, ↓ws_for, ↓wp_tOf, ↓wp_not, ↓wp_and, ↓wp_or, ↓wp_vand, ↓wp_vor, ↓wp_eB, ↓wp_eIf, ↓wp_neg, ↓wp_chain, ↓wp_e2, ↓wp_var, ↓wp_c, ↓wp_addI, ↓wp_addS, ↓wp_addL, ↓wp_addT, ↓ws_raise1, ↓ws_raise0, ↓ws_par, ↓ws_par3, uPar3_ok, ↓wp_kin, ↓wp_kix, wo_ks, ↓wp_get1, ↓wp_get2, ↓wp_dget, ↓ws_setKey, uKeyD, keyD, ↓wp_fnK, ↓ws_try, ↓ws_hdN, ↓ws_hdC, ↓ws_suiteN, ↓ws_suiteS, ↓wp_fld, xE, gP_nil, gP_cons, Option.toList, ↓wp_lift2v, ↓wp_aNil, ↓wp_aCons, ↓wp_newF, ↓wp_newT, ↓wp_lst, ↓wp_tup, ↓wp_call, ↓wp_pf1, ↓wp_pf2, ↓wp_pfL, ↓wp_isi, ↓wp_fn, ↓wp_bm, ↓wp_sl, ↓wp_pNone, ↓wp_pSome, ↓wp_slS, ↓wp_slL, ↓wp_disp, ↓wp_newDF, ↓wp_newDT, rf_l, rf_d, ↓wp_prNil, ↓wp_prCons, ↓wp_dnew, ↓wp_iVal, ↓wp_rng1, ↓wp_rng2, ↓wp_lc, ↓wp_ok, ↓wp_exc, ↓wp_bad, ↓wp_join, itD, ↓wp_bYes, ↓rQ_dat, ↓rQ_cell, ↓wo_some, ↓wo_none, ↓wo_ite, ↓wo_map, view_dat, td_nil, td_cons, Option.map_some, bind_name, bind_tup, sa_c, sa_n, toKey, uB, uI, uD, uI1, uI2, ty_s, ty_l, List.map, List.length, List.replicate, Nat.reduceSub, Nat.reduceAdd, Nat.reduceLeDiff, Nat.zero_add, List.cons_append, List.nil_append, List.append_nil, List.getElem?_cons_zero, List.getElem?_cons_succ, Option.join_some, List.set_cons_zero, List.set_cons_succ, decide_eq_true_eq, Bool.not_eq_true', Bool.not_true, Bool.not_false, if_true, if_false, Bool.false_eq_true, eq_self, true_and, and_true, isND_n, notND_n, isi_int, isi_bool, isi_str, isi_tuple, isi_list, isi_dict, dInt, dBl, dStr, dTup, dLst, dDct, wipeE, List.set, subD, ltD, gtD, leD, geD, max2D, min2D, eqD_ii, neD_ii, eqD_ss, neD_ss, eqD_nil, neD_nil, ib]
      have pick : ∀ {Q : D → Prop} (b : Bool), (∀ v, StepOk v → Q v) → WO (ixD (.lst [v, .tup [.str [101, 110, 100]]]) (.int (if b = true then 1 else 0))) Q := fun {Q} b hq => by
        cases b with
        | true => exact hq _ ⟨[[101, 110, 100]], rfl, by decide, by decide, by decide⟩
        | false => exact hq _ sv
      refine pick _ fun v1 sv1 => ?_
      have vk1 := vok_step sv1
      obtain ⟨ws, rfl, wl1, wl3, wlen⟩ := sv1
      simp (config := {dsimp := false}) only [↓ws_nil, ↓ws_cons, ↓ws_asg, ↓ws_setIx, ↓ws_ret, ↓ws_retN, ↓ws_if, ↓ws_drop, ↓ws_brk, ↓ws_cnt, ↓ws_for, ↓wp_tOf, ↓wp_not, ↓wp_and, ↓wp_or, ↓wp_vand, ↓wp_vor, ↓wp_eB, ↓wp_eIf, ↓wp_neg, ↓wp_chain, ↓wp_e2, ↓wp_var, ↓wp_c, ↓wp_addI, ↓wp_addS, ↓wp_addL, ↓wp_addT, ↓ws_raise1, ↓ws_raise0, ↓ws_par, ↓ws_par3, uPar3_ok, ↓wp_kin, ↓wp_kix, wo_ks, ↓wp_get1, ↓wp_get2, ↓wp_dget, ↓ws_setKey, uKeyD, keyD, ↓wp_fnK, ↓ws_try, ↓ws_hdN, ↓ws_hdC, ↓ws_suiteN, ↓ws_suiteS, ↓wp_fld, xE, gP_nil, gP_cons, Option.toList, ↓wp_lift2v, ↓wp_aNil, ↓wp_aCons, ↓wp_newF, ↓wp_newT, ↓wp_lst, ↓wp_tup, ↓wp_call, ↓wp_pf1, ↓wp_pf2, ↓wp_pfL, ↓wp_isi, ↓wp_fn, ↓wp_bm, ↓wp_sl, ↓wp_pNone, ↓wp_pSome, ↓wp_slS, ↓wp_slL, ↓wp_disp, ↓wp_newDF, ↓wp_newDT, rf_l, rf_d, ↓wp_prNil, ↓wp_prCons, ↓wp_dnew, ↓wp_iVal, ↓wp_rng1, ↓wp_rng2, ↓wp_lc, ↓wp_ok, ↓wp_exc, ↓wp_bad, ↓wp_join, itD, ↓wp_bYes, ↓rQ_dat, ↓rQ_cell, ↓wo_some, ↓wo_none, ↓wo_ite, ↓wo_map, view_dat, td_nil, td_cons, Option.map_some, bind_name, bind_tup, sa_c, sa_n, toKey, uB, uI, uD, uI1, uI2, ty_s, ty_l, List.map, List.length, List.replicate, Nat.reduceSub, Nat.reduceAdd, Nat.reduceLeDiff, Nat.zero_add, List.cons_append, List.nil_append, List.append_nil, List.getElem?_cons_zero, List.getElem?_cons_succ, Option.join_some, List.set_cons_zero, List.set_cons_succ, decide_eq_true_eq, Bool.not_eq_true', Bool.not_true, Bool.not_false, if_true, if_false, Bool.false_eq_true, eq_self, true_and, and_true, isND_n, notND_n, isi_int, isi_bool, isi_str, isi_tuple, isi_list, isi_dict, dInt, dBl, dStr, dTup, dLst, dDct, wipeE, List.set, subD, ltD, gtD, leD, geD, max2D, min2D, eqD_ii, neD_ii, eqD_ss, neD_ss, eqD_nil, neD_nil]
      refine wp_takeN hb5 (by omega) (by decide) (by decide) fun d3 M6 d31 hb6 fr6 => ?_
      simp (config := {dsimp := false}) only [↓ws_nil, ↓ws_cons, ↓ws_asg, ↓ws_setIx, ↓ws_ret, ↓ws_retN, ↓ws_if, ↓ws_drop, ↓ws_brk, ↓ws_cnt, ↓ws_for, ↓wp_tOf, ↓wp_not, ↓wp_and, ↓wp_or, ↓wp_vand, ↓wp_vor, ↓wp_eB, ↓wp_eIf, ↓wp_neg, ↓wp_chain, ↓wp_e2, ↓wp_var, ↓wp_c, ↓wp_addI, ↓wp_addS, ↓wp_addL, ↓wp_addT, ↓ws_raise1, ↓ws_raise0, ↓ws_par, ↓ws_par3, uPar3_ok, ↓wp_kin, ↓wp_kix, wo_ks, ↓wp_get1, ↓wp_get2, ↓wp_dget, ↓ws_setKey, uKeyD, keyD, ↓wp_fnK, ↓ws_try, ↓ws_hdN, ↓ws_hdC, ↓ws_suiteN, ↓ws_suiteS, ↓wp_fld, xE, gP_nil, gP_cons, Option.toList, ↓wp_lift2v, ↓wp_aNil, ↓wp_aCons, ↓wp_newF, ↓wp_newT, ↓wp_lst, ↓wp_tup, ↓wp_call, ↓wp_pf1, ↓wp_pf2, ↓wp_pfL, ↓wp_isi, ↓wp_fn, ↓wp_bm, ↓wp_sl, ↓wp_pNone, ↓wp_pSome, ↓wp_slS, ↓wp_slL, ↓wp_disp, ↓wp_newDF, ↓wp_newDT, rf_l, rf_d, ↓wp_prNil, ↓wp_prCons, ↓wp_dnew, ↓wp_iVal, ↓wp_rng1, ↓wp_rng2, ↓wp_lc, ↓wp_ok, ↓wp_exc, ↓wp_bad, ↓wp_join, itD, ↓wp_bYes, ↓rQ_dat, ↓rQ_cell, ↓wo_some, ↓wo_none, ↓wo_ite, ↓wo_map, view_dat, td_nil, td_cons, Option.map_some, bind_name, bind_tup, sa_c, sa_n, toKey, uB, uI, uD, uI1, uI2, ty_s, ty_l, List.map, List.length, List.replicate, Nat.reduceSub, Nat.reduceAdd, Nat.reduceLeDiff, Nat.zero_add, List.cons_append, List.nil_append, List.append_nil, List.getElem?_cons_zero, List.getElem?_cons_succ, Option.join_some, List.set_cons_zero, List.set_cons_succ, decide_eq_true_eq, Bool.not_eq_true', Bool.not_true, Bool.not_false, if_true, if_false, Bool.false_eq_true, eq_self, true_and, and_true, isND_n, notND_n, isi_int, isi_bool, isi_str, isi_tuple, isi_list, isi_dict, dInt, dBl, dStr, dTup, dLst, dDct, wipeE, List.set, subD, ltD, gtD, leD, geD, max2D, min2D, eqD_ii, neD_ii, eqD_ss, neD_ss, eqD_nil, neD_nil]
      refine ix_l (by omega) (by simpa using d31) fun odd hodd => ?_
      have vk3 : Vok odd := by
        intro ds e
        subst e
        simp only [List.mem_cons, List.not_mem_nil, or_false, reduceCtorEq, false_or, D.tup.injEq] at hodd
        rcases hodd with rfl | rfl | rfl | rfl
        · exact ⟨by decide, fun s hs => by cases hs⟩
        · exact ⟨by decide, fun s hs => by simp at hs; subst hs; decide⟩
        · exact ⟨by decide, fun s hs => by simp at hs⟩
        · exact ⟨by decide, fun s hs => by simp at hs; subst hs; decide⟩
      simp (config := {dsimp := false}) only [↓ws_nil, ↓ws_cons, ↓ws_asg, ↓ws_setIx, ↓ws_ret, ↓ws_retN, ↓ws_if, ↓ws_drop, ↓ws_brk, ↓ws_cnt, ↓ws_for, ↓wp_tOf, ↓wp_not, ↓wp_and, ↓wp_or, ↓wp_vand, ↓wp_vor, ↓wp_eB, ↓wp_eIf, ↓wp_neg, ↓wp_chain, ↓wp_e2, ↓wp_var, ↓wp_c, ↓wp_addI, ↓wp_addS, ↓wp_addL, ↓wp_addT, ↓ws_raise1, ↓ws_raise0, ↓ws_par, ↓ws_par3, uPar3_ok, ↓wp_kin, ↓wp_kix, wo_ks, ↓wp_get1, ↓wp_get2, ↓wp_dget, ↓ws_setKey, uKeyD, keyD, ↓wp_fnK, ↓ws_try, ↓ws_hdN, ↓ws_hdC, ↓ws_suiteN, ↓ws_suiteS, ↓wp_fld, xE, gP_nil, gP_cons, Option.toList, ↓wp_lift2v, ↓wp_aNil, ↓wp_aCons, ↓wp_newF, ↓wp_newT, ↓wp_lst, ↓wp_tup, ↓wp_call, ↓wp_pf1, ↓wp_pf2, ↓wp_pfL, ↓wp_isi, ↓wp_fn, ↓wp_bm, ↓wp_sl, ↓wp_pNone, ↓wp_pSome, ↓wp_slS, ↓wp_slL, ↓wp_disp, ↓wp_newDF, ↓wp_newDT, rf_l, rf_d, ↓wp_prNil, ↓wp_prCons, ↓wp_dnew, ↓wp_iVal, ↓wp_rng1, ↓wp_rng2, ↓wp_lc, ↓wp_ok, ↓wp_exc, ↓wp_bad, ↓wp_join, itD, ↓wp_bYes, ↓rQ_dat, ↓rQ_cell, ↓wo_some, ↓wo_none, ↓wo_ite, ↓wo_map, view_dat, td_nil, td_cons, Option.map_some, bind_name, bind_tup, sa_c, sa_n, toKey, uB, uI, uD, uI1, uI2, ty_s, ty_l, List.map, List.length, List.replicate, Nat.reduceSub, Nat.reduceAdd, Nat.reduceLeDiff, Nat.zero_add, List.cons_append, List.nil_append, List.append_nil, List.getElem?_cons_zero, List.getElem?_cons_succ, Option.join_some, List.set_cons_zero, List.set_cons_succ, decide_eq_true_eq, Bool.not_eq_true', Bool.not_true, Bool.not_false, if_true, if_false, Bool.false_eq_true, eq_self, true_and, and_true, isND_n, notND_n, isi_int, isi_bool, isi_str, isi_tuple, isi_list, isi_dict, dInt, dBl, dStr, dTup, dLst, dDct, wipeE, List.set, subD, ltD, gtD, leD, geD, max2D, min2D, eqD_ii, neD_ii, eqD_ss, neD_ss, eqD_nil, neD_nil]
      refine wp_frz ?_
      simp (config := {dsimp := false}) only [↓ws_nil, ↓ws_cons, ↓ws_asg, ↓ws_setIx, ↓ws_ret, ↓ws_retN, ↓ws_if, ↓ws_drop, ↓ws_brk, ↓ws_cnt, ↓ws_for, ↓wp_tOf, ↓wp_not, ↓wp_and, ↓wp_or, ↓wp_vand, ↓wp_vor, ↓wp_eB, ↓wp_eIf, ↓wp_neg, ↓wp_chain, ↓wp_e2, ↓wp_var, ↓wp_c, ↓wp_addI, ↓wp_addS, ↓wp_addL, ↓wp_addT, ↓ws_raise1, ↓ws_raise0, ↓ws_par, ↓ws_par3, uPar3_ok, ↓wp_kin, ↓wp_kix, wo_ks, ↓wp_get1, ↓wp_get2, ↓wp_dget, ↓ws_setKey, uKeyD, keyD, ↓wp_fnK, ↓ws_try, ↓ws_hdN, ↓ws_hdC, ↓ws_suiteN, ↓ws_suiteS, ↓wp_fld, xE, gP_nil, gP_cons, Option.toList, ↓wp_lift2v, ↓wp_aNil, ↓wp_aCons, ↓wp_newF, ↓wp_newT, ↓wp_lst, ↓wp_tup, ↓wp_call, ↓wp_pf1, ↓wp_pf2, ↓wp_pfL, ↓wp_isi, ↓wp_fn, ↓wp_bm, ↓wp_sl, ↓wp_pNone, ↓wp_pSome, ↓wp_slS, ↓wp_slL, ↓wp_disp, ↓wp_newDF, ↓wp_newDT, rf_l, rf_d, ↓wp_prNil, ↓wp_prCons, ↓wp_dnew, ↓wp_iVal, ↓wp_rng1, ↓wp_rng2, ↓wp_lc, ↓wp_ok, ↓wp_exc, ↓wp_bad, ↓wp_join, itD, ↓wp_bYes, ↓rQ_dat, ↓rQ_cell, ↓wo_some, ↓wo_none, ↓wo_ite, ↓wo_map, view_dat, td_nil, td_cons, Option.map_some, bind_name, bind_tup, sa_c, sa_n, toKey, uB, uI, uD, uI1, uI2, ty_s, ty_l, List.map, List.length, List.replicate, Nat.reduceSub, Nat.reduceAdd, Nat.reduceLeDiff, Nat.zero_add, List.cons_append, List.nil_append, List.append_nil, List.getElem?_cons_zero, List.getElem?_cons_succ, Option.join_some, List.set_cons_zero, List.set_cons_succ, decide_eq_true_eq, Bool.not_eq_true', Bool.not_true, Bool.not_false, if_true, if_false, Bool.false_eq_true, eq_self, true_and, and_true, isND_n, notND_n, isi_int, isi_bool, isi_str, isi_tuple, isi_list, isi_dict, dInt, dBl, dStr, dTup, dLst, dDct, wipeE, List.set, subD, ltD, gtD, leD, geD, max2D, min2D, eqD_ii, neD_ii, eqD_ss, neD_ss, eqD_nil, neD_nil]
      refine wp_bent hb6 (by omega) (by rw [List.length_map]; exact wl3) (fun d hd s e => by subst e; obtain ⟨w, hw, e⟩ := List.mem_map.mp hd; cases e; exact wlen _ hw) fun es M7 el eok hb7 fr7 => ?_
      have vk2 : ∀ (v2 : D), Vok v2 → ∀ d ∈ [D.tup (ws.map D.str), v2, odd], Vok d := fun v2 h2 d hd => by
        simp only [List.mem_cons, List.not_mem_nil, or_false] at hd
        rcases hd with rfl | rfl | rfl
        · exact vk1
        · exact h2
        · exact vk3
      refine ⟨?_, frz_last fr7.len ?_⟩
      · have vk := vk2 (.tup es) (fun ds e => by cases e; exact ⟨by omega, fun s hs => Nat.le_trans (eok _ hs s rfl) (by decide)⟩)
        rw [frz_dat]
        simp (config := {dsimp := false}) only [↓ws_nil, ↓ws_cons, ↓ws_asg, ↓ws_setIx, ↓ws_ret, ↓ws_retN, ↓ws_if, ↓ws_drop, ↓ws_brk, ↓ws_cnt, ↓ws_for, ↓wp_tOf, ↓wp_not, ↓wp_and, ↓wp_or, ↓wp_vand, ↓wp_vor, ↓wp_eB, ↓wp_eIf, ↓wp_neg, ↓wp_chain, ↓wp_e2, ↓wp_var, ↓wp_c, ↓wp_addI, ↓wp_addS, ↓wp_addL, ↓wp_addT, ↓ws_raise1, ↓ws_raise0, ↓ws_par, ↓ws_par3, uPar3_ok, ↓wp_kin, ↓wp_kix, wo_ks, ↓wp_get1, ↓wp_get2, ↓wp_dget, ↓ws_setKey, uKeyD, keyD, ↓wp_fnK, ↓ws_try, ↓ws_hdN, ↓ws_hdC, ↓ws_suiteN, ↓ws_suiteS, ↓wp_fld, xE, gP_nil, gP_cons, Option.toList, ↓wp_lift2v, ↓wp_aNil, ↓wp_aCons, ↓wp_newF, ↓wp_newT, ↓wp_lst, ↓wp_tup, ↓wp_call, ↓wp_pf1, ↓wp_pf2, ↓wp_pfL, ↓wp_isi, ↓wp_fn, ↓wp_bm, ↓wp_sl, ↓wp_pNone, ↓wp_pSome, ↓wp_slS, ↓wp_slL, ↓wp_disp, ↓wp_newDF, ↓wp_newDT, rf_l, rf_d, ↓wp_prNil, ↓wp_prCons, ↓wp_dnew, ↓wp_iVal, ↓wp_rng1, ↓wp_rng2, ↓wp_lc, ↓wp_ok, ↓wp_exc, ↓wp_bad, ↓wp_join, itD, ↓wp_bYes, ↓rQ_dat, ↓rQ_cell, ↓wo_some, ↓wo_none, ↓wo_ite, ↓wo_map, view_dat, td_nil, td_cons, Option.map_some, bind_name, bind_tup, sa_c, sa_n, toKey, uB, uI, uD, uI1, uI2, ty_s, ty_l, List.map, List.length, List.replicate, Nat.reduceSub, Nat.reduceAdd, Nat.reduceLeDiff, Nat.zero_add, List.cons_append, List.nil_append, List.append_nil, List.getElem?_cons_zero, List.getElem?_cons_succ, Option.join_some, List.set_cons_zero, List.set_cons_succ, decide_eq_true_eq, Bool.not_eq_true', Bool.not_true, Bool.not_false, if_true, if_false, Bool.false_eq_true, eq_self, true_and, and_true, isND_n, notND_n, isi_int, isi_bool, isi_str, isi_tuple, isi_list, isi_dict, dInt, dBl, dStr, dTup, dLst, dDct, wipeE, List.set, subD, ltD, gtD, leD, geD, max2D, min2D, eqD_ii, neD_ii, eqD_ss, neD_ss, eqD_nil, neD_nil]
        refine ws_forL (fun _ ρ M' => M' = M7 ∧ ∃ a b c d e f g, ρ = [some (.dat (.scr ns)), some (.dat (.int (j : Nat))), some (.cell M.length), some (.dat (.lst (ms.map D.str))), a, b, c, d, e, f, g]) _ [] _ _ ⟨rfl, _, _, _, _, _, _, _, rfl⟩ (fun pre2 th post2 ρ M8 he8 ⟨hM, a, b, c, d1, e, f, g, hr⟩ => ?_) fun ρ M8 ⟨hM, a, b, c, d1, e, f, g, hr⟩ => ?_
        · subst hM hr
          have vth : Vok th := vk th (by rw [List.nil_append] at he8; rw [he8]; simp)
          simp (config := {dsimp := false}) only [↓ws_nil, ↓ws_cons, ↓ws_asg, ↓ws_setIx, ↓ws_ret, ↓ws_retN, ↓ws_if, ↓ws_drop, ↓ws_brk, ↓ws_cnt, ↓ws_for, ↓wp_tOf, ↓wp_not, ↓wp_and, ↓wp_or, ↓wp_vand, ↓wp_vor, ↓wp_eB, ↓wp_eIf, ↓wp_neg, ↓wp_chain, ↓wp_e2, ↓wp_var, ↓wp_c, ↓wp_addI, ↓wp_addS, ↓wp_addL, ↓wp_addT, ↓ws_raise1, ↓ws_raise0, ↓ws_par, ↓ws_par3, uPar3_ok, ↓wp_kin, ↓wp_kix, wo_ks, ↓wp_get1, ↓wp_get2, ↓wp_dget, ↓ws_setKey, uKeyD, keyD, ↓wp_fnK, ↓ws_try, ↓ws_hdN, ↓ws_hdC, ↓ws_suiteN, ↓ws_suiteS, ↓wp_fld, xE, gP_nil, gP_cons, Option.toList, ↓wp_lift2v, ↓wp_aNil, ↓wp_aCons, ↓wp_newF, ↓wp_newT, ↓wp_lst, ↓wp_tup, ↓wp_call, ↓wp_pf1, ↓wp_pf2, ↓wp_pfL, ↓wp_isi, ↓wp_fn, ↓wp_bm, ↓wp_sl, ↓wp_pNone, ↓wp_pSome, ↓wp_slS, ↓wp_slL, ↓wp_disp, ↓wp_newDF, ↓wp_newDT, rf_l, rf_d, ↓wp_prNil, ↓wp_prCons, ↓wp_dnew, ↓wp_iVal, ↓wp_rng1, ↓wp_rng2, ↓wp_lc, ↓wp_ok, ↓wp_exc, ↓wp_bad, ↓wp_join, itD, ↓wp_bYes, ↓rQ_dat, ↓rQ_cell, ↓wo_some, ↓wo_none, ↓wo_ite, ↓wo_map, view_dat, td_nil, td_cons, Option.map_some, bind_name, bind_tup, sa_c, sa_n, toKey, uB, uI, uD, uI1, uI2, ty_s, ty_l, List.map, List.length, List.replicate, Nat.reduceSub, Nat.reduceAdd, Nat.reduceLeDiff, Nat.zero_add, List.cons_append, List.nil_append, List.append_nil, List.getElem?_cons_zero, List.getElem?_cons_succ, Option.join_some, List.set_cons_zero, List.set_cons_succ, decide_eq_true_eq, Bool.not_eq_true', Bool.not_true, Bool.not_false, if_true, if_false, Bool.false_eq_true, eq_self, true_and, and_true, isND_n, notND_n, isi_int, isi_bool, isi_str, isi_tuple, isi_list, isi_dict, dInt, dBl, dStr, dTup, dLst, dDct, wipeE, List.set, subD, ltD, gtD, leD, geD, max2D, min2D, eqD_ii, neD_ii, eqD_ss, neD_ss, eqD_nil, neD_nil, ↓wp_kinds]
          refine ws_forL (fun _ ρ M' => M' = M8 ∧ ∃ a b c d f g, ρ = [some (.dat (.scr ns)), some (.dat (.int (j : Nat))), some (.cell M.length), some (.dat (.lst (ms.map D.str))), a, b, c, d, some (.dat th), f, g]) _ [] _ _ ⟨rfl, _, _, _, _, _, _, rfl⟩ (fun pre3 sd post3 ρ M9 he9 ⟨hM, a, b, c, d1, f, g, hr⟩ => ?_) fun ρ M9 ⟨hM, a, b, c, d1, f, g, hr⟩ => ?_
          · subst hM hr
            obtain ⟨z, rfl, hz⟩ : ∃ z, sd = .str z ∧ z ∈ kindsL := by
              refine strs_mem (ms := kindsL) ?_
              have : sd ∈ ([] : List D) ++ kindsL.map D.str := by
                rw [show ([] : List D) ++ kindsL.map D.str = pre3 ++ sd :: post3 from he9]; simp
              exact this
            have i1 : ∀ {M Q X}, Wp (f_is_step [.dat th, .dat (.str z)] M) Q X = Q (.dat (.bl (stepB th z))) M := fun {M Q X} => wp_is_step vth hz
            have i2 : ∀ {M Q X}, Wp (f_law_is_step [.dat th, .dat (.str z)] M) Q X = Q (.dat (.bl (stepB th z))) M := fun {M Q X} => wp_law_step vth
            simp (config := {dsimp := false}) only [↓ws_nil, ↓ws_cons, ↓ws_asg, ↓ws_setIx, ↓ws_ret, ↓ws_retN, ↓ws_if, ↓ws_drop, ↓ws_brk, ↓ws_cnt, ↓ws_for, ↓wp_tOf, ↓wp_not, ↓wp_and, ↓wp_or, ↓wp_vand, ↓wp_vor, ↓wp_eB, ↓wp_eIf, ↓wp_neg, ↓wp_chain, ↓wp_e2, ↓wp_var, ↓wp_c, ↓wp_addI, ↓wp_addS, ↓wp_addL, ↓wp_addT, ↓ws_raise1, ↓ws_raise0, ↓ws_par, ↓ws_par3, uPar3_ok, ↓wp_kin, ↓wp_kix, wo_ks, ↓wp_get1, ↓wp_get2, ↓wp_dget, ↓ws_setKey, uKeyD, keyD, ↓wp_fnK, ↓ws_try, ↓ws_hdN, ↓ws_hdC, ↓ws_suiteN, ↓ws_suiteS, ↓wp_fld, xE, gP_nil, gP_cons, Option.toList, ↓wp_lift2v, ↓wp_aNil, ↓wp_aCons, ↓wp_newF, ↓wp_newT, ↓wp_lst, ↓wp_tup, ↓wp_call, ↓wp_pf1, ↓wp_pf2, ↓wp_pfL, ↓wp_isi, ↓wp_fn, ↓wp_bm, ↓wp_sl, ↓wp_pNone, ↓wp_pSome, ↓wp_slS, ↓wp_slL, ↓wp_disp, ↓wp_newDF, ↓wp_newDT, rf_l, rf_d, ↓wp_prNil, ↓wp_prCons, ↓wp_dnew, ↓wp_iVal, ↓wp_rng1, ↓wp_rng2, ↓wp_lc, ↓wp_ok, ↓wp_exc, ↓wp_bad, ↓wp_join, itD, ↓wp_bYes, ↓rQ_dat, ↓rQ_cell, ↓wo_some, ↓wo_none, ↓wo_ite, ↓wo_map, view_dat, td_nil, td_cons, Option.map_some, bind_name, bind_tup, sa_c, sa_n, toKey, uB, uI, uD, uI1, uI2, ty_s, ty_l, List.map, List.length, List.replicate, Nat.reduceSub, Nat.reduceAdd, Nat.reduceLeDiff, Nat.zero_add, List.cons_append, List.nil_append, List.append_nil, List.getElem?_cons_zero, List.getElem?_cons_succ, Option.join_some, List.set_cons_zero, List.set_cons_succ, decide_eq_true_eq, Bool.not_eq_true', Bool.not_true, Bool.not_false, if_true, if_false, Bool.false_eq_true, eq_self, true_and, and_true, isND_n, notND_n, isi_int, isi_bool, isi_str, isi_tuple, isi_list, isi_dict, dInt, dBl, dStr, dTup, dLst, dDct, wipeE, List.set, subD, ltD, gtD, leD, geD, max2D, min2D, eqD_ii, neD_ii, eqD_ss, neD_ss, eqD_nil, neD_nil, ↓i1, ↓i2, ne_bl]
            exact ⟨_, _, _, _, _, _, rfl⟩
          · subst hM hr
            exact ⟨rfl, _, _, _, _, _, _, _, rfl⟩
        · subst hM hr
          exact ⟨hb7.mono (by rw [List.length_append]; simp; omega), _, _, _, _, _, _, _, rfl⟩
      · have vk := vk2 (.lst es) (fun ds e => by cases e)
        simp (config := {dsimp := false}) only [↓ws_nil, ↓ws_cons, ↓ws_asg, ↓ws_setIx, ↓ws_ret, ↓ws_retN, ↓ws_if, ↓ws_drop, ↓ws_brk, ↓ws_cnt, ↓ws_for, ↓wp_tOf, ↓wp_not, ↓wp_and, ↓wp_or, ↓wp_vand, ↓wp_vor, ↓wp_eB, ↓wp_eIf, ↓wp_neg, ↓wp_chain, ↓wp_e2, ↓wp_var, ↓wp_c, ↓wp_addI, ↓wp_addS, ↓wp_addL, ↓wp_addT, ↓ws_raise1, ↓ws_raise0, ↓ws_par, ↓ws_par3, uPar3_ok, ↓wp_kin, ↓wp_kix, wo_ks, ↓wp_get1, ↓wp_get2, ↓wp_dget, ↓ws_setKey, uKeyD, keyD, ↓wp_fnK, ↓ws_try, ↓ws_hdN, ↓ws_hdC, ↓ws_suiteN, ↓ws_suiteS, ↓wp_fld, xE, gP_nil, gP_cons, Option.toList, ↓wp_lift2v, ↓wp_aNil, ↓wp_aCons, ↓wp_newF, ↓wp_newT, ↓wp_lst, ↓wp_tup, ↓wp_call, ↓wp_pf1, ↓wp_pf2, ↓wp_pfL, ↓wp_isi, ↓wp_fn, ↓wp_bm, ↓wp_sl, ↓wp_pNone, ↓wp_pSome, ↓wp_slS, ↓wp_slL, ↓wp_disp, ↓wp_newDF, ↓wp_newDT, rf_l, rf_d, ↓wp_prNil, ↓wp_prCons, ↓wp_dnew, ↓wp_iVal, ↓wp_rng1, ↓wp_rng2, ↓wp_lc, ↓wp_ok, ↓wp_exc, ↓wp_bad, ↓wp_join, itD, ↓wp_bYes, ↓rQ_dat, ↓rQ_cell, ↓wo_some, ↓wo_none, ↓wo_ite, ↓wo_map, view_dat, td_nil, td_cons, Option.map_some, bind_name, bind_tup, sa_c, sa_n, toKey, uB, uI, uD, uI1, uI2, ty_s, ty_l, List.map, List.length, List.replicate, Nat.reduceSub, Nat.reduceAdd, Nat.reduceLeDiff, Nat.zero_add, List.cons_append, List.nil_append, List.append_nil, List.getElem?_cons_zero, List.getElem?_cons_succ, Option.join_some, List.set_cons_zero, List.set_cons_succ, decide_eq_true_eq, Bool.not_eq_true', Bool.not_true, Bool.not_false, if_true, if_false, Bool.false_eq_true, eq_self, true_and, and_true, isND_n, notND_n, isi_int, isi_bool, isi_str, isi_tuple, isi_list, isi_dict, dInt, dBl, dStr, dTup, dLst, dDct, wipeE, List.set, subD, ltD, gtD, leD, geD, max2D, min2D, eqD_ii, neD_ii, eqD_ss, neD_ss, eqD_nil, neD_nil]
        refine ws_forL (fun _ ρ M' => M' = M7 ∧ ∃ a b c d e f g, ρ = [some (.dat (.scr ns)), some (.dat (.int (j : Nat))), some (.cell M.length), some (.dat (.lst (ms.map D.str))), a, b, c, d, e, f, g]) _ [] _ _ ⟨rfl, _, _, _, _, _, _, _, rfl⟩ (fun pre2 th post2 ρ M8 he8 ⟨hM, a, b, c, d1, e, f, g, hr⟩ => ?_) fun ρ M8 ⟨hM, a, b, c, d1, e, f, g, hr⟩ => ?_
        · subst hM hr
          have vth : Vok th := vk th (by rw [List.nil_append] at he8; rw [he8]; simp)
          simp (config := {dsimp := false}) only [↓ws_nil, ↓ws_cons, ↓ws_asg, ↓ws_setIx, ↓ws_ret, ↓ws_retN, ↓ws_if, ↓ws_drop, ↓ws_brk, ↓ws_cnt, ↓ws_for, ↓wp_tOf, ↓wp_not, ↓wp_and, ↓wp_or, ↓wp_vand, ↓wp_vor, ↓wp_eB, ↓wp_eIf, ↓wp_neg, ↓wp_chain, ↓wp_e2, ↓wp_var, ↓wp_c, ↓wp_addI, ↓wp_addS, ↓wp_addL, ↓wp_addT, ↓ws_raise1, ↓ws_raise0, ↓ws_par, ↓ws_par3, uPar3_ok, ↓wp_kin, ↓wp_kix, wo_ks, ↓wp_get1, ↓wp_get2, ↓wp_dget, ↓ws_setKey, uKeyD, keyD, ↓wp_fnK, ↓ws_try, ↓ws_hdN, ↓ws_hdC, ↓ws_suiteN, ↓ws_suiteS, ↓wp_fld, xE, gP_nil, gP_cons, Option.toList, ↓wp_lift2v, ↓wp_aNil, ↓wp_aCons, ↓wp_newF, ↓wp_newT, ↓wp_lst, ↓wp_tup, ↓wp_call, ↓wp_pf1, ↓wp_pf2, ↓wp_pfL, ↓wp_isi, ↓wp_fn, ↓wp_bm, ↓wp_sl, ↓wp_pNone, ↓wp_pSome, ↓wp_slS, ↓wp_slL, ↓wp_disp, ↓wp_newDF, ↓wp_newDT, rf_l, rf_d, ↓wp_prNil, ↓wp_prCons, ↓wp_dnew, ↓wp_iVal, ↓wp_rng1, ↓wp_rng2, ↓wp_lc, ↓wp_ok, ↓wp_exc, ↓wp_bad, ↓wp_join, itD, ↓wp_bYes, ↓rQ_dat, ↓rQ_cell, ↓wo_some, ↓wo_none, ↓wo_ite, ↓wo_map, view_dat, td_nil, td_cons, Option.map_some, bind_name, bind_tup, sa_c, sa_n, toKey, uB, uI, uD, uI1, uI2, ty_s, ty_l, List.map, List.length, List.replicate, Nat.reduceSub, Nat.reduceAdd, Nat.reduceLeDiff, Nat.zero_add, List.cons_append, List.nil_append, List.append_nil, List.getElem?_cons_zero, List.getElem?_cons_succ, Option.join_some, List.set_cons_zero, List.set_cons_succ, decide_eq_true_eq, Bool.not_eq_true', Bool.not_true, Bool.not_false, if_true, if_false, Bool.false_eq_true, eq_self, true_and, and_true, isND_n, notND_n, isi_int, isi_bool, isi_str, isi_tuple, isi_list, isi_dict, dInt, dBl, dStr, dTup, dLst, dDct, wipeE, List.set, subD, ltD, gtD, leD, geD, max2D, min2D, eqD_ii, neD_ii, eqD_ss, neD_ss, eqD_nil, neD_nil, ↓wp_kinds]
          refine ws_forL (fun _ ρ M' => M' = M8 ∧ ∃ a b c d f g, ρ = [some (.dat (.scr ns)), some (.dat (.int (j : Nat))), some (.cell M.length), some (.dat (.lst (ms.map D.str))), a, b, c, d, some (.dat th), f, g]) _ [] _ _ ⟨rfl, _, _, _, _, _, _, rfl⟩ (fun pre3 sd post3 ρ M9 he9 ⟨hM, a, b, c, d1, f, g, hr⟩ => ?_) fun ρ M9 ⟨hM, a, b, c, d1, f, g, hr⟩ => ?_
          · subst hM hr
            obtain ⟨z, rfl, hz⟩ : ∃ z, sd = .str z ∧ z ∈ kindsL := by
              refine strs_mem (ms := kindsL) ?_
              have : sd ∈ ([] : List D) ++ kindsL.map D.str := by
                rw [show ([] : List D) ++ kindsL.map D.str = pre3 ++ sd :: post3 from he9]; simp
              exact this
            have i1 : ∀ {M Q X}, Wp (f_is_step [.dat th, .dat (.str z)] M) Q X = Q (.dat (.bl (stepB th z))) M := fun {M Q X} => wp_is_step vth hz
            have i2 : ∀ {M Q X}, Wp (f_law_is_step [.dat th, .dat (.str z)] M) Q X = Q (.dat (.bl (stepB th z))) M := fun {M Q X} => wp_law_step vth
            simp (config := {dsimp := false}) only [↓ws_nil, ↓ws_cons, ↓ws_asg, ↓ws_setIx, ↓ws_ret, ↓ws_retN, ↓ws_if, ↓ws_drop, ↓ws_brk, ↓ws_cnt, ↓ws_for, ↓wp_tOf, ↓wp_not, ↓wp_and, ↓wp_or, ↓wp_vand, ↓wp_vor, ↓wp_eB, ↓wp_eIf, ↓wp_neg, ↓wp_chain, ↓wp_e2, ↓wp_var, ↓wp_c, ↓wp_addI, ↓wp_addS, ↓wp_addL, ↓wp_addT, ↓ws_raise1, ↓ws_raise0, ↓ws_par, ↓ws_par3, uPar3_ok, ↓wp_kin, ↓wp_kix, wo_ks, ↓wp_get1, ↓wp_get2, ↓wp_dget, ↓ws_setKey, uKeyD, keyD, ↓wp_fnK, ↓ws_try, ↓ws_hdN, ↓ws_hdC, ↓ws_suiteN, ↓ws_suiteS, ↓wp_fld, xE, gP_nil, gP_cons, Option.toList, ↓wp_lift2v, ↓wp_aNil, ↓wp_aCons, ↓wp_newF, ↓wp_newT, ↓wp_lst, ↓wp_tup, ↓wp_call, ↓wp_pf1, ↓wp_pf2, ↓wp_pfL, ↓wp_isi, ↓wp_fn, ↓wp_bm, ↓wp_sl, ↓wp_pNone, ↓wp_pSome, ↓wp_slS, ↓wp_slL, ↓wp_disp, ↓wp_newDF, ↓wp_newDT, rf_l, rf_d, ↓wp_prNil, ↓wp_prCons, ↓wp_dnew, ↓wp_iVal, ↓wp_rng1, ↓wp_rng2, ↓wp_lc, ↓wp_ok, ↓wp_exc, ↓wp_bad, ↓wp_join, itD, ↓wp_bYes, ↓rQ_dat, ↓rQ_cell, ↓wo_some, ↓wo_none, ↓wo_ite, ↓wo_map, view_dat, td_nil, td_cons, Option.map_some, bind_name, bind_tup, sa_c, sa_n, toKey, uB, uI, uD, uI1, uI2, ty_s, ty_l, List.map, List.length, List.replicate, Nat.reduceSub, Nat.reduceAdd, Nat.reduceLeDiff, Nat.zero_add, List.cons_append, List.nil_append, List.append_nil, List.getElem?_cons_zero, List.getElem?_cons_succ, Option.join_some, List.set_cons_zero, List.set_cons_succ, decide_eq_true_eq, Bool.not_eq_true', Bool.not_true, Bool.not_false, if_true, if_false, Bool.false_eq_true, eq_self, true_and, and_true, isND_n, notND_n, isi_int, isi_bool, isi_str, isi_tuple, isi_list, isi_dict, dInt, dBl, dStr, dTup, dLst, dDct, wipeE, List.set, subD, ltD, gtD, leD, geD, max2D, min2D, eqD_ii, neD_ii, eqD_ss, neD_ss, eqD_nil, neD_nil, ↓i1, ↓i2, ne_bl]
            exact ⟨_, _, _, _, _, _, rfl⟩
          · subst hM hr
            exact ⟨rfl, _, _, _, _, _, _, _, rfl⟩
        · subst hM hr
          exact ⟨hb7.mono (by rw [List.length_append]; simp; omega), _, _, _, _, _, _, _, rfl⟩
    · subst hr
      simp (config := {dsimp := false}) only [↓ws_nil, ↓ws_cons, ↓ws_asg, ↓ws_setIx, ↓ws_ret, ↓ws_retN, ↓ws_if, ↓ws_drop, ↓ws_brk, ↓ws_cnt, ↓ws_for, ↓wp_tOf, ↓wp_not, ↓wp_and, ↓wp_or, ↓wp_vand, ↓wp_vor, ↓wp_eB, ↓wp_eIf, ↓wp_neg, ↓wp_chain, ↓wp_e2, ↓wp_var, ↓wp_c, ↓wp_addI, ↓wp_addS, ↓wp_addL, ↓wp_addT, ↓ws_raise1, ↓ws_raise0, ↓ws_par, ↓ws_par3, uPar3_ok, ↓wp_kin, ↓wp_kix, wo_ks, ↓wp_get1, ↓wp_get2, ↓wp_dget, ↓ws_setKey, uKeyD, keyD, ↓wp_fnK, ↓ws_try, ↓ws_hdN, ↓ws_hdC, ↓ws_suiteN, ↓ws_suiteS, ↓wp_fld, xE, gP_nil, gP_cons, Option.toList, ↓wp_lift2v, ↓wp_aNil, ↓wp_aCons, ↓wp_newF, ↓wp_newT, ↓wp_lst, ↓wp_tup, ↓wp_call, ↓wp_pf1, ↓wp_pf2, ↓wp_pfL, ↓wp_isi, ↓wp_fn, ↓wp_bm, ↓wp_sl, ↓wp_pNone, ↓wp_pSome, ↓wp_slS, ↓wp_slL, ↓wp_disp, ↓wp_newDF, ↓wp_newDT, rf_l, rf_d, ↓wp_prNil, ↓wp_prCons, ↓wp_dnew, ↓wp_iVal, ↓wp_rng1, ↓wp_rng2, ↓wp_lc, ↓wp_ok, ↓wp_exc, ↓wp_bad, ↓wp_join, itD, ↓wp_bYes, ↓rQ_dat, ↓rQ_cell, ↓wo_some, ↓wo_none, ↓wo_ite, ↓wo_map, view_dat, td_nil, td_cons, Option.map_some, bind_name, bind_tup, sa_c, sa_n, toKey, uB, uI, uD, uI1, uI2, ty_s, ty_l, List.map, List.length, List.replicate, Nat.reduceSub, Nat.reduceAdd, Nat.reduceLeDiff, Nat.zero_add, List.cons_append, List.nil_append, List.append_nil, List.getElem?_cons_zero, List.getElem?_cons_succ, Option.join_some, List.set_cons_zero, List.set_cons_succ, decide_eq_true_eq, Bool.not_eq_true', Bool.not_true, Bool.not_false, if_true, if_false, Bool.false_eq_true, eq_self, true_and, and_true, isND_n, notND_n, isi_int, isi_bool, isi_str, isi_tuple, isi_list, isi_dict, dInt, dBl, dStr, dTup, dLst, dDct, wipeE, List.set, subD, ltD, gtD, leD, geD, max2D, min2D, eqD_ii, neD_ii, eqD_ss, neD_ss, eqD_nil, neD_nil]
      refine wp_takeN hb3 (by simp [ups_len]) (by decide) (by decide) fun d2 M5 d21 hb5 fr5 => ?_
      simp (config := {dsimp := false}) only [↓ws_nil, ↓ws_cons, ↓ws_asg, ↓ws_setIx, ↓ws_ret, ↓ws_retN, ↓ws_if, ↓ws_drop, ↓ws_brk, ↓ws_cnt, ↓ws_for, ↓wp_tOf, ↓wp_not, ↓wp_and, ↓wp_or, ↓wp_vand, ↓wp_vor, ↓wp_eB, ↓wp_eIf, ↓wp_neg, ↓wp_chain, ↓wp_e2, ↓wp_var, ↓wp_c, ↓wp_addI, ↓wp_addS, ↓wp_addL, ↓wp_addT, ↓ws_raise1, ↓ws_raise0, ↓ws_par, ↓ws_par3, uPar3_ok, ↓wp_kin, ↓wp_kix, wo_ks, ↓wp_get1, ↓wp_get2, ↓wp_dget, ↓ws_setKey, uKeyD, keyD, ↓wp_fnK, ↓ws_try, ↓ws_hdN, ↓ws_hdC, ↓ws_suiteN, ↓ws_suiteS, ↓wp_fld, xE, gP_nil, gP_cons, Option.toList, ↓wp_lift2v, ↓wp_aNil, ↓wp_aCons, ↓wp_newF, ↓wp_newT, ↓wp_lst, ↓wp_tup, ↓wp_call, ↓wp_pf1, ↓wp_pf2, ↓wp_pfL, ↓wp_isi, ↓wp_fn, ↓wp_bm, ↓wp_sl, ↓wp_pNone, ↓wp_pSome, ↓wp_slS, ↓wp_slL, ↓wp_disp, ↓wp_newDF, ↓wp_newDT, rf_l, rf_d, ↓wp_prNil, ↓wp_prCons, ↓wp_dnew, ↓wp_iVal, ↓wp_rng1, ↓wp_rng2, ↓wp_lc, ↓wp_ok, ↓wp_exc, ↓wp_bad, ↓wp_join, itD, ↓wp_bYes, ↓rQ_dat, ↓rQ_cell, ↓wo_some, ↓wo_none, ↓wo_ite, ↓wo_map, view_dat, td_nil, td_cons, Option.map_some, bind_name, bind_tup, sa_c, sa_n, toKey, uB, uI, uD, uI1, uI2, ty_s, ty_l, List.map, List.length, List.replicate, Nat.reduceSub, Nat.reduceAdd, Nat.reduceLeDiff, Nat.zero_add, List.cons_append, List.nil_append, List.append_nil, List.getElem?_cons_zero, List.getElem?_cons_succ, Option.join_some, List.set_cons_zero, List.set_cons_succ, decide_eq_true_eq, Bool.not_eq_true', Bool.not_true, Bool.not_false, if_true, if_false, Bool.false_eq_true, eq_self, true_and, and_true, isND_n, notND_n, isi_int, isi_bool, isi_str, isi_tuple, isi_list, isi_dict, dInt, dBl, dStr, dTup, dLst, dDct, wipeE, List.set, subD, ltD, gtD, leD, geD, max2D, min2D, eqD_ii, neD_ii, eqD_ss, neD_ss, eqD_nil, neD_nil]
      refine ix_l (by omega) (by simpa using d21) fun od hod => ?_
      have so : Odd od ∧ neD (.lst [.str [107, 105, 110, 100], od]) (.lst [.str [107, 105, 110, 100], od]) = some (.bl false) := by
        simp only [List.mem_cons, List.not_mem_nil, or_false] at hod
        rcases hod with rfl | rfl | rfl | rfl | rfl | rfl | rfl | rfl <;> exact ⟨rfl, rfl⟩
      obtain ⟨so1, so2⟩ := so
      have t1 : ∀ {v M Q X}, Wp (f_law_told [.dat v, .dat od] M) Q X = Q (.dat (.lst [.str [107, 105, 110, 100], od])) M := fun {v M Q X} => wp_told so1
      simp (config := {dsimp := false}) only [↓ws_nil, ↓ws_cons, ↓ws_asg, ↓ws_setIx, ↓ws_ret, ↓ws_retN, ↓ws_if, ↓ws_drop, ↓ws_brk, ↓ws_cnt, ↓ws_for, ↓wp_tOf, ↓wp_not, ↓wp_and, ↓wp_or, ↓wp_vand, ↓wp_vor, ↓wp_eB, ↓wp_eIf, ↓wp_neg, ↓wp_chain, ↓wp_e2, ↓wp_var, ↓wp_c, ↓wp_addI, ↓wp_addS, ↓wp_addL, ↓wp_addT, ↓ws_raise1, ↓ws_raise0, ↓ws_par, ↓ws_par3, uPar3_ok, ↓wp_kin, ↓wp_kix, wo_ks, ↓wp_get1, ↓wp_get2, ↓wp_dget, ↓ws_setKey, uKeyD, keyD, ↓wp_fnK, ↓ws_try, ↓ws_hdN, ↓ws_hdC, ↓ws_suiteN, ↓ws_suiteS, ↓wp_fld, xE, gP_nil, gP_cons, Option.toList, ↓wp_lift2v, ↓wp_aNil, ↓wp_aCons, ↓wp_newF, ↓wp_newT, ↓wp_lst, ↓wp_tup, ↓wp_call, ↓wp_pf1, ↓wp_pf2, ↓wp_pfL, ↓wp_isi, ↓wp_fn, ↓wp_bm, ↓wp_sl, ↓wp_pNone, ↓wp_pSome, ↓wp_slS, ↓wp_slL, ↓wp_disp, ↓wp_newDF, ↓wp_newDT, rf_l, rf_d, ↓wp_prNil, ↓wp_prCons, ↓wp_dnew, ↓wp_iVal, ↓wp_rng1, ↓wp_rng2, ↓wp_lc, ↓wp_ok, ↓wp_exc, ↓wp_bad, ↓wp_join, itD, ↓wp_bYes, ↓rQ_dat, ↓rQ_cell, ↓wo_some, ↓wo_none, ↓wo_ite, ↓wo_map, view_dat, td_nil, td_cons, Option.map_some, bind_name, bind_tup, sa_c, sa_n, toKey, uB, uI, uD, uI1, uI2, ty_s, ty_l, List.map, List.length, List.replicate, Nat.reduceSub, Nat.reduceAdd, Nat.reduceLeDiff, Nat.zero_add, List.cons_append, List.nil_append, List.append_nil, List.getElem?_cons_zero, List.getElem?_cons_succ, Option.join_some, List.set_cons_zero, List.set_cons_succ, decide_eq_true_eq, Bool.not_eq_true', Bool.not_true, Bool.not_false, if_true, if_false, Bool.false_eq_true, eq_self, true_and, and_true, isND_n, notND_n, isi_int, isi_bool, isi_str, isi_tuple, isi_list, isi_dict, dInt, dBl, dStr, dTup, dLst, dDct, wipeE, List.set, subD, ltD, gtD, leD, geD, max2D, min2D, eqD_ii, neD_ii, eqD_ss, neD_ss, eqD_nil, neD_nil, ↓t1, so2]
      exact ⟨_, _, _, _, _, _, _, _, _, _, rfl⟩
  · subst hr; simp (config := {dsimp := false}) only [↓ws_nil, ↓ws_cons, ↓ws_asg, ↓ws_setIx, ↓ws_ret, ↓ws_retN, ↓ws_if, ↓ws_drop, ↓ws_brk, ↓ws_cnt, ↓ws_for, ↓wp_tOf, ↓wp_not, ↓wp_and, ↓wp_or, ↓wp_vand, ↓wp_vor, ↓wp_eB, ↓wp_eIf, ↓wp_neg, ↓wp_chain, ↓wp_e2, ↓wp_var, ↓wp_c, ↓wp_addI, ↓wp_addS, ↓wp_addL, ↓wp_addT, ↓ws_raise1, ↓ws_raise0, ↓ws_par, ↓ws_par3, uPar3_ok, ↓wp_kin, ↓wp_kix, wo_ks, ↓wp_get1, ↓wp_get2, ↓wp_dget, ↓ws_setKey, uKeyD, keyD, ↓wp_fnK, ↓ws_try, ↓ws_hdN, ↓ws_hdC, ↓ws_suiteN, ↓ws_suiteS, ↓wp_fld, xE, gP_nil, gP_cons, Option.toList, ↓wp_lift2v, ↓wp_aNil, ↓wp_aCons, ↓wp_newF, ↓wp_newT, ↓wp_lst, ↓wp_tup, ↓wp_call, ↓wp_pf1, ↓wp_pf2, ↓wp_pfL, ↓wp_isi, ↓wp_fn, ↓wp_bm, ↓wp_sl, ↓wp_pNone, ↓wp_pSome, ↓wp_slS, ↓wp_slL, ↓wp_disp, ↓wp_newDF, ↓wp_newDT, rf_l, rf_d, ↓wp_prNil, ↓wp_prCons, ↓wp_dnew, ↓wp_iVal, ↓wp_rng1, ↓wp_rng2, ↓wp_lc, ↓wp_ok, ↓wp_exc, ↓wp_bad, ↓wp_join, itD, ↓wp_bYes, ↓rQ_dat, ↓rQ_cell, ↓wo_some, ↓wo_none, ↓wo_ite, ↓wo_map, view_dat, td_nil, td_cons, Option.map_some, bind_name, bind_tup, sa_c, sa_n, toKey, uB, uI, uD, uI1, uI2, ty_s, ty_l, List.map, List.length, List.replicate, Nat.reduceSub, Nat.reduceAdd, Nat.reduceLeDiff, Nat.zero_add, List.cons_append, List.nil_append, List.append_nil, List.getElem?_cons_zero, List.getElem?_cons_succ, Option.join_some, List.set_cons_zero, List.set_cons_succ, decide_eq_true_eq, Bool.not_eq_true', Bool.not_true, Bool.not_false, if_true, if_false, Bool.false_eq_true, eq_self, true_and, and_true, isND_n, notND_n, isi_int, isi_bool, isi_str, isi_tuple, isi_list, isi_dict, dInt, dBl, dStr, dTup, dLst, dDct, wipeE, List.set, subD, ltD, gtD, leD, geD, max2D, min2D, eqD_ii, neD_ii, eqD_ss, neD_ss, eqD_nil, neD_nil]
end K21

set_option synthInstance.maxHeartbeats 0
set_option synthInstance.maxSize 100000
set_option Elab.async false
set_option linter.all false
set_option maxRecDepth 100000
set_option maxHeartbeats 4000000
open PySem PySem.W PyProof.Rows
set_option maxRecDepth 100000 in
set_option maxHeartbeats 0 in
theorem PySem.Challenge.cw_hungparts_k21_steps_of_kinds_holds : PySem.Challenge.rw_hungparts_k21_steps_of_kinds.Holds := by
  w_on; o_law; k_head; (case hw => w_witness2)
  k_fill
  refine SD.walk_law (l := PySem.Challenge.rw_hungparts_k21_steps_of_kinds) (p := "_law_script") (k := 5) (F := K21.f_law) rfl rfl ⟨rfl, by decide, by decide⟩ (fun w h Y => PySem.W.kIn_of Y) ?F K21.law_true
  case F =>
    intro w mg fa h KX G hmg
    refine K21.ok_law ?T hmg
    refine' K21.txt_mk KX G ?anyK ?topK ?a0 ?l0 ?c0 ?k0 ?a1 ?l1 ?c1 ?k1 ?a2 ?l2 ?c2 ?k2 ?a3 ?l3 ?c3 ?k3 ?a4 ?l4 ?c4 ?k4 ?a5 ?l5 ?c5 ?k5 ?a6 ?l6 ?c6 ?k6 ?a7 ?l7 ?c7 ?k7 ?a8 ?l8 ?c8 ?k8 ?a9 ?l9 ?c9 ?k9 ?a10 ?l10 ?c10 ?k10 ?a11 ?l11 ?c11 ?k11 ?a12 ?l12 ?c12 ?k12 ?a13 ?l13 ?c13 ?k13 ?a14 ?l14 ?c14 ?k14 ?a15 ?l15 ?c15 ?k15 ?nC_NoProgram ?lk_NoProgram ?rv_NoProgram ?sa_NoProgram ?ga_NoProgram ?gg_NoProgram ?iC_NoProgram ?tC_NoProgram ?kC_NoProgram ?eC_NoProgram ?tyC_NoProgram ?hdC_NoProgram ?vE_NoProgram ?ei_NoProgram ?su_NoProgram ?mr_NoProgram ?fl_NoProgram ?cd_NoProgram ?lc_NoProgram ?v2_NoProgram ?fe_NoProgram ?ce_NoProgram ?no_NoProgram ?e_NoProgram_NoProgram ?n_all ?n_bool ?n_int ?n_isinstance ?n_len ?n_list ?n_max ?n_min ?n_range ?n_str ?n_super ?n_tuple ?c_LETTERS ?c_MOST_LETTERS ?c_TABLE ?c_KINDS ?kt_KINDS ?t_LOCKED ?tl_LOCKED ?ti_LOCKED ?tw_LOCKED ?kt_LOCKED ?t_PLAIN_STEPS ?tl_PLAIN_STEPS ?ti_PLAIN_STEPS ?tw_PLAIN_STEPS ?kt_PLAIN_STEPS
    (case anyK => first | k_is | rfl | decide +kernel | kernel_rfl)
    (case topK => first | k_is | rfl | decide +kernel | kernel_rfl)
    (case a0 => k_is)
    (case l0 => k_is)
    (case c0 => k_is)
    (case k0 => k_is)
    (case a1 => k_is)
    (case l1 => k_is)
    (case c1 => k_is)
    (case k1 => k_is)
    (case a2 => k_is)
    (case l2 => k_is)
    (case c2 => k_is)
    (case k2 => k_is)
    (case a3 => k_is)
    (case l3 => k_is)
    (case c3 => k_is)
    (case k3 => k_is)
    (case a4 => k_is)
    (case l4 => k_is)
    (case c4 => k_is)
    (case k4 => k_is)
    (case a5 => k_is)
    (case l5 => k_is)
    (case c5 => k_is)
    (case k5 => k_is)
    (case a6 => k_is)
    (case l6 => k_is)
    (case c6 => k_is)
    (case k6 => k_is)
    (case a7 => k_is)
    (case l7 => k_is)
    (case c7 => k_is)
    (case k7 => k_is)
    (case a8 => k_is)
    (case l8 => k_is)
    (case c8 => k_is)
    (case k8 => k_is)
    (case a9 => k_is)
    (case l9 => k_is)
    (case c9 => k_is)
    (case k9 => k_is)
    (case a10 => k_is)
    (case l10 => k_is)
    (case c10 => k_is)
    (case k10 => k_is)
    (case a11 => k_is)
    (case l11 => k_is)
    (case c11 => k_is)
    (case k11 => k_is)
    (case a12 => k_is)
    (case l12 => k_is)
    (case c12 => k_is)
    (case k12 => k_is)
    (case a13 => k_is)
    (case l13 => k_is)
    (case c13 => k_is)
    (case k13 => k_is)
    (case a14 => k_is)
    (case l14 => k_is)
    (case c14 => k_is)
    (case k14 => k_is)
    (case a15 => k_is)
    (case l15 => k_is)
    (case c15 => k_is)
    (case k15 => k_is)
    (case nC_NoProgram => k_is)
    (case lk_NoProgram => k_is)
    (case rv_NoProgram => first | k_is | rfl | decide +kernel | kernel_rfl)
    (case sa_NoProgram => k_is)
    (case ga_NoProgram => k_is)
    (case gg_NoProgram => k_is)
    (case iC_NoProgram => k_is)
    (case tC_NoProgram => k_is)
    (case kC_NoProgram => k_is)
    (case eC_NoProgram => k_is)
    (case tyC_NoProgram => k_is)
    (case hdC_NoProgram => k_is)
    (case vE_NoProgram => k_is)
    (case ei_NoProgram => first | k_is | rfl | decide +kernel | kernel_rfl)
    (case su_NoProgram => first | k_is | rfl | decide +kernel | kernel_rfl)
    (case mr_NoProgram => k_is)
    (case fl_NoProgram => k_is)
    (case cd_NoProgram => k_is)
    (case lc_NoProgram => k_is)
    (case v2_NoProgram => first | k_is | rfl | decide +kernel | kernel_rfl)
    (case fe_NoProgram => first | k_is | rfl | decide +kernel | kernel_rfl)
    (case ce_NoProgram => k_is)
    (case no_NoProgram => k_is)
    (case e_NoProgram_NoProgram => k_is)
    (case n_all => k_is)
    (case n_bool => k_is)
    (case n_int => k_is)
    (case n_isinstance => k_is)
    (case n_len => k_is)
    (case n_list => k_is)
    (case n_max => k_is)
    (case n_min => k_is)
    (case n_range => k_is)
    (case n_str => k_is)
    (case n_super => k_is)
    (case n_tuple => k_is)
    (case c_LETTERS => k_is)
    (case c_MOST_LETTERS => k_is)
    (case c_TABLE => k_is)
    (case c_KINDS => k_is)
    (case kt_KINDS => kernel_rfl)
    (case t_LOCKED => k_is)
    (case tl_LOCKED => k_is)
    (case ti_LOCKED => repeat (first | exact trivial | refine ⟨⟨_, _, rfl, rfl⟩, ?_⟩))
    (case tw_LOCKED => decide)
    (case kt_LOCKED => kernel_rfl)
    (case t_PLAIN_STEPS => k_is)
    (case tl_PLAIN_STEPS => k_is)
    (case ti_PLAIN_STEPS => repeat (first | exact trivial | refine ⟨⟨_, _, rfl, rfl⟩, ?_⟩))
    (case tw_PLAIN_STEPS => decide)
    (case kt_PLAIN_STEPS => kernel_rfl)

