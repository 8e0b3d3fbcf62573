import PyProof.Rows.All
import Wide.All
import OpenK.AllK
import Wide.FinOn
import HandS.ForMost
import HandS.Conv
import HandS.IsInst
import HandS.Flow
import HandS.CallSlots
import HandS.WordsExc
import HandS.TryOnly
import HandS.ExcOwn
import HandS.ExcCtx
import HandS.HotCalls
import HandS.Lambda
import HandS.More
import PyProof.StrOps2
import HandS.TupAny
import HandS.StrMore
import HandS.Small
import KE.SortData
import HandS.Deep
import HandS.AnyAll
import HandS.GenList
import HandS.Comp
import HandS.HeadWalk
import HandS.NestedK
import OpenK.XHead
import HandS.ExcInit
import HandS.ExcField
import HandS.ExcIs
import HandS.TryMany
import KE.KExcSuper
import HandS.ExcSuper
import KE.KExcIs
import HandS.SetTxt0
import HandS.SetBool
import PyProof.Rows.SortShellAny
import KE.SortKeyHeap
import HandS.FStr
import HandS.SetFor
import HandS.SortInts
import HandS.SetKeys
import HandS.DictComp
import HandS.FltList
import HandS.ReplaceLit
import HandS.ReplaceDef
import HandS.ReplaceList
import PySem.Challenge.RW_truemill_k34_whole_links
set_option Elab.async false
set_option linter.all false
set_option autoImplicit false
set_option maxRecDepth 100000
set_option maxHeartbeats 4000000
/-! The lifted layer: what a piece of Python does, over data, without addresses. -/
namespace L3
open PySem L2
/-! exceptions whose context is None: the rules of L2N stand for those of L2 -/
abbrev Takes (X : Cx) (W : WX) : Prop := L2N.Takes X W
abbrev Zc (cls : Value) (d : Option Addr) : Obj → Prop := L2N.Zn cls d
abbrev PMk (X : Cx) (e : Expr) (t : L2.St → Hp → XK → Prop) : Prop := L2N.PMk X e t
theorem Zc.steady {cls : Value} {d : Option Addr} : PXN.Steady1 (Zc cls d) := L2N.Zn.steady
theorem takes_none5 {X : Cx} : Takes X (fun _ _ _ _ => False) := fun _ _ ⟨_, _, _, _, _, _, _, _, _, _, _, _, _, _, _, _, w⟩ => w.elim
def passAt := @L2N.passAt
def takes_of := @L2N.takes_of
def ps_raise := @L2N.ps_raise
def mk_of := @L2N.mk_of
def ps_try_as := @L2N.ps_try_as
def Sky.land := @L2N.Sky.land

/-- data: immutable values -/
inductive D where
  | non | bl (b : Bool) | int (i : Int) | str (x : Str) | ty (n : String) | con (a : Addr) | tup (ds : List D) | lst (ds : List D)
  | exc (a cls : Addr) (dd : Option Addr) (ns : List Str) (ds : List D)
/-- what a slot holds: data, or one of the known mutable objects -/
inductive DV where
  | dat (d : D) | obj (n : Nat)
/-- mutable objects -/
inductive MO where
  | lst (xs : List DV) | dK (kvs : List (Key × DV)) | ins (C : Addr) (fs : List (Str × DV)) | lk (t : Obj × List (Key × V)) (kvs : List (Key × DV))
abbrev DV.int (i : Int) : DV := .dat (.int i)
abbrev DV.str (x : Str) : DV := .dat (.str x)
abbrev DV.bl (b : Bool) : DV := .dat (.bl b)
abbrev DV.non : DV := .dat .non
abbrev DV.tup (ds : List D) : DV := .dat (.tup ds)
abbrev DV.lst (ds : List D) : DV := .dat (.lst ds)
abbrev Rho := List (Option DV)
abbrev Mem := List MO

def KLst (K : PySem.W.Frag) (a : Addr) (xs : List V) : Prop := ∃ (o : Obj) (its : Array Value) (n : Nat), K.lookup a = some o ∧ o.cls = .type "list" ∧ o.dict = none ∧ o.data = .seq its n ∧ its.size ≤ sizeLine ∧ Vals xs its.toList
def KTup (K : PySem.W.Frag) (a : Addr) (xs : List V) : Prop := ∃ (o : Obj) (its : Array Value) (n : Nat), K.lookup a = some o ∧ o.cls = .type "tuple" ∧ o.data = .seq its n ∧ its.size ≤ sizeLine ∧ Vals xs its.toList
def SLi (K : PySem.W.Frag) (N : Addr → Prop) (H : Hp) (a : Addr) (xs : List V) : Prop := (Rd H a (.lst xs) ∧ ¬ N a) ∨ KLst K a xs
def STi (K : PySem.W.Frag) (N : Addr → Prop) (H : Hp) (a : Addr) (xs : List V) : Prop := (Rd H a (.tup xs) ∧ ¬ N a) ∨ KTup K a xs
theorem SLi.sq {K : PySem.W.Frag} {N : Addr → Prop} {H : Hp} {a : Addr} {xs : List V} (h : SLi K N H a xs) : SqL K H a xs := h.imp (·.1) id
theorem STi.sq {K : PySem.W.Frag} {N : Addr → Prop} {H : Hp} {a : Addr} {xs : List V} (h : STi K N H a xs) : SqT K H a xs := h.imp (·.1) id

mutual
inductive VD (K : PySem.W.Frag) (N : Addr → Prop) (H : Hp) : V → D → Prop
  | non : VD K N H .non .non
  | bl (b : Bool) : VD K N H (.bl b) (.bl b)
  | int (i : Int) : VD K N H (.int i) (.int i)
  | str (x : Str) : VD K N H (.str x) (.str x)
  | ty (n : String) : VD K N H (.ty n) (.ty n)
  | con (a : Addr) : VD K N H (.ref a) (.con a)
  | tup {a : Addr} {xs : List V} {ds : List D} : STi K N H a xs → VDs K N H xs ds → VD K N H (.ref a) (.tup ds)
  | lst {a : Addr} {xs : List V} {ds : List D} : SLi K N H a xs → VDs K N H xs ds → VD K N H (.ref a) (.lst ds)
  | exc0 (a cls : Addr) : VD K N H (.ref a) (.exc a cls none [] [])
  | excD {a cls dd : Addr} {ps : List (Str × V)} {ns : List Str} {xs : List V} {ds : List D} : H dd = some (.xd ps) → ¬ N dd → ps = ns.zip xs → ns.length = xs.length → VDs K N H xs ds → VD K N H (.ref a) (.exc a cls (some dd) ns ds)
inductive VDs (K : PySem.W.Frag) (N : Addr → Prop) (H : Hp) : List V → List D → Prop
  | nil : VDs K N H [] []
  | cons {x : V} {d : D} {xs : List V} {ds : List D} : VD K N H x d → VDs K N H xs ds → VDs K N H (x :: xs) (d :: ds)
end
/-- from (N, H) to (N', H'): what N does not name stands, and is not named -/
structure Mv (N : Addr → Prop) (H : Hp) (N' : Addr → Prop) (H' : Hp) : Prop where
  keep : ∀ b o, H b = some o → ¬ N b → H' b = some o
  out : ∀ b o, H b = some o → ¬ N b → ¬ N' b
section
variable {K : PySem.W.Frag} {N N' : Addr → Prop} {H H' : Hp}
theorem Mv.rd (m : Mv N H N' H') {a : Addr} {u : HO} (h : Rd H a u) (n : ¬ N a) : Rd H' a u ∧ ¬ N' a := by
  rcases h with h | ⟨o, h⟩
  · exact ⟨.inl (m.keep _ _ h n), m.out _ _ h n⟩
  · exact ⟨.inr ⟨o, m.keep _ _ h n⟩, m.out _ _ h n⟩
theorem Mv.sl (m : Mv N H N' H') {a : Addr} {xs : List V} (h : SLi K N H a xs) : SLi K N' H' a xs := by
  rcases h with ⟨h, n⟩ | h
  · exact .inl (m.rd h n)
  · exact .inr h
theorem Mv.st (m : Mv N H N' H') {a : Addr} {xs : List V} (h : STi K N H a xs) : STi K N' H' a xs := by
  rcases h with ⟨h, n⟩ | h
  · exact .inl (m.rd h n)
  · exact .inr h
mutual
theorem VD.mv (m : Mv N H N' H') : ∀ {v : V} {d : D}, VD K N H v d → VD K N' H' v d
  | _, _, .non => .non
  | _, _, .bl b => .bl b
  | _, _, .int i => .int i
  | _, _, .str x => .str x
  | _, _, .ty n => .ty n
  | _, _, .con a => .con a
  | _, _, .tup h hs => .tup (m.st h) (VDs.mv m hs)
  | _, _, .lst h hs => .lst (m.sl h) (VDs.mv m hs)
  | _, _, .exc0 a c => .exc0 a c
  | _, _, .excD h n e l hs => .excD (m.keep _ _ h n) (m.out _ _ h n) e l (VDs.mv m hs)
theorem VDs.mv (m : Mv N H N' H') : ∀ {v : List V} {d : List D}, VDs K N H v d → VDs K N' H' v d
  | _, _, .nil => .nil
  | _, _, .cons h hs => .cons (VD.mv m h) (VDs.mv m hs)
end
theorem VDs.length : ∀ {xs : List V} {ds : List D}, VDs K N H xs ds → xs.length = ds.length
  | _, _, .nil => rfl
  | _, _, .cons _ h => by rw [List.length_cons, List.length_cons, VDs.length h]
theorem VDs.get : ∀ {xs : List V} {ds : List D} {i : Nat} {d : D}, VDs K N H xs ds → ds[i]? = some d → ∃ x, xs[i]? = some x ∧ VD K N H x d
  | _, _, _, _, .nil, e => by simp at e
  | _, _, 0, _, .cons r _, e => by simp at e; subst e; exact ⟨_, rfl, r⟩
  | _, _, i + 1, d, .cons _ t, e => by
    obtain ⟨u, h1, h2⟩ := VDs.get (i := i) (d := d) t (by simpa using e)
    exact ⟨u, by simpa using h1, h2⟩
theorem VDs.get' : ∀ {xs : List V} {ds : List D} {i : Nat} {x : V}, VDs K N H xs ds → xs[i]? = some x → ∃ d, ds[i]? = some d ∧ VD K N H x d
  | _, _, _, _, .nil, e => by simp at e
  | _, _, 0, _, .cons r _, e => by simp at e; subst e; exact ⟨_, rfl, r⟩
  | _, _, i + 1, d, .cons _ t, e => by
    obtain ⟨u, h1, h2⟩ := VDs.get' (i := i) (x := d) t (by simpa using e)
    exact ⟨u, by simpa using h1, h2⟩
theorem VDs.append : ∀ {xs ys : List V} {ds es : List D}, VDs K N H xs ds → VDs K N H ys es → VDs K N H (xs ++ ys) (ds ++ es)
  | _, _, _, _, .nil, h => h
  | _, _, _, _, .cons a b, h => .cons a (VDs.append b h)
theorem VDs.drop : ∀ {xs : List V} {ds : List D} (n : Nat), VDs K N H xs ds → VDs K N H (xs.drop n) (ds.drop n)
  | _, _, 0, h => h
  | _, _, _ + 1, .nil => .nil
  | _, _, n + 1, .cons _ b => VDs.drop n b
theorem VDs.take : ∀ {xs : List V} {ds : List D} (n : Nat), VDs K N H xs ds → VDs K N H (xs.take n) (ds.take n)
  | _, _, 0, _ => .nil
  | _, _, _ + 1, .nil => .nil
  | _, _, n + 1, .cons a b => .cons a (VDs.take n b)
/-- flat lists -/
theorem VDs.map_int : ∀ (ns : List Int), VDs K N H (ns.map V.int) (ns.map D.int)
  | [] => .nil
  | n :: r => .cons (.int n) (VDs.map_int r)
theorem VDs.map_str : ∀ (ns : List Str), VDs K N H (ns.map V.str) (ns.map D.str)
  | [] => .nil
  | n :: r => .cons (.str n) (VDs.map_str r)
theorem VDs.of_int : ∀ {ns : List Int} {xs : List V}, VDs K N H xs (ns.map D.int) → xs = ns.map V.int
  | [], _, .nil => rfl
  | n :: r, _, .cons (.int _) h => by rw [List.map_cons, VDs.of_int h]
theorem VDs.of_str : ∀ {ns : List Str} {xs : List V}, VDs K N H xs (ns.map D.str) → xs = ns.map V.str
  | [], _, .nil => rfl
  | n :: r, _, .cons (.str _) h => by rw [List.map_cons, VDs.of_str h]
end

/-- tables of code objects: where; and of some, the name that the code object of a place bears -/
structure Tb where
  ps : List Addr
  qs : List (Addr × Pos × Str)
  sub : ∀ p ∈ qs, p.1 ∈ ps
instance : Membership Addr Tb := ⟨fun T a => a ∈ T.ps⟩
abbrev noT : Tb := ⟨[], [], fun p h => by cases h⟩
instance : Coe (List Addr) Tb := ⟨fun l => ⟨l, [], fun p h => by cases h⟩⟩
theorem not_noT {a : Addr} : a ∉ noT := fun z => by
  have z : a ∈ ([] : List Addr) := z
  cases z
/-- the fixed part: what is written, tables, what others own -/
structure Cn where
  K : PySem.W.Frag
  T : Tb
  Z : List Addr
/-- .. with others' objects Z -/
abbrev Cn.wz (C : Cn) (Z : List Addr) : Cn := ⟨C.K, C.T, Z⟩
def Cn.N (C : Cn) (α : List Addr) : Addr → Prop := fun b => b ∈ α ∨ b ∈ C.T ∨ b ∈ C.Z
def VR (C : Cn) (α : List Addr) (H : Hp) (v : V) : DV → Prop
  | .dat d => VD C.K (C.N α) H v d
  | .obj n => ∃ a, α[n]? = some a ∧ v = .ref a
abbrev VRs (C : Cn) (α : List Addr) (H : Hp) : List V → List DV → Prop := Paired (VR C α H)
def KVR {κ : Type} (C : Cn) (α : List Addr) (H : Hp) : List (κ × V) → List (κ × DV) → Prop := Paired fun p q => p.1 = q.1 ∧ VR C α H p.2 q.2
def MR (C : Cn) (α : List Addr) (H : Hp) (a : Addr) : MO → Prop
  | .lst ds => ∃ xs, H a = some (.lst xs) ∧ VRs C α H xs ds
  | .dK kvs => ∃ ps, H a = some (.dK ps) ∧ KVR C α H ps kvs
  | .lk t kvs => H a = some (.frz t.1 (.dK t.2)) ∧ KVR C α H t.2 kvs
  | .ins D fs => ∃ dx ps, H a = some (.ins D dx ps) ∧ KVR C α H ps fs
structure HR (C : Cn) (α : List Addr) (M : Mem) (H : Hp) : Prop where
  len : α.length = M.length
  get : ∀ (n : Nat) (a : Addr) (o : MO), α[n]? = some a → M[n]? = some o → MR C α H a o
/-- time goes on -/
structure Step (C : Cn) (α : List Addr) (H : Hp) (α' : List Addr) (H' : Hp) : Prop where
  ext : ∃ β, α' = α ++ β ∧ ∀ b ∈ β, H b = none
  keep : ∀ b o, H b = some o → b ∉ α → b ∉ C.T → H' b = some o
  dom : ∀ b o, H b = some o → ∃ o', H' b = some o'
def TabOk (H : Hp) (P : Addr) : Prop := ∃ ps : Array Value, H P = some (.tbl ps) ∧ TriplesOk ps.toList
/-- the code object found in the table at p.1 for the place p.2.1 bears the name p.2.2, and is no other's -/
def TabQ (Z : List Addr) (H : Hp) (p : Addr × Pos × Str) : Prop := ∀ ps : Array Value, H p.1 = some (.tbl ps) → ∀ cv : Value, codeAmong p.2.1 ps.toList = some cv → ∃ c, cv = .ref c ∧ c ∉ Z ∧ H c = some (LamX.CodeO c p.2.2)
structure RS (C : Cn) (α : List Addr) (M : Mem) (H : Hp) : Prop where
  hr : HR C α M H
  nd : α.Nodup
  tb : ∀ P ∈ C.T, TabOk H P
  zd : ∀ z ∈ C.Z, ∃ o, H z = some o
  tq : ∀ p ∈ C.T.qs, TabQ C.Z H p
structure VS (C : Cn) (α : List Addr) (H : Hp) (σ : L2.St) (ρ : Rho) : Prop where
  len : σ.length = ρ.length
  get : ∀ (i : Nat) (d : DV), ρ[i]? = some (some d) → ∃ v, σ[i]? = some (some v) ∧ VR C α H v d

section
variable {C : Cn} {α α' α'' : List Addr} {H H' H'' : Hp} {M : Mem}
theorem Step.refl : Step C α H α H := ⟨⟨[], by simp, by simp⟩, fun _ _ h _ _ => h, fun _ o h => ⟨o, h⟩⟩
theorem Step.trans (a : Step C α H α' H') (b : Step C α' H' α'' H'') : Step C α H α'' H'' := by
  obtain ⟨β, e1, f1⟩ := a.ext
  obtain ⟨γ, e2, f2⟩ := b.ext
  have dn : ∀ b, H' b = none → H b = none := fun c hc => by
    cases q : H c with
    | none => rfl
    | some o => obtain ⟨o', h'⟩ := a.dom c o q; rw [hc] at h'; cases h'
  refine ⟨⟨β ++ γ, by rw [e2, e1, List.append_assoc], fun c hc => ?_⟩, fun c o h n t => ?_, fun c o h => ?_⟩
  · rcases List.mem_append.mp hc with hc | hc
    · exact f1 c hc
    · exact dn c (f2 c hc)
  · refine b.keep c o (a.keep c o h n t) (fun z => ?_) t
    rw [e1] at z
    rcases List.mem_append.mp z with z | z
    · exact n z
    · have := f1 c z; rw [h] at this; cases this
  · obtain ⟨o', h'⟩ := a.dom c o h
    exact b.dom c o' h'
theorem Step.mv (a : Step C α H α' H') : Mv (C.N α) H (C.N α') H' := by
  obtain ⟨β, e1, f1⟩ := a.ext
  refine ⟨fun b o h n => a.keep b o h (fun z => n (.inl z)) fun z => n (.inr (.inl z)), fun b o h n => ?_⟩
  rintro (z | z)
  · rw [e1] at z
    rcases List.mem_append.mp z with z | z
    · exact n (.inl z)
    · have := f1 b z; rw [h] at this; cases this
  · exact n (.inr z)
theorem VR.step {v : V} {d : DV} (r : VR C α H v d) (a : Step C α H α' H') : VR C α' H' v d := by
  cases d with
  | dat d => exact VD.mv a.mv r
  | obj n =>
    obtain ⟨b, h, e⟩ := r
    obtain ⟨β, e1, f1⟩ := a.ext
    refine ⟨b, ?_, e⟩
    rw [e1, List.getElem?_append_left (List.getElem?_eq_some_iff.mp h).1]
    exact h
theorem VRs.step : ∀ {xs : List V} {ds : List DV}, VRs C α H xs ds → Step C α H α' H' → VRs C α' H' xs ds
  | _, _, .nil, _ => .nil
  | _, _, .cons r t, a => .cons (r.step a) (VRs.step t a)
theorem KVR.step {κ : Type} : ∀ {xs : List (κ × V)} {ds : List (κ × DV)}, KVR C α H xs ds → Step C α H α' H' → KVR C α' H' xs ds
  | _, _, .nil, _ => .nil
  | _, _, .cons r t, a => .cons ⟨r.1, r.2.step a⟩ (KVR.step t a)
theorem VS.step {σ : L2.St} {ρ : Rho} (r : VS C α H σ ρ) (a : Step C α H α' H') : VS C α' H' σ ρ :=
  ⟨r.len, fun i d h => let ⟨v, e, q⟩ := r.get i d h; ⟨v, e, q.step a⟩⟩
theorem MR.some {a : Addr} {o : MO} (h : MR C α H a o) : ∃ u, H a = some u := by
  cases o with
  | lst ds => obtain ⟨xs, e, _⟩ := h; exact ⟨_, e⟩
  | dK ds => obtain ⟨xs, e, _⟩ := h; exact ⟨_, e⟩
  | lk t ds => exact ⟨_, h.1⟩
  | ins D ds => obtain ⟨dx, xs, e, _⟩ := h; exact ⟨_, e⟩
/-- its own object stands: all else goes on -/
theorem MR.step {a : Addr} {o : MO} (h : MR C α H a o) (s : Step C α H α' H') (k : H' a = H a) : MR C α' H' a o := by
  cases o with
  | lst ds => obtain ⟨xs, e, r⟩ := h; exact ⟨xs, by rw [k]; exact e, r.step s⟩
  | dK ds => obtain ⟨xs, e, r⟩ := h; exact ⟨xs, by rw [k]; exact e, KVR.step r s⟩
  | lk t ds => exact ⟨by rw [k]; exact h.1, KVR.step h.2 s⟩
  | ins D ds => obtain ⟨dx, xs, e, r⟩ := h; exact ⟨dx, xs, by rw [k]; exact e, KVR.step r s⟩
theorem HR.at (h : HR C α M H) {n : Nat} {o : MO} (e : M[n]? = some o) : ∃ a, α[n]? = some a ∧ MR C α H a o := by
  have hl := (List.getElem?_eq_some_iff.mp e).1
  have h2 : n < α.length := by rw [h.len]; exact hl
  exact ⟨α[n], by simp, h.get n _ o (by simp) e⟩
theorem HR.mem (h : HR C α M H) {a : Addr} (m : a ∈ α) : ∃ u, H a = some u := by
  obtain ⟨n, hn, e⟩ := List.getElem_of_mem m
  have h2 : n < M.length := by rw [← h.len]; exact hn
  exact (h.get n a M[n] (by rw [← e]; simp) (by simp)).some
theorem TabQ.keep {Z Z' : List Addr} {p : Addr × Pos × Str} (t : TabQ Z H p) (e0 : ∃ ps, H p.1 = some (.tbl ps)) (e : ∀ b o, H b = some o → b = p.1 ∨ (∃ q, o = LamX.CodeO b q ∧ b ∉ Z) → H' b = some o) (z : ∀ b q, H b = some (LamX.CodeO b q) → b ∉ Z → b ∉ Z') : TabQ Z' H' p := fun ps h cv hc => by
  obtain ⟨qs, e0⟩ := e0
  have h1 := e _ _ e0 (.inl rfl)
  rw [h] at h1
  cases h1
  obtain ⟨c, e1, e2, e3⟩ := t ps e0 cv hc
  exact ⟨c, e1, z c _ e3 e2, e _ _ e3 (.inr ⟨_, rfl, e2⟩)⟩
/-- known objects are no code objects -/
theorem RS.notCode (r : RS C α M H) {c b : Addr} {q : Str} (h : H b = some (LamX.CodeO c q)) : b ∉ α := fun z => by
  obtain ⟨n, hn, e⟩ := List.getElem_of_mem z
  have h2 : n < M.length := by rw [← r.hr.len]; exact hn
  have m := r.hr.get n b M[n] (by rw [← e]; simp) (by simp)
  unfold LamX.CodeO at h
  cases hm : M[n] with
  | lst ds => rw [hm] at m; obtain ⟨xs, e', _⟩ := m; rw [h] at e'; cases e'
  | dK ds => rw [hm] at m; obtain ⟨xs, e', _⟩ := m; rw [h] at e'; cases e'
  | lk t ds => rw [hm] at m; obtain ⟨e', _⟩ := m; rw [h] at e'; cases e'
  | ins D ds => rw [hm] at m; obtain ⟨dx, xs, e', _⟩ := m; rw [h] at e'; cases e'
theorem RS.codeNotT (r : RS C α M H) {c b : Addr} {q : Str} (h : H b = some (LamX.CodeO c q)) : b ∉ C.T := fun z => by
  obtain ⟨ps, e, _⟩ := r.tb b z
  rw [h] at e
  unfold LamX.CodeO at e
  cases e
theorem RS.tabAt (r : RS C α M H) {p : Addr × Pos × Str} (hp : p ∈ C.T.qs) : ∃ ps, H p.1 = some (.tbl ps) := by
  obtain ⟨ps, e, _⟩ := r.tb p.1 (C.T.sub p hp)
  exact ⟨ps, e⟩
theorem RS.fresh (r : RS C α M H) {p : Addr} (h : H p = none) : ¬ C.N α p := by
  rintro (z | z | z)
  · obtain ⟨u, e⟩ := r.hr.mem z; rw [h] at e; cases e
  · obtain ⟨u, e, _⟩ := r.tb p z; rw [h] at e; cases e
  · obtain ⟨u, e⟩ := r.zd p z; rw [h] at e; cases e
/-- new objects that are not known: data -/
theorem RS.ex (r : RS C α M H) (e : ∀ b o, H b = some o → H' b = some o) : RS C α M H' ∧ Step C α H α H' := by
  have st : Step C α H α H' := ⟨⟨[], by simp, by simp⟩, fun b o h _ _ => e b o h, fun b o h => ⟨o, e b o h⟩⟩
  refine ⟨⟨⟨r.hr.len, fun n a o h1 h2 => ?_⟩, r.nd, fun P hP => ?_, fun z hz => ?_, fun p hp => (r.tq p hp).keep (r.tabAt hp) (fun b o h _ => e b o h) fun _ _ _ z => z⟩, st⟩
  · have q := r.hr.get n a o h1 h2
    obtain ⟨u, eu⟩ := q.some
    exact q.step st (by rw [eu, e _ _ eu])
  · obtain ⟨ps, h1, h2⟩ := r.tb P hP
    exact ⟨ps, e _ _ h1, h2⟩
  · obtain ⟨o, h⟩ := r.zd z hz
    exact ⟨o, e _ _ h⟩
theorem RS.new1 (r : RS C α M H) {p : Addr} {o : HO} (h : H p = none) : RS C α M (upd H p o) ∧ Step C α H α (upd H p o) := r.ex fun b u e => by
  rw [upd_ne (ne_of_none e h)]
  exact e
/-- a new known object -/
theorem RS.newM (r : RS C α M H) {p : Addr} {o : HO} {mo : MO} (h : H p = none) (hm : MR C (α ++ [p]) (upd H p o) p mo) : RS C (α ++ [p]) (M ++ [mo]) (upd H p o) ∧ Step C α H (α ++ [p]) (upd H p o) := by
  have k : ∀ b u, H b = some u → (upd H p o) b = some u := fun b u e => by
    rw [upd_ne (ne_of_none e h)]
    exact e
  have st : Step C α H (α ++ [p]) (upd H p o) := ⟨⟨[p], rfl, by simpa using h⟩, fun b o h _ _ => k b o h, fun b o h => ⟨o, k b o h⟩⟩
  have np : p ∉ α := fun z => r.fresh h (.inl z)
  refine ⟨⟨⟨by rw [List.length_append, List.length_append, r.hr.len]; rfl, fun n a u h1 h2 => ?_⟩, ?_, fun P hP => ?_, fun z hz => ?_, fun p hp => (r.tq p hp).keep (r.tabAt hp) (fun b o h _ => k b o h) fun _ _ _ z => z⟩, st⟩
  · by_cases hn : n < α.length
    · rw [List.getElem?_append_left hn] at h1
      rw [List.getElem?_append_left (by rw [← r.hr.len]; exact hn)] at h2
      have q := r.hr.get n a u h1 h2
      obtain ⟨w, ew⟩ := q.some
      exact q.step st (by rw [ew, k _ _ ew])
    · have e : n = α.length := by
        have := (List.getElem?_eq_some_iff.mp h1).1
        rw [List.length_append, List.length_singleton] at this
        omega
      subst e
      rw [List.getElem?_append_right (Nat.le_refl _), Nat.sub_self] at h1
      rw [List.getElem?_append_right (by rw [r.hr.len]; exact Nat.le_refl _), r.hr.len, Nat.sub_self] at h2
      cases h1; cases h2
      exact hm
  · rw [List.nodup_append]
    exact ⟨r.nd, by simp, fun a ha b hb e => by
      have : b = p := by simpa using hb
      exact np (by rw [← this, ← e]; exact ha)⟩
  · obtain ⟨ps, h1, h2⟩ := r.tb P hP
    exact ⟨ps, k _ _ h1, h2⟩
  · obtain ⟨o, h⟩ := r.zd z hz
    exact ⟨o, k _ _ h⟩
/-- a known object is changed -/
theorem RS.put (r : RS C α M H) {n : Nat} {a : Addr} {o : HO} {mo : MO} (ha : α[n]? = some a) (hm : MR C α (upd H a o) a mo) (hT : a ∉ C.T) : RS C α (M.set n mo) (upd H a o) ∧ Step C α H α (upd H a o) := by
  have ma : a ∈ α := List.mem_of_getElem? ha
  obtain ⟨ua, ea⟩ := r.hr.mem ma
  have st : Step C α H α (upd H a o) := ⟨⟨[], by simp, by simp⟩, fun b u h n _ => by rw [upd_ne (fun e => n (by rw [e]; exact ma))]; exact h, fun b u h => by
    by_cases e : b = a
    · subst e; exact ⟨o, upd_same⟩
    · exact ⟨u, by rw [upd_ne e]; exact h⟩⟩
  refine ⟨⟨⟨by rw [List.length_set]; exact r.hr.len, fun i b u h1 h2 => ?_⟩, r.nd, fun P hP => ?_, fun z hz => ?_, fun p hp => (r.tq p hp).keep (r.tabAt hp) (fun b o h q => by
    rcases q with q | ⟨q, rfl, _⟩
    · rw [upd_ne (fun e => hT (by rw [← e, q]; exact C.T.sub p hp))]; exact h
    · rw [upd_ne (fun e => r.notCode h (by rw [e]; exact ma))]; exact h) fun _ _ _ z => z⟩, st⟩
  · by_cases hi : i = n
    · subst hi
      rw [ha] at h1; cases h1
      rw [List.getElem?_set_self (by rw [← r.hr.len]; exact (List.getElem?_eq_some_iff.mp ha).1)] at h2
      cases h2
      exact hm
    · rw [List.getElem?_set_ne (Ne.symm hi)] at h2
      have ne : b ≠ a := fun e => hi (by subst e; exact nd_ix r.nd h1 ha)
      exact (r.hr.get i b u h1 h2).step st (upd_ne ne)
  · obtain ⟨ps, h1, h2⟩ := r.tb P hP
    exact ⟨ps, by rw [upd_ne (fun e => hT (by rw [← e]; exact hP))]; exact h1, h2⟩
  · obtain ⟨u, h⟩ := r.zd z hz
    exact st.dom z u h
/-- known objects are no tables -/
theorem RS.noT (r : RS C α M H) {n : Nat} {a : Addr} {mo : MO} (ha : α[n]? = some a) (hm : M[n]? = some mo) : a ∉ C.T := fun z => by
  obtain ⟨ps, e, _⟩ := r.tb a z
  have q := r.hr.get n a mo ha hm
  cases mo with
  | lst ds => obtain ⟨xs, e', _⟩ := q; rw [e] at e'; cases e'
  | dK ds => obtain ⟨xs, e', _⟩ := q; rw [e] at e'; cases e'
  | lk t ds => obtain ⟨e', _⟩ := q; rw [e] at e'; cases e'
  | ins D ds => obtain ⟨dx, xs, e', _⟩ := q; rw [e] at e'; cases e'
end
theorem VRs.length {C : Cn} {α : List Addr} {H : Hp} {xs : List V} {ds : List DV} (h : VRs C α H xs ds) : xs.length = ds.length := Paired.length h
end L3

namespace L3
open PySem L2

/-- a lifted exception: its class, its own fields -/
structure LX where
  cls : Addr
  fs : List (Str × D)
def XR (C : Cn) (α : List Addr) (H : Hp) (cls : Value) (d : Option Addr) (x : LX) : Prop :=
  cls = .ref x.cls ∧ ((x.fs = [] ∧ d = none) ∨ ∃ dd ps, d = some dd ∧ H dd = some (.xd ps) ∧ ¬ C.N α dd ∧ Paired (fun (p : Str × V) (q : Str × D) => p.1 = q.1 ∧ VD C.K (C.N α) H p.2 q.2) ps x.fs)
abbrev PD := DV → Mem → Prop
abbrev PXn := LX → Mem → Prop
abbrev LE := Rho → Mem → PD → PXn → Prop
abbrev LT := Rho → Mem → (Bool → Mem → Prop) → PXn → Prop
abbrev LA := Rho → Mem → (List DV → Mem → Prop) → PXn → Prop
/-- the wanted end, lifted, is the wanted end -/
def Kt (C : Cn) (α : List Addr) (H : Hp) (P : PD) (Q : VK) : Prop := ∀ v H' α' d M', Step C α H α' H' → RS C α' M' H' → VR C α' H' v d → P d M' → Q v H'
def KtB (C : Cn) (α : List Addr) (H : Hp) (P : Bool → Mem → Prop) (Q : Bool → Hp → Prop) : Prop := ∀ b H' α' M', Step C α H α' H' → RS C α' M' H' → P b M' → Q b H'
def KtA (C : Cn) (α : List Addr) (H : Hp) (P : List DV → Mem → Prop) (Q : List V → Hp → Prop) : Prop := ∀ vs H' α' ds M', Step C α H α' H' → RS C α' M' H' → VRs C α' H' vs ds → P ds M' → Q vs H'
def Wk (C : Cn) (α : List Addr) (H : Hp) (W : WX) (σ : L2.St) (PX : PXn) : Prop := ∀ cls d H' α' M' x, Step C α H α' H' → RS C α' M' H' → XR C α' H' cls d x → PX x M' → W cls d σ H'
def LoE (C : Cn) (W : WX) (te : TE) (l : LE) : Prop := ∀ ρ M P PX, l ρ M P PX → ∀ Z σ H α Q, VS (C.wz Z) α H σ ρ → RS (C.wz Z) α M H → Kt (C.wz Z) α H P Q → Wk (C.wz Z) α H W σ PX → te σ H Q
def LoT (C : Cn) (W : WX) (te : TT) (l : LT) : Prop := ∀ ρ M P PX, l ρ M P PX → ∀ Z σ H α Q, VS (C.wz Z) α H σ ρ → RS (C.wz Z) α M H → KtB (C.wz Z) α H P Q → Wk (C.wz Z) α H W σ PX → te σ H Q
def LoA (C : Cn) (W : WX) (te : TA) (l : LA) : Prop := ∀ ρ M P PX, l ρ M P PX → ∀ Z σ H α Q, VS (C.wz Z) α H σ ρ → RS (C.wz Z) α M H → KtA (C.wz Z) α H P Q → Wk (C.wz Z) α H W σ PX → te σ H Q
structure LPE (X : Cx) (C : Cn) (W : WX) (e : Expr) (te : TE) (l : LE) : Prop where
  pe : PE X e te
  lo : LoE C W te l
structure LPT (X : Cx) (C : Cn) (W : WX) (e : Expr) (te : TT) (l : LT) : Prop where
  pt : PT X e te
  lo : LoT C W te l
structure LPW (X : Cx) (C : Cn) (W : WX) (e : Expr) (te : TT) (l : LT) : Prop where
  pw : PW X e te
  lo : LoT C W te l
structure LPA (X : Cx) (C : Cn) (W : WX) (es : List Expr) (te : TA) (l : LA) : Prop where
  pa : PA X es te
  lo : LoA C W te l
section
variable {C : Cn} {W : WX} {α α' : List Addr} {H H' : Hp} {σ : L2.St} {M M' : Mem} {P : PD} {PX : PXn} {Q : VK}
theorem Kt.step (k : Kt C α H P Q) (s : Step C α H α' H') : Kt C α' H' P Q := fun v H2 α2 d M2 s2 r q p => k v H2 α2 d M2 (s.trans s2) r q p
theorem KtB.step {P : Bool → Mem → Prop} {Q : Bool → Hp → Prop} (k : KtB C α H P Q) (s : Step C α H α' H') : KtB C α' H' P Q := fun v H2 α2 M2 s2 r p => k v H2 α2 M2 (s.trans s2) r p
theorem KtA.step {P : List DV → Mem → Prop} {Q : List V → Hp → Prop} (k : KtA C α H P Q) (s : Step C α H α' H') : KtA C α' H' P Q := fun v H2 α2 d M2 s2 r q p => k v H2 α2 d M2 (s.trans s2) r q p
theorem Wk.step (k : Wk C α H W σ PX) (s : Step C α H α' H') : Wk C α' H' W σ PX := fun c d H2 α2 M2 x s2 r q p => k c d H2 α2 M2 x (s.trans s2) r q p
theorem Kt.now (k : Kt C α H P Q) (r : RS C α M H) {v : V} {d : DV} (q : VR C α H v d) (p : P d M) : Q v H := k v H α d M Step.refl r q p
/-- one, then what is done with it -/
theorem LoE.bind {te : TE} {l : LE} (h : LoE C W te l) {Z : List Addr} {ρ : Rho} {R : PD} (g : l ρ M R PX) (vs : VS (C.wz Z) α H σ ρ) (r : RS (C.wz Z) α M H) (wk : Wk (C.wz Z) α H W σ PX) {Q : VK}
    (f : ∀ v H' α' d M', Step (C.wz Z) α H α' H' → RS (C.wz Z) α' M' H' → VR (C.wz Z) α' H' v d → R d M' → VS (C.wz Z) α' H' σ ρ → Wk (C.wz Z) α' H' W σ PX → Q v H') : te σ H Q :=
  h ρ M R PX g Z σ H α Q vs r (fun v H' α' d M' s r' q p => f v H' α' d M' s r' q p (vs.step s) (wk.step s)) wk
theorem LoT.bind {te : TT} {l : LT} (h : LoT C W te l) {Z : List Addr} {ρ : Rho} {R : Bool → Mem → Prop} (g : l ρ M R PX) (vs : VS (C.wz Z) α H σ ρ) (r : RS (C.wz Z) α M H) (wk : Wk (C.wz Z) α H W σ PX) {Q : Bool → Hp → Prop}
    (f : ∀ b H' α' M', Step (C.wz Z) α H α' H' → RS (C.wz Z) α' M' H' → R b M' → VS (C.wz Z) α' H' σ ρ → Wk (C.wz Z) α' H' W σ PX → Q b H') : te σ H Q :=
  h ρ M R PX g Z σ H α Q vs r (fun b H' α' M' s r' p => f b H' α' M' s r' p (vs.step s) (wk.step s)) wk
theorem LoA.bind {te : TA} {l : LA} (h : LoA C W te l) {Z : List Addr} {ρ : Rho} {R : List DV → Mem → Prop} (g : l ρ M R PX) (vs : VS (C.wz Z) α H σ ρ) (r : RS (C.wz Z) α M H) (wk : Wk (C.wz Z) α H W σ PX) {Q : List V → Hp → Prop}
    (f : ∀ us H' α' ds M', Step (C.wz Z) α H α' H' → RS (C.wz Z) α' M' H' → VRs (C.wz Z) α' H' us ds → R ds M' → VS (C.wz Z) α' H' σ ρ → Wk (C.wz Z) α' H' W σ PX → Q us H') : te σ H Q :=
  h ρ M R PX g Z σ H α Q vs r (fun v H' α' d M' s r' q p => f v H' α' d M' s r' q p (vs.step s) (wk.step s)) wk
end

/-! ### names, constants -/
def lVar (i : Nat) : LE := fun ρ M P _ => ∃ d, ρ[i]? = some (some d) ∧ P d M
def lC (d : D) : LE := fun _ M P _ => P (.dat d) M
section
variable {X : Cx} {C : Cn} {W : WX} {pos : Pos}
theorem lo_var {i : Nat} : LoE C W (tVar i) (lVar i) := fun ρ M P PX ⟨d, e, p⟩ Z σ H α Q vs r k wk =>
  let ⟨v, ev, q⟩ := vs.get i d e
  ⟨v, ev, k.now r q p⟩
theorem lo_c {v : V} {d : D} (h : ∀ Z α H, VD C.K ((C.wz Z).N α) H v d) : LoE C W (tC v) (lC d) := fun ρ M P PX p Z σ H α Q vs r k wk => k.now (d := .dat d) r (h Z α H) p
theorem lp_var (i : Nat) {x : Str} {pos : Pos} (hN : X.N[i]? = some x := by rfl) (hv : Vis X.env.scope x := by first | exact Or.inl rfl | exact Or.inr (Or.inl rfl) | exact Or.inr (Or.inr rfl)) (hd : (x == ("__debug__" : Str)) = false := by decide)
    (hcd : (x == ("__classdict__" : Str)) = false := by decide) : LPE X C W (.Name x pos) (tVar i) (lVar i) := ⟨pv i hN hv hd hcd, lo_var⟩
theorem lp_int {i j} : LPE X C W (.Constant (.int i) j pos) (tC (.int i)) (lC (.int i)) := ⟨pe_int, lo_c fun _ _ _ => .int i⟩
theorem lp_bl {b j} : LPE X C W (.Constant (.bool b) j pos) (tC (.bl b)) (lC (.bl b)) := ⟨pe_bl, lo_c fun _ _ _ => .bl b⟩
theorem lp_non {j} : LPE X C W (.Constant .none j pos) (tC .non) (lC .non) := ⟨pe_non, lo_c fun _ _ _ => .non⟩
theorem lp_str {x j} : LPE X C W (.Constant (.str x) j pos) (tC (.str x)) (lC (.str x)) := ⟨pe_str, lo_c fun _ _ _ => .str x⟩
/-- a constant of the module -/
theorem lp_glob {x : Str} {v : V} {u : Value} {d : D} (hg : Gl X x) (hm : X.mg x = some u) (rv : RelV v u) (h : ∀ Z α H, VD C.K ((C.wz Z).N α) H v d) (hd : (x == ("__debug__" : Str)) = false := by decide) : LPE X C W (.Name x pos) (tC v) (lC d) := ⟨pe_glob hg hm rv hd, lo_c h⟩
theorem lp_gint {x : Str} {i : Int} {t : Tok} (hg : Gl X x) (hm : X.mg x = some (.int i t)) (hd : (x == ("__debug__" : Str)) = false := by decide) : LPE X C W (.Name x pos) (tC (.int i)) (lC (.int i)) := lp_glob hg hm ⟨t, rfl⟩ (fun _ _ _ => .int i) hd
theorem lp_gstr {x : Str} {i : Str} {t : Tok} (hg : Gl X x) (hm : X.mg x = some (.str i t)) (hd : (x == ("__debug__" : Str)) = false := by decide) : LPE X C W (.Name x pos) (tC (.str i)) (lC (.str i)) := lp_glob hg hm ⟨t, rfl⟩ (fun _ _ _ => .str i) hd
end

/-! ### operators by values -/
def Lo1 (C : Cn) (r : V → Hp → VK → Prop) (lr : DV → Mem → PD → Prop) : Prop := ∀ x M P, lr x M P → ∀ Z α H v Q, RS (C.wz Z) α M H → VR (C.wz Z) α H v x → Kt (C.wz Z) α H P Q → r v H Q
def Lo2 (C : Cn) (r : R2) (lr : DV → DV → Mem → PD → Prop) : Prop := ∀ x y M P, lr x y M P → ∀ Z α H v u Q, RS (C.wz Z) α M H → VR (C.wz Z) α H v x → VR (C.wz Z) α H u y → Kt (C.wz Z) α H P Q → r v u H Q
def LoL (C : Cn) (r : List V → Hp → VK → Prop) (lr : List DV → Mem → PD → Prop) : Prop := ∀ xs M P, lr xs M P → ∀ Z α H vs Q, RS (C.wz Z) α M H → VRs (C.wz Z) α H vs xs → Kt (C.wz Z) α H P Q → r vs H Q
def lOp (lr : DV → DV → Mem → PD → Prop) (la lb : LE) : LE := fun ρ M P PX => la ρ M (fun x M1 => lb ρ M1 (fun y M2 => lr x y M2 P) PX) PX
def lUn (lr : DV → Mem → PD → Prop) (la : LE) : LE := fun ρ M P PX => la ρ M (fun x M1 => lr x M1 P) PX
section
variable {X : Cx} {C : Cn} {W : WX} {pos : Pos} {a b : Expr} {ta tb : TE} {la lb : LE}
theorem lo_op {r : R2} {lr : DV → DV → Mem → PD → Prop} (hr : Lo2 C r lr) (ha : LoE C W ta la) (hb : LoE C W tb lb) : LoE C W (tOp r ta tb) (lOp lr la lb) := fun ρ M P PX h Z σ H α Q vs rs k wk =>
  ha.bind h vs rs wk fun v H1 α1 x M1 s1 r1 q1 h1 vs1 wk1 => hb.bind h1 vs1 r1 wk1 fun u H2 α2 y M2 s2 r2 q2 h2 vs2 wk2 =>
    hr x y M2 P h2 _ α2 H2 v u Q r2 (q1.step s2) q2 (k.step (s1.trans s2))
theorem lo_un {r : V → Hp → VK → Prop} {lr : DV → Mem → PD → Prop} (hr : Lo1 C r lr) (ha : LoE C W ta la) : LoE C W (tUn r ta) (lUn lr la) := fun ρ M P PX h Z σ H α Q vs rs k wk =>
  ha.bind h vs rs wk fun v H1 α1 x M1 s1 r1 q1 h1 vs1 wk1 => hr x M1 P h1 _ α1 H1 v Q r1 q1 (k.step s1)
theorem lp_op {op : Operator} {r : R2} {lr : DV → DV → Mem → PD → Prop} (ho : OpR X (binaryOp op) r) (hr : Lo2 C r lr) (ha : LPE X C W a ta la) (hb : LPE X C W b tb lb) : LPE X C W (.BinOp a op b pos) (tOp r ta tb) (lOp lr la lb) := ⟨pe_op ho ha.pe hb.pe, lo_op hr ha.lo hb.lo⟩
theorem lp_un {op : UnaryOp} {r : V → Hp → VK → Prop} {lr : DV → Mem → PD → Prop} (ho : UnR X (unaryOp op) r) (hr : Lo1 C r lr) (ha : LPE X C W a ta la) : LPE X C W (.UnaryOp op a pos) (tUn r ta) (lUn lr la) := ⟨pe_un ho ha.pe, lo_un hr ha.lo⟩
theorem lp_cmp {op : CmpOp} {r : R2} {lr : DV → DV → Mem → PD → Prop} (ho : OpR X (compareOp op) r) (hr : Lo2 C r lr) (ha : LPE X C W a ta la) (hb : LPE X C W b tb lb) (hm : behindInMarks op b = false) : LPE X C W (.Compare a [op] [b] pos) (tOp r ta tb) (lOp lr la lb) :=
  ⟨pe_cmpR ho ha.pe hb.pe hm, lo_op hr ha.lo hb.lo⟩
def lTest (l : LE) : LT := fun ρ M P PX => l ρ M (fun x M' => ∃ k, x = .bl k ∧ P k M') PX
theorem lo_test {te : TE} {l : LE} (h : LoE C W te l) : LoT C W (tTest te) (lTest l) := fun ρ M P PX g Z σ H α Q vs rs k wk =>
  h.bind g vs rs wk fun v H1 α1 x M1 s1 r1 q1 h1 vs1 wk1 => by
    obtain ⟨b, rfl, p⟩ := h1
    cases q1
    exact ⟨b, rfl, k b H1 α1 M1 s1 r1 p⟩
theorem lo_tB {te : TE} {l : LE} (h : LoE C W te l) : LoT C W (tB te) (lTest l) := lo_test h
theorem lpt_cmp {op : CmpOp} {r : R2} {lr : DV → DV → Mem → PD → Prop} (ho : OpR X (compareOp op) r) (hr : Lo2 C r lr) (ha : LPE X C W a ta la) (hb : LPE X C W b tb lb) (hm : behindInMarks op b = false) : LPT X C W (.Compare a [op] [b] pos) (tTest (tOp r ta tb)) (lTest (lOp lr la lb)) :=
  ⟨pt_cmpR ho ha.pe hb.pe hm, lo_test (lo_op hr ha.lo hb.lo)⟩
theorem lpt_val {e : Expr} {t : TE} {l : LE} (h : LPE X C W e t l) (he : ∀ whole, isTrue e X.env whole = (do let v ← whole; standAt e.pos; holding [v] (truthy v)) := by intro _; rfl) : LPT X C W e (tB t) (lTest l) := ⟨pt_val h.pe he, lo_tB h.lo⟩
/-! ### and, or, not, if -/
variable {tA tB' : TT} {lA lB : LT} {rest : List Expr} {c : Expr}
def lAnd (t u : LT) : LT := fun ρ M P PX => t ρ M (fun b M1 => if b = true then u ρ M1 P PX else P false M1) PX
def lOr (t u : LT) : LT := fun ρ M P PX => t ρ M (fun b M1 => if b = true then P true M1 else u ρ M1 P PX) PX
def lNot (t : LT) : LT := fun ρ M P PX => t ρ M (fun b M1 => P (!b) M1) PX
theorem lo_and (ha : LoT C W tA lA) (hb : LoT C W tB' lB) : LoT C W (tAnd tA tB') (lAnd lA lB) := fun ρ M P PX g Z σ H α Q vs rs k wk =>
  ha.bind g vs rs wk fun b H1 α1 M1 s1 r1 h1 vs1 wk1 => by
    cases b with
    | true => exact hb ρ M1 P PX h1 _ σ H1 α1 Q vs1 r1 (k.step s1) wk1
    | false => exact k false H1 α1 M1 s1 r1 h1
theorem lo_or (ha : LoT C W tA lA) (hb : LoT C W tB' lB) : LoT C W (tOr tA tB') (lOr lA lB) := fun ρ M P PX g Z σ H α Q vs rs k wk =>
  ha.bind g vs rs wk fun b H1 α1 M1 s1 r1 h1 vs1 wk1 => by
    cases b with
    | true => exact k true H1 α1 M1 s1 r1 h1
    | false => exact hb ρ M1 P PX h1 _ σ H1 α1 Q vs1 r1 (k.step s1) wk1
theorem lo_not (ha : LoT C W tA lA) : LoT C W (tNot tA) (lNot lA) := fun ρ M P PX g Z σ H α Q vs rs k wk =>
  ha.bind g vs rs wk fun b H1 α1 M1 s1 r1 h1 vs1 wk1 => k (!b) H1 α1 M1 s1 r1 h1
theorem lpw_and1 (ha : LPT X C W a tA lA) : LPW X C W (.BoolOp .And [a] pos) tA lA := ⟨pw_and1 ha.pt, ha.lo⟩
theorem lpw_or1 (ha : LPT X C W a tA lA) : LPW X C W (.BoolOp .Or [a] pos) tA lA := ⟨pw_or1 ha.pt, ha.lo⟩
theorem lpw_and (ha : LPT X C W a tA lA) (hb : LPW X C W (.BoolOp .And (b :: rest) pos) tB' lB) : LPW X C W (.BoolOp .And (a :: b :: rest) pos) (tAnd tA tB') (lAnd lA lB) := ⟨pw_and ha.pt hb.pw, lo_and ha.lo hb.lo⟩
theorem lpw_or (ha : LPT X C W a tA lA) (hb : LPW X C W (.BoolOp .Or (b :: rest) pos) tB' lB) : LPW X C W (.BoolOp .Or (a :: b :: rest) pos) (tOr tA tB') (lOr lA lB) := ⟨pw_or ha.pt hb.pw, lo_or ha.lo hb.lo⟩
theorem LPW.lpt (h : LPW X C W a tA lA) : LPT X C W a tA lA := ⟨h.pw.pt, h.lo⟩
theorem lpt_not (ha : LPT X C W a tA lA) : LPT X C W (.UnaryOp .Not a pos) (tNot tA) (lNot lA) := ⟨pt_not ha.pt, lo_not ha.lo⟩
def lAndV (ta tb : LE) : LE := fun ρ M P PX => ta ρ M (fun x M1 => ∃ c, x = .bl c ∧ if c = true then tb ρ M1 P PX else P (.bl false) M1) PX
def lOrV (ta tb : LE) : LE := fun ρ M P PX => ta ρ M (fun x M1 => ∃ c, x = .bl c ∧ if c = true then P (.bl true) M1 else tb ρ M1 P PX) PX
def lNotV (ta : LE) : LE := fun ρ M P PX => ta ρ M (fun x M1 => ∃ c, x = .bl c ∧ P (.bl (!c)) M1) PX
theorem lo_andV (ha : LoE C W ta la) (hb : LoE C W tb lb) : LoE C W (tAndV ta tb) (lAndV la lb) := fun ρ M P PX g Z σ H α Q vs rs k wk =>
  ha.bind g vs rs wk fun v H1 α1 x M1 s1 r1 q1 h1 vs1 wk1 => by
    obtain ⟨b, rfl, h1⟩ := h1
    cases q1
    refine ⟨b, rfl, ?_⟩
    cases b with
    | true => exact hb ρ M1 P PX h1 _ σ H1 α1 Q vs1 r1 (k.step s1) wk1
    | false => exact (k.step s1).now r1 (d := .bl false) (.bl false) h1
theorem lo_orV (ha : LoE C W ta la) (hb : LoE C W tb lb) : LoE C W (tOrV ta tb) (lOrV la lb) := fun ρ M P PX g Z σ H α Q vs rs k wk =>
  ha.bind g vs rs wk fun v H1 α1 x M1 s1 r1 q1 h1 vs1 wk1 => by
    obtain ⟨b, rfl, h1⟩ := h1
    cases q1
    refine ⟨b, rfl, ?_⟩
    cases b with
    | true => exact (k.step s1).now r1 (d := .bl true) (.bl true) h1
    | false => exact hb ρ M1 P PX h1 _ σ H1 α1 Q vs1 r1 (k.step s1) wk1
theorem lo_notV (ha : LoE C W ta la) : LoE C W (tNotV ta) (lNotV la) := fun ρ M P PX g Z σ H α Q vs rs k wk =>
  ha.bind g vs rs wk fun v H1 α1 x M1 s1 r1 q1 h1 vs1 wk1 => by
    obtain ⟨b, rfl, h1⟩ := h1
    cases q1
    exact ⟨b, rfl, (k.step s1).now r1 (d := .bl (!b)) (.bl _) h1⟩
theorem lp_one {op} (h : LPE X C W a ta la) : LPE X C W (.BoolOp op [a] pos) ta la := ⟨pe_one h.pe, h.lo⟩
theorem lp_and (ha : LPE X C W a ta la) (hb : LPE X C W (.BoolOp .And (b :: rest) pos) tb lb) : LPE X C W (.BoolOp .And (a :: b :: rest) pos) (tAndV ta tb) (lAndV la lb) := ⟨pe_and ha.pe hb.pe, lo_andV ha.lo hb.lo⟩
theorem lp_or (ha : LPE X C W a ta la) (hb : LPE X C W (.BoolOp .Or (b :: rest) pos) tb lb) : LPE X C W (.BoolOp .Or (a :: b :: rest) pos) (tOrV ta tb) (lOrV la lb) := ⟨pe_or ha.pe hb.pe, lo_orV ha.lo hb.lo⟩
theorem lp_not (ha : LPE X C W a ta la) : LPE X C W (.UnaryOp .Not a pos) (tNotV ta) (lNotV la) := ⟨pe_not ha.pe, lo_notV ha.lo⟩
def lIf (t : LT) (ta tb : LE) : LE := fun ρ M P PX => t ρ M (fun c M1 => if c = true then ta ρ M1 P PX else tb ρ M1 P PX) PX
theorem lp_if (hc : LPT X C W c tA lA) (ha : LPE X C W a ta la) (hb : LPE X C W b tb lb) : LPE X C W (.IfExp c a b pos) (tIf tA ta tb) (lIf lA la lb) := ⟨pe_ifExp hc.pt ha.pe hb.pe, fun ρ M P PX g Z σ H α Q vs rs k wk =>
  hc.lo.bind g vs rs wk fun c H1 α1 M1 s1 r1 h1 vs1 wk1 => by
    cases c with
    | true => exact ha.lo ρ M1 P PX h1 _ σ H1 α1 Q vs1 r1 (k.step s1) wk1
    | false => exact hb.lo ρ M1 P PX h1 _ σ H1 α1 Q vs1 r1 (k.step s1) wk1⟩
end
section
variable {X : Cx} {C : Cn} {W : WX} {pos : Pos} {e : Expr} {es : List Expr} {te : TE} {le : LE} {ta : TA} {la : LA}
/-! ### arguments, displays -/
def lNil : LA := fun _ M P _ => P [] M
def lCons (l : LE) (r : LA) : LA := fun ρ M P PX => l ρ M (fun x M1 => r ρ M1 (fun xs M2 => P (x :: xs) M2) PX) PX
theorem lpa_nil : LPA X C W [] tNil lNil := ⟨pa_nil, fun ρ M P PX g Z σ H α Q vs rs k wk => k [] H α [] M Step.refl rs .nil g⟩
theorem lo_cons (h1 : LoE C W te le) (h2 : LoA C W ta la) : LoA C W (tCons te ta) (lCons le la) := fun ρ M P PX g Z σ H α Q vs rs k wk =>
  h1.bind g vs rs wk fun v H1 α1 x M1 s1 r1 q1 h1 vs1 wk1 => h2.bind h1 vs1 r1 wk1 fun us H2 α2 ds M2 s2 r2 q2 h2 vs2 wk2 => k _ H2 α2 _ M2 (s1.trans s2) r2 (.cons (q1.step s2) q2) h2
theorem lpa_cons (h : LPE X C W e te le) (hr : LPA X C W es ta la) (hs : starEach (e :: es) X.env = (false, eval e X.env) :: starEach es X.env := by rfl) : LPA X C W (e :: es) (tCons te ta) (lCons le la) := ⟨pa_cons h.pe hr.pa hs, lo_cons h.lo hr.lo⟩
/-- a list of data -/
def AllD (xs : List DV) (ds : List D) : Prop := xs = ds.map DV.dat
theorem VRs.data {α : List Addr} {H : Hp} : ∀ {vs : List V} {ds : List D}, VRs C α H vs (ds.map DV.dat) → VDs C.K (C.N α) H vs ds
  | _, [], .nil => .nil
  | _, d :: ds, .cons h t => .cons h (VRs.data t)
theorem VDs.rs {α : List Addr} {H : Hp} : ∀ {vs : List V} {ds : List D}, VDs C.K (C.N α) H vs ds → VRs C α H vs (ds.map DV.dat)
  | _, _, .nil => .nil
  | _, _, .cons h t => .cons h (VDs.rs t)
/-- (a, b, ..), [a, b, ..]: data -/
def lTup (l : LA) : LE := fun ρ M P PX => l ρ M (fun xs M1 => ∃ ds : List D, xs = ds.map DV.dat ∧ ds.length ≤ sizeLine ∧ P (.dat (.tup ds)) M1) PX
def lLst (l : LA) : LE := fun ρ M P PX => l ρ M (fun xs M1 => ∃ ds : List D, xs = ds.map DV.dat ∧ ds.length ≤ sizeLine ∧ P (.dat (.lst ds)) M1) PX
/-- [a, b, ..], to be changed later -/
def lLstM (l : LA) : LE := fun ρ M P PX => l ρ M (fun xs M1 => xs.length ≤ sizeLine ∧ P (.obj M1.length) (M1 ++ [.lst xs])) PX
theorem lp_tup {x1} (h : LPA X C W es ta la) : LPE X C W (.Tuple es x1 pos) (tTup ta) (lTup la) := ⟨pe_tup h.pa, fun ρ M P PX g Z σ H α Q vs rs k wk =>
  h.lo.bind g vs rs wk fun us H1 α1 xs M1 s1 r1 q1 h1 vs1 wk1 => by
    obtain ⟨ds, rfl, hz, p⟩ := h1
    have q := VRs.data q1
    refine ⟨by rw [q.length]; exact hz, fun p0 hp => ?_⟩
    obtain ⟨r2, s2⟩ := r1.new1 (o := .tup us) hp
    exact k _ _ α1 (.dat (.tup ds)) M1 (s1.trans s2) r2 (.tup (.inl ⟨.inl upd_same, r1.fresh hp⟩) (q.mv s2.mv)) p⟩
theorem lp_lst (h : LPA X C W es ta la) : LPE X C W (.List es pos) (tLst ta) (lLst la) := ⟨pe_lst h.pa, fun ρ M P PX g Z σ H α Q vs rs k wk =>
  h.lo.bind g vs rs wk fun us H1 α1 xs M1 s1 r1 q1 h1 vs1 wk1 => by
    obtain ⟨ds, rfl, hz, p⟩ := h1
    have q := VRs.data q1
    refine ⟨by rw [q.length]; exact hz, fun p0 hp => ?_⟩
    obtain ⟨r2, s2⟩ := r1.new1 (o := .lst us) hp
    exact k _ _ α1 (.dat (.lst ds)) M1 (s1.trans s2) r2 (.lst (.inl ⟨.inl upd_same, r1.fresh hp⟩) (q.mv s2.mv)) p⟩
theorem lp_lstM (h : LPA X C W es ta la) : LPE X C W (.List es pos) (tLst ta) (lLstM la) := ⟨pe_lst h.pa, fun ρ M P PX g Z σ H α Q vs rs k wk =>
  h.lo.bind g vs rs wk fun us H1 α1 xs M1 s1 r1 q1 h1 vs1 wk1 => by
    obtain ⟨hz, p⟩ := h1
    refine ⟨by rw [q1.length]; exact hz, fun p0 hp => ?_⟩
    have st : Step (C.wz Z) α1 H1 (α1 ++ [p0]) (upd H1 p0 (.lst us)) := ⟨⟨[p0], rfl, by simpa using hp⟩, fun b o h _ _ => by rw [upd_ne (ne_of_none h hp)]; exact h, fun b o h => ⟨o, by rw [upd_ne (ne_of_none h hp)]; exact h⟩⟩
    obtain ⟨r2, s2⟩ := r1.newM (o := .lst us) (mo := .lst xs) hp ⟨us, upd_same, q1.step st⟩
    exact k _ _ _ (.obj M1.length) _ (s1.trans s2) r2 ⟨p0, by rw [← r1.hr.len]; simp, rfl⟩ p⟩
/-- calls of built-ins by name -/
def lCB (lr : List DV → Mem → PD → Prop) (l : LA) : LE := fun ρ M P PX => l ρ M (fun xs M1 => lr xs M1 P) PX
theorem lo_cB {r : List V → Hp → VK → Prop} {lr : List DV → Mem → PD → Prop} (hr : LoL C r lr) (ha : LoA C W ta la) : LoE C W (tCB r ta) (lCB lr la) := fun ρ M P PX g Z σ H α Q vs rs k wk =>
  ha.bind g vs rs wk fun us H1 α1 xs M1 s1 r1 q1 h1 vs1 wk1 => hr xs M1 P h1 _ α1 H1 us Q r1 q1 (k.step s1)
theorem lp_callB {x : Str} {id : String} {p : Pos} {r : List V → Hp → VK → Prop} {lr : List DV → Mem → PD → Prop} (hc : CallR X (.builtin id) r) (hl : LoL C r lr) (hg : Gl X x) (hm : X.mg x = none) (hv : bootBuiltins x = some (.builtin id)) (ha : LPA X C W (e :: es) ta la) (hn : x ≠ "__name__" := by decide) (hdb : (x == ("__debug__" : Str)) = false := by decide)
    (he : starEach (e :: es) X.env = (false, eval e X.env) :: starEach es X.env := by rfl) (hpl : (backTo pos (starEach es X.env)).any (·.1) = false := by rfl) : LPE X C W (.Call (.Name x p) (e :: es) [] pos) (tCB r ta) (lCB lr la) := ⟨pe_callB hc hg hm hv ha.pa hn hdb he hpl, lo_cB hl ha.lo⟩
theorem lp_callTy {x : Str} {T : String} {p : Pos} {r : List V → Hp → VK → Prop} {lr : List DV → Mem → PD → Prop} (hc : CallR X (.type T) r) (hl : LoL C r lr) (hg : Gl X x) (hm : X.mg x = none) (hv : bootBuiltins x = some (.type T)) (ha : LPA X C W (e :: es) ta la) (hn : x ≠ "__name__" := by decide) (hdb : (x == ("__debug__" : Str)) = false := by decide)
    (he : starEach (e :: es) X.env = (false, eval e X.env) :: starEach es X.env := by rfl) (hpl : (backTo pos (starEach es X.env)).any (·.1) = false := by rfl) : LPE X C W (.Call (.Name x p) (e :: es) [] pos) (tCB r ta) (lCB lr la) := ⟨pe_callTy hc hg hm hv ha.pa hn hdb he hpl, lo_cB hl ha.lo⟩
end

/-! ### statements -/
/-- what is wanted behind a statement, lifted -/
structure LEnds where
  nx : Rho → Mem → Prop
  rt : PD
  bk : Rho → Mem → Prop := fun _ _ => False
  ct : Rho → Mem → Prop := fun _ _ => False
  ex : LX → Rho → Mem → Prop := fun _ _ _ => False
structure EndsR (C : Cn) (α0 : List Addr) (H0 : Hp) (W : WX) (L : LEnds) (D : Ends) : Prop where
  nx : ∀ σ H α ρ M, Step C α0 H0 α H → VS C α H σ ρ → RS C α M H → L.nx ρ M → D.nx σ H
  rt : ∀ v H α d M, Step C α0 H0 α H → RS C α M H → VR C α H v d → L.rt d M → D.rt v H
  bk : ∀ σ H α ρ M, Step C α0 H0 α H → VS C α H σ ρ → RS C α M H → L.bk ρ M → D.bk σ H
  ct : ∀ σ H α ρ M, Step C α0 H0 α H → VS C α H σ ρ → RS C α M H → L.ct ρ M → D.ct σ H
  ex : ∀ cls d σ H α ρ M x, Step C α0 H0 α H → VS C α H σ ρ → RS C α M H → XR C α H cls d x → L.ex x ρ M → W cls d σ H
theorem EndsR.step {C : Cn} {α α1 : List Addr} {H H1 : Hp} {W : WX} {L : LEnds} {D : Ends} (d : EndsR C α H W L D) (s : Step C α H α1 H1) : EndsR C α1 H1 W L D :=
  ⟨fun σ H2 α2 ρ M s2 => d.nx σ H2 α2 ρ M (s.trans s2), fun v H2 α2 x M s2 => d.rt v H2 α2 x M (s.trans s2), fun σ H2 α2 ρ M s2 => d.bk σ H2 α2 ρ M (s.trans s2), fun σ H2 α2 ρ M s2 => d.ct σ H2 α2 ρ M (s.trans s2),
    fun c dd σ H2 α2 ρ M x s2 => d.ex c dd σ H2 α2 ρ M x (s.trans s2)⟩
abbrev LS := LEnds → Rho → Mem → Prop
def LoS (C : Cn) (W : WX) (ts : TS) (l : LS) : Prop := ∀ L ρ M, l L ρ M → ∀ Z D σ H α, VS (C.wz Z) α H σ ρ → RS (C.wz Z) α M H → EndsR (C.wz Z) α H W L D → ts D σ H
structure LPS (X : Cx) (C : Cn) (W : WX) (st : Stmt) (ts : TS) (l : LS) : Prop where
  ps : PS X st ts
  lo : LoS C W ts l
structure LPSs (X : Cx) (C : Cn) (W : WX) (st : List Stmt) (ts : TS) (l : LS) : Prop where
  ps : PSs X st ts
  lo : LoS C W ts l
/-- exceptions of an expression, at the slots as they stand -/
abbrev LEnds.px (L : LEnds) (ρ : Rho) : PXn := fun x M => L.ex x ρ M
section
variable {X : Cx} {C : Cn} {W : WX} {pos : Pos} {st : Stmt} {rest : List Stmt} {t u : TS} {l m : LS} {e : Expr} {te : TE} {le : LE}
theorem EndsR.wk {L : LEnds} {D : Ends} {α : List Addr} {H : Hp} {σ : L2.St} {ρ : Rho} (d : EndsR C α H W L D) (vs : VS C α H σ ρ) : Wk C α H W σ (L.px ρ) := fun cls dd H' α' M' x s r q p => d.ex cls dd σ H' α' ρ M' x s (vs.step s) r q p
def lNext : LS := fun L ρ M => L.nx ρ M
def lSeq (l m : LS) : LS := fun L ρ M => l { L with nx := m L } ρ M
theorem lpss_nil : LPSs X C W [] tNext lNext := ⟨pss_nil, fun L ρ M h Z D σ H α vs r d => d.nx σ H α ρ M Step.refl vs r h⟩
theorem lo_seq (h1 : LoS C W t l) (h2 : LoS C W u m) : LoS C W (tSeq t u) (lSeq l m) := fun L ρ M h Z D σ H α vs r d =>
  h1 _ ρ M h _ _ σ H α vs r ⟨fun σ1 H1 α1 ρ1 M1 s1 vs1 r1 h' => h2 L ρ1 M1 h' _ D σ1 H1 α1 vs1 r1 (d.step s1), d.rt, d.bk, d.ct, d.ex⟩
theorem lpss_cons (h1 : LPS X C W st t l) (h2 : LPSs X C W rest u m) : LPSs X C W (st :: rest) (tSeq t u) (lSeq l m) := ⟨pss_cons h1.ps h2.ps, lo_seq h1.lo h2.lo⟩
theorem lpss_one (h1 : LPS X C W st t l) : LPSs X C W [st] t l := ⟨pss_one h1.ps, h1.lo⟩
def lBreak : LS := fun L ρ M => L.bk ρ M
def lCont : LS := fun L ρ M => L.ct ρ M
theorem lps_pass : LPS X C W (.Pass pos) tNext lNext := ⟨ps_pass, fun L ρ M h Z D σ H α vs r d => d.nx σ H α ρ M Step.refl vs r h⟩
theorem lps_break : LPS X C W (.Break pos) tBreak lBreak := ⟨ps_break, fun L ρ M h Z D σ H α vs r d => d.bk σ H α ρ M Step.refl vs r h⟩
theorem lps_continue : LPS X C W (.Continue pos) tCont lCont := ⟨ps_continue, fun L ρ M h Z D σ H α vs r d => d.ct σ H α ρ M Step.refl vs r h⟩
def lDrop (le : LE) : LS := fun L ρ M => le ρ M (fun _ M1 => L.nx ρ M1) (L.px ρ)
theorem lps_expr (he : LPE X C W e te le) (hs : swapsWith e none pos.line X.env = pure false := by rfl) : LPS X C W (.Expr e pos) (tDrop te) (lDrop le) := ⟨ps_expr he.pe hs, fun L ρ M h Z D σ H α vs r d =>
  he.lo.bind h vs r (d.wk vs) fun v H1 α1 x M1 s1 r1 q1 h1 vs1 wk1 => d.nx σ H1 α1 ρ M1 s1 vs1 r1 h1⟩
/-- what is dropped at a return: the newest objects -/
def okDV (n : Nat) : DV → Bool
  | .dat _ => true
  | .obj k => decide (k < n)
def okMO (n : Nat) : MO → Bool
  | .lst xs => xs.all (okDV n)
  | .dK kvs => kvs.all fun p => okDV n p.2
  | .lk _ kvs => kvs.all fun p => okDV n p.2
  | .ins _ fs => fs.all fun p => okDV n p.2
def lRet (le : LE) : LS := fun L ρ M => le ρ M L.rt (L.px ρ)
theorem lps_ret (he : LPE X C W e te le) : LPS X C W (.Return (some e) pos) (tRet te) (lRet le) := ⟨ps_ret he.pe, fun L ρ M h Z D σ H α vs r d =>
  he.lo.bind h vs r (d.wk vs) fun v H1 α1 x M1 s1 r1 q1 h1 vs1 wk1 => d.rt v H1 α1 x M1 s1 r1 q1 h1⟩
def lRetN : LS := fun L _ M => L.rt .non M
theorem lps_retN : LPS X C W (.Return none pos) tRetN lRetN := ⟨ps_retN, fun L ρ M h Z D σ H α vs r d => d.rt .non H α .non M Step.refl r .non h⟩
def lIfS (c : LT) (t u : LS) : LS := fun L ρ M => c ρ M (fun b M1 => if b = true then t L ρ M1 else u L ρ M1) (L.px ρ)
theorem lps_if {c : Expr} {a b : List Stmt} {tc : TT} {lc : LT} (hc : LPT X C W c tc lc) (ha : LPSs X C W a t l) (hb : LPSs X C W b u m) : LPS X C W (.If c a b pos) (tIfS tc t u) (lIfS lc l m) := ⟨ps_if hc.pt ha.ps hb.ps, fun L ρ M h Z D σ H α vs r d =>
  hc.lo.bind h vs r (d.wk vs) fun b H1 α1 M1 s1 r1 h1 vs1 wk1 => by
    cases b with
    | true => exact ha.lo L ρ M1 h1 _ D σ H1 α1 vs1 r1 (d.step s1)
    | false => exact hb.lo L ρ M1 h1 _ D σ H1 α1 vs1 r1 (d.step s1)⟩
def lNever : LS := fun _ _ _ => False
theorem lps_never : LPS X C W st tNever lNever := ⟨ps_never, fun _ _ _ h => h.elim⟩
theorem lpss_never {sts : List Stmt} : LPSs X C W sts tNever lNever := ⟨pss_never, fun _ _ _ h => h.elim⟩
/-- name = value -/
def lSet (i : Nat) (le : LE) : LS := fun L ρ M => le ρ M (fun x M1 => L.nx (ρ.set i (some x)) M1) (L.px ρ)
theorem VS.set {α : List Addr} {H : Hp} {σ : L2.St} {ρ : Rho} (vs : VS C α H σ ρ) (i : Nat) {v : V} {x : DV} (q : VR C α H v x) : VS C α H (σ.set i (some v)) (ρ.set i (some x)) := by
  refine ⟨by rw [List.length_set, List.length_set]; exact vs.len, fun j d h => ?_⟩
  by_cases e : j = i
  · subst e
    by_cases hl : j < ρ.length
    · rw [List.getElem?_set_self hl] at h
      cases h
      exact ⟨v, List.getElem?_set_self (by rw [vs.len]; exact hl), q⟩
    · rw [List.getElem?_eq_none (by rw [List.length_set]; omega)] at h; cases h
  · rw [List.getElem?_set_ne (Ne.symm e)] at h
    rw [List.getElem?_set_ne (Ne.symm e)]
    exact vs.get j d h
theorem lo_set {i : Nat} (he : LoE C W te le) : LoS C W (tAsg te (gName i)) (lSet i le) := fun L ρ M h Z D σ H α vs r d =>
  he.bind h vs r (d.wk vs) fun v H1 α1 x M1 s1 r1 q1 h1 vs1 wk1 => d.nx _ H1 α1 _ M1 s1 (vs1.set i q1) r1 h1
theorem lps_set {i : Nat} {x : Str} {pos' : Pos} (hN : X.N.Nodup) (hi : X.N[i]? = some x) (hx : Loc X.env.scope x) (he : LPE X C W e te le) (hs : swapsWith e (some (.Name x pos')) pos.line X.env = pure false := by rfl) (hf : X.fn x = true ∨ X.env.scope.names.lookup x = some .local := by first | exact .inl rfl | exact .inr rfl | assumption) :
    LPS X C W (.Assign [.Name x pos'] e pos) (tAsg te (gName i)) (lSet i le) := ⟨ps_set hN hi hx he.pe hs hf, lo_set he.lo⟩
/-- name += e: as name = name + e -/
def lAug (i : Nat) (lr : DV → DV → Mem → PD → Prop) (le : LE) : LS := fun L ρ M => ∃ x, ρ[i]? = some (some x) ∧ le ρ M (fun y M1 => lr x y M1 (fun z M2 => L.nx (ρ.set i (some z)) M2)) (L.px ρ)
end
/-! ### targets -/
abbrev LG := DV → Rho → Mem → (Rho → Mem → Prop) → Prop
abbrev LGs := List DV → Rho → Mem → (Rho → Mem → Prop) → Prop
def KtS (C : Cn) (α : List Addr) (H : Hp) (P : Rho → Mem → Prop) (Q : L2.St → Hp → Prop) : Prop := ∀ σ' H' α' ρ' M', Step C α H α' H' → VS C α' H' σ' ρ' → RS C α' M' H' → P ρ' M' → Q σ' H'
def LoG (C : Cn) (tg : TG) (l : LG) : Prop := ∀ x ρ M P, l x ρ M P → ∀ v Z σ H α Q, VR (C.wz Z) α H v x → VS (C.wz Z) α H σ ρ → RS (C.wz Z) α M H → KtS (C.wz Z) α H P Q → tg v σ H Q
def LoGs (C : Cn) (tg : TGs) (l : LGs) : Prop := ∀ x ρ M P, l x ρ M P → ∀ v Z σ H α Q, VRs (C.wz Z) α H v x → VS (C.wz Z) α H σ ρ → RS (C.wz Z) α M H → KtS (C.wz Z) α H P Q → tg v σ H Q
structure LPG (X : Cx) (C : Cn) (e : Expr) (tg : TG) (l : LG) : Prop where
  pg : PG X e tg
  lo : LoG C tg l
structure LPGs (X : Cx) (C : Cn) (es : List Expr) (tg : TGs) (l : LGs) : Prop where
  pg : PGs X es tg
  lo : LoGs C tg l
section
variable {X : Cx} {C : Cn} {W : WX} {pos : Pos} {e : Expr} {es : List Expr} {te : TE} {le : LE} {g : TG} {lg : LG} {gs : TGs} {lgs : LGs}
def lgName (i : Nat) : LG := fun x ρ M P => P (ρ.set i (some x)) M
theorem lo_gName {i : Nat} : LoG C (gName i) (lgName i) := fun x ρ M P h v Z σ H α Q q vs r k => k _ H α _ M Step.refl (vs.set i q) r h
theorem lpg_name {i : Nat} {x : Str} (hN : X.N.Nodup) (hi : X.N[i]? = some x) (hx : Loc X.env.scope x) (hf : X.fn x = true ∨ X.env.scope.names.lookup x = some .local := by first | exact .inl rfl | exact .inr rfl | assumption) : LPG X C (.Name x pos) (gName i) (lgName i) := ⟨pg_name hN hi hx hf, lo_gName⟩
def lgNil : LGs := fun vs ρ M P => vs = [] ∧ P ρ M
def lgCons (t : LG) (u : LGs) : LGs := fun vs ρ M P => ∃ x r, vs = x :: r ∧ t x ρ M fun ρ' M' => u r ρ' M' P
theorem lpgs_nil : LPGs X C [] gNil lgNil := ⟨pgs_nil, fun x ρ M P h v Z σ H α Q q vs r k => by
  obtain ⟨rfl, h⟩ := h
  cases q
  exact ⟨rfl, k σ H α ρ M Step.refl vs r h⟩⟩
theorem lpgs_cons (h1 : LPG X C e g lg) (h2 : LPGs X C es gs lgs) (hs : (assignEach (e :: es) X.env).map (·.2) = assign e X.env :: (assignEach es X.env).map (·.2) := by rfl) : LPGs X C (e :: es) (gCons g gs) (lgCons lg lgs) :=
  ⟨pgs_cons h1.pg h2.pg hs, fun x ρ M P h v Z σ H α Q q vs r k => by
    obtain ⟨d, ds, rfl, h⟩ := h
    cases q with
    | cons q0 qs =>
      rename_i v0 v1
      exact ⟨v0, v1, rfl, h1.lo d ρ M _ h v0 _ σ H α _ q0 vs r fun σ1 H1 α1 ρ1 M1 s1 vs1 r1 p1 =>
        h2.lo ds ρ1 M1 P p1 _ _ σ1 H1 α1 Q (VRs.step qs s1) vs1 r1 fun σ2 H2 α2 ρ2 M2 s2 => k σ2 H2 α2 ρ2 M2 (s1.trans s2)⟩⟩
/-- (a, b, ..) = a tuple of data -/
def lgTup (n : Nat) (t : LGs) : LG := fun v ρ M P => ∃ ds : List D, v = .dat (.tup ds) ∧ ds.length = n ∧ t (ds.map DV.dat) ρ M P
theorem lpg_tup_k0 {k : Nat} {n : Nat} (hc : X.calm = true) (hK : X.K = C.K) (h : LPGs X C es gs lgs) (hn : (assignEach es X.env).length = n := by rfl) (hst : (assignEach es X.env).findIdx? (·.1) = none := by rfl) : LPG X C (.Tuple es k pos) (gTup X.K n gs) (lgTup n lgs) :=
  ⟨pg_tup hc h.pg hn hst, fun x ρ M P g v Z σ H α Q q vs r kk => by
    obtain ⟨ds, rfl, hl, g⟩ := g
    cases q with
    | tup ht hs =>
      rename_i a xs
      exact ⟨a, xs, rfl, by rw [hK]; exact ht.sq, by rw [hs.length]; exact hl, h.lo _ ρ M P g xs _ σ H α Q hs.rs vs r kk⟩⟩
theorem lpg_tup {k : Nat} {n : Nat} (hc : X.calm = true) (hK : X.K = C.K) (h : LPGs X C es gs lgs) (hn : (assignEach es X.env).length = n := by rfl) (hst : (assignEach es X.env).findIdx? (·.1) = none := by rfl) : LPG X C (.Tuple es k pos) (gTup C.K n gs) (lgTup n lgs) := by
  rw [← hK]
  apply lpg_tup_k0 <;> assumption
/-- target = value -/
def lAsg (le : LE) (g : LG) : LS := fun L ρ M => le ρ M (fun x M1 => g x ρ M1 L.nx) (L.px ρ)
theorem lps_asg {tg : Expr} (he : LPE X C W e te le) (hg : LPG X C tg g lg) (hs : swapsWithSole [tg] e pos.line X.env = pure false := by rfl) (hw : swappedStores [tg] e X.env = pure none := by rfl)
    (h1 : (assignEach [tg] X.env).map (·.2) = [assign tg X.env] := by rfl) : LPS X C W (.Assign [tg] e pos) (tAsg te g) (lAsg le lg) := ⟨ps_asg he.pe hg.pg hs hw h1, fun L ρ M h Z D σ H α vs r d =>
  he.lo.bind h vs r (d.wk vs) fun v H1 α1 x M1 s1 r1 q1 h1 vs1 wk1 => hg.lo x ρ M1 _ h1 v _ σ H1 α1 _ q1 vs1 r1 fun σ2 H2 α2 ρ2 M2 s2 vs2 r2 p2 => d.nx σ2 H2 α2 ρ2 M2 (s1.trans s2) vs2 r2 p2⟩
end
end L3

namespace L3
open PySem L2

/-! ### what is dropped: the newest objects -/
section
variable {C : Cn} {α α0 : List Addr} {H H0 : Hp} {M : Mem} {n : Nat}
theorem Mv.take : Mv (C.N α) H (C.N (α.take n)) H := ⟨fun _ _ h _ => h, fun b o h q z => q (z.imp (fun z => List.mem_of_mem_take z) id)⟩
theorem VR.drop {v : V} {d : DV} (r : VR C α H v d) (h : okDV n d = true) : VR C (α.take n) H v d := by
  cases d with
  | dat d => exact VD.mv Mv.take r
  | obj k =>
    obtain ⟨a, e, q⟩ := r
    have hk : k < n := of_decide_eq_true h
    exact ⟨a, by rw [List.getElem?_take_of_lt hk]; exact e, q⟩
theorem VRs.drop : ∀ {xs : List V} {ds : List DV}, VRs C α H xs ds → ds.all (okDV n) = true → VRs C (α.take n) H xs ds
  | _, _, .nil, _ => .nil
  | _, _, .cons r t, h => by
    rw [List.all_cons, Bool.and_eq_true] at h
    exact .cons (r.drop h.1) (VRs.drop t h.2)
theorem KVR.drop {κ : Type} : ∀ {xs : List (κ × V)} {ds : List (κ × DV)}, KVR C α H xs ds → (ds.all fun p => okDV n p.2) = true → KVR C (α.take n) H xs ds
  | _, _, .nil, _ => .nil
  | _, _, .cons r t, h => by
    rw [List.all_cons, Bool.and_eq_true] at h
    exact .cons ⟨r.1, r.2.drop h.1⟩ (KVR.drop t h.2)
theorem MR.drop {a : Addr} {o : MO} (r : MR C α H a o) (h : okMO n o = true) : MR C (α.take n) H a o := by
  cases o with
  | lst ds => obtain ⟨xs, e, q⟩ := r; exact ⟨xs, e, q.drop h⟩
  | dK ds => obtain ⟨xs, e, q⟩ := r; exact ⟨xs, e, KVR.drop q h⟩
  | lk t ds => exact ⟨r.1, KVR.drop r.2 h⟩
  | ins D ds => obtain ⟨dx, xs, e, q⟩ := r; exact ⟨dx, xs, e, KVR.drop q h⟩
theorem RS.drop (r : RS C α M H) (h : (M.take n).all (okMO n) = true) : RS C (α.take n) (M.take n) H := by
  refine ⟨⟨by rw [List.length_take, List.length_take, r.hr.len], fun i a o h1 h2 => ?_⟩, r.nd.sublist (List.take_sublist _ _), r.tb, r.zd, r.tq⟩
  have hi : i < n := by
    have := (List.getElem?_eq_some_iff.mp h1).1
    rw [List.length_take] at this
    omega
  have mo : okMO n o = true := List.all_eq_true.mp h o (List.mem_of_getElem? h2)
  rw [List.getElem?_take_of_lt hi] at h1 h2
  exact (r.hr.get i a o h1 h2).drop mo
theorem Step.drop (s : Step C α0 H0 α H) (h : α0.length ≤ n) : Step C α0 H0 (α.take n) H := by
  obtain ⟨β, e, f⟩ := s.ext
  refine ⟨⟨β.take (n - α0.length), by rw [e, List.take_append, List.take_of_length_le h], fun b hb => f b (List.mem_of_mem_take hb)⟩, s.keep, s.dom⟩
end
def DropD (k : Nat) (P : PD) : PD := fun d M => P d M ∨ ∃ n, k ≤ n ∧ okDV n d = true ∧ (M.take n).all (okMO n) = true ∧ P d (M.take n)
def DropX (k : Nat) (P : PXn) : LX → Rho → Mem → Prop := fun x _ M => P x M ∨ ∃ n, k ≤ n ∧ (M.take n).all (okMO n) = true ∧ P x (M.take n)
theorem DropD.keep {k : Nat} {P : PD} {d : DV} {M : Mem} (n : Nat) (hk : k ≤ n) (hd : okDV n d = true) (hM : (M.take n).all (okMO n) = true) (p : P d (M.take n)) : DropD k P d M := .inr ⟨n, hk, hd, hM, p⟩
theorem XR.drop {C : Cn} {α : List Addr} {H : Hp} {n : Nat} {cls : Value} {d : Option Addr} {x : LX} (r : XR C α H cls d x) : XR C (α.take n) H cls d x := by
  obtain ⟨h1, h2⟩ := r
  refine ⟨h1, h2.imp id fun ⟨dd, ps, e1, e2, e3, e4⟩ => ⟨dd, ps, e1, e2, fun z => e3 (z.imp (fun z => List.mem_of_mem_take z) id), ?_⟩⟩
  exact Paired.mapP e4 fun p q z => ⟨z.1, z.2.mv Mv.take⟩

/-! ### promises -/
abbrev LSp := List DV → Mem → PD → PXn → Prop
def low (K : PySem.W.Frag) (T : Tb) (lsp : LSp) : Sp := fun vs H Q E => ∃ (Z α : List Addr) (ds : List DV) (M : Mem) (P : PD) (PX : PXn), RS ⟨K, T, Z⟩ α M H ∧ VRs ⟨K, T, Z⟩ α H vs ds ∧ lsp ds M P PX ∧ Kt ⟨K, T, Z⟩ α H P Q ∧
  ∀ cls d H' α' M' x, Step ⟨K, T, Z⟩ α H α' H' → RS ⟨K, T, Z⟩ α' M' H' → XR ⟨K, T, Z⟩ α' H' cls d x → PX x M' → E cls d H'
def startL (N : List Str) (ds : List DV) : Rho := ds.map some ++ List.replicate (N.length - ds.length) none
theorem start_vs {C : Cn} {α : List Addr} {H : Hp} {N : List Str} : ∀ {vs : List V} {ds : List DV}, VRs C α H vs ds → VS C α H (L2.start N vs) (startL N ds) := fun {vs ds} r => by
  refine ⟨by unfold L2.start startL; simp [VRs.length r], fun i d h => ?_⟩
  unfold startL at h
  unfold L2.start
  by_cases hi : i < ds.length
  · rw [List.getElem?_append_left (by rw [List.length_map]; exact hi), List.getElem?_map] at h
    rw [List.getElem?_append_left (by rw [List.length_map, VRs.length r]; exact hi), List.getElem?_map]
    have hg : ∀ {vs : List V} {ds : List DV} {i : Nat} {d : DV}, VRs C α H vs ds → ds[i]? = some d → ∃ v, vs[i]? = some v ∧ VR C α H v d := by
      intro vs ds
      induction vs generalizing ds with
      | nil => intro i d r e; cases r; simp at e
      | cons v vs ih =>
        intro i d r e
        cases r with
        | cons r0 rt =>
          cases i with
          | zero => simp at e; subst e; exact ⟨v, rfl, r0⟩
          | succ i => obtain ⟨w, h1, h2⟩ := ih rt (i := i) (by simpa using e); exact ⟨w, by simpa using h1, h2⟩
    cases e : ds[i]? with
    | none => rw [e] at h; simp at h
    | some d' =>
      rw [e] at h
      simp at h
      subst h
      obtain ⟨v, h1, h2⟩ := hg r e
      exact ⟨v, by rw [h1]; rfl, h2⟩
  · rw [List.getElem?_append_right (by rw [List.length_map]; omega), List.getElem?_replicate] at h
    split at h <;> simp at h
abbrev W0 : WX := fun _ _ _ _ => False
abbrev WF (E : XK) : WX := fun cls d _ H => E cls d H
section
variable {P : Program} {w : World} {K : PySem.W.Frag} {mg : Str → Option Value} {base : Heap}
theorem ends_top {C : Cn} {α : List Addr} {H : Hp} {M : Mem} {Q : VK} {P : PD} (hl : α.length = M.length) (kt : Kt C α H P Q) (W : WX) (PX : LX → Rho → Mem → Prop) (hx : ∀ cls d σ H' α' ρ M' x, Step C α H α' H' → VS C α' H' σ ρ → RS C α' M' H' → XR C α' H' cls d x → PX x ρ M' → W cls d σ H') :
    EndsR C α H W { nx := fun _ M' => DropD M.length P .non M', rt := DropD M.length P, ex := PX } { nx := fun _ H' => Q .non H', rt := Q } := by
  have go : ∀ v H' α' d M', Step C α H α' H' → RS C α' M' H' → VR C α' H' v d → DropD M.length P d M' → Q v H' := fun v H' α' d M' s r q p => by
    rcases p with p | ⟨n, hn, hd, hM, p⟩
    · exact kt v H' α' d M' s r q p
    · exact kt v H' (α'.take n) d (M'.take n) (s.drop (by rw [hl]; exact hn)) (r.drop hM) (q.drop hd) p
  exact ⟨fun σ H' α' ρ M' s vs r p => go .non H' α' .non M' s r .non p, fun v H' α' d M' s r q p => go v H' α' d M' s r q p, fun _ _ _ _ _ _ _ _ h => h.elim, fun _ _ _ _ _ _ _ _ h => h.elim, hx⟩
/-- THE RULE for a def that lets nothing out -/
theorem okL {x qual : Str} {st : Stmt} {f : Addr} {fd : FuncData} {N ps : List Str} {k : Nat} {T : Tb} {lsp : LSp} (F : Fun K x qual st f fd) (S : FnScope N ps (defScope st)) (len : ∀ ds M P PX, lsp ds M P PX → ds.length = ps.length)
    (hbody : ∀ (cdv : Value) (A : Around) (outer : List Env) (s : Shared) (H : Hp) (E : XK), Room k (A.deeper (PyProof.Rows.envOfC qual (defScope st) s.heap.objs.size f cdv)) →
      ∃ ts l, LPSs (cxOf CX0 P w K mg base N qual (defScope st) f cdv A outer s H E).nox ⟨K, T, []⟩ W0 (defBody st) ts l ∧ ∀ ds M Pd PX, lsp ds M Pd PX → l { nx := fun _ M' => DropD M.length Pd .non M', rt := DropD M.length Pd } (startL N ds) M) :
    FnOk P w K mg base CX0 (k + 1) f fd ps (low K T lsp) := by
  refine F.ok S (fun vs H Q E h => ?_) (fun cdv A outer s H vs Q E hr h => ?_)
  · obtain ⟨Z, α, ds, M, Pd, PX, _, r, h, _⟩ := h
    rw [VRs.length r]
    exact len _ _ _ _ h
  · obtain ⟨Z, α, ds, M, Pd, PX, rs, r, h, kt, _⟩ := h
    obtain ⟨ts, l, hp, hl⟩ := hbody cdv A outer s H E hr
    exact ⟨ts, hp.ps, hp.lo _ _ _ (hl ds M Pd PX h) Z _ _ H α (start_vs r) rs (ends_top rs.hr.len kt W0 _ fun _ _ _ _ _ _ _ _ _ _ _ _ h => h)⟩
/-- .. for a def that may raise -/
theorem okLX {x qual : Str} {st : Stmt} {f : Addr} {fd : FuncData} {N ps : List Str} {k : Nat} {T : Tb} {lsp : LSp} (F : Fun K x qual st f fd) (S : FnScope N ps (defScope st)) (len : ∀ ds M P PX, lsp ds M P PX → ds.length = ps.length)
    (hbody : ∀ (cdv : Value) (A : Around) (outer : List Env) (s : Shared) (H : Hp) (E : XK), Room k (A.deeper (PyProof.Rows.envOfC qual (defScope st) s.heap.objs.size f cdv)) →
      ∃ ts l, LPSs (cxOf (L2N.CX P w) P w K mg base N qual (defScope st) f cdv A outer s H E) ⟨K, T, []⟩ (WF E) (defBody st) ts l ∧ ∀ ds M Pd PX, lsp ds M Pd PX → l { nx := fun _ M' => DropD M.length Pd .non M', rt := DropD M.length Pd, ex := DropX M.length PX } (startL N ds) M) :
    FnOk P w K mg base (L2N.CX P w) (k + 1) f fd ps (low K T lsp) := by
  obtain ⟨oc, od, kV, doc, pm, an, cdv, ct, osl, rfl, lk, hcd⟩ := F.ex
  refine fn_of lk hcd S (fun vs H Q E h => ?_) (fun A outer s H vs Q E hr h => ?_)
  · obtain ⟨Z, α, ds, M, Pd, PX, _, r, h, _⟩ := h
    rw [VRs.length r]
    exact len _ _ _ _ h
  · obtain ⟨Z, α, ds, M, Pd, PX, rs, r, h, kt, kx⟩ := h
    obtain ⟨ts, l, hp, hl⟩ := hbody cdv A outer s H E hr
    exact ⟨ts, hp.ps, hp.lo _ _ _ (hl ds M Pd PX h) Z _ _ H α (start_vs r) rs (ends_top rs.hr.len kt (WF E) _ fun cls d σ H' α' ρ M' x s _ r q p => by
      rcases p with p | ⟨n, hn, hM, p⟩
      · exact kx cls d H' α' M' x s r q p
      · exact kx cls d H' (α'.take n) (M'.take n) x (s.drop (by rw [rs.hr.len]; exact hn)) (r.drop hM) q.drop p)⟩
end

/-! ### calls: the callee knows some of the objects, by names of its own -/
def ren (f : List Nat) (m k : Nat) : Nat := if k < f.length then f.getD k 0 else m + (k - f.length)
def renDV (f : List Nat) (m : Nat) : DV → DV
  | .dat d => .dat d
  | .obj k => .obj (ren f m k)
def renMO (f : List Nat) (m : Nat) : MO → MO
  | .lst xs => .lst (xs.map (renDV f m))
  | .dK kvs => .dK (kvs.map fun p => (p.1, renDV f m p.2))
  | .lk t kvs => .lk t (kvs.map fun p => (p.1, renDV f m p.2))
  | .ins C fs => .ins C (fs.map fun p => (p.1, renDV f m p.2))
def putAll : List Nat → List MO → Mem → Mem
  | i :: f, o :: os, M => putAll f os (M.set i o)
  | _, _, M => M
def merge (f : List Nat) (M M' : Mem) : Mem := putAll f ((M'.take f.length).map (renMO f M.length)) M ++ (M'.drop f.length).map (renMO f M.length)
def CallSub (lsp : LSp) (ds : List DV) (M : Mem) (P : PD) (PX : PXn) : Prop := ∃ (f : List Nat) (cds : List DV) (cM : Mem), f.Nodup ∧ cds.all (okDV f.length) = true ∧ ds = cds.map (renDV f M.length) ∧ cM.all (okMO f.length) = true ∧
  f.map (fun i => M[i]?) = cM.map (fun o => some (renMO f M.length o)) ∧ lsp cds cM (fun d M' => P (renDV f M.length d) (merge f M M')) (fun x M' => PX x (merge f M M'))
theorem putAll_length : ∀ (f : List Nat) (os : List MO) (M : Mem), (putAll f os M).length = M.length
  | [], _, _ => by unfold putAll; rfl
  | _ :: _, [], _ => by unfold putAll; rfl
  | i :: f, o :: os, M => by
    show (putAll f os (M.set i o)).length = _
    rw [putAll_length f os, List.length_set]
theorem putAll_not : ∀ (f : List Nat) (os : List MO) (M : Mem) (i : Nat), i ∉ f → (putAll f os M)[i]? = M[i]?
  | [], _, _, _, _ => by unfold putAll; rfl
  | _ :: _, [], _, _, _ => by unfold putAll; rfl
  | j :: f, o :: os, M, i, h => by
    show (putAll f os (M.set j o))[i]? = _
    rw [putAll_not f os _ i (fun z => h (List.mem_cons_of_mem _ z)), List.getElem?_set_ne (fun e => h (by rw [e]; exact List.mem_cons_self))]
theorem putAll_at : ∀ (f : List Nat) (os : List MO) (M : Mem) (i j : Nat) (o : MO), f.Nodup → f[j]? = some i → os[j]? = some o → i < M.length → (putAll f os M)[i]? = some o
  | [], _, _, _, _, _, _, h, _, _ => by simp at h
  | _ :: _, [], _, _, _, _, _, _, h, _ => by simp at h
  | k :: f, q :: os, M, i, 0, o, nd, h1, h2, hl => by
    simp at h1 h2
    subst h1 h2
    show (putAll f os (M.set k q))[k]? = _
    rw [putAll_not f os _ k (List.nodup_cons.mp nd).1, List.getElem?_set_self hl]
  | k :: f, q :: os, M, i, j + 1, o, nd, h1, h2, hl => putAll_at f os _ i j o (List.nodup_cons.mp nd).2 (by simpa using h1) (by simpa using h2) (by rw [List.length_set]; exact hl)

section
variable {C : Cn} {α β : List Addr} {H : Hp} {f : List Nat}
/-- the callee's objects, by the caller's addresses -/
def sub (α : List Addr) (f : List Nat) : List Addr := f.map fun i => α.getD i 0
abbrev Cn.inner (C : Cn) (α : List Addr) : Cn := ⟨C.K, C.T, α ++ C.Z⟩
theorem sub_mem (hf : ∀ i ∈ f, i < α.length) {b : Addr} (h : b ∈ sub α f) : b ∈ α := by
  obtain ⟨i, hi, e⟩ := List.mem_map.mp h
  rw [← e, List.getD_eq_getElem?_getD, List.getElem?_eq_getElem (hf i hi)]
  exact List.getElem_mem _
theorem sub_get (hf : ∀ i ∈ f, i < α.length) {j i : Nat} (h : f[j]? = some i) : (sub α f)[j]? = α[i]? := by
  unfold sub
  rw [List.getElem?_map, h]
  have hi := hf i (List.mem_of_getElem? h)
  simp [List.getElem?_eq_getElem hi]
theorem innerN (hf : ∀ i ∈ f, i < α.length) (b : Addr) : (C.inner α).N (sub α f ++ β) b ↔ C.N (α ++ β) b := by
  constructor
  · rintro (z | z | z)
    · rcases List.mem_append.mp z with z | z
      · exact .inl (List.mem_append_left _ (sub_mem hf z))
      · exact .inl (List.mem_append_right _ z)
    · exact .inr (.inl z)
    · rcases List.mem_append.mp z with z | z
      · exact .inl (List.mem_append_left _ z)
      · exact .inr (.inr z)
  · rintro (z | z | z)
    · rcases List.mem_append.mp z with z | z
      · exact .inr (.inr (List.mem_append_left _ z))
      · exact .inl (List.mem_append_right _ z)
    · exact .inr (.inl z)
    · exact .inr (.inr (List.mem_append_right _ z))
theorem VD.congr {K : PySem.W.Frag} {N N' : Addr → Prop} {H : Hp} {v : V} {d : D} (h : ∀ b, N b ↔ N' b) (r : VD K N H v d) : VD K N' H v d := r.mv ⟨fun _ _ e _ => e, fun b _ _ n z => n ((h b).mpr z)⟩
/-- out of the callee -/
theorem VR.out (hf : ∀ i ∈ f, i < α.length) {v : V} {d : DV} (r : VR (C.inner α) (sub α f ++ β) H v d) : VR C (α ++ β) H v (renDV f α.length d) := by
  cases d with
  | dat d => exact VD.congr (innerN hf) r
  | obj k =>
    obtain ⟨a, e, q⟩ := r
    refine ⟨a, ?_, q⟩
    show (α ++ β)[ren f α.length k]? = some a
    unfold ren
    have hs : (sub α f).length = f.length := by unfold sub; rw [List.length_map]
    by_cases hk : k < f.length
    · rw [if_pos hk, List.getD_eq_getElem?_getD, List.getElem?_eq_getElem hk]
      rw [List.getElem?_append_left (by rw [hs]; exact hk), sub_get hf (List.getElem?_eq_getElem hk)] at e
      show (α ++ β)[f[k]]? = some a
      rw [List.getElem?_append_left (hf _ (List.getElem_mem hk))]
      exact e
    · rw [if_neg hk, List.getElem?_append_right (by omega), Nat.add_sub_cancel_left]
      rw [List.getElem?_append_right (by rw [hs]; omega), hs] at e
      exact e
/-- into the callee -/
theorem VR.inn (hf : ∀ i ∈ f, i < α.length) {v : V} {d : DV} (ok : okDV f.length d = true) (r : VR C α H v (renDV f α.length d)) : VR (C.inner α) (sub α f) H v d := by
  have hN : ∀ b, C.N α b ↔ (C.inner α).N (sub α f) b := fun b => by
    have := innerN (C := C) (β := []) hf b
    rw [List.append_nil, List.append_nil] at this
    exact this.symm
  cases d with
  | dat d => exact VD.congr hN r
  | obj k =>
    have hk : k < f.length := of_decide_eq_true ok
    obtain ⟨a, e, q⟩ := r
    refine ⟨a, ?_, q⟩
    rw [sub_get hf (List.getElem?_eq_getElem hk)]
    have e2 : α[ren f α.length k]? = some a := e
    unfold ren at e2
    rw [if_pos hk, List.getD_eq_getElem?_getD, List.getElem?_eq_getElem hk] at e2
    exact e2
theorem VRs.out (hf : ∀ i ∈ f, i < α.length) : ∀ {vs : List V} {ds : List DV}, VRs (C.inner α) (sub α f ++ β) H vs ds → VRs C (α ++ β) H vs (ds.map (renDV f α.length))
  | _, _, .nil => .nil
  | _, _, .cons r t => .cons (r.out hf) (VRs.out hf t)
theorem VRs.inn (hf : ∀ i ∈ f, i < α.length) : ∀ {ds : List DV} {vs : List V}, ds.all (okDV f.length) = true → VRs C α H vs (ds.map (renDV f α.length)) → VRs (C.inner α) (sub α f) H vs ds
  | [], _, _, .nil => .nil
  | d :: ds, _, ok, .cons r t => by
    rw [List.all_cons, Bool.and_eq_true] at ok
    exact .cons (r.inn hf ok.1) (VRs.inn hf ok.2 t)
theorem KVR.out {κ : Type} (hf : ∀ i ∈ f, i < α.length) : ∀ {vs : List (κ × V)} {ds : List (κ × DV)}, KVR (C.inner α) (sub α f ++ β) H vs ds → KVR C (α ++ β) H vs (ds.map fun p => (p.1, renDV f α.length p.2))
  | _, _, .nil => .nil
  | _, _, .cons r t => .cons ⟨r.1, r.2.out hf⟩ (KVR.out hf t)
theorem KVR.inn {κ : Type} (hf : ∀ i ∈ f, i < α.length) : ∀ {ds : List (κ × DV)} {vs : List (κ × V)}, (ds.all fun p => okDV f.length p.2) = true → KVR C α H vs (ds.map fun p => (p.1, renDV f α.length p.2)) → KVR (C.inner α) (sub α f) H vs ds
  | [], _, _, .nil => .nil
  | d :: ds, _, ok, .cons r t => by
    rw [List.all_cons, Bool.and_eq_true] at ok
    exact .cons ⟨r.1, r.2.inn hf ok.1⟩ (KVR.inn hf ok.2 t)
theorem MR.out (hf : ∀ i ∈ f, i < α.length) {a : Addr} {o : MO} (r : MR (C.inner α) (sub α f ++ β) H a o) : MR C (α ++ β) H a (renMO f α.length o) := by
  cases o with
  | lst ds => obtain ⟨xs, e, q⟩ := r; exact ⟨xs, e, q.out hf⟩
  | dK ds => obtain ⟨xs, e, q⟩ := r; exact ⟨xs, e, KVR.out hf q⟩
  | lk t ds => exact ⟨r.1, KVR.out hf r.2⟩
  | ins D ds => obtain ⟨dx, xs, e, q⟩ := r; exact ⟨dx, xs, e, KVR.out hf q⟩
theorem MR.inn (hf : ∀ i ∈ f, i < α.length) {a : Addr} {o : MO} (ok : okMO f.length o = true) (r : MR C α H a (renMO f α.length o)) : MR (C.inner α) (sub α f) H a o := by
  cases o with
  | lst ds => obtain ⟨xs, e, q⟩ := r; exact ⟨xs, e, VRs.inn hf ok q⟩
  | dK ds => obtain ⟨xs, e, q⟩ := r; exact ⟨xs, e, KVR.inn hf ok q⟩
  | lk t ds => exact ⟨r.1, KVR.inn hf ok r.2⟩
  | ins D ds => obtain ⟨dx, xs, e, q⟩ := r; exact ⟨dx, xs, e, KVR.inn hf ok q⟩
end
section
variable {C : Cn} {α α' : List Addr} {H H' : Hp} {M cM M' : Mem} {f : List Nat}
theorem foot_lt (hr : α.length = M.length) (hm : f.map (fun i => M[i]?) = cM.map (fun o => some (renMO f M.length o))) : ∀ i ∈ f, i < α.length := fun i hi => by
  have h1 : M[i]? ∈ f.map (fun i => M[i]?) := List.mem_map.mpr ⟨i, hi, rfl⟩
  rw [hm] at h1
  obtain ⟨o, _, e⟩ := List.mem_map.mp h1
  rw [hr]
  exact (List.getElem?_eq_some_iff.mp e.symm).1
theorem foot_get (hm : f.map (fun i => M[i]?) = cM.map (fun o => some (renMO f M.length o))) {j i : Nat} (hj : f[j]? = some i) : ∃ o, cM[j]? = some o ∧ M[i]? = some (renMO f M.length o) := by
  have h1 : (f.map (fun i => M[i]?))[j]? = some M[i]? := by rw [List.getElem?_map, hj]; rfl
  rw [hm, List.getElem?_map] at h1
  cases e : cM[j]? with
  | none => rw [e] at h1; cases h1
  | some o =>
    rw [e] at h1
    exact ⟨o, rfl, (Option.some.inj h1).symm⟩
theorem RS.inn (r : RS C α M H) (nd : f.Nodup) (ok : cM.all (okMO f.length) = true) (hm : f.map (fun i => M[i]?) = cM.map (fun o => some (renMO f M.length o))) : RS (C.inner α) (sub α f) cM H := by
  have hf := foot_lt r.hr.len hm
  have hl : f.length = cM.length := by
    have := congrArg List.length hm
    rw [List.length_map, List.length_map] at this
    exact this
  refine ⟨⟨by unfold sub; rw [List.length_map]; exact hl, fun n a o h1 h2 => ?_⟩, ?_, r.tb, fun z hz => ?_, fun p hp => (r.tq p hp).keep (r.tabAt hp) (fun _ _ h _ => h) fun b q h n z => (List.mem_append.mp z).elim (r.notCode h) n⟩
  · have hn : n < f.length := by rw [hl]; exact (List.getElem?_eq_some_iff.mp h2).1
    have hj := List.getElem?_eq_getElem hn
    rw [sub_get hf hj] at h1
    obtain ⟨o', e1, e2⟩ := foot_get hm hj
    rw [h2] at e1
    cases e1
    have q := r.hr.get _ a _ h1 e2
    rw [← r.hr.len] at q
    exact q.inn hf (List.all_eq_true.mp ok o (List.mem_of_getElem? h2))
  · unfold sub
    rw [List.Nodup, List.pairwise_map]
    refine List.Pairwise.imp_of_mem ?_ nd
    intro i j hi hj ne e
    have h1 := hf i hi
    have h2 := hf j hj
    rw [List.getD_eq_getElem?_getD, List.getD_eq_getElem?_getD, List.getElem?_eq_getElem h1, List.getElem?_eq_getElem h2] at e
    exact ne ((List.getElem_inj r.nd).mp e)
  · rcases List.mem_append.mp hz with z | z
    · exact r.hr.mem z
    · exact r.zd _ z
theorem RS.out (r : RS C α M H) (hf : ∀ i ∈ f, i < α.length) (nd : f.Nodup) {α1 : List Addr} (s : Step (C.inner α) (sub α f) H α1 H') (r1 : RS (C.inner α) α1 M' H') :
    ∃ β, α1 = sub α f ++ β ∧ RS C (α ++ β) (merge f M M') H' ∧ Step C α H (α ++ β) H' := by
  obtain ⟨β, e, fr⟩ := s.ext
  subst e
  have hs : (sub α f).length = f.length := by unfold sub; rw [List.length_map]
  have hl1 : M'.length = f.length + β.length := by rw [← r1.hr.len, List.length_append, hs]
  have st : Step C α H (α ++ β) H' := ⟨⟨β, rfl, fr⟩, fun b o h n t => s.keep b o h (fun z => n (sub_mem hf z)) t, s.dom⟩
  refine ⟨β, rfl, ⟨⟨?_, fun n a o h1 h2 => ?_⟩, ?_, r1.tb, fun z hz => r1.zd z (List.mem_append_right _ hz), fun p hp => (r1.tq p hp).keep (r1.tabAt hp) (fun _ _ h _ => h) fun b q h n z => n (List.mem_append_right _ z)⟩, st⟩
  · unfold merge
    rw [List.length_append, List.length_append, putAll_length, List.length_map, List.length_drop, r.hr.len]
    omega
  · unfold merge at h2
    by_cases hn : n < α.length
    · rw [List.getElem?_append_left hn] at h1
      rw [List.getElem?_append_left (by rw [putAll_length, ← r.hr.len]; exact hn)] at h2
      by_cases hm : n ∈ f
      · obtain ⟨j, hj, ej⟩ := List.getElem_of_mem hm
        have hj' : f[j]? = some n := by rw [List.getElem?_eq_getElem hj, ej]
        have hjM : j < M'.length := by omega
        have hos : ((M'.take f.length).map (renMO f M.length))[j]? = some (renMO f M.length M'[j]) := by
          rw [List.getElem?_map, List.getElem?_take_of_lt hj, List.getElem?_eq_getElem hjM]
          rfl
        rw [putAll_at f _ M n j _ nd hj' hos (by rw [← r.hr.len]; exact hn)] at h2
        cases h2
        have q := r1.hr.get j a M'[j] (by rw [List.getElem?_append_left (by rw [hs]; exact hj), sub_get hf hj']; exact h1) (List.getElem?_eq_getElem hjM)
        rw [← r.hr.len]
        exact q.out hf
      · rw [putAll_not f _ M n hm] at h2
        have q := r.hr.get n a o h1 h2
        obtain ⟨u, eu⟩ := q.some
        refine q.step st ?_
        rw [eu]
        refine s.keep a u eu (fun z => ?_) (r.noT h1 h2)
        obtain ⟨i, hi, e⟩ := List.mem_map.mp z
        have h3 := hf i hi
        rw [List.getD_eq_getElem?_getD, List.getElem?_eq_getElem h3] at e
        have : n = i := nd_ix r.nd h1 (by rw [List.getElem?_eq_getElem h3]; exact congrArg some e)
        exact hm (by rw [this]; exact hi)
    · rw [List.getElem?_append_right (by omega)] at h1
      rw [List.getElem?_append_right (by rw [putAll_length, ← r.hr.len]; omega), putAll_length, List.getElem?_map, List.getElem?_drop, ← r.hr.len] at h2
      cases e : M'[f.length + (n - α.length)]? with
      | none => rw [e] at h2; cases h2
      | some o' =>
        rw [e] at h2
        cases h2
        exact (r1.hr.get (f.length + (n - α.length)) a o' (by rw [List.getElem?_append_right (by rw [hs]; omega), hs, Nat.add_sub_cancel_left]; exact h1) e).out hf
  · rw [List.nodup_append]
    refine ⟨r.nd, (List.nodup_append.mp r1.nd).2.1, fun a ha b hb e => ?_⟩
    subst e
    obtain ⟨u, eu⟩ := r.hr.mem ha
    rw [fr a hb] at eu
    cases eu
theorem XR.out (hf : ∀ i ∈ f, i < α.length) {β : List Addr} {cls : Value} {d : Option Addr} {x : LX} (r : XR (C.inner α) (sub α f ++ β) H cls d x) : XR C (α ++ β) H cls d x := by
  obtain ⟨h1, h2⟩ := r
  refine ⟨h1, h2.imp id fun ⟨dd, ps, e1, e2, e3, e4⟩ => ⟨dd, ps, e1, e2, fun z => e3 ((innerN hf dd).mpr z), ?_⟩⟩
  exact Paired.mapP e4 fun p q z => ⟨z.1, z.2.congr (innerN hf)⟩
/-- the call: over the whole memory, or over a part of it -/
def CallAt (lsp : LSp) (ds : List DV) (M : Mem) (P : PD) (PX : PXn) : Prop := lsp ds M P PX ∨ CallSub lsp ds M P PX
theorem call_low {lsp : LSp} {ds : List DV} {vs : List V} {P : PD} {PX : PXn} {Q : VK} {E : XK} (h : CallAt lsp ds M P PX) (r : RS C α M H) (q : VRs C α H vs ds) (kt : Kt C α H P Q)
    (kx : ∀ cls d H' α' M' x, Step C α H α' H' → RS C α' M' H' → XR C α' H' cls d x → PX x M' → E cls d H') : low C.K C.T lsp vs H Q E := by
  rcases h with h | ⟨f, cds, cM, nd, okd, e, okm, hm, h⟩
  · exact ⟨C.Z, α, ds, M, P, PX, r, q, h, kt, kx⟩
  subst e
  have hf := foot_lt r.hr.len hm
  rw [← r.hr.len] at q
  refine ⟨α ++ C.Z, sub α f, cds, cM, _, _, r.inn nd okm hm, q.inn hf okd, h, fun v H' α1 d M1 s r1 q1 p => ?_, fun cls d H' α1 M1 x s r1 q1 p => ?_⟩
  · obtain ⟨β, e, r2, s2⟩ := r.out hf nd s r1
    subst e
    refine kt v H' (α ++ β) _ _ s2 r2 ?_ p
    rw [← r.hr.len]
    exact q1.out hf
  · obtain ⟨β, e, r2, s2⟩ := r.out hf nd s r1
    subst e
    exact kx cls d H' (α ++ β) _ x s2 r2 (q1.out hf) p
end
/-- f(..), nothing is let out -/
def lCall (lsp : LSp) (la : LA) : LE := fun ρ M P PX => la ρ M (fun ds M1 => CallAt lsp ds M1 P fun _ _ => False) PX
/-- f(..), what it raises goes on -/
def lCallX (lsp : LSp) (la : LA) : LE := fun ρ M P PX => la ρ M (fun ds M1 => CallAt lsp ds M1 P PX) PX
section
variable {X : Cx} {C : Cn} {W : WX} {CX : CXT} {k : Nat} {f D : Addr} {fd : FuncData} {ps : List Str} {lsp : LSp} {x m : Str} {p pos apos : Pos} {e o : Expr} {es : List Expr} {ta : TA} {la : LA} {to : TE} {lo : LE}
theorem lo_call (ha : LoA C W ta la) : LoE C W (tCall (low C.K C.T lsp) [] E0 ta) (lCall lsp la) := fun ρ M P PX h Z σ H α Q vs rs kt wk =>
  ha.bind h vs rs wk fun us H1 α1 ds M1 s1 r1 q1 h1 vs1 wk1 => by
    rw [List.append_nil]
    exact call_low (C := C.wz Z) h1 r1 q1 (kt.step s1) fun _ _ _ _ _ _ _ _ _ h => h.elim
theorem lp_call_k0 (F : FnOk X.prog X.w X.K X.mg X.base CX0 k f fd ps (low X.K C.T lsp)) (hK : X.K = C.K) (hr : Room k X.A) (hg : Gl X x) (hm : X.mg x = some (.ref f)) (hk : PySem.W.keepIn X.K (.ref f) = true) (hb : Binds X.K fd ps [])
    (ha : LPA X C W (e :: es) ta la) (hdb : (x == ("__debug__" : Str)) = false := by decide) (he : starEach (e :: es) X.env = (false, eval e X.env) :: starEach es X.env := by rfl) (hpl : (backTo pos (starEach es X.env)).any (·.1) = false := by rfl) :
    LPE X C W (.Call (.Name x p) (e :: es) [] pos) (tCall (low X.K C.T lsp) [] E0 ta) (lCall lsp la) := ⟨pe_call F hr hg hm hk hb .nil pass0 ha.pa hdb he hpl, by rw [hK]; exact lo_call ha.lo⟩
theorem lp_call (F : FnOk X.prog X.w X.K X.mg X.base CX0 k f fd ps (low X.K C.T lsp)) (hK : X.K = C.K) (hr : Room k X.A) (hg : Gl X x) (hm : X.mg x = some (.ref f)) (hk : PySem.W.keepIn X.K (.ref f) = true) (hb : Binds X.K fd ps [])
    (ha : LPA X C W (e :: es) ta la) (hdb : (x == ("__debug__" : Str)) = false := by decide) (he : starEach (e :: es) X.env = (false, eval e X.env) :: starEach es X.env := by rfl) (hpl : (backTo pos (starEach es X.env)).any (·.1) = false := by rfl) : LPE X C W (.Call (.Name x p) (e :: es) [] pos) (tCall (low C.K C.T lsp) [] E0 ta) (lCall lsp la) := by
  rw [← hK]
  apply lp_call_k0 <;> assumption
theorem lp_call0_k0 (F : FnOk X.prog X.w X.K X.mg X.base CX0 k f fd ps (low X.K C.T lsp)) (hK : X.K = C.K) (hr : Room k X.A) (hg : Gl X x) (hm : X.mg x = some (.ref f)) (hk : PySem.W.keepIn X.K (.ref f) = true) (hb : Binds X.K fd ps [])
    (hdb : (x == ("__debug__" : Str)) = false := by decide) : LPE X C W (.Call (.Name x p) [] [] pos) (tCall (low X.K C.T lsp) [] E0 tNil) (lCall lsp lNil) := ⟨pe_call0 F hr hg hm hk hb .nil pass0 hdb, by rw [hK]; exact lo_call (lpa_nil (X := X)).lo⟩
theorem lp_call0 (F : FnOk X.prog X.w X.K X.mg X.base CX0 k f fd ps (low X.K C.T lsp)) (hK : X.K = C.K) (hr : Room k X.A) (hg : Gl X x) (hm : X.mg x = some (.ref f)) (hk : PySem.W.keepIn X.K (.ref f) = true) (hb : Binds X.K fd ps [])
    (hdb : (x == ("__debug__" : Str)) = false := by decide) : LPE X C W (.Call (.Name x p) [] [] pos) (tCall (low C.K C.T lsp) [] E0 tNil) (lCall lsp lNil) := by
  rw [← hK]
  apply lp_call0_k0 <;> assumption
theorem lo_callX (ha : LoA C W ta la) : LoE C W (tCallS (low C.K C.T lsp) (WE W) ta) (lCallX lsp la) := fun ρ M P PX h Z σ H α Q vs rs kt wk =>
  ha.bind h vs rs wk fun us H1 α1 ds M1 s1 r1 q1 h1 vs1 wk1 => call_low (C := C.wz Z) h1 r1 q1 (kt.step s1) fun cls d H2 α2 M2 x s2 r2 q2 p2 => wk1 cls d H2 α2 M2 x s2 r2 q2 p2
theorem lp_callX_k0 (F : FnOk X.prog X.w X.K X.mg X.base (L2N.CX X.prog X.w) k f fd ps (low X.K C.T lsp)) (hK : X.K = C.K) (tk : Takes X W) (hr : Room k X.A) (hg : Gl X x) (hm : X.mg x = some (.ref f)) (hk : PySem.W.keepIn X.K (.ref f) = true) (hb : Binds X.K fd ps [])
    (ha : LPA X C W (e :: es) ta la) (hdb : (x == ("__debug__" : Str)) = false := by decide) (he : starEach (e :: es) X.env = (false, eval e X.env) :: starEach es X.env := by rfl) (hpl : (backTo pos (starEach es X.env)).any (·.1) = false := by rfl) :
    LPE X C W (.Call (.Name x p) (e :: es) [] pos) (tCallS (low X.K C.T lsp) (WE W) ta) (lCallX lsp la) := ⟨pe_callS F hr hg hm hk hb (fun σ => passAt tk σ) ha.pa hdb he hpl, by rw [hK]; exact lo_callX ha.lo⟩
theorem lp_callX (F : FnOk X.prog X.w X.K X.mg X.base (L2N.CX X.prog X.w) k f fd ps (low X.K C.T lsp)) (hK : X.K = C.K) (tk : Takes X W) (hr : Room k X.A) (hg : Gl X x) (hm : X.mg x = some (.ref f)) (hk : PySem.W.keepIn X.K (.ref f) = true) (hb : Binds X.K fd ps [])
    (ha : LPA X C W (e :: es) ta la) (hdb : (x == ("__debug__" : Str)) = false := by decide) (he : starEach (e :: es) X.env = (false, eval e X.env) :: starEach es X.env := by rfl) (hpl : (backTo pos (starEach es X.env)).any (·.1) = false := by rfl) : LPE X C W (.Call (.Name x p) (e :: es) [] pos) (tCallS (low C.K C.T lsp) (WE W) ta) (lCallX lsp la) := by
  rw [← hK]
  apply lp_callX_k0 <;> assumption
/-- o.m(..) of a known instance of the class at D -/
def lMeth (D : Addr) (m : Str) (lsp : LSp) (lo : LE) (la : LA) : LE := fun ρ M P PX => lo ρ M (fun x M1 => ∃ n fs, x = .obj n ∧ M1[n]? = some (.ins D fs) ∧ fs.lookup m = none ∧ la ρ M1 (fun ds M2 => CallAt lsp (.obj n :: ds) M2 P fun _ _ => False) PX) PX
theorem KVR.lookup_none {α : List Addr} {H : Hp} {m : Str} : ∀ {ps : List (Str × V)} {fs : List (Str × DV)}, KVR C α H ps fs → fs.lookup m = none → ps.lookup m = none
  | _, _, .nil, _ => rfl
  | (n, v) :: ps, (n', d) :: fs, .cons ⟨e, q⟩ t, h => by
    have e' : n = n' := e
    subst e'
    rw [List.lookup_cons] at h ⊢
    split at h
    · cases h
    · exact KVR.lookup_none t h
theorem KVR.lookup_some {α : List Addr} {H : Hp} {m : Str} : ∀ {ps : List (Str × V)} {fs : List (Str × DV)} {d : DV}, KVR C α H ps fs → fs.lookup m = some d → ∃ v, ps.lookup m = some v ∧ VR C α H v d
  | _, _, _, .nil, h => by cases h
  | (n, v) :: ps, (n', d0) :: fs, d, .cons ⟨e, q⟩ t, h => by
    have e' : n = n' := e
    subst e'
    rw [List.lookup_cons] at h ⊢
    split at h
    · cases h; exact ⟨v, rfl, q⟩
    · exact KVR.lookup_some t h
theorem lo_meth (ho : LoE C W to lo) (ha : LoA C W ta la) : LoE C W (tMeth D m (low C.K C.T lsp) [] E0 to ta) (lMeth D m lsp lo la) := fun ρ M P PX h Z σ H α Q vs rs kt wk =>
  ho.bind h vs rs wk fun v H1 α1 x M1 s1 r1 q1 h1 vs1 wk1 => by
    obtain ⟨n, fs, rfl, hn, hl, h1⟩ := h1
    obtain ⟨a, ea, rfl⟩ := q1
    obtain ⟨dx, gs, eh, kv⟩ := r1.hr.get n a _ ea hn
    refine ⟨a, dx, gs, rfl, eh, kv.lookup_none hl, ha.bind h1 vs1 r1 wk1 fun us H2 α2 ds M2 s2 r2 q2 h2 vs2 wk2 => ?_⟩
    rw [List.append_nil]
    exact call_low (C := C.wz Z) h2 r2 (.cons (VR.step (d := .obj n) ⟨a, ea, rfl⟩ s2) q2) (kt.step (s1.trans s2)) fun _ _ _ _ _ _ _ _ _ h => h.elim
theorem lp_meth_k0 {pl : Sem Bool} (he : LPE X C W o to lo) (c : Cls X.K D) (hm : Meth X.K D m f) (F : FnOk X.prog X.w X.K X.mg X.base CX0 k f fd ps (low X.K C.T lsp)) (hK : X.K = C.K) (hr : Room k X.A) (hb : Binds X.K fd ps []) (ha : LPA X C W (e :: es) ta la)
    (hst : starEach (e :: es) X.env = (false, eval e X.env) :: starEach es X.env := by rfl) (hpl : (backTo pos (starEach es X.env)).any (·.1) = false := by rfl)
    (ht : eval (.Call (.Attribute o m apos) (e :: es) [] pos) X.env = (do
      let ov ← eval o X.env
      standAt apos.atName
      let (f, first) ← holding [ov] (getMethod ov m pl)
      callWith pos f first (backTo pos (starEach (e :: es) X.env)) (backToKw pos (keywordEach [] X.env))) := by rfl) :
    LPE X C W (.Call (.Attribute o m apos) (e :: es) [] pos) (tMeth D m (low X.K C.T lsp) [] E0 to ta) (lMeth D m lsp lo la) := ⟨pe_meth he.pe c hm F hr hb .nil pass0 ha.pa hst hpl ht, by rw [hK]; exact lo_meth he.lo ha.lo⟩
theorem lp_meth {pl : Sem Bool} (he : LPE X C W o to lo) (c : Cls X.K D) (hm : Meth X.K D m f) (F : FnOk X.prog X.w X.K X.mg X.base CX0 k f fd ps (low X.K C.T lsp)) (hK : X.K = C.K) (hr : Room k X.A) (hb : Binds X.K fd ps []) (ha : LPA X C W (e :: es) ta la)
    (hst : starEach (e :: es) X.env = (false, eval e X.env) :: starEach es X.env := by rfl) (hpl : (backTo pos (starEach es X.env)).any (·.1) = false := by rfl)
    (ht : eval (.Call (.Attribute o m apos) (e :: es) [] pos) X.env = (do
      let ov ← eval o X.env
      standAt apos.atName
      let (f, first) ← holding [ov] (getMethod ov m pl)
      callWith pos f first (backTo pos (starEach (e :: es) X.env)) (backToKw pos (keywordEach [] X.env))) := by rfl) : LPE X C W (.Call (.Attribute o m apos) (e :: es) [] pos) (tMeth D m (low C.K C.T lsp) [] E0 to ta) (lMeth D m lsp lo la) := by
  rw [← hK]
  apply lp_meth_k0 <;> assumption
theorem lp_meth0_k0 {pl : Sem Bool} (he : LPE X C W o to lo) (c : Cls X.K D) (hm : Meth X.K D m f) (F : FnOk X.prog X.w X.K X.mg X.base CX0 k f fd ps (low X.K C.T lsp)) (hK : X.K = C.K) (hr : Room k X.A) (hb : Binds X.K fd ps [])
    (ht : eval (.Call (.Attribute o m apos) [] [] pos) X.env = (do
      let ov ← eval o X.env
      standAt apos.atName
      let (f, first) ← holding [ov] (getMethod ov m pl)
      callWith pos f first (backTo pos (starEach [] X.env)) (backToKw pos (keywordEach [] X.env))) := by rfl) :
    LPE X C W (.Call (.Attribute o m apos) [] [] pos) (tMeth D m (low X.K C.T lsp) [] E0 to tNil) (lMeth D m lsp lo lNil) := ⟨pe_meth0 he.pe c hm F hr hb .nil pass0 ht, by rw [hK]; exact lo_meth he.lo (lpa_nil (X := X)).lo⟩
theorem lp_meth0 {pl : Sem Bool} (he : LPE X C W o to lo) (c : Cls X.K D) (hm : Meth X.K D m f) (F : FnOk X.prog X.w X.K X.mg X.base CX0 k f fd ps (low X.K C.T lsp)) (hK : X.K = C.K) (hr : Room k X.A) (hb : Binds X.K fd ps [])
    (ht : eval (.Call (.Attribute o m apos) [] [] pos) X.env = (do
      let ov ← eval o X.env
      standAt apos.atName
      let (f, first) ← holding [ov] (getMethod ov m pl)
      callWith pos f first (backTo pos (starEach [] X.env)) (backToKw pos (keywordEach [] X.env))) := by rfl) : LPE X C W (.Call (.Attribute o m apos) [] [] pos) (tMeth D m (low C.K C.T lsp) [] E0 to tNil) (lMeth D m lsp lo lNil) := by
  rw [← hK]
  apply lp_meth0_k0 <;> assumption
/-- C(..): a new instance, then __init__ -/
def lMake (D : Addr) (lsp : LSp) (la : LA) : LE := fun ρ M P PX => la ρ M (fun ds M1 => CallAt lsp (.obj M1.length :: ds) (M1 ++ [.ins D []]) (fun v M2 => v = .non ∧ P (.obj M1.length) M2) fun _ _ => False) PX
theorem lo_make (ha : LoA C W ta la) : LoE C W (tMake D (low C.K C.T lsp) [] E0 ta) (lMake D lsp la) := fun ρ M P PX h Z σ H α Q vs rs kt wk =>
  ha.bind h vs rs wk fun us H1 α1 ds M1 s1 r1 q1 h1 vs1 wk1 => fun x dx hx hdx ne => by
    rw [List.append_nil]
    obtain ⟨r2, s2⟩ := r1.new1 (o := .own x) hdx
    have hx2 : upd H1 dx (.own x) x = none := by rw [upd_ne (Ne.symm ne)]; exact hx
    obtain ⟨r3, s3⟩ := r2.newM (o := .ins D dx []) (mo := .ins D []) hx2 ⟨dx, [], upd_same, .nil⟩
    have st := s2.trans s3
    have hob : VR (C.wz Z) (α1 ++ [x]) (upd (upd H1 dx (.own x)) x (.ins D dx [])) (.ref x) (.obj M1.length) := ⟨x, by rw [← r1.hr.len]; simp, rfl⟩
    refine call_low (C := C.wz Z) h1 r3 (.cons hob (VRs.step q1 st)) (fun v H4 α4 d M4 s4 r4 q4 ⟨e4, p4⟩ => ?_) fun _ _ _ _ _ _ _ _ _ h => h.elim
    subst e4
    cases q4
    exact ⟨rfl, kt _ H4 α4 (.obj M1.length) M4 ((s1.trans st).trans s4) r4 (hob.step s4) p4⟩
theorem lp_make_k0 (Mk0 : Mk X.K D f) (F : FnOk X.prog X.w X.K X.mg X.base CX0 k f fd ps (low X.K C.T lsp)) (hK : X.K = C.K) (hr : Room (k + 1) X.A) (hg : Gl X x) (hm : X.mg x = some (.ref D)) (hb : Binds X.K fd ps [])
    (ha : LPA X C W (e :: es) ta la) (hdb : (x == ("__debug__" : Str)) = false := by decide) (he : starEach (e :: es) X.env = (false, eval e X.env) :: starEach es X.env := by rfl) (hpl : (backTo pos (starEach es X.env)).any (·.1) = false := by rfl) :
    LPE X C W (.Call (.Name x p) (e :: es) [] pos) (tMake D (low X.K C.T lsp) [] E0 ta) (lMake D lsp la) := ⟨pe_make Mk0 F hr hg hm hb .nil pass0 ha.pa hdb he hpl, by rw [hK]; exact lo_make ha.lo⟩
theorem lp_make (Mk0 : Mk X.K D f) (F : FnOk X.prog X.w X.K X.mg X.base CX0 k f fd ps (low X.K C.T lsp)) (hK : X.K = C.K) (hr : Room (k + 1) X.A) (hg : Gl X x) (hm : X.mg x = some (.ref D)) (hb : Binds X.K fd ps [])
    (ha : LPA X C W (e :: es) ta la) (hdb : (x == ("__debug__" : Str)) = false := by decide) (he : starEach (e :: es) X.env = (false, eval e X.env) :: starEach es X.env := by rfl) (hpl : (backTo pos (starEach es X.env)).any (·.1) = false := by rfl) : LPE X C W (.Call (.Name x p) (e :: es) [] pos) (tMake D (low C.K C.T lsp) [] E0 ta) (lMake D lsp la) := by
  rw [← hK]
  apply lp_make_k0 <;> assumption
theorem lp_make0_k0 (Mk0 : Mk X.K D f) (F : FnOk X.prog X.w X.K X.mg X.base CX0 k f fd ps (low X.K C.T lsp)) (hK : X.K = C.K) (hr : Room (k + 1) X.A) (hg : Gl X x) (hm : X.mg x = some (.ref D)) (hb : Binds X.K fd ps [])
    (hdb : (x == ("__debug__" : Str)) = false := by decide) : LPE X C W (.Call (.Name x p) [] [] pos) (tMake D (low X.K C.T lsp) [] E0 tNil) (lMake D lsp lNil) := ⟨pe_make0 Mk0 F hr hg hm hb .nil pass0 hdb, by rw [hK]; exact lo_make (lpa_nil (X := X)).lo⟩
theorem lp_make0 (Mk0 : Mk X.K D f) (F : FnOk X.prog X.w X.K X.mg X.base CX0 k f fd ps (low X.K C.T lsp)) (hK : X.K = C.K) (hr : Room (k + 1) X.A) (hg : Gl X x) (hm : X.mg x = some (.ref D)) (hb : Binds X.K fd ps [])
    (hdb : (x == ("__debug__" : Str)) = false := by decide) : LPE X C W (.Call (.Name x p) [] [] pos) (tMake D (low C.K C.T lsp) [] E0 tNil) (lMake D lsp lNil) := by
  rw [← hK]
  apply lp_make0_k0 <;> assumption
/-- o.f, o.f = e -/
def lFld (lo : LE) (f : Str) : LE := fun ρ M P PX => lo ρ M (fun x M1 => ∃ n D fs d, x = .obj n ∧ M1[n]? = some (.ins D fs) ∧ fs.lookup f = some d ∧ P d M1) PX
end
end L3

namespace L3
open PySem L2

/-! ### fields -/
def putFD (f : Str) (v : DV) : List (Str × DV) → List (Str × DV)
  | [] => [(f, v)]
  | (g, x) :: r => if g = f then (g, v) :: r else (g, x) :: putFD f v r
theorem KVR.putF {C : Cn} {α : List Addr} {H : Hp} {f : Str} {v : V} {d : DV} (q : VR C α H v d) : ∀ {ps : List (Str × V)} {fs : List (Str × DV)}, KVR C α H ps fs → KVR C α H (L2.putF f v ps) (putFD f d fs)
  | _, _, .nil => .cons ⟨rfl, q⟩ .nil
  | (n, x) :: ps, (n', y) :: fs, .cons ⟨e, r⟩ t => by
    have e' : n = n' := e
    subst e'
    show KVR C α H (if n = f then (n, v) :: ps else (n, x) :: L2.putF f v ps) (if n = f then (n, d) :: fs else (n, y) :: putFD f d fs)
    by_cases h : n = f
    · rw [if_pos h, if_pos h]; exact .cons ⟨rfl, q⟩ t
    · rw [if_neg h, if_neg h]; exact .cons ⟨rfl, r⟩ (KVR.putF q t)
theorem KVR.length {κ : Type} {C : Cn} {α : List Addr} {H : Hp} {ps : List (κ × V)} {fs : List (κ × DV)} (h : KVR C α H ps fs) : ps.length = fs.length := Paired.length h
def lFldOf (D : Addr) (lo : LE) (f : Str) : LE := fun ρ M P PX => lo ρ M (fun x M1 => ∃ n fs d, x = .obj n ∧ M1[n]? = some (.ins D fs) ∧ fs.lookup f = some d ∧ P d M1) PX
/-- o.f = e (e first) -/
def lSetFld (D : Addr) (lo lv : LE) (f : Str) : LS := fun L ρ M => lv ρ M (fun y M1 => lo ρ M1 (fun x M2 => ∃ n fs, x = .obj n ∧ M2[n]? = some (.ins D fs) ∧ fs.length < 1000 ∧ L.nx ρ (M2.set n (.ins D (putFD f y fs)))) (L.px ρ)) (L.px ρ)
section
variable {X : Cx} {C : Cn} {W : WX} {D : Addr} {f : Str} {pos pos' : Pos} {o value : Expr} {to tv : TE} {lo lv : LE}
theorem lp_fld_k0 (ho : LPE X C W o to lo) (hK : X.K = C.K) (c : Cls X.K D) (hn : NoAttr X.K D f) (hb : attributeBase o f X.env (eval o X.env) = eval o X.env := by rfl) : LPE X C W (.Attribute o f pos) (tFld X.K to f) (lFldOf D lo f) := ⟨pe_fld ho.pe hb, fun ρ M P PX h Z σ H α Q vs rs k wk =>
  ho.lo.bind h vs rs wk fun v H1 α1 x M1 s1 r1 q1 h1 vs1 wk1 => by
    obtain ⟨n, fs, d, rfl, hM, hl, p⟩ := h1
    obtain ⟨a, ea, rfl⟩ := q1
    obtain ⟨dx, ps, eh, kv⟩ := r1.hr.get n a _ ea hM
    obtain ⟨w, ew, q⟩ := kv.lookup_some hl
    exact ⟨a, D, dx, ps, w, rfl, eh, c, hn, ew, (k.step s1).now r1 q p⟩⟩
theorem lp_fld (ho : LPE X C W o to lo) (hK : X.K = C.K) (c : Cls X.K D) (hn : NoAttr X.K D f) (hb : attributeBase o f X.env (eval o X.env) = eval o X.env := by rfl) : LPE X C W (.Attribute o f pos) (tFld C.K to f) (lFldOf D lo f) := by
  rw [← hK]
  apply lp_fld_k0 <;> assumption
theorem lps_fld_k0 (ho : LPE X C W o to lo) (hv : LPE X C W value tv lv) (hK : X.K = C.K) (c : Cls X.K D) (hn : NoAttr X.K D f) (hs : swapsWith value (some (.Attribute o f pos')) pos.line X.env = pure false := by rfl) : LPS X C W (.Assign [.Attribute o f pos'] value pos) (sFld X.K to tv f) (lSetFld D lo lv f) :=
  ⟨ps_fld ho.pe hv.pe hs, fun L ρ M h Z E σ H α vs r d =>
    hv.lo.bind h vs r (d.wk vs) fun v H1 α1 y M1 s1 r1 q1 h1 vs1 wk1 => ho.lo.bind h1 vs1 r1 wk1 fun u H2 α2 x M2 s2 r2 q2 h2 vs2 wk2 => by
      obtain ⟨n, fs, rfl, hM, hl, p⟩ := h2
      obtain ⟨a, ea, rfl⟩ := q2
      obtain ⟨dx, ps, eh, kv⟩ := r2.hr.get n a _ ea hM
      have st : Step (C.wz Z) α2 H2 α2 (upd H2 a (.ins D dx (L2.putF f v ps))) := (r2.put (mo := .lst []) (o := .lst []) ea ⟨[], upd_same, .nil⟩ (r2.noT ea hM)).2 |> fun _ => ⟨⟨[], by simp, by simp⟩, fun b o h n _ => by rw [upd_ne (fun e => n (by rw [e]; exact List.mem_of_getElem? ea))]; exact h, fun b o h => by
        by_cases e : b = a
        · subst e; exact ⟨_, upd_same⟩
        · exact ⟨o, by rw [upd_ne e]; exact h⟩⟩
      obtain ⟨r3, s3⟩ := r2.put (mo := .ins D (putFD f y fs)) ea ⟨dx, _, upd_same, KVR.putF ((q1.step s2).step st) (KVR.step kv st)⟩ (r2.noT ea hM)
      exact ⟨a, D, dx, ps, rfl, eh, c, hn, by rw [KVR.length kv]; exact hl, d.nx σ _ α2 ρ _ ((s1.trans s2).trans s3) (vs2.step s3) r3 p⟩⟩
theorem lps_fld (ho : LPE X C W o to lo) (hv : LPE X C W value tv lv) (hK : X.K = C.K) (c : Cls X.K D) (hn : NoAttr X.K D f) (hs : swapsWith value (some (.Attribute o f pos')) pos.line X.env = pure false := by rfl) : LPS X C W (.Assign [.Attribute o f pos'] value pos) (sFld C.K to tv f) (lSetFld D lo lv f) := by
  rw [← hK]
  apply lps_fld_k0 <;> assumption
end
/-- writing at a known address -/
theorem put_step {C : Cn} {α : List Addr} {H : Hp} {n : Nat} {a : Addr} {o : HO} (ea : α[n]? = some a) : Step C α H α (upd H a o) := ⟨⟨[], by simp, by simp⟩, fun b u h n _ => by rw [upd_ne (fun e => n (by rw [e]; exact List.mem_of_getElem? ea))]; exact h, fun b u h => by
  by_cases e : b = a
  · subst e; exact ⟨o, upd_same⟩
  · exact ⟨u, by rw [upd_ne e]; exact h⟩⟩

/-! ### dicts with int and text keys -/
def keyD : Key → D
  | .inl i => .int i
  | .inr x => .str x
section
variable {κ : Type} [DecidableEq κ]
def valD (kvs : List (κ × DV)) (k : κ) : Option DV := (kvs.find? fun kv => decide (kv.1 = k)).map (·.2)
def putD (kvs : List (κ × DV)) (k : κ) (v : DV) : List (κ × DV) :=
  if (kvs.any fun kv => decide (kv.1 = k)) = true then kvs.map (fun kv => if kv.1 = k then (kv.1, v) else kv) else kvs ++ [(k, v)]
def dropD (kvs : List (κ × DV)) (k : κ) : List (κ × DV) := kvs.filter fun kv => decide (kv.1 ≠ k)
variable {C : Cn} {α : List Addr} {H : Hp}
theorem KVR.val {k : κ} : ∀ {ps : List (κ × V)} {fs : List (κ × DV)}, KVR C α H ps fs → (valV ps k = none ∧ valD fs k = none) ∨ ∃ v d, valV ps k = some v ∧ valD fs k = some d ∧ VR C α H v d
  | _, _, .nil => .inl ⟨rfl, rfl⟩
  | (n, x) :: ps, (n', y) :: fs, .cons ⟨e, q⟩ t => by
    have e' : n = n' := e
    subst e'
    by_cases h : n = k
    · exact .inr ⟨x, y, by simp [valV, List.find?_cons, h], by simp [valD, List.find?_cons, h], q⟩
    · rcases KVR.val (k := k) t with ⟨h1, h2⟩ | ⟨v, d, h1, h2, h3⟩
      · exact .inl ⟨by rw [valV_neg h]; exact h1, by simpa [valD, List.find?_cons, h] using h2⟩
      · exact .inr ⟨v, d, by rw [valV_neg h]; exact h1, by simpa [valD, List.find?_cons, h] using h2, h3⟩
theorem KVR.any {k : κ} : ∀ {ps : List (κ × V)} {fs : List (κ × DV)}, KVR C α H ps fs → (ps.any fun kv => decide (kv.1 = k)) = (fs.any fun kv => decide (kv.1 = k))
  | _, _, .nil => rfl
  | (n, x) :: ps, (n', y) :: fs, .cons ⟨e, q⟩ t => by
    have e' : n = n' := e
    subst e'
    rw [List.any_cons, List.any_cons, KVR.any t]
theorem KVR.append : ∀ {ps qs : List (κ × V)} {fs gs : List (κ × DV)}, KVR C α H ps fs → KVR C α H qs gs → KVR C α H (ps ++ qs) (fs ++ gs)
  | _, _, _, _, .nil, h => h
  | _, _, _, _, .cons a b, h => .cons a (KVR.append b h)
theorem KVR.mapk {k : κ} {v : V} {d : DV} (q : VR C α H v d) : ∀ {ps : List (κ × V)} {fs : List (κ × DV)}, KVR C α H ps fs → KVR C α H (ps.map (fun kv => if kv.1 = k then (kv.1, v) else kv)) (fs.map (fun kv => if kv.1 = k then (kv.1, d) else kv))
  | _, _, .nil => .nil
  | (n, x) :: ps, (n', y) :: fs, .cons ⟨e, r⟩ t => by
    have e' : n = n' := e
    subst e'
    rw [List.map_cons, List.map_cons]
    refine .cons ?_ (KVR.mapk q t)
    by_cases h : n = k
    · simp only [h, if_true]; exact ⟨trivial, q⟩
    · simp only [h, if_false]; exact ⟨trivial, r⟩
theorem KVR.put {k : κ} {v : V} {d : DV} (q : VR C α H v d) {ps : List (κ × V)} {fs : List (κ × DV)} (h : KVR C α H ps fs) : KVR C α H (putK ps k v) (putD fs k d) := by
  unfold putK putD
  rw [KVR.any h]
  split
  · exact KVR.mapk q h
  · exact KVR.append h (.cons ⟨rfl, q⟩ .nil)
theorem KVR.dropk {k : κ} : ∀ {ps : List (κ × V)} {fs : List (κ × DV)}, KVR C α H ps fs → KVR C α H (dropK ps k) (dropD fs k)
  | _, _, .nil => .nil
  | (n, x) :: ps, (n', y) :: fs, .cons ⟨e, r⟩ t => by
    have e' : n = n' := e
    subst e'
    unfold dropK dropD
    rw [List.filter_cons, List.filter_cons]
    by_cases h : n = k
    · simp only [h, ne_eq, not_true_eq_false, decide_false, Bool.false_eq_true, if_false]; exact KVR.dropk t
    · simp only [h, ne_eq, not_false_eq_true, decide_true, if_true]; exact .cons ⟨rfl, r⟩ (KVR.dropk t)
end
theorem keyD_of {K : PySem.W.Frag} {N : Addr → Prop} {H : Hp} {v : V} {k : Key} (h : VD K N H v (keyD k)) : v = kV k := by
  cases k with
  | inl i => cases h; rfl
  | inr x => cases h; rfl
/-- {} -/
def lDNew : LE := fun _ M P _ => P (.obj M.length) (M ++ [.dK []])
def lDGet (ld ly : LE) : LE := fun ρ M P PX => ld ρ M (fun x M1 => ly ρ M1 (fun y M2 => ∃ n kvs k d, x = .obj n ∧ M2[n]? = some (.dK kvs) ∧ y = .dat (keyD k) ∧ valD kvs k = some d ∧ P d M2) PX) PX
def lDIn (neg : Bool) (ly ld : LE) : LE := fun ρ M P PX => ly ρ M (fun y M1 => ld ρ M1 (fun x M2 => ∃ n kvs k, x = .obj n ∧ M2[n]? = some (.dK kvs) ∧ y = .dat (keyD k) ∧ P (.bl (if neg then !(valD kvs k).isSome else (valD kvs k).isSome)) M2) PX) PX
def lDGet1 (ld ly : LE) : LE := fun ρ M P PX => ld ρ M (fun x M1 => ∃ n kvs, x = .obj n ∧ M1[n]? = some (.dK kvs) ∧ ly ρ M1 (fun y M2 => ∃ k kvs2, M2[n]? = some (.dK kvs2) ∧ y = .dat (keyD k) ∧ P ((valD kvs2 k).getD .non) M2) PX) PX
def lDGet2 (ld ly lz : LE) : LE := fun ρ M P PX => ld ρ M (fun x M1 => ∃ n kvs, x = .obj n ∧ M1[n]? = some (.dK kvs) ∧ ly ρ M1 (fun y M2 => lz ρ M2 (fun z M3 => ∃ k kvs2, M3[n]? = some (.dK kvs2) ∧ y = .dat (keyD k) ∧ P ((valD kvs2 k).getD z) M3) PX) PX) PX
def lDPut (ld ly lv : LE) : LS := fun L ρ M => lv ρ M (fun v M1 => ld ρ M1 (fun x M2 => ly ρ M2 (fun y M3 => ∃ n kvs k, x = .obj n ∧ M3[n]? = some (.dK kvs) ∧ y = .dat (keyD k) ∧ kvs.length < sizeLine ∧ L.nx ρ (M3.set n (.dK (putD kvs k v)))) (L.px ρ)) (L.px ρ)) (L.px ρ)
def lDDel (ld ly : LE) : LS := fun L ρ M => ld ρ M (fun x M1 => ly ρ M1 (fun y M2 => ∃ n kvs k, x = .obj n ∧ M2[n]? = some (.dK kvs) ∧ y = .dat (keyD k) ∧ (valD kvs k).isSome = true ∧ L.nx ρ (M2.set n (.dK (dropD kvs k)))) (L.px ρ)) (L.px ρ)
section
variable {X : Cx} {C : Cn} {W : WX} {pos pos' tpos apos cpos : Pos} {o i e f value : Expr} {td ty tz tv : TE} {ld ly lz lv : LE}
theorem lp_dnew : LPE X C W (.Dict [] [] pos) tDNewK lDNew := ⟨pe_dnewK, fun ρ M P PX h Z σ H α Q vs rs k wk => fun p hp => by
  obtain ⟨r2, s2⟩ := rs.newM (o := .dK []) (mo := .dK []) hp ⟨[], upd_same, .nil⟩
  exact k _ _ _ (.obj M.length) _ s2 r2 ⟨p, by rw [← rs.hr.len]; simp, rfl⟩ h⟩
theorem dget_of {Z : List Addr} {α : List Addr} {H : Hp} {M : Mem} {n : Nat} {a : Addr} {kvs : List (Key × DV)} {k : Key} (r : RS (C.wz Z) α M H) (ea : α[n]? = some a) (hM : M[n]? = some (.dK kvs)) :
    ∃ o : Option V, DGet H a (kV k) o ∧ ((o = none ∧ valD kvs k = none) ∨ ∃ v d, o = some v ∧ valD kvs k = some d ∧ VR (C.wz Z) α H v d) := by
  obtain ⟨ps, eh, kv⟩ := r.hr.get n a _ ea hM
  exact ⟨valV ps k, .k eh, KVR.val kv⟩
theorem dgetL_of {Z : List Addr} {α : List Addr} {H : Hp} {M : Mem} {n : Nat} {a : Addr} {kvs : List (Key × DV)} {k : Key} (r : RS (C.wz Z) α M H) (ea : α[n]? = some a) (hM : M[n]? = some (.dK kvs) ∨ ∃ t, M[n]? = some (.lk t kvs)) :
    ∃ o : Option V, DGet H a (kV k) o ∧ ((o = none ∧ valD kvs k = none) ∨ ∃ v d, o = some v ∧ valD kvs k = some d ∧ VR (C.wz Z) α H v d) := by
  rcases hM with hM | ⟨t, hM⟩
  · exact dget_of r ea hM
  · obtain ⟨eh, kv⟩ := r.hr.get n a _ ea hM
    exact ⟨valV t.2 k, .inl ⟨t.2, k, .inr ⟨t.1, eh⟩, rfl, rfl⟩, KVR.val kv⟩
theorem lp_dget (hu : X.A.units + 1 < cLine) (ho : LPE X C W o td ld) (hi : LPE X C W i ty ly) (hs : NoSl i) : LPE X C W (.Subscript o i pos) (tDGet td ty) (lDGet ld ly) := ⟨pe_dget hu ho.pe hi.pe hs, fun ρ M P PX h Z σ H α Q vs rs k wk =>
  ho.lo.bind h vs rs wk fun v H1 α1 x M1 s1 r1 q1 h1 vs1 wk1 => hi.lo.bind h1 vs1 r1 wk1 fun u H2 α2 y M2 s2 r2 q2 h2 vs2 wk2 => by
    obtain ⟨n, kvs, key, d, rfl, hM, rfl, hv, p⟩ := h2
    obtain ⟨a, ea, rfl⟩ := q1.step s2
    have ey := keyD_of q2
    subst ey
    obtain ⟨oo, hg, hh⟩ := dget_of (k := key) r2 ea hM
    rcases hh with ⟨h3, h4⟩ | ⟨v3, d3, h3, h4, h5⟩
    · rw [hv] at h4; cases h4
    · rw [hv] at h4; cases h4
      subst h3
      exact ⟨a, v3, rfl, hg, (k.step (s1.trans s2)).now r2 h5 p⟩⟩
theorem lo_din (neg : Bool) {tr : TE → TE → TE} (htr : tr = fun ty td => if neg then tDNotIn ty td else tDIn ty td) (hi : LoE C W ty ly) (ho : LoE C W td ld) : LoE C W (tr ty td) (lDIn neg ly ld) := fun ρ M P PX h Z σ H α Q vs rs k wk => by
  subst htr
  have key : ∀ v u H2 α2 y x M2, Step (C.wz Z) α H α2 H2 → RS (C.wz Z) α2 M2 H2 → VR (C.wz Z) α2 H2 u y → VR (C.wz Z) α2 H2 v x → (∃ n kvs k, x = .obj n ∧ M2[n]? = some (.dK kvs) ∧ y = .dat (keyD k) ∧ P (.bl (if neg then !(valD kvs k).isSome else (valD kvs k).isSome)) M2) →
      ∃ a oo, v = .ref a ∧ DGet H2 a u oo ∧ Q (.bl (if neg then !oo.isSome else oo.isSome)) H2 := fun v u H2 α2 y x M2 s r qy qx ⟨n, kvs, ky, e1, hM, e2, p⟩ => by
    subst e1 e2
    obtain ⟨a, ea, rfl⟩ := qx
    have ey := keyD_of qy
    subst ey
    obtain ⟨oo, hg, hh⟩ := dget_of (k := ky) r ea hM
    refine ⟨a, oo, rfl, hg, (k.step s).now r (d := .bl _) (.bl _) ?_⟩
    rcases hh with ⟨h3, h4⟩ | ⟨v3, d3, h3, h4, h5⟩
    · rw [h4] at p; rw [h3]; exact p
    · rw [h4] at p; rw [h3]; exact p
  cases neg with
  | true => exact hi.bind h vs rs wk fun u H1 α1 y M1 s1 r1 q1 h1 vs1 wk1 => ho.bind h1 vs1 r1 wk1 fun v H2 α2 x M2 s2 r2 q2 h2 vs2 wk2 => key v u H2 α2 y x M2 (s1.trans s2) r2 (q1.step s2) q2 h2
  | false => exact hi.bind h vs rs wk fun u H1 α1 y M1 s1 r1 q1 h1 vs1 wk1 => ho.bind h1 vs1 r1 wk1 fun v H2 α2 x M2 s2 r2 q2 h2 vs2 wk2 => key v u H2 α2 y x M2 (s1.trans s2) r2 (q1.step s2) q2 h2
theorem lp_din (hu : X.A.units + 1 < cLine) (hi : LPE X C W i ty ly) (ho : LPE X C W o td ld) (hm : behindInMarks .In o = false := by rfl) : LPE X C W (.Compare i [.In] [o] pos) (tDIn ty td) (lDIn false ly ld) := ⟨pe_cmp (pc_din hu hi.pe ho.pe) hm, lo_din false rfl hi.lo ho.lo⟩
theorem lp_dnotin (hu : X.A.units + 1 < cLine) (hi : LPE X C W i ty ly) (ho : LPE X C W o td ld) (hm : behindInMarks .NotIn o = false := by rfl) : LPE X C W (.Compare i [.NotIn] [o] pos) (tDNotIn ty td) (lDIn true ly ld) := ⟨pe_cmp (pc_dnotin hu hi.pe ho.pe) hm, lo_din true rfl hi.lo ho.lo⟩
theorem lpt_din (hu : X.A.units + 1 < cLine) (hi : LPE X C W i ty ly) (ho : LPE X C W o td ld) (hm : behindInMarks .In o = false := by rfl) : LPT X C W (.Compare i [.In] [o] pos) (tB (tDIn ty td)) (lTest (lDIn false ly ld)) := ⟨pt_cmp (pc_din hu hi.pe ho.pe) hm, lo_tB (lo_din false rfl hi.lo ho.lo)⟩
theorem lpt_dnotin (hu : X.A.units + 1 < cLine) (hi : LPE X C W i ty ly) (ho : LPE X C W o td ld) (hm : behindInMarks .NotIn o = false := by rfl) : LPT X C W (.Compare i [.NotIn] [o] pos) (tB (tDNotIn ty td)) (lTest (lDIn true ly ld)) := ⟨pt_cmp (pc_dnotin hu hi.pe ho.pe) hm, lo_tB (lo_din true rfl hi.lo ho.lo)⟩
theorem lp_dget1 (hu : X.A.units + 1 < cLine) (ho : LPE X C W o td ld) (he : LPE X C W e ty ly) (m : M1 X o "get" apos e cpos) : LPE X C W (.Call (.Attribute o "get" apos) [e] [] cpos) (tDGet1 td ty) (lDGet1 ld ly) := ⟨pe_dget1 hu ho.pe he.pe m, fun ρ M P PX h Z σ H α Q vs rs k wk =>
  ho.lo.bind h vs rs wk fun v H1 α1 x M1 s1 r1 q1 h1 vs1 wk1 => by
    obtain ⟨n, kvs, rfl, hM, h1⟩ := h1
    obtain ⟨a, ea, rfl⟩ := _root_.id q1
    obtain ⟨ps, eh, kv⟩ := r1.hr.get n a _ ea hM
    refine ⟨a, rfl, .inl ⟨ps, .inl eh⟩, he.lo.bind h1 vs1 r1 wk1 fun u H2 α2 y M2 s2 r2 q2 h2 vs2 wk2 => ?_⟩
    obtain ⟨ky, kvs2, hM2, rfl, p⟩ := h2
    obtain ⟨a', ea', e'⟩ := q1.step s2
    cases e'
    have ey := keyD_of q2
    subst ey
    obtain ⟨oo, hg, hh⟩ := dget_of (k := ky) r2 ea' hM2
    refine ⟨oo, hg, (k.step (s1.trans s2)).now (d := (valD kvs2 ky).getD .non) r2 ?_ p⟩
    rcases hh with ⟨h3, h4⟩ | ⟨v3, d3, h3, h4, h5⟩
    · rw [h3, h4]; exact .non
    · rw [h3, h4]; exact h5⟩
theorem lp_dget2 (hu : X.A.units + 1 < cLine) (ho : LPE X C W o td ld) (he : LPE X C W e ty ly) (hf : LPE X C W f tz lz) (m : M2 X o "get" apos e f cpos) : LPE X C W (.Call (.Attribute o "get" apos) [e, f] [] cpos) (tDGet2 td ty tz) (lDGet2 ld ly lz) := ⟨pe_dget2 hu ho.pe he.pe hf.pe m, fun ρ M P PX h Z σ H α Q vs rs k wk =>
  ho.lo.bind h vs rs wk fun v H1 α1 x M1 s1 r1 q1 h1 vs1 wk1 => by
    obtain ⟨n, kvs, rfl, hM, h1⟩ := h1
    obtain ⟨a, ea, rfl⟩ := _root_.id q1
    obtain ⟨ps, eh, kv⟩ := r1.hr.get n a _ ea hM
    refine ⟨a, rfl, .inl ⟨ps, .inl eh⟩, he.lo.bind h1 vs1 r1 wk1 fun u H2 α2 y M2 s2 r2 q2 h2 vs2 wk2 => hf.lo.bind h2 vs2 r2 wk2 fun u3 H3 α3 z M3 s3 r3 q3 h3 vs3 wk3 => ?_⟩
    obtain ⟨ky, kvs2, hM2, rfl, p⟩ := h3
    obtain ⟨a', ea', e'⟩ := q1.step (s2.trans s3)
    cases e'
    have ey := keyD_of (VR.step q2 s3)
    subst ey
    obtain ⟨oo, hg, hh⟩ := dget_of (k := ky) r3 ea' hM2
    refine ⟨oo, hg, (k.step ((s1.trans s2).trans s3)).now (d := (valD kvs2 ky).getD z) r3 ?_ p⟩
    rcases hh with ⟨h3, h4⟩ | ⟨v3, d3, h3, h4, h5⟩
    · rw [h3, h4]; exact q3
    · rw [h3, h4]; exact h5⟩
theorem lps_dput (hu : X.A.units + 1 < cLine) (ho : LPE X C W o td ld) (hi : LPE X C W i ty ly) (hv : LPE X C W value tv lv) (hs : swapsWith value (some (.Subscript o i pos')) pos.line X.env = pure false := by rfl) : LPS X C W (.Assign [.Subscript o i pos'] value pos) (sDPut td ty tv) (lDPut ld ly lv) :=
  ⟨ps_dput hu ho.pe hi.pe hv.pe hs, fun L ρ M h Z E σ H α vs r d =>
    hv.lo.bind h vs r (d.wk vs) fun v H1 α1 y M1 s1 r1 q1 h1 vs1 wk1 => ho.lo.bind h1 vs1 r1 wk1 fun u H2 α2 x M2 s2 r2 q2 h2 vs2 wk2 => hi.lo.bind h2 vs2 r2 wk2 fun w H3 α3 z M3 s3 r3 q3 h3 vs3 wk3 => by
      obtain ⟨n, kvs, ky, rfl, hM, rfl, hl, p⟩ := h3
      obtain ⟨a, ea, rfl⟩ := q2.step s3
      have ey := keyD_of q3
      subst ey
      obtain ⟨ps, eh, kv⟩ := r3.hr.get n a _ ea hM
      have st : Step (C.wz Z) α3 H3 α3 (upd H3 a (.dK (putK ps ky v))) := put_step ea
      obtain ⟨r4, s4⟩ := r3.put (mo := .dK (putD kvs ky y)) ea ⟨_, upd_same, KVR.put ((q1.step (s2.trans s3)).step st) (KVR.step kv st)⟩ (r3.noT ea hM)
      exact ⟨a, _, rfl, .k eh (by rw [KVR.length kv]; exact hl), d.nx σ _ α3 ρ _ (((s1.trans s2).trans s3).trans s4) (vs3.step s4) r4 p⟩⟩
theorem lps_ddel (ho : LPE X C W o td ld) (hi : LPE X C W i ty ly) : LPS X C W (.Delete [.Subscript o i tpos] pos) (sDDel td ty) (lDDel ld ly) :=
  ⟨ps_ddel ho.pe hi.pe, fun L ρ M h Z E σ H α vs r d =>
    ho.lo.bind h vs r (d.wk vs) fun u H2 α2 x M2 s2 r2 q2 h2 vs2 wk2 => hi.lo.bind h2 vs2 r2 wk2 fun w H3 α3 z M3 s3 r3 q3 h3 vs3 wk3 => by
      obtain ⟨n, kvs, ky, rfl, hM, rfl, hl, p⟩ := h3
      obtain ⟨a, ea, rfl⟩ := q2.step s3
      have ey := keyD_of q3
      subst ey
      obtain ⟨ps, eh, kv⟩ := r3.hr.get n a _ ea hM
      have st : Step (C.wz Z) α3 H3 α3 (upd H3 a (.dK (dropK ps ky))) := put_step ea
      obtain ⟨r4, s4⟩ := r3.put (mo := .dK (dropD kvs ky)) ea ⟨_, upd_same, KVR.dropk (KVR.step kv st)⟩ (r3.noT ea hM)
      refine ⟨a, ps, ky, rfl, eh, rfl, ?_, d.nx σ _ α3 ρ _ ((s2.trans s3).trans s4) (vs3.step s4) r4 p⟩
      rcases KVR.val (k := ky) kv with ⟨h3, h4⟩ | ⟨v3, d3, h3, h4, h5⟩
      · rw [h4] at hl; cases hl
      · rw [h3]; rfl⟩
end

/-! ### what is walked: the items are known -/
/-- what was told of (α, H) is so at (α', H') -/
structure Pre (C : Cn) (α : List Addr) (H : Hp) (α' : List Addr) (H' : Hp) : Prop where
  ext : ∃ β, α' = α ++ β
  mv : Mv (C.N α) H (C.N α') H'
theorem Step.pre {C : Cn} {α α' : List Addr} {H H' : Hp} (s : Step C α H α' H') : Pre C α H α' H' := ⟨let ⟨β, e, _⟩ := s.ext; ⟨β, e⟩, s.mv⟩
theorem Mv.trans {N N' N'' : Addr → Prop} {H H' H'' : Hp} (a : Mv N H N' H') (b : Mv N' H' N'' H'') : Mv N H N'' H'' :=
  ⟨fun c o h n => b.keep c o (a.keep c o h n) (a.out c o h n), fun c o h n => b.out c o (a.keep c o h n) (a.out c o h n)⟩
theorem Pre.trans {C : Cn} {α α' α'' : List Addr} {H H' H'' : Hp} (a : Pre C α H α' H') (b : Pre C α' H' α'' H'') : Pre C α H α'' H'' :=
  ⟨let ⟨β, e⟩ := a.ext; let ⟨γ, e'⟩ := b.ext; ⟨β ++ γ, by rw [e', e, List.append_assoc]⟩, a.mv.trans b.mv⟩
theorem Mv.refl {N : Addr → Prop} {H : Hp} : Mv N H N H := ⟨fun _ _ h _ => h, fun _ _ _ n => n⟩
structure ItOk (C : Cn) (α1 : List Addr) (H1 : Hp) (J : It) (items : List DV) (okM : Mem → Prop) : Prop where
  go : ∀ (i : Nat) (α : List Addr) (H : Hp) (M : Mem) (d : DV), Pre C α1 H1 α H → RS C α M H → okM M → items[i]? = some d → J.go i H ∧ ∀ v H', J.yld i H v H' → RS C α M H' ∧ Step C α H α H' ∧ VR C α H' v d
  stop : ∀ (α : List Addr) (H : Hp) (M : Mem), Pre C α1 H1 α H → RS C α M H → okM M → J.stop items.length H
abbrev LW := Rho → Mem → (List DV → (Mem → Prop) → Mem → Prop) → PXn → Prop
def LoW (C : Cn) (W : WX) (wi : TI) (lw : LW) : Prop := ∀ ρ M P PX, lw ρ M P PX → ∀ Z σ H α R, VS (C.wz Z) α H σ ρ → RS (C.wz Z) α M H → Wk (C.wz Z) α H W σ PX →
  (∀ J H' α' items okM M', Step (C.wz Z) α H α' H' → RS (C.wz Z) α' M' H' → (∀ Z' H'', Mv ((C.wz Z).N α') H' ((C.wz Z').N α') H'' → ItOk (C.wz Z') α' H'' J items okM) → okM M' → P items okM M' → R J H') → wi σ H R
structure LPI (X : Cx) (C : Cn) (W : WX) (tg iter : Expr) (wi : TI) (lw : LW) : Prop where
  pi : PI X tg iter wi
  lo : LoW C W wi lw
/-- over a list, a tuple of data -/
def lwSeq (le : LE) : LW := fun ρ M P PX => le ρ M (fun x M1 => ∃ ds, x = .dat (.lst ds) ∧ P (ds.map DV.dat) (fun _ => True) M1) PX
def lwTup (le : LE) : LW := fun ρ M P PX => le ρ M (fun x M1 => ∃ ds, x = .dat (.tup ds) ∧ P (ds.map DV.dat) (fun _ => True) M1) PX
/-- over a known list -/
def lwObj (le : LE) : LW := fun ρ M P PX => le ρ M (fun x M1 => ∃ n xs, x = .obj n ∧ M1[n]? = some (.lst xs) ∧ P xs (fun M => M[n]? = some (.lst xs)) M1) PX
def rangeD (lo : Int) (n : Nat) : List DV := (List.range n).map fun i => .int (lo + (i : Nat))
def lwRng1 (la : LA) : LW := fun ρ M P PX => la ρ M (fun xs M1 => ∃ j : Int, xs = [.int j] ∧ -(2 ^ 62) ≤ j ∧ j < 2 ^ 62 ∧ P (rangeD 0 j.toNat) (fun _ => True) M1) PX
def lwRng2 (la : LA) : LW := fun ρ M P PX => la ρ M (fun xs M1 => ∃ i j : Int, xs = [.int i, .int j] ∧ (-(2 ^ 62) ≤ i ∧ i < 2 ^ 62 ∧ -(2 ^ 62) ≤ j ∧ j < 2 ^ 62) ∧ P (rangeD i (j - i).toNat) (fun _ => True) M1) PX
def signsD (x : Str) : List DV := x.cps.toList.map fun c => .str ⟨#[c]⟩
def lwStr (le : LE) : LW := fun ρ M P PX => le ρ M (fun v M1 => ∃ x, v = .str x ∧ P (signsD x) (fun _ => True) M1) PX
section
variable {C : Cn} {α : List Addr} {H : Hp} {K : PySem.W.Frag} {M : Mem}
theorem sqL_inj {C : Cn} {N : Addr → Prop} {H : Hp} {a : Addr} {xs ys : List V} : True := trivial
theorem ItOk.range (lo : Int) (n : Nat) : ItOk C α H (Itr lo n) (rangeD lo n) fun _ => True := by
  have hl : (rangeD lo n).length = n := by unfold rangeD; simp
  refine ⟨fun i α1 H1 M1 d s r _ h => ?_, fun α1 H1 M1 s r _ => by rw [hl]; exact Nat.le_refl _⟩
  have hi : i < n := by rw [← hl]; exact (List.getElem?_eq_some_iff.mp h).1
  refine ⟨hi, fun v H' ⟨e, ev⟩ => ?_⟩
  subst e ev
  unfold rangeD at h
  rw [List.getElem?_map, List.getElem?_range hi] at h
  cases h
  exact ⟨r, Step.refl, .int _⟩
theorem ItOk.str (x : Str) : ItOk C α H (Its x) (signsD x) fun _ => True := by
  have hl : (signsD x).length = x.cps.size := by unfold signsD; simp
  refine ⟨fun i α1 H1 M1 d s r _ h => ?_, fun α1 H1 M1 s r _ => by rw [hl]; exact Nat.le_refl _⟩
  have hi : i < x.cps.size := by rw [← hl]; exact (List.getElem?_eq_some_iff.mp h).1
  refine ⟨hi, fun v H' ⟨e, c, ec, ev⟩ => ?_⟩
  subst e ev
  unfold signsD at h
  rw [List.getElem?_map, Array.getElem?_toList, ec] at h
  cases h
  exact ⟨r, Step.refl, .str _⟩
end
end L3

namespace L3
open PySem L2

section
variable {C : Cn} {α α1 : List Addr} {H H1 : Hp} {M : Mem}
/-- a datum that is a list, a tuple: its address, its items -/
theorem VD.lst_inv {K : PySem.W.Frag} {N : Addr → Prop} {H : Hp} {v : V} {ds : List D} (h : VD K N H v (.lst ds)) : ∃ a xs, v = .ref a ∧ SLi K N H a xs ∧ VDs K N H xs ds := by
  cases h with
  | lst a b => exact ⟨_, _, rfl, a, b⟩
theorem VD.tup_inv {K : PySem.W.Frag} {N : Addr → Prop} {H : Hp} {v : V} {ds : List D} (h : VD K N H v (.tup ds)) : ∃ a xs, v = .ref a ∧ STi K N H a xs ∧ VDs K N H xs ds := by
  cases h with
  | tup a b => exact ⟨_, _, rfl, a, b⟩
theorem VDs.at {K : PySem.W.Frag} {N : Addr → Prop} {H : Hp} {xs : List V} {ds : List D} (h : VDs K N H xs ds) {i : Nat} {d : DV} (e : (ds.map DV.dat)[i]? = some d) : ∃ x d0, xs[i]? = some x ∧ d = .dat d0 ∧ VD K N H x d0 := by
  rw [List.getElem?_map] at e
  cases q : ds[i]? with
  | none => rw [q] at e; cases e
  | some d0 =>
    rw [q] at e
    cases e
    obtain ⟨x, h1, h2⟩ := h.get q
    exact ⟨x, d0, h1, rfl, h2⟩
theorem ItOk.list {a : Addr} {xs : List V} {ds : List D} (hs : SLi C.K (C.N α1) H1 a xs) (hd : VDs C.K (C.N α1) H1 xs ds) : ItOk C α1 H1 (Itl C.K a) (ds.map DV.dat) fun _ => True := by
  refine ⟨fun i α2 H2 M2 d s r _ h => ?_, fun α2 H2 M2 s r _ => ⟨xs, (s.mv.sl hs).sq, by rw [hd.length, List.length_map]; exact Nat.le_refl _⟩⟩
  obtain ⟨x, d0, h1, rfl, h2⟩ := (hd.mv s.mv).at h
  refine ⟨⟨xs, x, (s.mv.sl hs).sq, h1⟩, fun v H' ⟨e, ev⟩ => ?_⟩
  subst e
  have := ev xs (s.mv.sl hs).sq
  rw [h1] at this
  cases this
  exact ⟨r, Step.refl, h2⟩
theorem ItOk.tup {a : Addr} {xs : List V} {ds : List D} (hs : STi C.K (C.N α1) H1 a xs) (hd : VDs C.K (C.N α1) H1 xs ds) : ItOk C α1 H1 (Itt C.K a) (ds.map DV.dat) fun _ => True := by
  refine ⟨fun i α2 H2 M2 d s r _ h => ?_, fun α2 H2 M2 s r _ => ⟨xs, (s.mv.st hs).sq, by rw [hd.length, List.length_map]; exact Nat.le_refl _⟩⟩
  obtain ⟨x, d0, h1, rfl, h2⟩ := (hd.mv s.mv).at h
  refine ⟨⟨xs, x, (s.mv.st hs).sq, h1⟩, fun v H' ⟨e, ev⟩ => ?_⟩
  subst e
  have := ev xs (s.mv.st hs).sq
  rw [h1] at this
  cases this
  exact ⟨r, Step.refl, h2⟩
theorem VRs.at : ∀ {vs : List V} {ds : List DV} {i : Nat} {d : DV}, VRs C α H vs ds → ds[i]? = some d → ∃ v, vs[i]? = some v ∧ VR C α H v d
  | _, _, _, _, .nil, e => by simp at e
  | _, _, 0, _, .cons r _, e => by simp at e; subst e; exact ⟨_, rfl, r⟩
  | _, _, i + 1, d, .cons _ t, e => by
    obtain ⟨u, h1, h2⟩ := VRs.at (i := i) (d := d) t (by simpa using e)
    exact ⟨u, by simpa using h1, h2⟩
theorem ItOk.obj {a : Addr} {n : Nat} {ys : List DV} (ha : α1[n]? = some a) : ItOk C α1 H1 (Itl C.K a) ys fun M => M[n]? = some (.lst ys) := by
  have at_ : ∀ {α2 : List Addr} {H2 : Hp}, Pre C α1 H1 α2 H2 → α2[n]? = some a := fun {α2 H2} s => by
    obtain ⟨β, e⟩ := s.ext
    rw [e, List.getElem?_append_left (List.getElem?_eq_some_iff.mp ha).1]
    exact ha
  refine ⟨fun i α2 H2 M2 d s r ok h => ?_, fun α2 H2 M2 s r ok => ?_⟩
  · obtain ⟨xs, e, q⟩ := r.hr.get n a _ (at_ s) ok
    obtain ⟨x, h1, h2⟩ := q.at h
    refine ⟨⟨xs, x, SqL.of e, h1⟩, fun v H' ⟨e', ev⟩ => ?_⟩
    subst e'
    have := ev xs (SqL.of e)
    rw [h1] at this
    cases this
    exact ⟨r, Step.refl, h2⟩
  · obtain ⟨xs, e, q⟩ := r.hr.get n a _ (at_ s) ok
    exact ⟨xs, SqL.of e, by rw [VRs.length q]; exact Nat.le_refl _⟩
end
section
variable {X : Cx} {C : Cn} {W : WX} {tg iter e : Expr} {te : TE} {le : LE} {es : List Expr} {ta : TA} {la : LA} {p pos : Pos}
theorem lpi_list_k0 (h : LPE X C W iter te le) (hK : X.K = C.K) : LPI X C W tg iter (iList X.K te) (lwSeq le) := ⟨pi_list h.pe, by
  rw [hK]
  exact fun ρ M P PX g Z σ H α R vs rs wk kt => h.lo.bind g vs rs wk fun v H1 α1 x M1 s1 r1 q1 h1 vs1 wk1 => by
    obtain ⟨ds, rfl, p⟩ := h1
    obtain ⟨a, xs, rfl, hs, hd⟩ := VD.lst_inv q1
    exact ⟨a, rfl, ⟨xs, hs.sq⟩, kt _ H1 α1 _ _ M1 s1 r1 (fun Z' H'' m => ItOk.list (C := C.wz Z') (m.sl hs) (hd.mv m)) trivial p⟩⟩
theorem lpi_list (h : LPE X C W iter te le) (hK : X.K = C.K) : LPI X C W tg iter (iList C.K te) (lwSeq le) := by
  rw [← hK]
  apply lpi_list_k0 <;> assumption
theorem lpi_tup_k0 (h : LPE X C W iter te le) (hK : X.K = C.K) : LPI X C W tg iter (iTup X.K te) (lwTup le) := ⟨pi_tup h.pe, by
  rw [hK]
  exact fun ρ M P PX g Z σ H α R vs rs wk kt => h.lo.bind g vs rs wk fun v H1 α1 x M1 s1 r1 q1 h1 vs1 wk1 => by
    obtain ⟨ds, rfl, p⟩ := h1
    obtain ⟨a, xs, rfl, hs, hd⟩ := VD.tup_inv q1
    exact ⟨a, rfl, ⟨xs, hs.sq⟩, kt _ H1 α1 _ _ M1 s1 r1 (fun Z' H'' m => ItOk.tup (C := C.wz Z') (m.st hs) (hd.mv m)) trivial p⟩⟩
theorem lpi_tup (h : LPE X C W iter te le) (hK : X.K = C.K) : LPI X C W tg iter (iTup C.K te) (lwTup le) := by
  rw [← hK]
  apply lpi_tup_k0 <;> assumption
theorem lpi_obj_k0 (h : LPE X C W iter te le) (hK : X.K = C.K) : LPI X C W tg iter (iList X.K te) (lwObj le) := ⟨pi_list h.pe, by
  rw [hK]
  exact fun ρ M P PX g Z σ H α R vs rs wk kt => h.lo.bind g vs rs wk fun v H1 α1 x M1 s1 r1 q1 h1 vs1 wk1 => by
    obtain ⟨n, xs, rfl, hM, p⟩ := h1
    obtain ⟨a, ea, rfl⟩ := q1
    obtain ⟨ys, eh, q⟩ := r1.hr.get n a _ ea hM
    exact ⟨a, rfl, ⟨ys, SqL.of eh⟩, kt _ H1 α1 _ _ M1 s1 r1 (fun Z' H'' m => ItOk.obj (C := C.wz Z') ea) hM p⟩⟩
theorem lpi_obj (h : LPE X C W iter te le) (hK : X.K = C.K) : LPI X C W tg iter (iList C.K te) (lwObj le) := by
  rw [← hK]
  apply lpi_obj_k0 <;> assumption
theorem lpi_range1 (h : LPA X C W [e] ta la) (hg : Gl X "range") (hm : X.mg "range" = none) (hs : starEach [e] X.env = (false, eval e X.env) :: starEach [] X.env := by rfl) : LPI X C W tg (.Call (.Name "range" p) [e] [] pos) (iRng1 ta) (lwRng1 la) := ⟨pi_range1 hg hm h.pa hs,
  fun ρ M P PX g Z σ H α R vs rs wk kt => h.lo.bind g vs rs wk fun v H1 α1 x M1 s1 r1 q1 h1 vs1 wk1 => by
    obtain ⟨j, rfl, h2, h3, p⟩ := h1
    obtain ⟨v0, rfl, q0⟩ : ∃ v0, v = [v0] ∧ VR (C.wz Z) α1 H1 v0 (.int j) := by
      cases q1 with
      | cons a t => cases t; exact ⟨_, rfl, a⟩
    cases q0
    exact ⟨j, rfl, h2, h3, kt _ H1 α1 _ _ M1 s1 r1 (fun Z' H'' m => ItOk.range 0 j.toNat) trivial p⟩⟩
theorem lpi_str (h : LPE X C W iter te le) : LPI X C W tg iter (iStr te) (lwStr le) := ⟨pi_str h.pe,
  fun ρ M P PX g Z σ H α R vs rs wk kt => h.lo.bind g vs rs wk fun v H1 α1 x M1 s1 r1 q1 h1 vs1 wk1 => by
    obtain ⟨y, rfl, p⟩ := h1
    cases q1
    exact ⟨y, rfl, kt _ H1 α1 _ _ M1 s1 r1 (fun Z' H'' m => ItOk.str y) trivial p⟩⟩
end
/-! ### loops -/
def okS (n : Nat) : Option DV → Bool
  | none => true
  | some d => okDV n d
/-- fewer slots are told -/
structure SubR (ρ' ρ : Rho) : Prop where
  len : ρ'.length = ρ.length
  get : ∀ (i : Nat) (d : DV), ρ'[i]? = some (some d) → ρ[i]? = some (some d)
theorem SubR.refl {ρ : Rho} : SubR ρ ρ := ⟨rfl, fun _ _ h => h⟩
theorem SubR.vs {C : Cn} {α : List Addr} {H : Hp} {σ : L2.St} {ρ ρ' : Rho} (s : SubR ρ' ρ) (v : VS C α H σ ρ) : VS C α H σ ρ' := ⟨v.len.trans s.len.symm, fun i d h => v.get i d (s.get i d h)⟩
/-- decided for written slots -/
def subB : Rho → Rho → Prop
  | [], [] => True
  | none :: r, _ :: s => subB r s
  | some d :: r, some e :: s => d = e ∧ subB r s
  | _, _ => False
theorem SubR.of : ∀ {ρ' ρ : Rho}, subB ρ' ρ → SubR ρ' ρ
  | [], [], _ => .refl
  | none :: r, x :: s, h => by
    have q := SubR.of (ρ' := r) (ρ := s) h
    exact ⟨by simp [q.len], fun i d e => by cases i with | zero => simp at e | succ i => simpa using q.get i d (by simpa using e)⟩
  | some d :: r, some e :: s, h => by
    have q := SubR.of (ρ' := r) (ρ := s) h.2
    exact ⟨by simp [q.len], fun i d' e' => by cases i with | zero => simp at e' ⊢; rw [← e', h.1] | succ i => simpa using q.get i d' (by simpa using e')⟩
def DropS (k : Nat) (I : Rho → Mem → Prop) (ρ : Rho) (M : Mem) : Prop := I ρ M ∨ ∃ n ρ', k ≤ n ∧ (M.take n).all (okMO n) = true ∧ SubR ρ' ρ ∧ ρ'.all (okS n) = true ∧ I ρ' (M.take n)
theorem DropS.here {k : Nat} {I : Rho → Mem → Prop} {ρ : Rho} {M : Mem} (h : I ρ M) : DropS k I ρ M := .inl h
theorem DropS.to {k : Nat} {I : Rho → Mem → Prop} {ρ : Rho} {M : Mem} (n : Nat) (ρ' : Rho) (hk : k ≤ n) (hM : (M.take n).all (okMO n) = true) (hs : subB ρ' ρ) (ho : ρ'.all (okS n) = true) (h : I ρ' (M.take n)) : DropS k I ρ M := .inr ⟨n, ρ', hk, hM, SubR.of hs, ho, h⟩
theorem VS.drop {C : Cn} {α : List Addr} {H : Hp} {σ : L2.St} {ρ : Rho} {n : Nat} (v : VS C α H σ ρ) (h : ρ.all (okS n) = true) : VS C (α.take n) H σ ρ := ⟨v.len, fun i d e => by
  obtain ⟨w, h1, h2⟩ := v.get i d e
  exact ⟨w, h1, h2.drop (List.all_eq_true.mp h (some d) (List.mem_of_getElem? e))⟩⟩
theorem DropS.run {C : Cn} {α0 α : List Addr} {H0 H : Hp} {σ : L2.St} {ρ : Rho} {M : Mem} {I : Rho → Mem → Prop} (h : DropS α0.length I ρ M) (s : Step C α0 H0 α H) (v : VS C α H σ ρ) (r : RS C α M H) :
    ∃ α' ρ' M', Step C α0 H0 α' H ∧ VS C α' H σ ρ' ∧ RS C α' M' H ∧ I ρ' M' := by
  rcases h with h | ⟨n, ρ', hk, hM, hs, ho, h⟩
  · exact ⟨α, ρ, M, s, v, r, h⟩
  · exact ⟨α.take n, ρ', M.take n, s.drop hk, (hs.vs v).drop ho, r.drop hM, h⟩
def lFor (lw : LW) (g : LG) (tb : LS) : LS := fun L ρ M => lw ρ M (fun items okM M1 => ∃ I : Nat → Rho → Mem → Prop, I 0 ρ M1 ∧ (∀ i ρ M, I i ρ M → okM M) ∧
  (∀ i x ρ M, items[i]? = some x → I i ρ M → g x ρ M fun ρ' M' => tb { L with nx := DropS M1.length (I (i + 1)), ct := DropS M1.length (I (i + 1)), bk := L.nx } ρ' M') ∧ ∀ ρ M, I items.length ρ M → L.nx ρ M) (L.px ρ)
def lWhile (c : LT) (tb : LS) : LS := fun L ρ M => ∃ (I : Nat → Rho → Mem → Prop), (∃ m, I m ρ M) ∧ ∀ m ρ1 M1, I m ρ1 M1 → c ρ1 M1 (fun b M2 => if b = true then
  tb { L with nx := DropS M.length (fun ρ' M' => ∃ m', m' < m ∧ I m' ρ' M'), ct := DropS M.length (fun ρ' M' => ∃ m', m' < m ∧ I m' ρ' M'), bk := L.nx } ρ1 M2 else L.nx ρ1 M2) (L.px ρ1)
section
variable {X : Cx} {C : Cn} {W : WX} {pos : Pos} {tg iter c : Expr} {body : List Stmt} {wi : TI} {lw : LW} {g : TG} {lg : LG} {tb : TS} {lb : LS} {tc : TT} {lc : LT}
theorem lo_for (hi : LoW C W wi lw) (hg : LoG C g lg) (hb : LoS C W tb lb) : LoS C W (tFor wi g tb) (lFor lw lg lb) := fun L ρ M h Z D σ H α vs r d => by
  refine hi _ _ _ _ h Z σ H α _ vs r (d.wk vs) fun J H1 α1 items okM M1 s1 r1 it ok1 h1 => ?_
  obtain ⟨I, i0, iok, turn, done⟩ := h1
  have dd := d.step s1
  refine ⟨fun i m σ' H' => m = items.length - i ∧ i ≤ items.length ∧ ∃ α' ρ' M', Step (C.wz Z) α1 H1 α' H' ∧ VS (C.wz Z) α' H' σ' ρ' ∧ RS (C.wz Z) α' M' H' ∧ I i ρ' M', ⟨_, rfl, Nat.zero_le _, α1, ρ, M1, Step.refl, vs.step s1, r1, i0⟩, ?_⟩
  rintro i m σ' H' ⟨rfl, hi', α', ρ', M', s', vs', r', p⟩
  by_cases hlt : i < items.length
  · obtain ⟨go, yld⟩ := (it Z H1 .refl).go i α' H' M' _ s'.pre r' (iok i ρ' M' p) (List.getElem?_eq_getElem hlt)
    refine .inr ⟨go, fun σ2 H2 => ∃ α2 ρ2 M2, Step (C.wz Z) α1 H1 α2 H2 ∧ VS (C.wz Z) α2 H2 σ2 ρ2 ∧ RS (C.wz Z) α2 M2 H2 ∧ I (i + 1) ρ2 M2, fun σ2 H2 ⟨α2, ρ2, M2, q⟩ => ⟨items.length - (i + 1), by omega, rfl, hlt, α2, ρ2, M2, q⟩, fun x H2 y => ?_⟩
    obtain ⟨r2, s2, q2⟩ := yld x H2 y
    refine hg _ ρ' M' _ (turn i _ ρ' M' (List.getElem?_eq_getElem hlt) p) x Z σ' H2 α' _ q2 (vs'.step s2) r2 fun σ3 H3 α3 ρ3 M3 s3 vs3 r3 p3 => ?_
    have s13 : Step (C.wz Z) α1 H1 α3 H3 := (s'.trans s2).trans s3
    have d3 := dd.step s13
    refine hb _ ρ3 M3 p3 Z _ σ3 H3 α3 vs3 r3 ⟨fun σ4 H4 α4 ρ4 M4 s4 vs4 r4 p4 => ?_, d3.rt, d3.nx, fun σ4 H4 α4 ρ4 M4 s4 vs4 r4 p4 => ?_, d3.ex⟩
    · rw [← r1.hr.len] at p4
      exact p4.run (s13.trans s4) vs4 r4
    · rw [← r1.hr.len] at p4
      exact p4.run (s13.trans s4) vs4 r4
  · have e : i = items.length := by omega
    subst e
    exact .inl ⟨(it Z H1 .refl).stop α' H' M' s'.pre r' (iok _ ρ' M' p), dd.nx σ' H' α' ρ' M' s' vs' r' (done ρ' M' p)⟩
theorem lps_for (hp : PassesOwn (model X.prog X.w) X.A X.env X.xe) (hc : X.calm = true) (hi : LPI X C W tg iter wi lw) (hg : LPG X C tg g lg) (hb : LPSs X C W body tb lb)
    (hs : ∀ x, foldedSetIterable iter X.env x = pure x := by intro _; rfl) : LPS X C W (.For tg iter body [] pos) (tFor wi g tb) (lFor lw lg lb) := ⟨ps_for hp hc hi.pi hg.pg hb.ps hs, lo_for hi.lo hg.lo hb.lo⟩
theorem lo_while (hc : LoT C W tc lc) (hb : LoS C W tb lb) : LoS C W (tWhile tc tb) (lWhile lc lb) := fun L ρ M h Z D σ H α vs r d => by
  obtain ⟨I, ⟨m0, i0⟩, turn⟩ := h
  refine ⟨fun m σ' H' => ∃ α' ρ' M', Step (C.wz Z) α H α' H' ∧ VS (C.wz Z) α' H' σ' ρ' ∧ RS (C.wz Z) α' M' H' ∧ I m ρ' M', ⟨m0, α, ρ, M, Step.refl, vs, r, i0⟩, ?_⟩
  rintro m σ' H' ⟨α', ρ', M', s', vs', r', p⟩
  have d' := d.step s'
  refine hc.bind (turn m ρ' M' p) vs' r' (d'.wk vs') fun b H2 α2 M2 s2 r2 h2 vs2 wk2 => ?_
  have s12 := s'.trans s2
  have d2 := d.step s12
  cases b with
  | false => exact d2.nx σ' H2 α2 ρ' M2 Step.refl vs2 r2 h2
  | true =>
    refine ⟨fun σ3 H3 => ∃ m', m' < m ∧ ∃ α3 ρ3 M3, Step (C.wz Z) α H α3 H3 ∧ VS (C.wz Z) α3 H3 σ3 ρ3 ∧ RS (C.wz Z) α3 M3 H3 ∧ I m' ρ3 M3, fun _ _ z => z, ?_⟩
    have go : ∀ σ4 H4 α4 ρ4 M4, Step (C.wz Z) α2 H2 α4 H4 → VS (C.wz Z) α4 H4 σ4 ρ4 → RS (C.wz Z) α4 M4 H4 → DropS M.length (fun ρ' M' => ∃ m', m' < m ∧ I m' ρ' M') ρ4 M4 → ∃ m', m' < m ∧ ∃ α3 ρ3 M3, Step (C.wz Z) α H α3 H4 ∧ VS (C.wz Z) α3 H4 σ4 ρ3 ∧ RS (C.wz Z) α3 M3 H4 ∧ I m' ρ3 M3 := fun σ4 H4 α4 ρ4 M4 s4 vs4 r4 p4 => by
      rw [← r.hr.len] at p4
      obtain ⟨α5, ρ5, M5, s5, vs5, r5, m', hm, p5⟩ := p4.run (s12.trans s4) vs4 r4
      exact ⟨m', hm, α5, ρ5, M5, s5, vs5, r5, p5⟩
    exact hb _ ρ' M2 h2 Z _ σ' H2 α2 vs2 r2 ⟨go, d2.rt, d2.nx, go, d2.ex⟩
theorem lps_while (hp : PassesOwn (model X.prog X.w) X.A X.env X.xe) (hc : LPT X C W c tc lc) (hb : LPSs X C W body tb lb) : LPS X C W (.While c body [] pos) (tWhile tc tb) (lWhile lc lb) := ⟨ps_while hp hc.pt hb.ps, lo_while hc.lo hb.lo⟩
end
/-! ### comprehensions -/
def wipeL (ρ : Rho) : List Nat → Rho
  | [] => ρ
  | v :: vs => (wipeL ρ vs).set v none
def LoTs := LoT
structure LPTs (X : Cx) (C : Cn) (W : WX) (ifs : List Expr) (te : TT) (l : LT) : Prop where
  pt : PTs X ifs te
  lo : LoT C W te l
def lYes : LT := fun _ M P _ => P true M
/-- memory, fewer objects -/
def DropM (k : Nat) (I : Mem → Prop) (M : Mem) : Prop := I M ∨ ∃ n, k ≤ n ∧ (M.take n).all (okMO n) = true ∧ I (M.take n)
def noX : PXn := fun _ _ => False
/-- [e for x in ..]: data -/
def lLc (lw : LW) (g : LG) (tt : LT) (te : LE) (vs : List Nat) : LE := fun ρ M P PX => lw ρ M (fun items okM M1 => ∃ I : Nat → List D → Mem → Prop, I 0 [] M1 ∧ (∀ i acc M, I i acc M → okM M) ∧
  (∀ i x acc M, items[i]? = some x → I i acc M → g x (wipeL ρ vs) M fun ρ2 M2 => tt ρ2 M2 (fun b M3 => if b = true then te ρ2 M3 (fun y M4 => acc.length < sizeLine ∧ ∃ d, y = .dat d ∧ DropM M1.length (I (i + 1) (acc ++ [d])) M4) noX else DropM M1.length (I (i + 1) acc) M3) noX) ∧
  ∀ acc M, I items.length acc M → P (.dat (.lst acc)) M) PX

section
variable {C : Cn} {Z Z' : List Addr} {α : List Addr} {H H' : Hp} {M : Mem}
/-- other objects are named, what else is told stands -/
theorem VR.chg {v : V} {d : DV} (m : Mv ((C.wz Z).N α) H ((C.wz Z').N α) H') (r : VR (C.wz Z) α H v d) : VR (C.wz Z') α H' v d := by
  cases d with
  | dat d => exact VD.mv m r
  | obj n => exact r
theorem VRs.chg (m : Mv ((C.wz Z).N α) H ((C.wz Z').N α) H') : ∀ {vs : List V} {ds : List DV}, VRs (C.wz Z) α H vs ds → VRs (C.wz Z') α H' vs ds
  | _, _, .nil => .nil
  | _, _, .cons r t => .cons (r.chg m) (VRs.chg m t)
theorem KVR.chg {κ : Type} (m : Mv ((C.wz Z).N α) H ((C.wz Z').N α) H') : ∀ {vs : List (κ × V)} {ds : List (κ × DV)}, KVR (C.wz Z) α H vs ds → KVR (C.wz Z') α H' vs ds
  | _, _, .nil => .nil
  | _, _, .cons r t => .cons ⟨r.1, r.2.chg m⟩ (KVR.chg m t)
theorem MR.chg {a : Addr} {o : MO} (m : Mv ((C.wz Z).N α) H ((C.wz Z').N α) H') (e : H' a = H a) (r : MR (C.wz Z) α H a o) : MR (C.wz Z') α H' a o := by
  cases o with
  | lst ds => obtain ⟨xs, h, q⟩ := r; exact ⟨xs, by rw [e]; exact h, q.chg m⟩
  | dK ds => obtain ⟨xs, h, q⟩ := r; exact ⟨xs, by rw [e]; exact h, KVR.chg m q⟩
  | lk t ds => exact ⟨by rw [e]; exact r.1, KVR.chg m r.2⟩
  | ins D ds => obtain ⟨dx, xs, h, q⟩ := r; exact ⟨dx, xs, by rw [e]; exact h, KVR.chg m q⟩
theorem RS.chg (r : RS (C.wz Z) α M H) (m : Mv ((C.wz Z).N α) H ((C.wz Z').N α) H') (ka : ∀ a ∈ α, H' a = H a) (kt : ∀ P ∈ C.T, H' P = H P) (kz : ∀ z ∈ Z', ∃ o, H' z = some o) : RS (C.wz Z') α M H' :=
  ⟨⟨r.hr.len, fun n a o h1 h2 => (r.hr.get n a o h1 h2).chg m (ka a (List.mem_of_getElem? h1))⟩, r.nd, fun P hP => by obtain ⟨ps, h1, h2⟩ := r.tb P hP; exact ⟨ps, by rw [kt P hP]; exact h1, h2⟩, kz, fun p hp => (r.tq p hp).keep (r.tabAt hp) (fun b o h q => by
    rcases q with q | ⟨q, rfl, z⟩
    · rw [q, kt _ (C.T.sub p hp), ← q]; exact h
    · exact m.keep _ _ h (fun y => y.elim (r.notCode h) fun y => y.elim (r.codeNotT h) z)) fun b q h z y => m.out _ _ h (fun y => y.elim (r.notCode h) fun y => y.elim (r.codeNotT h) z) (.inr (.inr y))⟩
theorem VS.chg {σ : L2.St} {ρ : Rho} (m : Mv ((C.wz Z).N α) H ((C.wz Z').N α) H') (v : VS (C.wz Z) α H σ ρ) : VS (C.wz Z') α H' σ ρ := ⟨v.len, fun i d h => let ⟨w, e, q⟩ := v.get i d h; ⟨w, e, q.chg m⟩⟩
theorem VR.pre {α' : List Addr} {v : V} {d : DV} (p : Pre C α H α' H') (r : VR C α H v d) : VR C α' H' v d := by
  cases d with
  | dat d => exact VD.mv p.mv r
  | obj n =>
    obtain ⟨b, h, e⟩ := r
    obtain ⟨β, e1⟩ := p.ext
    refine ⟨b, ?_, e⟩
    rw [e1, List.getElem?_append_left (List.getElem?_eq_some_iff.mp h).1]
    exact h
theorem VS.pre {α' : List Addr} {σ : L2.St} {ρ : Rho} (p : Pre C α H α' H') (v : VS C α H σ ρ) : VS C α' H' σ ρ := ⟨v.len, fun i d h => let ⟨w, e, q⟩ := v.get i d h; ⟨w, e, q.pre p⟩⟩
theorem wipe_vs {σ : L2.St} {ρ : Rho} (v : VS C α H σ ρ) : ∀ vs : List Nat, VS C α H (wipe σ vs) (wipeL ρ vs)
  | [] => v
  | n :: vs => by
    have q := wipe_vs v vs
    refine ⟨?_, fun i d h => ?_⟩
    · show ((wipe σ vs).set n none).length = ((wipeL ρ vs).set n none).length
      rw [List.length_set, List.length_set, q.len]
    · have h' : ((wipeL ρ vs).set n none)[i]? = some (some d) := h
      show ∃ w, ((wipe σ vs).set n none)[i]? = some (some w) ∧ _
      by_cases e : n = i
      · subst e
        rw [List.getElem?_set] at h'
        simp at h'
      · rw [List.getElem?_set_ne e] at h' ⊢
        exact q.get i d h'
/-- an object that others own changes -/
theorem mv_own {N : Addr → Prop} {D : Addr} {o : HO} (n : N D) : Mv N H N (upd H D o) := ⟨fun b u h k => by rw [upd_ne (fun e => k (by rw [e]; exact n))]; exact h, fun _ _ _ k => k⟩
theorem RS.own {D : Addr} {o : HO} (r : RS (C.wz (D :: Z)) α M H) (na : D ∉ α) (nt : D ∉ C.T) : RS (C.wz (D :: Z)) α M (upd H D o) :=
  r.chg (mv_own (.inr (.inr List.mem_cons_self))) (fun a ha => upd_ne fun e => na (by rw [← e]; exact ha)) (fun P hP => upd_ne fun e => nt (by rw [← e]; exact hP)) fun z hz => by
    by_cases e : z = D
    · subst e; exact ⟨o, upd_same⟩
    · obtain ⟨u, h⟩ := r.zd z hz
      exact ⟨u, by rw [upd_ne e]; exact h⟩
theorem Step.own {α0 : List Addr} {H0 : Hp} {D : Addr} {o : HO} (s : Step C α0 H0 α H) (hD : H0 D = none) : Step C α0 H0 α (upd H D o) :=
  ⟨s.ext, fun b u h n t => by rw [upd_ne (ne_of_none h hD)]; exact s.keep b u h n t, fun b u h => by
    by_cases e : b = D
    · subst e; exact ⟨o, upd_same⟩
    · obtain ⟨u', h'⟩ := s.dom b u h
      exact ⟨u', by rw [upd_ne e]; exact h'⟩⟩
end
theorem XR.any {C : Cn} {α : List Addr} {H : Hp} {σ : L2.St} : Wk C α H W0 σ noX := fun _ _ _ _ _ _ _ _ _ h => h.elim
/-- a target that stores in these slots alone -/
def Wg (g : TG) (ns : List Nat) : Prop := ∀ x σ H Q, g x σ H Q → g x σ H fun σ2 H2 => wipe σ2 ns = wipe σ ns ∧ Q σ2 H2
def Wgs (g : TGs) (ns : List Nat) : Prop := ∀ x σ H Q, g x σ H Q → g x σ H fun σ2 H2 => wipe σ2 ns = wipe σ ns ∧ Q σ2 H2
theorem wipe_set {σ : L2.St} {j : Nat} {v : Option V} : ∀ {ns : List Nat}, j ∈ ns → wipe (σ.set j v) ns = wipe σ ns
  | n :: ns, h => by
    show (wipe (σ.set j v) ns).set n none = (wipe σ ns).set n none
    by_cases e : j ∈ ns
    · rw [wipe_set e]
    · have en : j = n := (List.mem_cons.mp h).resolve_right e
      subst en
      have : ∀ (ns : List Nat), j ∉ ns → wipe (σ.set j v) ns = (wipe σ ns).set j v := by
        intro ns
        induction ns with
        | nil => intro _; rfl
        | cons k ns ih =>
          intro hk
          show (wipe (σ.set j v) ns).set k none = ((wipe σ ns).set k none).set j v
          rw [ih (fun z => hk (List.mem_cons_of_mem _ z)), List.set_comm _ _ (fun e => hk (by rw [e]; exact List.mem_cons_self))]
      rw [this ns e, List.set_set]
theorem wipe_idem {σ : L2.St} : ∀ {ns ms : List Nat}, (∀ n ∈ ns, n ∈ ms) → wipe (wipe σ ns) ms = wipe σ ms
  | [], _, _ => rfl
  | n :: ns, ms, h => by
    show wipe ((wipe σ ns).set n none) ms = _
    rw [wipe_set (h n List.mem_cons_self), wipe_idem fun k hk => h k (List.mem_cons_of_mem _ hk)]
theorem wg_name {j : Nat} {ns : List Nat} (h : j ∈ ns) : Wg (gName j) ns := fun x σ H Q q => ⟨wipe_set h, q⟩
theorem wgs_nil {ns : List Nat} : Wgs gNil ns := fun x σ H Q ⟨e, q⟩ => ⟨e, rfl, q⟩
theorem mono_g {g : TG} {ns : List Nat} : True := trivial
/-- .. and it goes on with what it is given -/
structure Wm (g : TG) (ns : List Nat) : Prop where
  wg : Wg g ns
  mono : ∀ x σ H Q Q', (∀ σ H, Q σ H → Q' σ H) → g x σ H Q → g x σ H Q'
structure Wms (g : TGs) (ns : List Nat) : Prop where
  wg : Wgs g ns
  mono : ∀ x σ H Q Q', (∀ σ H, Q σ H → Q' σ H) → g x σ H Q → g x σ H Q'
theorem wm_name {j : Nat} {ns : List Nat} (h : j ∈ ns) : Wm (gName j) ns := ⟨wg_name h, fun x σ H Q Q' f q => f _ _ q⟩
theorem wms_nil {ns : List Nat} : Wms gNil ns := ⟨wgs_nil, fun x σ H Q Q' f q => ⟨q.1, f _ _ q.2⟩⟩
theorem wms_cons {g : TG} {gs : TGs} {ns : List Nat} (h : Wm g ns) (hs : Wms gs ns) : Wms (gCons g gs) ns :=
  ⟨fun x σ H Q ⟨v, r, e, q⟩ => ⟨v, r, e, h.mono _ _ _ _ _ (fun σ2 H2 ⟨e2, q2⟩ => hs.mono _ _ _ _ _ (fun σ3 H3 ⟨e3, q3⟩ => ⟨e3.trans e2, q3⟩) (hs.wg _ _ _ _ q2)) (h.wg _ _ _ _ q)⟩,
   fun x σ H Q Q' f ⟨v, r, e, q⟩ => ⟨v, r, e, h.mono _ _ _ _ _ (fun σ2 H2 q2 => hs.mono _ _ _ _ _ f q2) q⟩⟩
theorem wm_tup {K : PySem.W.Frag} {n : Nat} {gs : TGs} {ns : List Nat} (hs : Wms gs ns) : Wm (gTup K n gs) ns :=
  ⟨fun x σ H Q ⟨a, xs, e, h1, h2, q⟩ => ⟨a, xs, e, h1, h2, hs.wg _ _ _ _ q⟩, fun x σ H Q Q' f ⟨a, xs, e, h1, h2, q⟩ => ⟨a, xs, e, h1, h2, hs.mono _ _ _ _ _ f q⟩⟩
theorem lo_lc {C : Cn} {W : WX} {wi : TI} {lw : LW} {g : TG} {lg : LG} {tt : TT} {lt : LT} {te : TE} {le : LE} {ns : List Nat} (hi : LoW C W wi lw) (hg : LoG C g lg) (hw : Wm g ns) (ht : LoT C W0 tt lt) (he : LoE C W0 te le) :
    LoE C W (tLc wi g tt te ns) (lLc lw lg lt le ns) := fun ρ M P PX h Z σ H α Q vs rs kt wk => by
  refine hi _ _ _ _ h Z σ H α _ vs rs wk fun J H1 α1 items okM M1 s1 r1 it ok1 h1 => fun D hD => ?_
  obtain ⟨I, i0, iok, turn, done⟩ := h1
  have nD := r1.fresh hD
  have naD : D ∉ α1 := fun z => nD (.inl z)
  have ntD : D ∉ C.T := fun z => nD (.inr (.inl z))
  have nzD : D ∉ Z := fun z => nD (.inr (.inr z))
  have m1 : Mv ((C.wz Z).N α1) H1 ((C.wz (D :: Z)).N α1) (upd H1 D (.lst [])) := ⟨fun b o h _ => by rw [upd_ne (ne_of_none h hD)]; exact h, fun b o h n z => by
    rcases z with z | z | z
    · exact n (.inl z)
    · exact n (.inr (.inl z))
    · rcases List.mem_cons.mp z with z | z
      · exact ne_of_none h hD z
      · exact n (.inr (.inr z))⟩
  have r1' : RS (C.wz (D :: Z)) α1 M1 (upd H1 D (.lst [])) := r1.chg m1 (fun a ha => upd_ne fun e => naD (by rw [← e]; exact ha)) (fun Q hQ => upd_ne fun e => ntD (by rw [← e]; exact hQ)) fun z hz => by
    by_cases e : z = D
    · subst e; exact ⟨_, upd_same⟩
    · obtain ⟨u, h⟩ := r1.zd z ((List.mem_cons.mp hz).resolve_left e)
      exact ⟨u, by rw [upd_ne e]; exact h⟩
  have it' := it (D :: Z) _ m1
  have vs1 : VS (C.wz (D :: Z)) α1 (upd H1 D (.lst [])) (wipe σ ns) (wipeL ρ ns) := wipe_vs ((vs.step s1).chg m1) ns
  refine ⟨fun i m H' => m = items.length - i ∧ i ≤ items.length ∧ ∃ α' M' xs acc, Pre (C.wz (D :: Z)) α1 (upd H1 D (.lst [])) α' H' ∧ Step (C.wz Z) α1 H1 α' H' ∧ RS (C.wz (D :: Z)) α' M' H' ∧ H' D = some (.lst xs) ∧ VDs C.K ((C.wz (D :: Z)).N α') H' xs acc ∧ D ∉ α' ∧ I i acc M',
    ⟨_, rfl, Nat.zero_le _, α1, M1, [], [], ⟨⟨[], by simp⟩, .refl⟩, Step.refl.own hD, r1', upd_same, .nil, naD, i0⟩, ?_⟩
  rintro i m H' ⟨rfl, hi', α', M', xs, acc, pre', s', r', hx, hd, na', p⟩
  by_cases hlt : i < items.length
  · obtain ⟨go, yld⟩ := it'.go i α' H' M' _ pre' r' (iok i acc M' p) (List.getElem?_eq_getElem hlt)
    refine .inr ⟨go, fun H2 => ∃ α2 M2 xs acc, Pre (C.wz (D :: Z)) α1 (upd H1 D (.lst [])) α2 H2 ∧ Step (C.wz Z) α1 H1 α2 H2 ∧ RS (C.wz (D :: Z)) α2 M2 H2 ∧ H2 D = some (.lst xs) ∧ VDs C.K ((C.wz (D :: Z)).N α2) H2 xs acc ∧ D ∉ α2 ∧ I (i + 1) acc M2, fun H2 q => ⟨items.length - (i + 1), by omega, rfl, hlt, q⟩, fun x H2 y => ?_⟩
    obtain ⟨r2, s2, q2⟩ := yld x H2 y
    have p2 := pre'.trans s2.pre
    have fin : ∀ α5 M5 H5 xs5 acc5, Pre (C.wz (D :: Z)) α1 (upd H1 D (.lst [])) α5 H5 → Step (C.wz Z) α1 H1 α5 H5 → RS (C.wz (D :: Z)) α5 M5 H5 → H5 D = some (.lst xs5) → VDs C.K ((C.wz (D :: Z)).N α5) H5 xs5 acc5 → D ∉ α5 → DropM M1.length (I (i + 1) acc5) M5 →
        ∃ α2 M2 xs acc, Pre (C.wz (D :: Z)) α1 (upd H1 D (.lst [])) α2 H5 ∧ Step (C.wz Z) α1 H1 α2 H5 ∧ RS (C.wz (D :: Z)) α2 M2 H5 ∧ H5 D = some (.lst xs) ∧ VDs C.K ((C.wz (D :: Z)).N α2) H5 xs acc ∧ D ∉ α2 ∧ I (i + 1) acc M2 := fun α5 M5 H5 xs5 acc5 pt st r5 h5 d5 na5 q5 => by
      rcases q5 with q5 | ⟨n, hn, hM, q5⟩
      · exact ⟨α5, M5, xs5, acc5, pt, st, r5, h5, d5, na5, q5⟩
      · rw [← r1.hr.len] at hn
        refine ⟨α5.take n, M5.take n, xs5, acc5, ⟨?_, pt.mv.trans Mv.take⟩, st.drop hn, r5.drop hM, h5, d5.mv Mv.take, fun z => na5 (List.mem_of_mem_take z), q5⟩
        obtain ⟨β, e⟩ := pt.ext
        exact ⟨β.take (n - α1.length), by rw [e, List.take_append, List.take_of_length_le hn]⟩
    have na_ : ∀ {α5 H5}, Step (C.wz (D :: Z)) α' H' α5 H5 → D ∉ α5 := fun {α5 H5} s5 z => by
      obtain ⟨β, e, fr⟩ := s5.ext
      rw [e] at z
      rcases List.mem_append.mp z with z | z
      · exact na' z
      · have := fr D z; rw [hx] at this; cases this
    have sz : ∀ {α5 H5}, Step (C.wz (D :: Z)) α' H' α5 H5 → Step (C.wz Z) α1 H1 α5 H5 := fun s5 => s'.trans ⟨s5.ext, s5.keep, s5.dom⟩
    refine hw.mono _ _ _ _ _ (fun σ3 H3 z => ⟨z.1.trans (wipe_idem fun _ h => h), z.2⟩) (hw.wg _ _ _ _ ?_)
    refine hg _ _ M' _ (turn i _ acc M' (List.getElem?_eq_getElem hlt) p) x (D :: Z) (wipe σ ns) H2 α' _ q2 (vs1.pre p2) r2 fun σ3 H3 α3 ρ3 M3 s3 vs3 r3 p3 => ?_
    have s23 := s2.trans s3
    refine ht.bind p3 vs3 r3 XR.any fun b H4 α4 M4 s4 r4 h4 vs4 wk4 => ?_
    have s24 := s23.trans s4
    have hD4 : H4 D = some (.lst xs) := s24.keep D _ hx na' ntD
    cases b with
    | false => exact fin α4 M4 H4 xs acc (pre'.trans s24.pre) (sz s24) r4 hD4 (hd.mv s24.mv) (na_ s24) h4
    | true =>
      refine he.bind h4 vs4 r4 XR.any fun v H5 α5 y M5 s5 r5 q5 h5 vs5 wk5 => ?_
      obtain ⟨hz, d, rfl, h5⟩ := h5
      have s25 := s24.trans s5
      have hD5 : H5 D = some (.lst xs) := s25.keep D _ hx na' ntD
      refine ⟨xs, hD5, by rw [hd.length]; exact hz, ?_⟩
      have mo : Mv ((C.wz (D :: Z)).N α5) H5 ((C.wz (D :: Z)).N α5) (upd H5 D (.lst (xs ++ [v]))) := mv_own (.inr (.inr List.mem_cons_self))
      have pp := pre'.trans s25.pre
      exact fin α5 M5 _ (xs ++ [v]) (acc ++ [d]) ⟨pp.ext, pp.mv.trans mo⟩ ((sz s25).own hD) (r5.own (na_ s25) ntD) upd_same (((hd.mv s25.mv).append (.cons q5 .nil)).mv mo) (na_ s25) h5
  · have e : i = items.length := by omega
    subst e
    refine .inl ⟨it'.stop α' H' M' pre' r' (iok _ acc M' p), ?_⟩
    have mw : Mv ((C.wz (D :: Z)).N α') H' ((C.wz Z).N α') H' := ⟨fun _ _ h _ => h, fun b o h n z => n (z.imp id fun z => z.imp id fun z => List.mem_cons_of_mem _ z)⟩
    refine kt _ H' α' (.dat (.lst acc)) M' (s1.trans s') (r'.chg mw (fun _ _ => rfl) (fun _ _ => rfl) fun z hz => r'.zd z (List.mem_cons_of_mem _ hz)) (.lst (.inl ⟨.inl hx, ?_⟩) (hd.mv mw)) (done acc M' p)
    rintro (z | z | z)
    · exact na' z
    · exact ntD z
    · exact nzD z
end L3

namespace L3
open PySem L2

section
variable {X : Cx} {C : Cn} {W : WX} {elt tg iter c : Expr} {ifs : List Expr} {scope : Scope} {own : List (Str × Nat)} {pos spos : Pos} {wi : TI} {lw : LW} {g : TG} {lg : LG} {tt : TT} {lt : LT} {te : TE} {le : LE}
theorem lpts_nil : LPTs X C W [] tYes lYes := ⟨pts_nil, fun ρ M P PX h Z σ H α Q vs rs k wk => k true H α M Step.refl rs h⟩
theorem lpts_one (h : LPT X C W c tt lt) : LPTs X C W [c] tt lt := ⟨pts_one h.pt, h.lo⟩
theorem lp_lc (hc : X.calm = true) (hN : X.N.Nodup) (hi : LPI X C W tg iter wi lw) (ok : BlkOk X.N X.env.scope scope own) (hw : Wm g (own.map (·.2)))
    (hg : ∀ (s : Shared) (H : Hp) (c : Addr) (cl : List (Str × Addr)) (fp : List Addr), LPG (X.blk s H scope (compEnvC scope cl c X.env) fp) C tg g lg) (ht : ∀ (s : Shared) (H : Hp) (c : Addr) (cl : List (Str × Addr)) (fp : List Addr), LPTs (X.blk s H scope (compEnvC scope cl c X.env) fp) C W0 ifs tt lt)
    (he : ∀ (s : Shared) (H : Hp) (c : Addr) (cl : List (Str × Addr)) (fp : List Addr), LPE (X.blk s H scope (compEnvC scope cl c X.env) fp) C W0 elt te le) (hs : ∀ x, foldedSetIterable iter X.env x = pure x := by intro _; rfl) :
    LPE X C W (.ListComp elt [⟨tg, iter, ifs, 0⟩] scope pos) (tLc wi g tt te (own.map (·.2))) (lLc lw lg lt le (own.map (·.2))) :=
  ⟨pe_lc hc hN hi.pi ok (fun s H c cl fp => (hg s H c cl fp).pg) (fun s H c cl fp => (ht s H c cl fp).pt) (fun s H c cl fp => (he s H c cl fp).pe) hs,
   lo_lc hi.lo (hg ({} : Shared) (fun _ => none) 0 [] []).lo hw (ht ({} : Shared) (fun _ => none) 0 [] []).lo (he ({} : Shared) (fun _ => none) 0 [] []).lo⟩
end

section
variable {X : Cx} {C : Cn} {W : WX} {elt tg iter c : Expr} {ifs : List Expr} {scope : Scope} {own : List (Str × Nat)} {pos spos py : Pos} {wi : TI} {lw : LW} {g : TG} {lg : LG} {tt : TT} {lt : LT} {te : TE} {le : LE} {i : Nat} {y : Str}
theorem lps_setLc (hc : X.calm = true) (hN : X.N.Nodup) (hy : X.N[i]? = some y) (hyl : X.env.scope.names.lookup y = some .local)
    (hsw : swapsWith (.ListComp elt [⟨tg, iter, ifs, 0⟩] scope pos) (some (.Name y py)) spos.line X.env = pure true) (hi : LPI X C W tg iter wi lw) (ok : BlkOk X.N X.env.scope scope own) (hw : Wm g (own.map (·.2)))
    (hg : ∀ (s : Shared) (H : Hp) (c : Addr) (cl : List (Str × Addr)) (fp : List Addr), LPG (X.blk s H scope (compEnvC scope cl c X.env) fp) C tg g lg) (ht : ∀ (s : Shared) (H : Hp) (c : Addr) (cl : List (Str × Addr)) (fp : List Addr), LPTs (X.blk s H scope (compEnvC scope cl c X.env) fp) C W0 ifs tt lt)
    (he : ∀ (s : Shared) (H : Hp) (c : Addr) (cl : List (Str × Addr)) (fp : List Addr), LPE (X.blk s H scope (compEnvC scope cl c X.env) fp) C W0 elt te le) (hs : ∀ x, foldedSetIterable iter X.env x = pure x := by intro _; rfl) :
    LPS X C W (.Assign [.Name y py] (.ListComp elt [⟨tg, iter, ifs, 0⟩] scope pos) spos) (tAsg (tLc wi g tt te (own.map (·.2))) (gName i)) (lSet i (lLc lw lg lt le (own.map (·.2)))) :=
  ⟨ps_setLc hc hN hy hyl hsw hi.pi ok (fun s H c cl fp => (hg s H c cl fp).pg) (fun s H c cl fp => (ht s H c cl fp).pt) (fun s H c cl fp => (he s H c cl fp).pe) hs,
   lo_set (lo_lc hi.lo (hg ({} : Shared) (fun _ => none) 0 [] []).lo hw (ht ({} : Shared) (fun _ => none) 0 [] []).lo (he ({} : Shared) (fun _ => none) 0 [] []).lo)⟩
end

/-! ### operations by values -/
/-- ints -/
def vI (Cd : Int → Int → Prop) (g : Int → Int → D) : DV → DV → Mem → PD → Prop := fun x y M P => ∃ i j, x = .int i ∧ y = .int j ∧ Cd i j ∧ P (.dat (g i j)) M
def vI0 (g : Int → Int → D) : DV → DV → Mem → PD → Prop := fun x y M P => ∃ i j, x = .int i ∧ y = .int j ∧ P (.dat (g i j)) M
section
variable {C : Cn}
theorem l2_I {Cd : Int → Int → Prop} {g : Int → Int → V} {g' : Int → Int → D} (h : ∀ K N H i j, VD K N H (g i j) (g' i j)) : Lo2 C (rI Cd g) (vI Cd g') := fun x y M P ⟨i, j, e1, e2, hc, p⟩ Z α H v u Q r q1 q2 k => by
  subst e1 e2
  cases q1; cases q2
  exact ⟨i, j, rfl, rfl, hc, k.now (d := .dat (g' i j)) r (h _ _ _ _ _) p⟩
theorem l2_I0 {g : Int → Int → V} {g' : Int → Int → D} (h : ∀ K N H i j, VD K N H (g i j) (g' i j)) : Lo2 C (rI0 g) (vI0 g') := fun x y M P ⟨i, j, e1, e2, p⟩ Z α H v u Q r q1 q2 k => by
  subst e1 e2
  cases q1; cases q2
  exact ⟨i, j, rfl, rfl, k.now (d := .dat (g' i j)) r (h _ _ _ _ _) p⟩
theorem l2_add : Lo2 C (rI0 fun i j => .int (i + j)) (vI0 fun i j => .int (i + j)) := l2_I0 fun _ _ _ i j => .int (i + j)
theorem l2_sub : Lo2 C (rI0 fun i j => .int (i - j)) (vI0 fun i j => .int (i - j)) := l2_I0 fun _ _ _ i j => .int (i - j)
theorem l2_mul : Lo2 C (rI CMul fun i j => .int (i * j)) (vI CMul fun i j => .int (i * j)) := l2_I fun _ _ _ i j => .int (i * j)
theorem l2_fdivN : Lo2 C (rI CDivN fun i j => .int (i.fdiv j)) (vI CDivN fun i j => .int (i.fdiv j)) := l2_I fun _ _ _ i j => .int (i.fdiv j)
theorem l2_modN : Lo2 C (rI (fun _ j => j ≠ 0) fun i j => .int (i.fmod j)) (vI (fun _ j => j ≠ 0) fun i j => .int (i.fmod j)) := l2_I fun _ _ _ i j => .int (i.fmod j)
theorem l2_pow : Lo2 C (rI CPow fun i j => .int (i ^ j.toNat)) (vI CPow fun i j => .int (i ^ j.toNat)) := l2_I fun _ _ _ i j => .int (i ^ j.toNat)
theorem l2_lt : Lo2 C (rI0 fun i j => .bl (decide (i < j))) (vI0 fun i j => .bl (decide (i < j))) := l2_I0 fun _ _ _ i j => .bl _
theorem l2_le : Lo2 C (rI0 fun i j => .bl (decide (i ≤ j))) (vI0 fun i j => .bl (decide (i ≤ j))) := l2_I0 fun _ _ _ i j => .bl _
theorem l2_gt : Lo2 C (rI0 fun i j => .bl (decide (j < i))) (vI0 fun i j => .bl (decide (j < i))) := l2_I0 fun _ _ _ i j => .bl _
theorem l2_ge : Lo2 C (rI0 fun i j => .bl (decide (j ≤ i))) (vI0 fun i j => .bl (decide (j ≤ i))) := l2_I0 fun _ _ _ i j => .bl _
def vNeg : DV → Mem → PD → Prop := fun x M P => ∃ i, x = .int i ∧ P (.int (-i)) M
theorem l1_neg : Lo1 C (rU fun i => .int (-i)) vNeg := fun x M P ⟨i, e, p⟩ Z α H v Q r q k => by
  subst e
  cases q
  exact ⟨i, rfl, k.now (d := .int (-i)) r (.int _) p⟩
/-- texts joined -/
def rAddS : R2 := fun x y H Q => ∃ i j, x = .str i ∧ y = .str j ∧ i.length + j.length ≤ sizeLine ∧ Q (.str (i ++ j)) H
def vAddS : DV → DV → Mem → PD → Prop := fun x y M P => ∃ i j, x = .str i ∧ y = .str j ∧ i.length + j.length ≤ sizeLine ∧ P (.str (i ++ j)) M
theorem l2_addS : Lo2 C rAddS vAddS := fun x y M P ⟨i, j, e1, e2, hc, p⟩ Z α H v u Q r q1 q2 k => by
  subst e1 e2
  cases q1; cases q2
  exact ⟨i, j, rfl, rfl, hc, k.now (d := .str (i ++ j)) r (.str _) p⟩
/-- two of them by a choice -/
theorem l2_or {r r' : R2} {l l' : DV → DV → Mem → PD → Prop} (h : Lo2 C r l) (h' : Lo2 C r' l') : Lo2 C (fun x y H Q => r x y H Q ∨ r' x y H Q) (fun x y M P => l x y M P ∨ l' x y M P) := fun x y M P g Z α H v u Q rs q1 q2 k =>
  g.imp (fun g => h x y M P g Z α H v u Q rs q1 q2 k) fun g => h' x y M P g Z α H v u Q rs q1 q2 k
theorem ll_or {r r' : List V → Hp → VK → Prop} {l l' : List DV → Mem → PD → Prop} (h : LoL C r l) (h' : LoL C r' l') : LoL C (fun x H Q => r x H Q ∨ r' x H Q) (fun x M P => l x M P ∨ l' x M P) := fun x M P g Z α H v Q rs q k =>
  g.imp (fun g => h x M P g Z α H v Q rs q k) fun g => h' x M P g Z α H v Q rs q k
/-- == and != of data -/
def scD : D → Option V
  | .non => some .non
  | .bl b => some (.bl b)
  | .int i => some (.int i)
  | .str x => some (.str x)
  | _ => none
theorem scD_of {K : PySem.W.Frag} {N : Addr → Prop} {H : Hp} {v w : V} {d : D} (h : VD K N H v d) (e : scD d = some w) : v = w := by
  cases h <;> first | (cases e; rfl) | (cases e)
mutual
def pyD : D → PyData
  | .non => .none
  | .bl b => .bool b
  | .int i => .int i
  | .str x => .str x
  | .ty _ => .none
  | .con _ => .none
  | .exc .. => .none
  | .tup ds => .tuple (pyDs ds)
  | .lst ds => .list (pyDs ds)
def pyDs : List D → List PyData
  | [] => []
  | d :: ds => pyD d :: pyDs ds
end
mutual
def pureD : D → Bool
  | .ty _ => false
  | .con _ => false
  | .exc .. => false
  | .tup ds => pureDs ds
  | .lst ds => pureDs ds
  | _ => true
def pureDs : List D → Bool
  | [] => true
  | d :: ds => pureD d && pureDs ds
end
mutual
theorem VD.dp {K : PySem.W.Frag} {N : Addr → Prop} {H : Hp} : ∀ {v : V} {d : D}, pureD d = true → VD K N H v d → Dp K H v (pyD d)
  | _, _, _, .non => .non
  | _, _, _, .bl b => .bl b
  | _, _, _, .int i => .int i
  | _, _, _, .str x => .str x
  | _, .ty _, p, _ => by cases p
  | _, .con _, p, _ => by cases p
  | _, .exc .., p, _ => by cases p
  | _, _, p, .tup h hs => .tup h.sq (VDs.dp p hs)
  | _, _, p, .lst h hs => .lst h.sq (VDs.dp p hs)
theorem VDs.dp {K : PySem.W.Frag} {N : Addr → Prop} {H : Hp} : ∀ {v : List V} {d : List D}, pureDs d = true → VDs K N H v d → DpAll K H v (pyDs d)
  | _, _, _, .nil => .nil
  | _, _, p, .cons h hs => by
    unfold pureDs at p
    rw [Bool.and_eq_true] at p
    exact .cons (VD.dp p.1 h) (VDs.dp p.2 hs)
end
def okD (d : D) : Bool := pureD d && SeqAt.shaped (pyD d)
def eqD (d e : D) : Bool := PyData.eqv (pyD d) (pyD e)
def vEq (neg : Bool) : DV → DV → Mem → PD → Prop := fun x y M P => (∃ d e v u, x = .dat d ∧ y = .dat e ∧ scD d = some v ∧ scD e = some u ∧ scal v u = true ∧ P (.bl (if neg then !decide (v = u) else decide (v = u))) M) ∨
  ∃ d e, x = .dat d ∧ y = .dat e ∧ okD d = true ∧ okD e = true ∧ P (.bl (if neg then !eqD d e else eqD d e)) M
def rEqA (K : PySem.W.Frag) : R2 := fun x y H Q => rEq x y H Q ∨ rEqD K x y H Q
def rNeA (K : PySem.W.Frag) : R2 := fun x y H Q => rNe x y H Q ∨ rNeD K x y H Q
theorem op_eqA {X : Cx} (hu : X.A.units + 64 < cLine) : OpR X (compareOp .Eq) (rEqA X.K) := op_eq.or (op_eqD hu)
theorem op_neA {X : Cx} (hu : X.A.units + 64 < cLine) : OpR X (compareOp .NotEq) (rNeA X.K) := op_ne.or (op_neD hu)
theorem l2_eq : Lo2 C (rEqA C.K) (vEq false) := fun x y M P g Z α H v u Q r q1 q2 k => by
  rcases g with ⟨d, e, v', u', rfl, rfl, h1, h2, h3, p⟩ | ⟨d, e, rfl, rfl, h1, h2, p⟩
  · have e1 := scD_of q1 h1
    have e2 := scD_of q2 h2
    subst e1 e2
    exact .inl ⟨h3, k.now (d := .bl _) r (.bl _) p⟩
  · unfold okD at h1 h2
    rw [Bool.and_eq_true] at h1 h2
    exact .inr ⟨pyD d, pyD e, VD.dp h1.1 q1, VD.dp h2.1 q2, h1.2, h2.2, k.now (d := .bl _) r (.bl _) p⟩
theorem l2_ne : Lo2 C (rNeA C.K) (vEq true) := fun x y M P g Z α H v u Q r q1 q2 k => by
  rcases g with ⟨d, e, v', u', rfl, rfl, h1, h2, h3, p⟩ | ⟨d, e, rfl, rfl, h1, h2, p⟩
  · have e1 := scD_of q1 h1
    have e2 := scD_of q2 h2
    subst e1 e2
    exact .inl ⟨h3, k.now (d := .bl _) r (.bl _) p⟩
  · unfold okD at h1 h2
    rw [Bool.and_eq_true] at h1 h2
    exact .inr ⟨pyD d, pyD e, VD.dp h1.1 q1, VD.dp h2.1 q2, h1.2, h2.2, k.now (d := .bl _) r (.bl _) p⟩
theorem vEq_int {neg : Bool} {i j : Int} {M : Mem} {P : PD} (p : P (.bl (if neg then !decide (i = j) else decide (i = j))) M) : vEq neg (.int i) (.int j) M P := .inl ⟨.int i, .int j, .int i, .int j, rfl, rfl, rfl, rfl, rfl, by
  have e : decide (V.int i = V.int j) = decide (i = j) := by simp
  rw [e]; exact p⟩
theorem vEq_str {neg : Bool} {i j : Str} {M : Mem} {P : PD} (p : P (.bl (if neg then !decide (i = j) else decide (i = j))) M) : vEq neg (.str i) (.str j) M P := .inl ⟨.str i, .str j, .str i, .str j, rfl, rfl, rfl, rfl, rfl, by
  have e : decide (V.str i = V.str j) = decide (i = j) := by simp
  rw [e]; exact p⟩
theorem vEq_bl {neg : Bool} {i j : Bool} {M : Mem} {P : PD} (p : P (.bl (if neg then !decide (i = j) else decide (i = j))) M) : vEq neg (.bl i) (.bl j) M P := .inl ⟨.bl i, .bl j, .bl i, .bl j, rfl, rfl, rfl, rfl, rfl, by
  have e : decide (V.bl i = V.bl j) = decide (i = j) := by simp
  rw [e]; exact p⟩
theorem vEq_dat {neg : Bool} {d e : D} {M : Mem} {P : PD} (h1 : okD d = true) (h2 : okD e = true) (p : P (.bl (if neg then !eqD d e else eqD d e)) M) : vEq neg (.dat d) (.dat e) M P := .inr ⟨d, e, rfl, rfl, h1, h2, p⟩
/-- is None -/
def isNon : DV → Bool
  | .dat .non => true
  | _ => false
def rIsN (neg : Bool) : R2 := fun x y H Q => y = .non ∧ Q (.bl (if neg then !decide (x = .non) else decide (x = .non))) H
def vIsN (neg : Bool) : DV → DV → Mem → PD → Prop := fun x y M P => y = .non ∧ P (.bl (if neg then !isNon x else isNon x)) M
theorem non_dec {C : Cn} {α : List Addr} {H : Hp} {v : V} {x : DV} (q : VR C α H v x) : decide (v = .non) = isNon x := by
  cases x with
  | obj n => obtain ⟨a, _, rfl⟩ := q; rfl
  | dat d => cases q <;> rfl
theorem op_isNA {X : Cx} : OpR X (compareOp .Is) (rIsN false) := op_isN
theorem op_notNA {X : Cx} : OpR X (compareOp .IsNot) (rIsN true) := op_notN
theorem l2_isN (neg : Bool) : Lo2 C (rIsN neg) (vIsN neg) := fun x y M P ⟨e, p⟩ Z α H v u Q r q1 q2 k => by
  subst e
  cases q2
  refine ⟨rfl, ?_⟩
  rw [non_dec q1]
  exact k.now (d := .bl _) r (.bl _) p
/-- texts compared -/
def rLtS : R2 := fun x y H Q => ∃ i j, x = .str i ∧ y = .str j ∧ Q (.bl (decide (i.cps.toList < j.cps.toList))) H
def rLeS : R2 := fun x y H Q => ∃ i j, x = .str i ∧ y = .str j ∧ Q (.bl (!decide (j.cps.toList < i.cps.toList))) H
def vLtS : DV → DV → Mem → PD → Prop := fun x y M P => ∃ i j, x = .str i ∧ y = .str j ∧ P (.bl (decide (i.cps.toList < j.cps.toList))) M
def vLeS : DV → DV → Mem → PD → Prop := fun x y M P => ∃ i j, x = .str i ∧ y = .str j ∧ P (.bl (!decide (j.cps.toList < i.cps.toList))) M
theorem l2_ltS : Lo2 C rLtS vLtS := fun x y M P ⟨i, j, e1, e2, p⟩ Z α H v u Q r q1 q2 k => by
  subst e1 e2
  cases q1; cases q2
  exact ⟨i, j, rfl, rfl, k.now (d := .bl _) r (.bl _) p⟩
theorem l2_leS : Lo2 C rLeS vLeS := fun x y M P ⟨i, j, e1, e2, p⟩ Z α H v u Q r q1 q2 k => by
  subst e1 e2
  cases q1; cases q2
  exact ⟨i, j, rfl, rfl, k.now (d := .bl _) r (.bl _) p⟩
/-- a text in a text -/
def rInT (neg : Bool) : R2 := fun x y H Q => ∃ i j, x = .str i ∧ y = .str j ∧ Q (.bl (if neg then !(!(Builtin.Str.occurrences j i 0 j.length 1).isEmpty) else !(Builtin.Str.occurrences j i 0 j.length 1).isEmpty)) H
def vInT (neg : Bool) : DV → DV → Mem → PD → Prop := fun x y M P => ∃ i j, x = .str i ∧ y = .str j ∧ P (.bl (if neg then !(!(Builtin.Str.occurrences j i 0 j.length 1).isEmpty) else !(Builtin.Str.occurrences j i 0 j.length 1).isEmpty)) M
theorem op_inT {X : Cx} : OpR X (compareOp .In) (rInT false) := op_in_str
theorem op_notInT {X : Cx} : OpR X (compareOp .NotIn) (rInT true) := op_notIn_str
theorem l2_inT (neg : Bool) : Lo2 C (rInT neg) (vInT neg) := fun x y M P ⟨i, j, e1, e2, p⟩ Z α H v u Q r q1 q2 k => by
  subst e1 e2
  cases q1; cases q2
  exact ⟨i, j, rfl, rfl, k.now (d := .bl _) r (.bl _) p⟩
/-- a sign in a text -/
def rInC (neg : Bool) : R2 := fun x y H Q => ∃ (c : Nat) (z : Str), x = .str ⟨#[c]⟩ ∧ y = .str z ∧ Q (.bl (if neg then !decide (c ∈ z.cps.toList) else decide (c ∈ z.cps.toList))) H
def vInC (neg : Bool) : DV → DV → Mem → PD → Prop := fun x y M P => ∃ (c : Nat) (z : Str), x = .str ⟨#[c]⟩ ∧ y = .str z ∧ P (.bl (if neg then !decide (c ∈ z.cps.toList) else decide (c ∈ z.cps.toList))) M
theorem op_inC {X : Cx} : OpR X (compareOp .In) (rInC false) := op_in_sign
theorem op_notInC {X : Cx} : OpR X (compareOp .NotIn) (rInC true) := op_notIn_sign
theorem l2_inC (neg : Bool) : Lo2 C (rInC neg) (vInC neg) := fun x y M P ⟨i, j, e1, e2, p⟩ Z α H v u Q r q1 q2 k => by
  subst e1 e2
  cases q1; cases q2
  exact ⟨i, j, rfl, rfl, k.now (d := .bl _) r (.bl _) p⟩
/-- a flat datum in a list, a tuple of flat data -/
def flatD : D → Bool
  | .non => true | .bl _ => true | .int _ => true | .str _ => true
  | _ => false
def inD (d : D) (ds : List D) : Bool := ds.any fun e => eqD e d
theorem flat_of {K : PySem.W.Frag} {N : Addr → Prop} {H : Hp} {v : V} {d : D} (h : VD K N H v d) (e : flatD d = true) : flatV v = true ∧ ∀ w e', VD K N H w e' → flatD e' = true → eqV v w = eqD d e' := by
  cases h <;> first
    | (refine ⟨rfl, fun w e' h' f => ?_⟩; cases h' <;> first | rfl | (cases f) | (simp [eqV, eqD, pyD, PyData.eqv] ; done) | (unfold eqV eqD pyD PyData.eqv; rfl))
    | (cases e)
end
end L3

/-! base rules of our own: tuple(d), text * int -/
namespace L2
open PySem PySem.Spec PyProof.Rows
section
variable {prog : Program} {w : World} {A : Around} {E : Value → Shared → Prop} {s : Shared} {T : String} {r d : Addr} {n : Nat} {P : Nat → Value → Prop} {OK : Heap → Prop}
theorem collect_src {Q : List Value → Shared → Prop} (K : PySem.W.KdlSrc prog w T r d n P OK) (hh : A.handled = none) (hok : OK s.heap) (hn : n ≤ sizeLine)
    (hQ : ∀ (h' : Heap) (tk : Nat) (acc : Array Value), (∀ b o, s.heap.get? b = some o → h'.get? b = some o) → ItemsOf P acc n → Q acc.toList { s with heap := h', toks := tk }) :
    wpAny (model prog w) A (collect (.ref r)) Q E s := by
  unfold collect
  refine wpAny_bind (wpAny_runValue (codeAny_builtin F.entry_proto_collect ?_))
  rw [Around.under_plainId F.plain_proto_collect _]
  show wpAny _ A.in1 (newList [] >>= fun l => again (.builtin "list.__iadd__" ⟨[l, .ref r], []⟩)) _ _ s
  refine wpAny_bind (wpAny_newObj_type ?_)
  refine wpAny_pure ⟨plainId_quiet F.plain_list_iadd _, codeAny_builtin F.entry_list_iadd ?_⟩
  rw [Around.under_plainId F.plain_list_iadd _]
  show wpAny _ A.in1 (Builtin.List.listExtendWith (.ref s.heap.objs.size) (.ref r) (.ref s.heap.objs.size)) _ _ _
  have hS : (s.heap.push { cls := .type "list", data := .seq ([] : List Value).toArray }).get? s.heap.objs.size = some { cls := .type "list", data := .seq #[] 0 } := Heap.get?_push_size _ rfl
  have hlt := K.there _ hok
  refine wpAny_mono (PySem.W.kdl_extend (A := A) (R := fun rr s' => rr = .ok (.ret (.ref s.heap.objs.size)) ∧ ∃ (h' : Heap) (tk : Nat) (acc : Array Value) (c' : Nat), s' = { s with heap := h', toks := tk } ∧
      (∀ b o, s.heap.get? b = some o → h'.get? b = some o) ∧ h'.get? s.heap.objs.size = some { cls := .type "list", dict := none, data := .seq acc c', slots := #[] } ∧ ItemsOf P acc n)
    (s := { s with heap := s.heap.push { cls := .type "list", data := .seq ([] : List Value).toArray } }) K hh (K.keep _ _ hok fun b _ o e => Heap.get?_push_of_some _ e) _ (Nat.ne_of_gt hlt.1) (Nat.ne_of_gt hlt.2) _ 0 hS
    (fun h' tk acc c' hk e hi => ⟨rfl, h', tk, acc, c', rfl, fun b o q => hk b o (Nat.ne_of_lt (Heap.lt_size q)) (Heap.get?_push_of_some _ q), e, hi⟩) hn) (fun fin s' h => ?_) (fun e s' h => ?_)
  · cases fin with
    | done f =>
      obtain ⟨e, h', tk, acc, c', rfl, hk, hS', hi⟩ := h
      cases e
      show wpAny _ A (load s.heap.objs.size >>= _) _ _ _
      exact wpAny_bind (wpAny_load hS' (wpAny_pure (hQ h' tk acc hk hi)))
    | again c' =>
      refine ⟨h.1, codeAny_mono h.2 fun rr s'' hr' => ?_⟩
      obtain ⟨rfl, h', tk, acc, c', rfl, hk, hS', hi⟩ := hr'
      show wpAny _ A (load s.heap.objs.size >>= _) _ _ _
      exact wpAny_bind (wpAny_load hS' (wpAny_pure (hQ h' tk acc hk hi)))
  · exact absurd h.1 (by simp)
theorem code_tuple_new_src {Q₁ : Value → Shared → Prop} (K : PySem.W.KdlSrc prog w T r d n P OK) (hh : A.handled = none) (hok : OK s.heap) (hn : n ≤ sizeLine)
    (h : ∀ (h' : Heap) (tk : Nat) (acc : Array Value), (∀ b o, s.heap.get? b = some o → h'.get? b = some o) → ItemsOf P acc n →
      Q₁ (.ref h'.objs.size) { s with heap := h'.push { cls := .type "tuple", data := .seq acc }, toks := tk }) :
    codeAny (model prog w) A (.call (.builtin "tuple.__new__") ⟨[.type "tuple", .ref r], []⟩) (wants Q₁ E) s := by
  refine codeAny_of_tree ?_
  show wpAny _ A.in1 (do checkBuiltinCall "tuple.__new__" ⟨[.type "tuple", .ref r], []⟩; again (.builtin "tuple.__new__" ⟨[.type "tuple", .ref r], []⟩)) _ _ s
  refine wpAny_bind (wpAny_of_eq (F.newCall_tuple_1 _) (wpAny_pure ⟨plainId_quiet F.plain_tuple_new _, codeAny_builtin F.entry_tuple_new ?_⟩))
  rw [Around.under_plainId F.plain_tuple_new _]
  have hsub := sub_tuple_self
  have hinit := init_tuple_lookup
  have hmh := madeHere_tuple
  have hTI : s.TypeIs (.ref r) T := K.type s hok
  have hnt := K.notTuple
  have hh1 : A.in1.handled = none := hh
  wp_walk using wpAny_typeOf hTI, collect_src (A := A.in1) K hh1 hok hn
  intro h' tk acc hk hacc
  show wpAny _ _ (Builtin.Tuple.tupleExact acc.toList.toArray >>= fun v => ret v) _ _ _
  unfold Builtin.Tuple.tupleExact
  refine wpAny_bind (wpAny_newObj_type ?_ (by show acc.toList.toArray.size ≤ sizeLine; simp only [Array.toArray_toList]; rw [hacc.1]; exact hn))
  refine wpAny_pure ?_
  have e : acc.toList.toArray = acc := by simp
  rw [e]
  exact h h' tk acc hk hacc
theorem call_tuple_src {Q : Value → Shared → Prop} (K : PySem.W.KdlSrc prog w T r d n P OK) (hh : A.handled = none) (hok : OK s.heap) (hn : n ≤ sizeLine)
    (hQ : ∀ (h' : Heap) (tk : Nat) (acc : Array Value), (∀ b o, s.heap.get? b = some o → h'.get? b = some o) → ItemsOf P acc n →
      Q (.ref h'.objs.size) { s with heap := h'.push { cls := .type "tuple", data := .seq acc }, toks := tk }) :
    wpAny (model prog w) A (call (.type "tuple") [.ref r]) Q E s := by
  refine callType_codes (Q₁ := fun obj s₁ => s₁.TypeIs obj "tuple" ∧ Q obj s₁) F.called_tuple (F.typeCall_tuple_1 _) F.entry_object_init
    (code_tuple_new_src (A := A.in1) K hh hok hn fun h' tk acc hk hacc => ⟨⟨_, Heap.get?_push_size _ rfl, rfl⟩, hQ h' tk acc hk hacc⟩) fun obj s₁ h₁ => ?_
  exact ⟨h₁.1, F.args_object_init_2 obj _, object_init_meets F.called_tuple.init.lookup F.called_tuple.made (by decide) prog w A.in1 _ s₁ ⟨h₁.1, rfl, h₁.2⟩⟩
end
def rTupD : List V → Hp → VK → Prop := fun xs H Q => ∃ p kvs, xs = [.ref p] ∧ H p = some (.dK kvs) ∧ ∀ q, H q = none → Q (.ref q) (upd H q (.tup (kvs.map fun kv => kV kv.1)))
theorem call_tuple_dK {X : Cx} (hc : X.calm = true) : CallR X (.type "tuple") rTupD := by
  intro pins s σ H xs us Q I r h
  obtain ⟨p, kvs, e, hk, q⟩ := h
  subst e
  obtain ⟨u, eu, rx⟩ := vals1 r
  subst eu
  obtain rfl : u = Value.ref p := rx
  obtain ⟨z, lo, vs, rk, hd⟩ := (show ObjOk X.prog X.w H s.heap p (.dK kvs) from I.hok p _ hk)
  obtain ⟨ep, hat⟩ := hd.dictAt
  have hl : kvs.length = vs.length := Paired.length rk
  refine call_tuple_src (PySem.W.kdl_dict (knd := mixKind X.prog X.w) (kvs := vs) (ep := ep) lo) (I.ok.hd hc) hat (by rw [← hl]; exact z) fun h' tk acc' hkeep hacc => ?_
  have I1 : Inv X pins σ H { s with heap := h', toks := tk } := I.kept hkeep
  refine ⟨.ref h'.objs.size, upd H h'.objs.size (.tup (kvs.map fun kv => kV kv.1)), I1.laid (t' := tk) (fun b o e => Heap.get?_push_of_some _ e) (Nat.le_refl _) (show ObjOk X.prog X.w _ _ _ (.tup (kvs.map fun kv => kV kv.1)) from ⟨?_, acc'.toList, ?_, ?_⟩), rfl, q _ (I1.hok.fresh (Nat.le_refl _))⟩
  · rw [List.length_map]; exact z
  · have el : acc'.toList.length = acc'.size := by simp
    refine vals_of_at (by rw [List.length_map, el, hacc.1, hl]) fun j x w h1 h2 => ?_
    obtain ⟨k, y, hky, hi⟩ := hacc.2 j w (by rw [← Array.getElem?_toList]; exact h2)
    have e1 : (kvs.map (·.1))[j]? = some k := by
      rw [KV.keys rk, List.getElem?_map, hky] <;> rfl
    have e2 : (kvs.map fun kv => kV kv.1)[j]? = some (kV k) := by
      have e3 : (kvs.map fun kv => kV kv.1) = (kvs.map (·.1)).map kV := by rw [List.map_map] <;> rfl
      rw [e3, List.getElem?_map, e1] <;> rfl
    rw [e2] at h1
    cases h1
    exact keyIs_rel hi
  · have e : acc'.toList.toArray = acc' := by simp
    rw [e]
    exact IsTup.new _ _
/-- text * int -/
def repS (z : Str) (n : Nat) : Str := ⟨((List.replicate n z.cps.toList).flatten).toArray⟩
def rMulS : R2 := fun x y H Q => ∃ z n, x = .str z ∧ y = .int n ∧ -(2 ^ 63) ≤ n ∧ n < 2 ^ 63 ∧ z.length * n.toNat ≤ sizeLine ∧ Q (.str (repS z n.toNat)) H
theorem repS_fold (z : Str) : ∀ (n : Nat) (acc : Array Nat), (List.replicate n z.cps).foldl (· ++ ·) acc = acc ++ ((List.replicate n z.cps.toList).flatten).toArray
  | 0, acc => by simp
  | n + 1, acc => by
    rw [List.replicate_succ, List.foldl_cons, repS_fold z n, List.replicate_succ, List.flatten_cons, Array.append_assoc]
    congr 1
    apply Array.ext'
    simp
theorem repS_length (z : Str) (n : Nat) : (repS z n).length = z.length * n := by
  show ((List.replicate n z.cps.toList).flatten).toArray.size = z.cps.size * n
  rw [List.size_toArray, List.length_flatten, List.map_replicate, List.sum_replicate_nat, Array.length_toList, Nat.mul_comm]
theorem op_mulS {X : Cx} : OpR X (binaryOp .Mult) rMulS := by
  intro pins s σ H x y v u Q I r1 r2 h
  obtain ⟨z, n, rfl, rfl, h1, h2, h3, q⟩ := h
  obtain ⟨t, rfl⟩ := r1
  obtain ⟨t', rfl⟩ := r2
  have hr : (decide (n < -(2 ^ 63 : Int)) || decide (n ≥ 2 ^ 63)) = false := by
    rw [decide_eq_false (by omega), decide_eq_false (by omega)]; rfl
  have line : (sizeLine : Nat) = 16777216 := sizeLine_eq
  refine PySem.P.mul_str hr (fun hn hz => ?_) (fun hn hz => ?_) ?_
  · have h4 : ((z.length * n.toNat : Nat) : Int) ≤ 16777216 := by rw [line] at h3; exact Int.ofNat_le.mpr h3
    have h5 : ((n.toNat : Nat) : Int) = n := Int.toNat_of_nonneg (by omega)
    have h6 : (z.length : Int) * n ≤ 16777216 := by rw [← h5]; rw [Int.natCast_mul] at h4; exact h4
    have h7 : (z.length : Int) ≤ (2 ^ 63 - 1) / n := (Int.le_ediv_iff_mul_le (by omega)).mpr (by omega)
    omega
  · show decide (z.length * n.toNat > sizeLine) = false
    exact decide_eq_false (by omega)
  · by_cases c1 : n < 1
    · rw [if_pos c1]
      refine ⟨by decide, ⟨.str Str.empty, H, I.tok _, ⟨_, rfl⟩, ?_⟩⟩
      have e : repS z n.toNat = Str.empty := by
        have : n.toNat = 0 := by omega
        rw [this]; rfl
      rw [← e]; exact q
    · rw [if_neg c1]
      by_cases c2 : (n == 1 || z.length == 0) = true
      · rw [if_pos c2]
        refine ⟨.str z, H, I, ⟨_, rfl⟩, ?_⟩
        have e : repS z n.toNat = z := by
          obtain ⟨cs⟩ := z
          unfold repS
          rw [Bool.or_eq_true] at c2
          rcases c2 with c2 | c2
          · have : n = 1 := by simpa using c2
            subst this
            simp
          · have : cs = #[] := by
              have e0 : cs.size = 0 := by simpa [Str.length] using c2
              simpa using e0
            subst this
            simp
        rw [← e]; exact q
      · rw [if_neg c2]
        have e : (⟨(List.replicate n.toNat z.cps).foldl (· ++ ·) #[]⟩ : Str) = repS z n.toNat := by
          rw [repS_fold]
          unfold repS
          congr 1
          simp
        rw [e]
        refine ⟨?_, ⟨.str _, H, I.tok _, ⟨_, rfl⟩, q⟩⟩
        rw [repS_length]; exact h3
end L2

namespace L3
open PySem L2

section
variable {C : Cn}
theorem flats_of {K : PySem.W.Frag} {N : Addr → Prop} {H : Hp} : ∀ {vs : List V} {ds : List D}, VDs K N H vs ds → ds.all flatD = true → vs.all flatV = true
  | _, _, .nil, _ => rfl
  | _, _, .cons h hs, e => by
    rw [List.all_cons, Bool.and_eq_true] at e
    rw [List.all_cons, (flat_of h e.1).1, flats_of hs e.2]
    rfl
theorem in_of {K : PySem.W.Frag} {N : Addr → Prop} {H : Hp} {v : V} {d : D} (h : VD K N H v d) (e : flatD d = true) : ∀ {vs : List V} {ds : List D}, VDs K N H vs ds → ds.all flatD = true → inV v vs = inD d ds
  | _, _, .nil, _ => rfl
  | _, _, .cons h0 hs, e0 => by
    rw [List.all_cons, Bool.and_eq_true] at e0
    unfold inV inD
    rw [List.any_cons, List.any_cons, (flat_of h0 e0.1).2 _ _ h e]
    have := in_of h e hs e0.2
    unfold inV inD at this
    rw [this]
/-- x in (a list, a tuple of flat data) -/
def vIn (neg : Bool) : DV → DV → Mem → PD → Prop := fun x y M P => ∃ d ds, x = .dat d ∧ (y = .dat (.lst ds) ∨ y = .dat (.tup ds) ∨ ∃ n, y = .obj n ∧ M[n]? = some (.lst (ds.map DV.dat))) ∧ flatD d = true ∧ ds.all flatD = true ∧ P (.bl (if neg then !inD d ds else inD d ds)) M
theorem l2_in (neg : Bool) : Lo2 C (rIn C.K neg) (vIn neg) := fun x y M P ⟨d, ds, e1, e2, f1, f2, p⟩ Z α H v u Q r q1 q2 k => by
  subst e1
  rcases e2 with rfl | rfl | ⟨n, rfl, hn⟩
  · obtain ⟨a, xs, rfl, hs, hd⟩ := VD.lst_inv q2
    refine ⟨a, xs, rfl, .inl hs.sq, (flat_of q1 f1).1, flats_of hd f2, ?_⟩
    rw [in_of q1 f1 hd f2]
    exact k.now (d := .bl _) r (.bl _) p
  · obtain ⟨a, xs, rfl, hs, hd⟩ := VD.tup_inv q2
    refine ⟨a, xs, rfl, .inr hs.sq, (flat_of q1 f1).1, flats_of hd f2, ?_⟩
    rw [in_of q1 f1 hd f2]
    exact k.now (d := .bl _) r (.bl _) p
  · obtain ⟨a, ea, rfl⟩ := q2
    obtain ⟨xs, eh, hd⟩ := r.hr.get n a _ ea hn
    have hd := VRs.data hd
    refine ⟨a, xs, rfl, .inl (SqL.of eh), (flat_of q1 f1).1, flats_of hd f2, ?_⟩
    rw [in_of q1 f1 hd f2]
    exact k.now (d := .bl _) r (.bl _) p
/-- len -/
def vLen : List DV → Mem → PD → Prop := fun xs M P => ∃ x, xs = [x] ∧ ∃ n : Nat, (match x with
  | .dat (.str z) => z.length ≤ sizeLine ∧ n = z.length
  | .dat (.lst ds) => n = ds.length
  | .dat (.tup ds) => n = ds.length
  | .obj k => ∃ ys, M[k]? = some (.lst ys) ∧ n = ys.length
  | _ => False) ∧ P (.int n) M
theorem one_inv {α : List Addr} {H : Hp} {vs : List V} {x : DV} (q : VRs C α H vs [x]) : ∃ v, vs = [v] ∧ VR C α H v x := by
  cases q with
  | cons a t => cases t; exact ⟨_, rfl, a⟩
theorem two_inv {α : List Addr} {H : Hp} {vs : List V} {x y : DV} (q : VRs C α H vs [x, y]) : ∃ v w, vs = [v, w] ∧ VR C α H v x ∧ VR C α H w y := by
  cases q with
  | cons a t => obtain ⟨w, rfl, b⟩ := one_inv t; exact ⟨_, _, rfl, a, b⟩
def rLen (K : PySem.W.Frag) : List V → Hp → VK → Prop := fun xs H Q => ∃ x n, xs = [x] ∧ LenV K x H n ∧ Q (.int n) H
theorem call_lenA {X : Cx} : CallR X (.builtin "len") (rLen X.K) := call_len
theorem ll_len : LoL C (rLen C.K) vLen := fun xs M P ⟨x, e, n, hx, p⟩ Z α H vs Q r q k => by
  subst e
  obtain ⟨v, rfl, q0⟩ := one_inv q
  refine ⟨v, n, rfl, ?_, k.now (d := .int n) r (.int _) p⟩
  cases x with
  | obj i =>
    obtain ⟨ys, hm, rfl⟩ := hx
    obtain ⟨a, ea, rfl⟩ := q0
    obtain ⟨zs, eh, hd⟩ := r.hr.get i a _ ea hm
    exact .inl ⟨zs, SqL.of eh, (VRs.length hd).symm⟩
  | dat d =>
    cases q0 with
    | str z => exact hx
    | tup hs hd => exact .inr ⟨_, hs.sq, by rw [hd.length]; exact hx⟩
    | lst hs hd => exact .inl ⟨_, hs.sq, by rw [hd.length]; exact hx⟩
    | _ => exact hx.elim
/-- len of a dict -/
def rLenD : List V → Hp → VK → Prop := fun xs H Q => ∃ p kvs, xs = [.ref p] ∧ H p = some (.dK kvs) ∧ Q (.int kvs.length) H
def vLenD : List DV → Mem → PD → Prop := fun xs M P => ∃ n kvs, xs = [.obj n] ∧ M[n]? = some (.dK kvs) ∧ P (.int kvs.length) M
/-- a[i] -/
def vIx : DV → DV → Mem → PD → Prop := fun x y M P => ∃ i, y = .int i ∧ match x with
  | .dat (.lst ds) => ∃ d, atI ds i = some d ∧ P (.dat d) M
  | .dat (.tup ds) => ∃ d, atI ds i = some d ∧ P (.dat d) M
  | .dat (.str z) => z.length ≤ sizeLine ∧ ∃ c, atI z.cps.toList i = some c ∧ P (.str ⟨#[c]⟩) M
  | .obj n => ∃ ys d, M[n]? = some (.lst ys) ∧ atI ys i = some d ∧ P d M
  | _ => False
theorem atI_get {β γ : Type} {xs : List β} {ys : List γ} (h : xs.length = ys.length) {i : Int} {y : γ} (e : atI ys i = some y) : ∃ j, ixN xs.length i = some j ∧ ys[j]? = some y := by
  unfold atI at e
  rw [← h] at e
  cases q : ixN xs.length i with
  | none => rw [q] at e; cases e
  | some j => rw [q] at e; exact ⟨j, rfl, e⟩
theorem atI_of {β : Type} {xs : List β} {i : Int} {j : Nat} {x : β} (h : ixN xs.length i = some j) (e : xs[j]? = some x) : atI xs i = some x := by
  unfold atI
  rw [h]
  exact e
theorem l2_ix : Lo2 C (rIx C.K) vIx := fun x y M P ⟨i, e, hx⟩ Z α H v u Q r q1 q2 k => by
  subst e
  cases q2
  cases x with
  | obj n =>
    obtain ⟨ys, d, hm, ha, p⟩ := hx
    obtain ⟨a, ea, rfl⟩ := q1
    obtain ⟨zs, eh, hd⟩ := r.hr.get n a _ ea hm
    obtain ⟨j, hj, hy⟩ := atI_get (VRs.length hd) ha
    obtain ⟨w, hw, qw⟩ := VRs.at hd hy
    exact .inl ⟨a, zs, i, w, rfl, rfl, SqL.of eh, atI_of hj hw, k.now r qw p⟩
  | dat d =>
    cases q1 with
    | str z =>
      obtain ⟨hz, c, hc, p⟩ := hx
      exact .inr (.inr ⟨z, i, c, rfl, rfl, hz, hc, k.now (d := .str ⟨#[c]⟩) r (.str _) p⟩)
    | tup hs hd =>
      obtain ⟨d, ha, p⟩ := hx
      obtain ⟨j, hj, hy⟩ := atI_get hd.length ha
      obtain ⟨w, hw, qw⟩ := hd.get hy
      exact .inr (.inl ⟨_, _, i, w, rfl, rfl, hs.sq, atI_of hj hw, k.now (d := .dat d) r qw p⟩)
    | lst hs hd =>
      obtain ⟨d, ha, p⟩ := hx
      obtain ⟨j, hj, hy⟩ := atI_get hd.length ha
      obtain ⟨w, hw, qw⟩ := hd.get hy
      exact .inl ⟨_, _, i, w, rfl, rfl, hs.sq, atI_of hj hw, k.now (d := .dat d) r qw p⟩
    | _ => exact hx.elim
theorem lp_ix_k0 {X : Cx} {W : WX} {a b : Expr} {ta tb : TE} {la lb : LE} {pos : Pos} (hK : X.K = C.K) (ha : LPE X C W a ta la) (hb : LPE X C W b tb lb) (hs : PlainIx b) : LPE X C W (.Subscript a b pos) (tOp (rIx X.K) ta tb) (lOp vIx la lb) := ⟨pe_ix ix_seq ha.pe hb.pe hs, by rw [hK]; exact lo_op l2_ix ha.lo hb.lo⟩
theorem lp_ix {X : Cx} {W : WX} {a b : Expr} {ta tb : TE} {la lb : LE} {pos : Pos} (hK : X.K = C.K) (ha : LPE X C W a ta la) (hb : LPE X C W b tb lb) (hs : PlainIx b) : LPE X C W (.Subscript a b pos) (tOp (rIx C.K) ta tb) (lOp vIx la lb) := by
  rw [← hK]
  apply lp_ix_k0 <;> assumption
/-- a[lo:hi] -/
def cutD {β : Type} (xs : List β) (lo hi : Option Int) : List β := (xs.drop (HT.sIx xs.length 0 lo)).take (HT.sIx xs.length xs.length hi - HT.sIx xs.length 0 lo)
abbrev LO := Rho → Mem → (Option Int → Mem → Prop) → PXn → Prop
def lNoPart : LO := fun _ M P _ => P none M
def lPart (l : LE) : LO := fun ρ M P PX => l ρ M (fun x M1 => ∃ i, x = .int i ∧ P (some i) M1) PX
def LoO (C : Cn) (W : WX) (to : TO) (l : LO) : Prop := ∀ ρ M P PX, l ρ M P PX → ∀ Z σ H α (Q : Option Int → Hp → Prop), VS (C.wz Z) α H σ ρ → RS (C.wz Z) α M H → (∀ o H' α' M', Step (C.wz Z) α H α' H' → RS (C.wz Z) α' M' H' → P o M' → Q o H') → Wk (C.wz Z) α H W σ PX → to σ H Q
structure LPO (X : Cx) (C : Cn) (W : WX) (e : Option Expr) (to : TO) (l : LO) : Prop where
  po : PO X e to
  lo : LoO C W to l
theorem lpo_none {X : Cx} {W : WX} : LPO X C W none tNoPart lNoPart := ⟨po_none, fun ρ M P PX h Z σ H α Q vs r k wk => k none H α M Step.refl r h⟩
theorem lpo_some {X : Cx} {W : WX} {e : Expr} {te : TE} {le : LE} (h : LPE X C W e te le) : LPO X C W (some e) (tPart te) (lPart le) := ⟨po_some h.pe, fun ρ M P PX g Z σ H α Q vs r k wk =>
  h.lo.bind g vs r wk fun v H1 α1 x M1 s1 r1 q1 h1 vs1 wk1 => by
    obtain ⟨i, rfl, p⟩ := h1
    cases q1
    exact ⟨i, rfl, k (some i) H1 α1 M1 s1 r1 p⟩⟩
/-- a slice: of a text, a list (a new one), -/
def vSl : DV → Option Int → Option Int → Mem → PD → Prop := fun x lo hi M P => match x with
  | .dat (.str z) => z.length ≤ sizeLine ∧ P (.str (cutS z lo hi)) M
  | .dat (.lst ds) => P (.dat (.lst (cutD ds lo hi))) M
  | .obj n => ∃ ds : List D, M[n]? = some (.lst (ds.map DV.dat)) ∧ P (.dat (.lst (cutD ds lo hi))) M
  | _ => False
def rSlA (K : PySem.W.Frag) : V → Option Int → Option Int → Hp → VK → Prop := fun x lo hi H Q => rSlL K x lo hi H Q ∨ rSlS x lo hi H Q
theorem sl_A {X : Cx} : SlR X (rSlA X.K) := sl_list.or sl_str
def lSl (ls : DV → Option Int → Option Int → Mem → PD → Prop) (le : LE) (ll lh : LO) : LE := fun ρ M P PX => le ρ M (fun x M1 => ll ρ M1 (fun a M2 => lh ρ M2 (fun b M3 => ls x a b M3 P) PX) PX) PX
theorem VDs.cut {K : PySem.W.Frag} {N : Addr → Prop} {H : Hp} {xs : List V} {ds : List D} (h : VDs K N H xs ds) (lo hi : Option Int) : VDs K N H (cutV xs lo hi) (cutD ds lo hi) := by
  unfold cutV cutD
  rw [h.length]
  exact (h.drop _).take _
theorem lo_sl {W : WX} {te : TE} {le : LE} {tl th : TO} {ll lh : LO} (he : LoE C W te le) (hl : LoO C W tl ll) (hh : LoO C W th lh) : LoE C W (tSl (rSlA C.K) te tl th) (lSl vSl le ll lh) := fun ρ M P PX g Z σ H α Q vs r k wk =>
  he.bind g vs r wk fun v H1 α1 x M1 s1 r1 q1 h1 vs1 wk1 => hl ρ M1 _ PX h1 Z σ H1 α1 _ vs1 r1 (fun a H2 α2 M2 s2 r2 h2 => hh ρ M2 _ PX h2 Z σ H2 α2 _ (vs1.step s2) r2 (fun b H3 α3 M3 s3 r3 h3 => by
    have st := s2.trans s3
    have q3 := q1.step st
    have k3 := k.step (s1.trans st)
    cases x with
    | obj n =>
      obtain ⟨ds, hm, p⟩ := h3
      obtain ⟨a0, ea, rfl⟩ := q3
      obtain ⟨zs, eh, hd⟩ := r3.hr.get n a0 _ ea hm
      have hd := VRs.data hd
      refine .inl ⟨a0, zs, rfl, SqL.of eh, fun p0 hp => ?_⟩
      obtain ⟨r4, s4⟩ := r3.new1 (o := .lst (cutV zs a b)) hp
      exact k3 _ _ α3 (.dat (.lst (cutD ds a b))) M3 s4 r4 (.lst (.inl ⟨.inl upd_same, r3.fresh hp⟩) ((hd.cut a b).mv s4.mv)) p
    | dat d =>
      cases q3 with
      | str z => exact .inr ⟨z, rfl, h3.1, k3.now (d := .str (cutS z a b)) r3 (.str _) h3.2⟩
      | lst hs hd =>
        refine .inl ⟨_, _, rfl, hs.sq, fun p0 hp => ?_⟩
        obtain ⟨r4, s4⟩ := r3.new1 (o := .lst (cutV _ a b)) hp
        exact k3 _ _ α3 (.dat (.lst (cutD _ a b))) M3 s4 r4 (.lst (.inl ⟨.inl upd_same, r3.fresh hp⟩) ((hd.cut a b).mv s4.mv)) h3
      | _ => exact h3.elim) (wk1.step s2)) wk1
theorem lp_sl_k0 {X : Cx} {W : WX} {e : Expr} {lo hi : Option Expr} {te : TE} {le : LE} {tl th : TO} {ll lh : LO} {pos p2 : Pos} (hK : X.K = C.K) (he : LPE X C W e te le) (hl : LPO X C W lo tl ll) (hh : LPO X C W hi th lh) : LPE X C W (.Subscript e (.Slice lo hi none p2) pos) (tSl (rSlA X.K) te tl th) (lSl vSl le ll lh) :=
  ⟨pe_slice sl_A he.pe hl.po hh.po, by rw [hK]; exact lo_sl he.lo hl.lo hh.lo⟩
theorem lp_sl {X : Cx} {W : WX} {e : Expr} {lo hi : Option Expr} {te : TE} {le : LE} {tl th : TO} {ll lh : LO} {pos p2 : Pos} (hK : X.K = C.K) (he : LPE X C W e te le) (hl : LPO X C W lo tl ll) (hh : LPO X C W hi th lh) : LPE X C W (.Subscript e (.Slice lo hi none p2) pos) (tSl (rSlA C.K) te tl th) (lSl vSl le ll lh) := by
  rw [← hK]
  apply lp_sl_k0 <;> assumption
/-- a[i] = v, a known list -/
def lSetIx (lo li lv : LE) : LS := fun L ρ M => lv ρ M (fun v M1 => lo ρ M1 (fun x M2 => li ρ M2 (fun y M3 => ∃ n ys i j, x = .obj n ∧ y = .int i ∧ M3[n]? = some (.lst ys) ∧ ixN ys.length i = some j ∧ L.nx ρ (M3.set n (.lst (ys.set j v)))) (L.px ρ)) (L.px ρ)) (L.px ρ)
theorem VRs.set {α : List Addr} {H : Hp} {v : V} {d : DV} (q : VR C α H v d) : ∀ {xs : List V} {ds : List DV} (j : Nat), VRs C α H xs ds → VRs C α H (xs.set j v) (ds.set j d)
  | _, _, _, .nil => .nil
  | _, _, 0, .cons _ t => .cons q t
  | _, _, j + 1, .cons r t => .cons r (VRs.set q j t)
theorem lps_setIx {X : Cx} {W : WX} {o i e : Expr} {to ti te : TE} {lo li le : LE} {pos tpos : Pos} (ho : LPE X C W o to lo) (hi : LPE X C W i ti li) (he : LPE X C W e te le) (hs : swapsWithSole [.Subscript o i tpos] e pos.line X.env = pure false := by rfl) (hw : swappedStores [.Subscript o i tpos] e X.env = pure none := by rfl)
    (ha : ∀ v, assign (.Subscript o i tpos) X.env v = (do
      let ov ← holding [v] (eval o X.env)
      let iv ← holding [v, ov] (eval i X.env)
      standAt tpos
      holding [v, ov, iv] (setItem ov iv v)
      release [v, ov, iv] []) := by intro _; rfl)
    (h1 : (assignEach [.Subscript o i tpos] X.env).map (·.2) = [assign (.Subscript o i tpos) X.env] := by rfl) : LPS X C W (.Assign [.Subscript o i tpos] e pos) (tAsg te (gSub to ti rSetL)) (lSetIx lo li le) :=
  ⟨ps_asg he.pe (pg_sub ho.pe hi.pe set_list ha) hs hw h1, fun L ρ M h Z D σ H α vs r d =>
    he.lo.bind h vs r (d.wk vs) fun v H1 α1 y M1 s1 r1 q1 h1 vs1 wk1 => ho.lo.bind h1 vs1 r1 wk1 fun u H2 α2 x M2 s2 r2 q2 h2 vs2 wk2 => hi.lo.bind h2 vs2 r2 wk2 fun w H3 α3 z M3 s3 r3 q3 h3 vs3 wk3 => by
      obtain ⟨n, ys, i0, j, rfl, rfl, hM, hj, p⟩ := h3
      obtain ⟨a, ea, rfl⟩ := q2.step s3
      cases q3
      obtain ⟨xs, eh, hd⟩ := r3.hr.get n a _ ea hM
      have st : Step (C.wz Z) α3 H3 α3 (upd H3 a (.lst (xs.set j v))) := put_step ea
      obtain ⟨r4, s4⟩ := r3.put (mo := .lst (ys.set j y)) ea ⟨_, upd_same, VRs.set ((q1.step (s2.trans s3)).step st) j (VRs.step hd st)⟩ (r3.noT ea hM)
      exact ⟨a, xs, i0, j, rfl, rfl, eh, by rw [VRs.length hd]; exact hj, d.nx σ _ α3 ρ _ (((s1.trans s2).trans s3).trans s4) (vs3.step s4) r4 p⟩⟩
/-- methods of built-in types: the receiver is told by what it is -/
def tyD (T : String) : DV → Mem → Prop
  | .dat (.str _), _ => T = "str"
  | .dat (.lst _), _ => T = "list"
  | .obj n, M => T = "list" ∧ ∃ xs, M[n]? = some (.lst xs)
  | _, _ => False
theorem tyD_of {Z : List Addr} {T : String} {α : List Addr} {H : Hp} {M : Mem} {v : V} {x : DV} (r : RS (C.wz Z) α M H) (q : VR (C.wz Z) α H v x) (h : tyD T x M) : tyV C.K T v H := by
  cases x with
  | obj n =>
    obtain ⟨e, xs, hm⟩ := h
    obtain ⟨a, ea, rfl⟩ := q
    obtain ⟨zs, eh, _⟩ := r.hr.get n a _ ea hm
    exact .inl ⟨e, zs, SqL.of eh⟩
  | dat d =>
    cases q with
    | str z => exact h
    | lst hs hd => exact .inl ⟨h, _, hs.sq⟩
    | _ => exact h.elim
def LoM (C : Cn) (r : V → List V → Hp → VK → Prop) (lr : DV → List DV → Mem → PD → Prop) : Prop := ∀ x xs M P, lr x xs M P → ∀ Z α H v vs Q, RS (C.wz Z) α M H → VR (C.wz Z) α H v x → VRs (C.wz Z) α H vs xs → Kt (C.wz Z) α H P Q → r v vs H Q
def lBM0 (T : String) (lr : DV → List DV → Mem → PD → Prop) (lo : LE) : LE := fun ρ M P PX => lo ρ M (fun x M1 => tyD T x M1 ∧ lr x [] M1 P) PX
def lBM (T : String) (lr : DV → List DV → Mem → PD → Prop) (lo : LE) (la : LA) : LE := fun ρ M P PX => lo ρ M (fun x M1 => tyD T x M1 ∧ la ρ M1 (fun xs M2 => lr x xs M2 P) PX) PX
theorem lo_bm0 {W : WX} {T : String} {r : V → List V → Hp → VK → Prop} {lr : DV → List DV → Mem → PD → Prop} {to : TE} {lo : LE} (hr : LoM C r lr) (ho : LoE C W to lo) : LoE C W (tBM0 C.K T r to) (lBM0 T lr lo) := fun ρ M P PX g Z σ H α Q vs rs k wk =>
  ho.bind g vs rs wk fun v H1 α1 x M1 s1 r1 q1 h1 vs1 wk1 => ⟨tyD_of r1 q1 h1.1, hr x [] M1 P h1.2 Z α1 H1 v [] Q r1 q1 .nil (k.step s1)⟩
theorem lo_bm {W : WX} {T : String} {r : V → List V → Hp → VK → Prop} {lr : DV → List DV → Mem → PD → Prop} {to : TE} {lo : LE} {ta : TA} {la : LA} (hr : LoM C r lr) (ho : LoE C W to lo) (ha : LoA C W ta la) : LoE C W (tBM C.K T r to ta) (lBM T lr lo la) := fun ρ M P PX g Z σ H α Q vs rs k wk =>
  ho.bind g vs rs wk fun v H1 α1 x M1 s1 r1 q1 h1 vs1 wk1 => ⟨tyD_of r1 q1 h1.1, ha.bind h1.2 vs1 r1 wk1 fun us H2 α2 ds M2 s2 r2 q2 h2 vs2 wk2 => hr x ds M2 P h2 Z α2 H2 v us Q r2 (q1.step s2) q2 (k.step (s1.trans s2))⟩
/-- xs.append(y) -/
def vAppend : DV → List DV → Mem → PD → Prop := fun x xs M P => ∃ n ys y, x = .obj n ∧ xs = [y] ∧ M[n]? = some (.lst ys) ∧ ys.length < sizeLine ∧ P .non (M.set n (.lst (ys ++ [y])))
theorem VRs.append {α : List Addr} {H : Hp} : ∀ {xs zs : List V} {ds es : List DV}, VRs C α H xs ds → VRs C α H zs es → VRs C α H (xs ++ zs) (ds ++ es)
  | _, _, _, _, .nil, h => h
  | _, _, _, _, .cons a b, h => .cons a (VRs.append b h)
theorem lm_append : LoM C rAppend vAppend := fun x xs M P ⟨n, ys, y, e1, e2, hm, hl, p⟩ Z α H v vs Q r q qs k => by
  subst e1 e2
  obtain ⟨w, rfl, qw⟩ := one_inv qs
  obtain ⟨a, ea, rfl⟩ := q
  obtain ⟨zs, eh, hd⟩ := r.hr.get n a _ ea hm
  have st : Step (C.wz Z) α H α (upd H a (.lst (zs ++ [w]))) := put_step ea
  obtain ⟨r4, s4⟩ := r.put (mo := .lst (ys ++ [y])) ea ⟨_, upd_same, VRs.append (VRs.step hd st) (.cons (qw.step st) .nil)⟩ (r.noT ea hm)
  exact ⟨a, zs, w, rfl, rfl, eh, by rw [VRs.length hd]; exact hl, k _ _ α .non _ s4 r4 .non p⟩
/-- methods of texts with a text: by their values -/
theorem lm_sb {g : Str → Str → Bool} : LoM C (fun x xs H Q => ∃ a b, x = .str a ∧ xs = [.str b] ∧ Q (.bl (g a b)) H) (fun x xs M P => ∃ a b, x = .str a ∧ xs = [.str b] ∧ P (.bl (g a b)) M) := fun x xs M P ⟨a, b, e1, e2, p⟩ Z α H v vs Q r q qs k => by
  subst e1 e2
  obtain ⟨w, rfl, qw⟩ := one_inv qs
  cases q; cases qw
  exact ⟨a, b, rfl, rfl, k.now (d := .bl _) r (.bl _) p⟩
theorem lm_si {g : Str → Str → Int} : LoM C (fun x xs H Q => ∃ a b, x = .str a ∧ xs = [.str b] ∧ Q (.int (g a b)) H) (fun x xs M P => ∃ a b, x = .str a ∧ xs = [.str b] ∧ P (.int (g a b)) M) := fun x xs M P ⟨a, b, e1, e2, p⟩ Z α H v vs Q r q qs k => by
  subst e1 e2
  obtain ⟨w, rfl, qw⟩ := one_inv qs
  cases q; cases qw
  exact ⟨a, b, rfl, rfl, k.now (d := .int _) r (.int _) p⟩
/-- s.split(t) -/
def vSplit : DV → List DV → Mem → PD → Prop := fun x xs M P => ∃ a b, x = .str a ∧ xs = [.str b] ∧ (b.length == 0) = false ∧ a.length + 2 ≤ sizeLine ∧ P (.dat (.lst ((Txt.split a b).map D.str))) M
theorem lm_split : LoM C (fun x xs H Q => ∃ a b, x = .str a ∧ xs = [.str b] ∧ (b.length == 0) = false ∧ a.length + 2 ≤ sizeLine ∧ rNewStrs (Txt.split a b) H Q) vSplit := fun x xs M P ⟨a, b, e1, e2, h1, h2, p⟩ Z α H v vs Q r q qs k => by
  subst e1 e2
  obtain ⟨w, rfl, qw⟩ := one_inv qs
  cases q; cases qw
  refine ⟨a, b, rfl, rfl, h1, h2, fun p0 hp => ?_⟩
  obtain ⟨r4, s4⟩ := r.new1 (o := .lst ((Txt.split a b).map V.str)) hp
  exact k _ _ α (.dat (.lst ((Txt.split a b).map D.str))) M s4 r4 (.lst (.inl ⟨.inl upd_same, r.fresh hp⟩) (VDs.map_str _)) p
/-- s.partition(t) -/
def vPartition : DV → List DV → Mem → PD → Prop := fun x xs M P => ∃ a b, x = .str a ∧ xs = [.str b] ∧ (b.length == 0) = false ∧ a.length ≤ sizeLine ∧ P (.dat (.tup [.str (Txt.partition a b).1, .str (Txt.partition a b).2.1, .str (Txt.partition a b).2.2])) M
theorem lm_partition : LoM C (fun x xs H Q => ∃ a b, x = .str a ∧ xs = [.str b] ∧ (b.length == 0) = false ∧ a.length ≤ sizeLine ∧
    ∀ p, H p = none → Q (.ref p) (upd H p (.tup [.str (Txt.partition a b).1, .str (Txt.partition a b).2.1, .str (Txt.partition a b).2.2]))) vPartition := fun x xs M P ⟨a, b, e1, e2, h1, h2, p⟩ Z α H v vs Q r q qs k => by
  subst e1 e2
  obtain ⟨w, rfl, qw⟩ := one_inv qs
  cases q; cases qw
  refine ⟨a, b, rfl, rfl, h1, h2, fun p0 hp => ?_⟩
  obtain ⟨r4, s4⟩ := r.new1 (o := .tup [.str (Txt.partition a b).1, .str (Txt.partition a b).2.1, .str (Txt.partition a b).2.2]) hp
  exact k _ _ α (.dat (.tup [.str (Txt.partition a b).1, .str (Txt.partition a b).2.1, .str (Txt.partition a b).2.2])) M s4 r4 (.tup (.inl ⟨.inl upd_same, r.fresh hp⟩) (.cons (.str _) (.cons (.str _) (.cons (.str _) .nil)))) p
/-- sep.join(texts) -/
def vJoin : DV → List DV → Mem → PD → Prop := fun x xs M P => ∃ a, ∃ ys : List Str, x = .str a ∧ (xs = [.dat (.lst (ys.map D.str))] ∨ xs = [.dat (.tup (ys.map D.str))] ∨ ∃ n, xs = [.obj n] ∧ M[n]? = some (.lst (ys.map DV.str))) ∧ (ys.map (·.length)).sum + ys.length * a.length ≤ 16777216 ∧ P (.str (Txt.join a ys)) M
theorem lm_join : LoM C (fun x xs H Q => ∃ a p, ∃ ys : List Str, x = .str a ∧ xs = [.ref p] ∧ (SqL C.K H p (ys.map V.str) ∨ SqT C.K H p (ys.map V.str)) ∧
    (ys.map (·.length)).sum + ys.length * a.length ≤ 16777216 ∧ Q (.str (Txt.join a ys)) H) vJoin := fun x xs M P ⟨a, ys, e1, e2, h1, p⟩ Z α H v vs Q r q qs k => by
  subst e1
  cases q
  have kk := k.now (d := .str (Txt.join a ys)) r (.str _) p
  rcases e2 with rfl | rfl | ⟨n, rfl, hn⟩
  · obtain ⟨w, rfl, qw⟩ := one_inv qs
    obtain ⟨b, zs, rfl, hs, hd⟩ := VD.lst_inv qw
    have := VDs.of_str hd
    subst this
    exact ⟨a, b, ys, rfl, rfl, .inl hs.sq, h1, kk⟩
  · obtain ⟨w, rfl, qw⟩ := one_inv qs
    obtain ⟨b, zs, rfl, hs, hd⟩ := VD.tup_inv qw
    have := VDs.of_str hd
    subst this
    exact ⟨a, b, ys, rfl, rfl, .inr hs.sq, h1, kk⟩
  · obtain ⟨w, rfl, qw⟩ := one_inv qs
    obtain ⟨b, eb, rfl⟩ := qw
    obtain ⟨zs, eh, hd⟩ := r.hr.get n b _ eb hn
    have hd : VRs (C.wz Z) α H zs ((ys.map D.str).map DV.dat) := by rw [List.map_map]; exact hd
    have := VDs.of_str (VRs.data hd)
    subst this
    exact ⟨a, b, ys, rfl, rfl, .inl (SqL.of eh), h1, kk⟩
/-- calls of classes and functions by values -/
def vInt1 : List DV → Mem → PD → Prop := fun xs M P => (∃ i, xs = [.int i] ∧ P (.int i) M) ∨ ∃ b, xs = [.bl b] ∧ P (.int (if b then 1 else 0)) M
theorem ll_int1 : LoL C (fun xs H Q => (∃ i, xs = [.int i] ∧ Q (.int i) H) ∨ ∃ k, xs = [.bl k] ∧ Q (.int (if k then 1 else 0)) H) vInt1 := fun xs M P g Z α H vs Q r q k => by
  rcases g with ⟨i, rfl, p⟩ | ⟨b, rfl, p⟩
  · obtain ⟨w, rfl, qw⟩ := one_inv q
    cases qw
    exact .inl ⟨i, rfl, k.now (d := .int i) r (.int _) p⟩
  · obtain ⟨w, rfl, qw⟩ := one_inv q
    cases qw
    exact .inr ⟨b, rfl, k.now (d := .int _) r (.int _) p⟩
def vAbs : List DV → Mem → PD → Prop := fun xs M P => ∃ i, xs = [.int i] ∧ P (.int (if i < 0 then -i else i)) M
theorem ll_abs : LoL C (fun xs H Q => ∃ i, xs = [.int i] ∧ Q (.int (if i < 0 then -i else i)) H) vAbs := fun xs M P ⟨i, e, p⟩ Z α H vs Q r q k => by
  subst e
  obtain ⟨w, rfl, qw⟩ := one_inv q
  cases qw
  exact ⟨i, rfl, k.now (d := .int _) r (.int _) p⟩
def vStrI : List DV → Mem → PD → Prop := fun xs M P => ∃ i, xs = [.int i] ∧ i.natAbs.log2 < 1920 ∧ P (.str (toString i)) M
theorem ll_strI : LoL C (fun xs H Q => ∃ i : Int, xs = [.int i] ∧ i.natAbs.log2 < 1920 ∧ Q (.str (toString i)) H) vStrI := fun xs M P ⟨i, e, h, p⟩ Z α H vs Q r q k => by
  subst e
  obtain ⟨w, rfl, qw⟩ := one_inv q
  cases qw
  exact ⟨i, rfl, h, k.now (d := .str _) r (.str _) p⟩
def vOrd : List DV → Mem → PD → Prop := fun xs M P => ∃ x, xs = [.str x] ∧ x.length = 1 ∧ P (.int (x.cps.getD 0 0 : Nat)) M
theorem ll_ord : LoL C (fun xs H Q => ∃ x, xs = [.str x] ∧ x.length = 1 ∧ Q (.int (x.cps.getD 0 0 : Nat)) H) vOrd := fun xs M P ⟨i, e, h, p⟩ Z α H vs Q r q k => by
  subst e
  obtain ⟨w, rfl, qw⟩ := one_inv q
  cases qw
  exact ⟨i, rfl, h, k.now (d := .int _) r (.int _) p⟩
theorem ll_lenD : LoL C (fun xs H Q => ∃ a kvs, xs = [V.ref a] ∧ H a = some (.dK kvs) ∧ Q (.int kvs.length) H) vLenD := fun xs M P ⟨n, kvs, e, hm, p⟩ Z α H vs Q r q k => by
  subst e
  obtain ⟨w, rfl, qw⟩ := one_inv q
  obtain ⟨a, ea, rfl⟩ := qw
  obtain ⟨ps, eh, kv⟩ := r.hr.get n a _ ea hm
  refine ⟨a, ps, rfl, eh, ?_⟩
  rw [KVR.length kv]
  exact k.now (d := .int _) r (.int _) p
/-- tuple(d) -/
def vTupD : List DV → Mem → PD → Prop := fun xs M P => ∃ n kvs, xs = [.obj n] ∧ M[n]? = some (.dK kvs) ∧ P (.dat (.tup (kvs.map fun kv => keyD kv.1))) M
theorem VDs.keys {κ : Type} {α : List Addr} {H : Hp} {N : Addr → Prop} {f : κ → V} {g : κ → D} (h : ∀ k, VD C.K N H (f k) (g k)) : ∀ {ps : List (κ × V)} {fs : List (κ × DV)}, KVR C α H ps fs → VDs C.K N H (ps.map fun p => f p.1) (fs.map fun p => g p.1)
  | _, _, .nil => .nil
  | (n, _) :: _, (n', _) :: _, .cons ⟨e, _⟩ t => by
    have e' : n = n' := e
    subst e'
    exact .cons (h n) (VDs.keys h t)
theorem key_vd {K : PySem.W.Frag} {N : Addr → Prop} {H : Hp} (k : Key) : VD K N H (kV k) (keyD k) := by
  cases k with
  | inl i => exact .int i
  | inr x => exact .str x
theorem ll_tupD : LoL C rTupD vTupD := fun xs M P ⟨n, kvs, e, hm, p⟩ Z α H vs Q r q k => by
  subst e
  obtain ⟨w, rfl, qw⟩ := one_inv q
  obtain ⟨a, ea, rfl⟩ := qw
  obtain ⟨ps, eh, kv⟩ := r.hr.get n a _ ea hm
  refine ⟨a, ps, rfl, eh, fun p0 hp => ?_⟩
  obtain ⟨r4, s4⟩ := r.new1 (o := .tup (ps.map fun kv => kV kv.1)) hp
  exact k _ _ α (.dat (.tup (kvs.map fun kv => keyD kv.1))) M s4 r4 (.tup (.inl ⟨.inl upd_same, r.fresh hp⟩) (VDs.keys (fun k => key_vd k) (KVR.step kv s4))) p
/-- text * int -/
def vMulS : DV → DV → Mem → PD → Prop := fun x y M P => ∃ z n, x = .str z ∧ y = .int n ∧ -(2 ^ 63) ≤ n ∧ n < 2 ^ 63 ∧ z.length * n.toNat ≤ sizeLine ∧ P (.str (repS z n.toNat)) M
theorem l2_mulS : Lo2 C rMulS vMulS := fun x y M P ⟨z, n, e1, e2, h1, h2, h3, p⟩ Z α H v u Q r q1 q2 k => by
  subst e1 e2
  cases q1; cases q2
  exact ⟨z, n, rfl, rfl, h1, h2, h3, k.now (d := .str _) r (.str _) p⟩
/-- two lists joined: a new list, data -/
def itsOf (M : Mem) : DV → Option (List D)
  | .obj n => match M[n]? with
    | some (.lst xs) => some (xs.filterMap fun x => match x with | .dat d => some d | .obj _ => none)
    | _ => none
  | .dat (.lst ds) => some ds
  | _ => none
/-- tuple(xs), list(xs) -/
def vTupL : DV → Mem → PD → Prop := fun x M P => (∃ ds, x = .dat (.lst ds) ∧ P (.dat (.tup ds)) M) ∨ (∃ ds, x = .dat (.tup ds) ∧ P (.dat (.tup ds)) M) ∨ ∃ n, ∃ ds : List D, x = .obj n ∧ M[n]? = some (.lst (ds.map DV.dat)) ∧ P (.dat (.tup ds)) M
def lThen (lr : DV → Mem → PD → Prop) (la : LE) : LE := fun ρ M P PX => la ρ M (fun x M1 => lr x M1 P) PX
theorem l1_tupL : Lo1 C (kTup C.K) vTupL := fun x M P g Z α H v Q r q k => by
  rcases g with ⟨ds, rfl, p⟩ | ⟨ds, rfl, p⟩ | ⟨n, ds, rfl, hn, p⟩
  · obtain ⟨a, xs, rfl, hs, hd⟩ := VD.lst_inv q
    refine .inl ⟨a, xs, rfl, hs.sq, fun p0 hp => ?_⟩
    obtain ⟨r4, s4⟩ := r.new1 (o := .tup xs) hp
    exact k _ _ α (.dat (.tup ds)) M s4 r4 (.tup (.inl ⟨.inl upd_same, r.fresh hp⟩) (hd.mv s4.mv)) p
  · obtain ⟨a, xs, e, hs, hd⟩ := VD.tup_inv q
    exact .inr ⟨a, xs, e, hs.sq, by rw [← e]; exact k.now (d := .dat (.tup ds)) r q p⟩
  · obtain ⟨a, ea, rfl⟩ := q
    obtain ⟨xs, eh, hd⟩ := r.hr.get n a _ ea hn
    have hd := VRs.data hd
    refine .inl ⟨a, xs, rfl, SqL.of eh, fun p0 hp => ?_⟩
    obtain ⟨r4, s4⟩ := r.new1 (o := .tup xs) hp
    exact k _ _ α (.dat (.tup ds)) M s4 r4 (.tup (.inl ⟨.inl upd_same, r.fresh hp⟩) (hd.mv s4.mv)) p
theorem lp_tupL_k0 {X : Cx} {W : WX} {a : Expr} {ta : TE} {la : LE} {p pos : Pos} (hK : X.K = C.K) (hg : Gl X "tuple") (hm : X.mg "tuple" = none) (ha : LPE X C W a ta la) (na : starEach [a] X.env = (false, eval a X.env) :: starEach [] X.env := by rfl) :
    LPE X C W (.Call (.Name "tuple" p) [a] [] pos) (tThen ta (kTup X.K)) (lThen vTupL la) := ⟨pe_tupleOf hg hm ha.pe na, by rw [hK]; exact lo_un l1_tupL ha.lo⟩
theorem lp_tupL {X : Cx} {W : WX} {a : Expr} {ta : TE} {la : LE} {p pos : Pos} (hK : X.K = C.K) (hg : Gl X "tuple") (hm : X.mg "tuple" = none) (ha : LPE X C W a ta la) (na : starEach [a] X.env = (false, eval a X.env) :: starEach [] X.env := by rfl) : LPE X C W (.Call (.Name "tuple" p) [a] [] pos) (tThen ta (kTup C.K)) (lThen vTupL la) := by
  rw [← hK]
  apply lp_tupL_k0 <;> assumption
/-- isinstance(x, a built-in type) -/
def tyN : D → String
  | .non => "NoneType" | .bl _ => "bool" | .int _ => "int" | .str _ => "str" | .tup _ => "tuple" | .lst _ => "list" | .ty _ => "" | .con _ => "" | .exc .. => ""
def isiD (d : D) (n : String) : Bool := tyN d == n || (tyN d == "bool" && n == "int")
def vIsi : List DV → Mem → PD → Prop := fun xs M P => ∃ d n, xs = [.dat d, .dat (.ty n)] ∧ (n = "int" ∨ n = "str" ∨ n = "bool" ∨ n = "tuple" ∨ n = "list") ∧ (tyN d == "") = false ∧ P (.bl (isiD d n)) M
theorem tyX_of {K : PySem.W.Frag} {N : Addr → Prop} {H : Hp} {v : V} {d : D} (q : VD K N H v d) (h : (tyN d == "") = false) : TyX K H v (.type (tyN d)) := by
  cases q with
  | non => exact .base .non
  | bl b => exact .base (.bl b)
  | int i => exact .base (.int i)
  | str x => exact .base (.str x)
  | ty n => cases h
  | con a => cases h
  | exc0 => cases h
  | excD => cases h
  | tup hs _ =>
    rcases hs with ⟨h | ⟨o, h⟩, _⟩ | ⟨o, its, n, h, c, _⟩
    · exact .base (.tup h)
    · exact .fTuple h
    · exact .kTuple h c
  | lst hs _ =>
    rcases hs with ⟨h | ⟨o, h⟩, _⟩ | ⟨o, its, n, h, c, _⟩
    · exact .base (.lst h)
    · exact .base (.frz h)
    · exact .kList h c
theorem kit_tab : ∀ t ∈ ["NoneType", "bool", "int", "str", "tuple", "list"], ∀ n ∈ ["int", "str", "bool", "tuple", "list"], kitB t n = some (t == n || (t == "bool" && n == "int")) := by decide +kernel
theorem ll_isi : LoL C (rIsi C.K) vIsi := fun xs M P ⟨d, n, e, hn, ht, p⟩ Z α H vs Q r q k => by
  subst e
  obtain ⟨v, w, rfl, q1, q2⟩ := two_inv q
  cases q2
  refine ⟨v, .ty n, .type (tyN d), .type n, isiD d n, rfl, .ty n, tyX_of q1 ht, kit_ty ?_, k.now (d := .bl _) r (.bl _) p⟩
  exact kit_tab _ (by cases d <;> first | (cases ht; done) | simp [tyN]) _ (by simpa using hn)
end
end L3

/-! base rules of our own, by values: + of read lists, d[k] and in as operators, what is walked -/
namespace L2
open PySem PySem.Spec PyProof.Rows
def rCatL (K : PySem.W.Frag) : R2 := fun x y H Q => ∃ l b xs zs, x = .ref l ∧ y = .ref b ∧ SqL K H l xs ∧ SqL K H b zs ∧ xs.length + zs.length ≤ sizeLine ∧ ∀ p, H p = none → Q (.ref p) (upd H p (.lst (xs ++ zs)))
theorem op_catL {X : Cx} : OpR X (binaryOp .Add) (rCatL X.K) := by
  intro pins s σ H x y v u Q I rx ry h
  obtain ⟨l, b, xs, zs, rfl, rfl, hH, hB, hz, q⟩ := h
  cases rx
  cases ry
  obtain ⟨its, r, ⟨⟨cls, dd, data, sl⟩, n, ho, hc, _, hd⟩, _⟩ := I.list hH
  obtain ⟨its2, r2, ⟨⟨cls2, dd2, data2, sl2⟩, n2, ho2, hc2, _, hd2⟩, _⟩ := I.list hB
  simp only at hc hd hc2 hd2
  subst hc hd hc2 hd2
  have hl := r.length
  have hl2 := r2.length
  have ea : its.toArray ++ its2.toArray = (its ++ its2).toArray := by simp
  refine concat_meets ⟨_, ho, rfl⟩ ⟨_, ho2, rfl⟩ noFill_list_add seq_list_add PySem.F.slot_list_add PySem.F.entry_list_add (PySem.F.args_list_add_2 _ _) (list_addW l b its.toArray its2.toArray n n2 dd dd2 sl sl2 (by rw [List.size_toArray, List.size_toArray]; omega)) ⟨ho, ho2, ?_⟩
  rw [ea]
  exact ⟨.ref _, _, I.lnew (t' := s.toks) (r.append r2) (by rw [List.length_append]; omega), rfl, q _ I.fresh⟩
def rAddA (K : PySem.W.Frag) : R2 := fun x y H Q => rI0 (fun i j => .int (i + j)) x y H Q ∨ (∃ i j, x = .str i ∧ y = .str j ∧ i.length + j.length ≤ sizeLine ∧ Q (.str (i ++ j)) H) ∨ rCatL K x y H Q ∨ rCatA K x y H Q
theorem op_addA {X : Cx} : OpR X (binaryOp .Add) (rAddA X.K) := op_add.or (op_add_str.or (op_catL.or op_catA))
def rMulA : R2 := fun x y H Q => rI CMul (fun i j => .int (i * j)) x y H Q ∨ rMulS x y H Q
theorem op_mulA {X : Cx} : OpR X (binaryOp .Mult) rMulA := op_mul.or op_mulS
/-- d[k] by values -/
def rIxDt : R2 := fun x y H Q => ∃ a v, x = .ref a ∧ DGet H a y (some v) ∧ Q v H
theorem ix_dict {X : Cx} (hu : X.A.units + 1 < cLine) : IxR X rIxDt := by
  intro value slice pins s σ H x y v u Q I rx ry h hs
  obtain ⟨a, v0, rfl, g, q⟩ := h
  obtain rfl : v = Value.ref a := rx
  exact tail_any (dict_typeIs I g) slot_dict_getitem.lookup (d_getItem hu I g ry fun w' s3 I3 rw' => ⟨v0, H, I3, rw', q⟩) hs
def rIxA (K : PySem.W.Frag) : R2 := fun x y H Q => rIx K x y H Q ∨ rIxDt x y H Q
theorem ix_A {X : Cx} (hu : X.A.units + 1 < cLine) : IxR X (rIxA X.K) := ix_seq.or (ix_dict hu)
def rInDt (neg : Bool) : R2 := fun y x H Q => ∃ a o, x = .ref a ∧ DGet H a y o ∧ Q (.bl (if neg then !o.isSome else o.isSome)) H
theorem op_inDt {X : Cx} (hu : X.A.units + 1 < cLine) : OpR X (compareOp .In) (rInDt false) := by
  intro pins s σ H x y v u Q I rx ry h
  obtain ⟨a, o, rfl, g, q⟩ := h
  obtain rfl : u = Value.ref a := ry
  exact d_in hu I g rx fun s3 I3 => ⟨.bl o.isSome, H, I3, rfl, q⟩
theorem op_notInDt {X : Cx} (hu : X.A.units + 1 < cLine) : OpR X (compareOp .NotIn) (rInDt true) := by
  intro pins s σ H x y v u Q I rx ry h
  obtain ⟨a, o, rfl, g, q⟩ := h
  obtain rfl : u = Value.ref a := ry
  exact d_notIn hu I g rx fun s3 I3 => ⟨.bl (!o.isSome), H, I3, rfl, q⟩
/-- what a for walks: a list, a tuple, a text -/
def iAny (K : PySem.W.Frag) (te : TE) : TI := fun σ H R => te σ H fun x H1 => (∃ a, x = .ref a ∧ (∃ xs, SqL K H1 a xs) ∧ R (Itl K a) H1) ∨ (∃ a, x = .ref a ∧ (∃ xs, SqT K H1 a xs) ∧ R (Itt K a) H1) ∨ ∃ z, x = .str z ∧ R (Its z) H1
theorem pi_any {X : Cx} {tg e : Expr} {te : TE} (he : PE X e te) : PI X tg e (iAny X.K te) := by
  refine ⟨fun pins s σ H R I h => ?_⟩
  refine thn (he.run pins s σ H _ I h) fun v s1 ⟨x, H1, I1, r1, q1⟩ => ?_
  rcases q1 with ⟨a, e, ⟨xs, hq⟩, q⟩ | ⟨a, e, ⟨xs, hq⟩, q⟩ | ⟨z, e, q⟩
  · subst e
    cases r1
    obtain ⟨its, rv, p, hz⟩ := I1.list hq
    refine wpAny_pyIter_list p.isList ?_
    refine ⟨s1.heap.objs.size, [s1.heap.objs.size], _, _, H1, rfl, I1.kept (t' := s1.toks) fun b o e => Heap.get?_push_of_some _ e, turn_list a _, ⟨_, Heap.get?_push_size _ rfl, rfl, rfl⟩, fun b hb => ?_, q⟩
    have e : b = s1.heap.objs.size := by simpa using hb
    subst e
    exact I1.fpOk (Nat.le_refl _) (I1.hok.fresh (Nat.le_refl _))
  · subst e
    cases r1
    obtain ⟨its, rv, p, hz⟩ := I1.tuple hq
    refine wpAny_pyIter_tuple (show s1.heap.IsTuple a its.toArray from p) ?_
    refine ⟨s1.heap.objs.size, [s1.heap.objs.size], _, _, H1, rfl, I1.kept (t' := s1.toks) fun b o e => Heap.get?_push_of_some _ e, turn_tuple a _, ⟨_, Heap.get?_push_size _ rfl, rfl, rfl⟩, fun b hb => ?_, q⟩
    have e : b = s1.heap.objs.size := by simpa using hb
    subst e
    exact I1.fpOk (Nat.le_refl _) (I1.hok.fresh (Nat.le_refl _))
  · subst e
    obtain ⟨t, rfl⟩ := r1
    cases ha : z.cps.all (· < 128)
    · exact wpAny_pyIter_wide ha (pi_one (tk := s1.toks) I1 _ (turn_str _ z t "str_iterator" (.inr rfl)) ⟨_, Heap.get?_push_size _ rfl, rfl, rfl⟩ q)
    · exact wpAny_pyIter_ascii ha (pi_one (tk := s1.toks) I1 _ (turn_str _ z t "str_ascii_iterator" (.inl rfl)) ⟨_, Heap.get?_push_size _ rfl, rfl, rfl⟩ q)
end L2

namespace L3
open PySem L2
section
variable {C : Cn}
/-- + by what the values are -/
def vAdd : DV → DV → Mem → PD → Prop := fun x y M P => match x, y with
  | .dat (.int i), .dat (.int j) => P (.int (i + j)) M
  | .dat (.str a), .dat (.str b) => a.length + b.length ≤ sizeLine ∧ P (.str (a ++ b)) M
  | .dat (.lst a), .dat (.lst b) => a.length + b.length ≤ sizeLine ∧ P (.dat (.lst (a ++ b))) M
  | .dat (.tup a), .dat (.tup b) => a.length + b.length ≤ sizeLine ∧ P (.dat (.tup (a ++ b))) M
  | .obj n, .dat (.lst b) => ∃ a : List D, M[n]? = some (.lst (a.map DV.dat)) ∧ a.length + b.length ≤ sizeLine ∧ P (.dat (.lst (a ++ b))) M
  | .dat (.lst a), .obj n => ∃ b : List D, M[n]? = some (.lst (b.map DV.dat)) ∧ a.length + b.length ≤ sizeLine ∧ P (.dat (.lst (a ++ b))) M
  | .obj n, .obj m => ∃ a b : List D, M[n]? = some (.lst (a.map DV.dat)) ∧ M[m]? = some (.lst (b.map DV.dat)) ∧ a.length + b.length ≤ sizeLine ∧ P (.dat (.lst (a ++ b))) M
  | _, _ => False
theorem seq_of {Z : List Addr} {α : List Addr} {H : Hp} {M : Mem} {n : Nat} {v : V} {a : List D} (r : RS (C.wz Z) α M H) (q : VR (C.wz Z) α H v (.obj n)) (h : M[n]? = some (.lst (a.map DV.dat))) : ∃ p xs, v = .ref p ∧ SqL C.K H p xs ∧ VDs C.K ((C.wz Z).N α) H xs a := by
  obtain ⟨p, ep, rfl⟩ := q
  obtain ⟨xs, eh, hd⟩ := r.hr.get n p _ ep h
  exact ⟨p, xs, rfl, SqL.of eh, VRs.data hd⟩
theorem new_lst {Z : List Addr} {α : List Addr} {H : Hp} {M : Mem} {P : PD} {Q : VK} {xs : List V} {ds : List D} (r : RS (C.wz Z) α M H) (k : Kt (C.wz Z) α H P Q) (hd : VDs C.K ((C.wz Z).N α) H xs ds) (p : P (.dat (.lst ds)) M) : ∀ p, H p = none → Q (.ref p) (upd H p (.lst xs)) := fun p0 hp => by
  obtain ⟨r4, s4⟩ := r.new1 (o := .lst xs) hp
  exact k _ _ α (.dat (.lst ds)) M s4 r4 (.lst (.inl ⟨.inl upd_same, r.fresh hp⟩) (hd.mv s4.mv)) p
theorem new_tup {Z : List Addr} {α : List Addr} {H : Hp} {M : Mem} {P : PD} {Q : VK} {xs : List V} {ds : List D} (r : RS (C.wz Z) α M H) (k : Kt (C.wz Z) α H P Q) (hd : VDs C.K ((C.wz Z).N α) H xs ds) (p : P (.dat (.tup ds)) M) : ∀ p, H p = none → Q (.ref p) (upd H p (.tup xs)) := fun p0 hp => by
  obtain ⟨r4, s4⟩ := r.new1 (o := .tup xs) hp
  exact k _ _ α (.dat (.tup ds)) M s4 r4 (.tup (.inl ⟨.inl upd_same, r.fresh hp⟩) (hd.mv s4.mv)) p
theorem catL {Z : List Addr} {α : List Addr} {H : Hp} {M : Mem} {P : PD} {Q : VK} {p q : Addr} {xs ys : List V} {a b : List D} (r : RS (C.wz Z) α M H) (k : Kt (C.wz Z) α H P Q) (h1 : SqL C.K H p xs) (h2 : SqL C.K H q ys) (d1 : VDs C.K ((C.wz Z).N α) H xs a) (d2 : VDs C.K ((C.wz Z).N α) H ys b)
    (hl : a.length + b.length ≤ sizeLine) (pp : P (.dat (.lst (a ++ b))) M) : rAddA C.K (.ref p) (.ref q) H Q := .inr (.inr (.inl ⟨p, q, xs, ys, rfl, rfl, h1, h2, by rw [d1.length, d2.length]; exact hl, new_lst r k (d1.append d2) pp⟩))
theorem l2_addA : Lo2 C (rAddA C.K) vAdd := fun x y M P g Z α H v u Q r q1 q2 k => by
  cases x with
  | obj n =>
    cases y with
    | obj m =>
      obtain ⟨a, b, h1, h2, hl, p⟩ := g
      obtain ⟨p1, xs, rfl, s1, d1⟩ := seq_of r q1 h1
      obtain ⟨p2, ys, rfl, s2, d2⟩ := seq_of r q2 h2
      exact catL r k s1 s2 d1 d2 hl p
    | dat e =>
      cases q2 with
      | lst hs hd =>
        obtain ⟨a, h1, hl, p⟩ := g
        obtain ⟨p1, xs, rfl, s1, d1⟩ := seq_of r q1 h1
        exact catL r k s1 hs.sq d1 hd hl p
      | _ => exact g.elim
  | dat d =>
    cases y with
    | obj m =>
      cases q1 with
      | lst hs hd =>
        obtain ⟨b, h2, hl, p⟩ := g
        obtain ⟨p2, ys, rfl, s2, d2⟩ := seq_of r q2 h2
        exact catL r k hs.sq s2 hd d2 hl p
      | _ => exact g.elim
    | dat e =>
      cases q1 with
      | int i => cases q2 with
        | int j => exact .inl ⟨i, j, rfl, rfl, k.now (d := .int _) r (.int _) g⟩
        | _ => exact g.elim
      | str i => cases q2 with
        | str j => exact .inr (.inl ⟨i, j, rfl, rfl, g.1, k.now (d := .str _) r (.str _) g.2⟩)
        | _ => exact g.elim
      | lst hs hd => cases q2 with
        | lst hs2 hd2 => exact catL r k hs.sq hs2.sq hd hd2 g.1 g.2
        | _ => exact g.elim
      | @tup a1 xs1 ds1 hs hd => cases q2 with
        | @tup a2 xs2 ds2 hs2 hd2 =>
          refine .inr (.inr (.inr ⟨_, _, _, _, rfl, rfl, hs.sq, hs2.sq, by rw [hd.length, hd2.length]; exact g.1, fun e => ?_, fun e e2 => ?_, fun e e2 => new_tup r k (hd.append hd2) g.2⟩))
          · subst e
            cases hd
            exact k.now (d := .dat (.tup ds2)) r (.tup hs2 hd2) g.2
          · subst e2
            cases hd2
            have p := g.2
            rw [List.append_nil] at p
            exact k.now (d := .dat (.tup ds1)) r (.tup hs hd) p
        | _ => exact g.elim
      | _ => cases q2 <;> exact g.elim
def vMul : DV → DV → Mem → PD → Prop := fun x y M P => match x, y with
  | .dat (.int i), .dat (.int j) => CMul i j ∧ P (.int (i * j)) M
  | .dat (.str z), .dat (.int n) => -(2 ^ 63) ≤ n ∧ n < 2 ^ 63 ∧ z.length * n.toNat ≤ sizeLine ∧ P (.str (repS z n.toNat)) M
  | _, _ => False
theorem l2_mulA : Lo2 C rMulA vMul := fun x y M P g Z α H v u Q r q1 q2 k => by
  cases x with
  | obj n => exact g.elim
  | dat d => cases y with
    | obj n => cases q1 <;> exact g.elim
    | dat e => cases q1 with
      | int i => cases q2 with
        | int j => exact .inl ⟨i, j, rfl, rfl, g.1, k.now (d := .int _) r (.int _) g.2⟩
        | _ => exact g.elim
      | str i => cases q2 with
        | int j => exact .inr ⟨i, j, rfl, rfl, g.1, g.2.1, g.2.2.1, k.now (d := .str _) r (.str _) g.2.2.2⟩
        | _ => exact g.elim
      | _ => cases q2 <;> exact g.elim
/-- order of ints, of texts -/
def rOrd (gi : Int → Int → Bool) (gs : List Nat → List Nat → Bool) : R2 := fun x y H Q => rI0 (fun i j => .bl (gi i j)) x y H Q ∨ ∃ i j, x = .str i ∧ y = .str j ∧ Q (.bl (gs i.cps.toList j.cps.toList)) H
def vOrdr (gi : Int → Int → Bool) (gs : List Nat → List Nat → Bool) : DV → DV → Mem → PD → Prop := fun x y M P => match x, y with
  | .dat (.int i), .dat (.int j) => P (.bl (gi i j)) M
  | .dat (.str a), .dat (.str b) => P (.bl (gs a.cps.toList b.cps.toList)) M
  | _, _ => False
theorem l2_ord {gi : Int → Int → Bool} {gs : List Nat → List Nat → Bool} : Lo2 C (rOrd gi gs) (vOrdr gi gs) := fun x y M P g Z α H v u Q r q1 q2 k => by
  cases x with
  | obj n => exact g.elim
  | dat d => cases y with
    | obj n => cases q1 <;> exact g.elim
    | dat e => cases q1 with
      | int i => cases q2 with
        | int j => exact .inl ⟨i, j, rfl, rfl, k.now (d := .bl _) r (.bl _) g⟩
        | _ => exact g.elim
      | str i => cases q2 with
        | str j => exact .inr ⟨i, j, rfl, rfl, k.now (d := .bl _) r (.bl _) g⟩
        | _ => exact g.elim
      | _ => cases q2 <;> exact g.elim
theorem op_ltA {X : Cx} : OpR X (compareOp .Lt) (rOrd (fun i j => decide (i < j)) fun a b => decide (a < b)) := op_lt.or op_lt_str
theorem op_leA {X : Cx} : OpR X (compareOp .LtE) (rOrd (fun i j => decide (i ≤ j)) fun a b => !decide (b < a)) := op_le.or op_le_str
theorem op_gtA {X : Cx} : OpR X (compareOp .Gt) (rOrd (fun i j => decide (j < i)) fun a b => decide (b < a)) := op_gt.or op_gt_str
theorem op_geA {X : Cx} : OpR X (compareOp .GtE) (rOrd (fun i j => decide (j ≤ i)) fun a b => !decide (a < b)) := op_ge.or op_ge_str
/-- a[i]: a list, a tuple, a text, a dict -/
def vIxA : DV → DV → Mem → PD → Prop := fun x y M P => vIx x y M P ∨ ∃ n kvs k d, x = .obj n ∧ (M[n]? = some (.dK kvs) ∨ ∃ t, M[n]? = some (.lk t kvs)) ∧ y = .dat (keyD k) ∧ valD kvs k = some d ∧ P d M
theorem l2_ixA : Lo2 C (rIxA C.K) vIxA := fun x y M P g Z α H v u Q r q1 q2 k => by
  rcases g with g | ⟨n, kvs, ky, d, rfl, hM, rfl, hv, p⟩
  · exact .inl (l2_ix x y M P g Z α H v u Q r q1 q2 k)
  · obtain ⟨a, ea, rfl⟩ := q1
    have ey := keyD_of q2
    subst ey
    obtain ⟨oo, hg, hh⟩ := dgetL_of (k := ky) r ea hM
    rcases hh with ⟨h3, h4⟩ | ⟨v3, d3, h3, h4, h5⟩
    · rw [hv] at h4; cases h4
    · rw [hv] at h4; cases h4
      subst h3
      exact .inr ⟨a, v3, rfl, hg, k.now r h5 p⟩
theorem lp_ixA_k0 {X : Cx} {W : WX} {a b : Expr} {ta tb : TE} {la lb : LE} {pos : Pos} (hu : X.A.units + 1 < cLine) (hK : X.K = C.K) (ha : LPE X C W a ta la) (hb : LPE X C W b tb lb) (hs : PlainIx b := by exact fun _ _ => rfl) : LPE X C W (.Subscript a b pos) (tOp (rIxA X.K) ta tb) (lOp vIxA la lb) := ⟨pe_ix (ix_A hu) ha.pe hb.pe hs, by rw [hK]; exact lo_op l2_ixA ha.lo hb.lo⟩
theorem lp_ixA {X : Cx} {W : WX} {a b : Expr} {ta tb : TE} {la lb : LE} {pos : Pos} (hu : X.A.units + 1 < cLine) (hK : X.K = C.K) (ha : LPE X C W a ta la) (hb : LPE X C W b tb lb) (hs : PlainIx b := by exact fun _ _ => rfl) : LPE X C W (.Subscript a b pos) (tOp (rIxA C.K) ta tb) (lOp vIxA la lb) := by
  rw [← hK]
  apply lp_ixA_k0 <;> assumption
/-- x in a list, a tuple, a dict, a text -/
def rInA (K : PySem.W.Frag) (neg : Bool) : R2 := fun x y H Q => rIn K neg x y H Q ∨ rInDt neg x y H Q ∨ rInT neg x y H Q ∨ rInC neg x y H Q
def vInA (neg : Bool) : DV → DV → Mem → PD → Prop := fun x y M P => vIn neg x y M P ∨ (∃ n kvs k, y = .obj n ∧ M[n]? = some (.dK kvs) ∧ x = .dat (keyD k) ∧ P (.bl (if neg then !(valD kvs k).isSome else (valD kvs k).isSome)) M) ∨ vInT neg x y M P ∨ vInC neg x y M P
theorem op_inA {X : Cx} (hu : X.A.units + 1 < cLine) : OpR X (compareOp .In) (rInA X.K false) := op_in_seq.or ((op_inDt hu).or (op_inT.or op_inC))
theorem op_notInA {X : Cx} (hu : X.A.units + 1 < cLine) : OpR X (compareOp .NotIn) (rInA X.K true) := op_notIn_seq.or ((op_notInDt hu).or (op_notInT.or op_notInC))
theorem l2_inA (neg : Bool) : Lo2 C (rInA C.K neg) (vInA neg) := fun x y M P g Z α H v u Q r q1 q2 k => by
  rcases g with g | ⟨n, kvs, ky, rfl, hM, rfl, p⟩ | g | g
  · exact .inl (l2_in neg x y M P g Z α H v u Q r q1 q2 k)
  · obtain ⟨a, ea, rfl⟩ := q2
    have ey := keyD_of q1
    subst ey
    obtain ⟨oo, hg, hh⟩ := dget_of (k := ky) r ea hM
    refine .inr (.inl ⟨a, oo, rfl, hg, k.now (d := .bl _) r (.bl _) ?_⟩)
    rcases hh with ⟨h3, h4⟩ | ⟨v3, d3, h3, h4, h5⟩
    · rw [h4] at p; rw [h3]; exact p
    · rw [h4] at p; rw [h3]; exact p
  · exact .inr (.inr (.inl (l2_inT neg x y M P g Z α H v u Q r q1 q2 k)))
  · exact .inr (.inr (.inr (l2_inC neg x y M P g Z α H v u Q r q1 q2 k)))
/-- len of anything -/
def rLenA (K : PySem.W.Frag) : List V → Hp → VK → Prop := fun xs H Q => rLen K xs H Q ∨ ∃ a kvs, xs = [V.ref a] ∧ H a = some (.dK kvs) ∧ Q (.int kvs.length) H
def vLenA : List DV → Mem → PD → Prop := fun xs M P => vLen xs M P ∨ vLenD xs M P
theorem call_lenAny {X : Cx} : CallR X (.builtin "len") (rLenA X.K) := CallR.or call_len call_lenD
theorem ll_lenA : LoL C (rLenA C.K) vLenA := ll_or ll_len ll_lenD
/-- tuple of a list, a tuple, a dict -/
def rTupA (K : PySem.W.Frag) : List V → Hp → VK → Prop := fun xs H Q => (∃ p ys, xs = [.ref p] ∧ ((SqL K H p ys ∧ ∀ l, H l = none → Q (.ref l) (upd H l (.tup ys))) ∨ (SqT K H p ys ∧ Q (.ref p) H))) ∨ rTupD xs H Q
theorem call_tupA {X : Cx} (hc : X.calm = true) : CallR X (.type "tuple") (rTupA X.K) := CallR.or call_tuple_of (call_tuple_dK hc)
def vTupA : List DV → Mem → PD → Prop := fun xs M P => (∃ x, xs = [x] ∧ vTupL x M P) ∨ vTupD xs M P
theorem ll_tupA : LoL C (rTupA C.K) vTupA := fun xs M P g Z α H vs Q r q k => by
  rcases g with ⟨x, rfl, g⟩ | g
  · obtain ⟨v, rfl, q0⟩ := one_inv q
    rcases l1_tupL x M P g Z α H v Q r q0 k with ⟨p, ys, rfl, h1, h2⟩ | ⟨p, ys, rfl, h1, h2⟩
    · exact .inl ⟨p, ys, rfl, .inl ⟨h1, h2⟩⟩
    · exact .inl ⟨p, ys, rfl, .inr ⟨h1, h2⟩⟩
  · exact .inr (ll_tupD xs M P g Z α H vs Q r q k)
/-- list(xs): data -/
def vLst : List DV → Mem → PD → Prop := fun xs M P => ∃ x, xs = [x] ∧ ((∃ ds, x = .dat (.lst ds) ∧ P (.dat (.lst ds)) M) ∨ (∃ ds, x = .dat (.tup ds) ∧ P (.dat (.lst ds)) M) ∨ ∃ n, ∃ ds : List D, x = .obj n ∧ M[n]? = some (.lst (ds.map DV.dat)) ∧ P (.dat (.lst ds)) M)
theorem ll_lst : LoL C (fun xs H Q => ∃ p ys, xs = [.ref p] ∧ (SqL C.K H p ys ∨ SqT C.K H p ys) ∧ ∀ l, H l = none → Q (.ref l) (upd H l (.lst ys))) vLst := fun xs M P ⟨x, e, g⟩ Z α H vs Q r q k => by
  subst e
  obtain ⟨v, rfl, q0⟩ := one_inv q
  rcases g with ⟨ds, rfl, p⟩ | ⟨ds, rfl, p⟩ | ⟨n, ds, rfl, hn, p⟩
  · obtain ⟨a, xs, rfl, hs, hd⟩ := VD.lst_inv q0
    exact ⟨a, xs, rfl, .inl hs.sq, new_lst r k hd p⟩
  · obtain ⟨a, xs, rfl, hs, hd⟩ := VD.tup_inv q0
    exact ⟨a, xs, rfl, .inr hs.sq, new_lst r k hd p⟩
  · obtain ⟨a, xs, rfl, hs, hd⟩ := seq_of r q0 hn
    exact ⟨a, xs, rfl, .inl hs, new_lst r k hd p⟩
/-- what a for walks -/
def lwAny (le : LE) : LW := fun ρ M P PX => le ρ M (fun x M1 => match x with
  | .dat (.lst ds) => P (ds.map DV.dat) (fun _ => True) M1
  | .dat (.tup ds) => P (ds.map DV.dat) (fun _ => True) M1
  | .dat (.str z) => P (signsD z) (fun _ => True) M1
  | .obj n => ∃ xs, M1[n]? = some (.lst xs) ∧ P xs (fun M => M[n]? = some (.lst xs)) M1
  | _ => False) PX
theorem lpi_any_k0 {X : Cx} {W : WX} {tg iter : Expr} {te : TE} {le : LE} (h : LPE X C W iter te le) (hK : X.K = C.K) : LPI X C W tg iter (iAny X.K te) (lwAny le) := ⟨pi_any h.pe, by
  rw [hK]
  exact fun ρ M P PX g Z σ H α R vs rs wk kt => h.lo.bind g vs rs wk fun v H1 α1 x M1 s1 r1 q1 h1 vs1 wk1 => by
    cases x with
    | obj n =>
      obtain ⟨xs, hM, p⟩ := h1
      obtain ⟨a, ea, rfl⟩ := q1
      obtain ⟨ys, eh, q⟩ := r1.hr.get n a _ ea hM
      exact .inl ⟨a, rfl, ⟨ys, SqL.of eh⟩, kt _ H1 α1 _ _ M1 s1 r1 (fun Z' H'' m => ItOk.obj (C := C.wz Z') ea) hM p⟩
    | dat d => cases q1 with
      | str z => exact .inr (.inr ⟨z, rfl, kt _ H1 α1 _ _ M1 s1 r1 (fun Z' H'' m => ItOk.str z) trivial h1⟩)
      | lst hs hd => exact .inl ⟨_, rfl, ⟨_, hs.sq⟩, kt _ H1 α1 _ _ M1 s1 r1 (fun Z' H'' m => ItOk.list (C := C.wz Z') (m.sl hs) (hd.mv m)) trivial h1⟩
      | tup hs hd => exact .inr (.inl ⟨_, rfl, ⟨_, hs.sq⟩, kt _ H1 α1 _ _ M1 s1 r1 (fun Z' H'' m => ItOk.tup (C := C.wz Z') (m.st hs) (hd.mv m)) trivial h1⟩)
      | _ => exact h1.elim⟩
theorem lpi_any {X : Cx} {W : WX} {tg iter : Expr} {te : TE} {le : LE} (h : LPE X C W iter te le) (hK : X.K = C.K) : LPI X C W tg iter (iAny C.K te) (lwAny le) := by
  rw [← hK]
  apply lpi_any_k0 <;> assumption
end
end L3

namespace L3
open PySem L2

section
variable {X : Cx} {C : Cn} {W : WX} {pos : Pos} {a b c o e : Expr} {ta tb tc to te : TE} {la lb lc lo le : LE}
/-- a type's name -/
theorem lp_bty {x : Str} {n : String} {p : Pos} (hg : Gl X x) (hm : X.mg x = none) (hv : bootBuiltins x = some (.type n)) (hn : x ≠ "__name__" := by decide) (hd : (x == ("__debug__" : Str)) = false := by decide) : LPE X C W (.Name x p) (tC (.ty n)) (lC (.ty n)) :=
  ⟨pe_bltn hg hm hv (r := rfl) hn hd, lo_c fun _ _ _ => .ty n⟩
theorem lp_gintE {x : Str} {i : Int} (hg : Gl X x) (hm : ∃ t, X.mg x = some (.int i t)) (hd : (x == ("__debug__" : Str)) = false := by decide) : LPE X C W (.Name x pos) (tC (.int i)) (lC (.int i)) := let ⟨_, h⟩ := hm; lp_gint hg h hd
theorem lp_gstrE {x : Str} {i : Str} (hg : Gl X x) (hm : ∃ t, X.mg x = some (.str i t)) (hd : (x == ("__debug__" : Str)) = false := by decide) : LPE X C W (.Name x pos) (tC (.str i)) (lC (.str i)) := let ⟨_, h⟩ := hm; lp_gstr hg h hd
/-! ### rules that hang on the written part -/
section
variable {R : PySem.W.Frag → R2} {RL : PySem.W.Frag → List V → Hp → VK → Prop} {lr : DV → DV → Mem → PD → Prop} {ll : List DV → Mem → PD → Prop}
theorem lp_opK (R : PySem.W.Frag → R2) (hK : X.K = C.K) {op : Operator} (ho : OpR X (binaryOp op) (R X.K)) (hr : Lo2 C (R C.K) lr) (ha : LPE X C W a ta la) (hb : LPE X C W b tb lb) : LPE X C W (.BinOp a op b pos) (tOp (R C.K) ta tb) (lOp lr la lb) := lp_op (by rw [← hK]; exact ho) hr ha hb
theorem lp_cmpK (R : PySem.W.Frag → R2) (hK : X.K = C.K) {op : CmpOp} (ho : OpR X (compareOp op) (R X.K)) (hr : Lo2 C (R C.K) lr) (ha : LPE X C W a ta la) (hb : LPE X C W b tb lb) (hm : behindInMarks op b = false) : LPE X C W (.Compare a [op] [b] pos) (tOp (R C.K) ta tb) (lOp lr la lb) := lp_cmp (by rw [← hK]; exact ho) hr ha hb hm
theorem lpt_cmpK (R : PySem.W.Frag → R2) (hK : X.K = C.K) {op : CmpOp} (ho : OpR X (compareOp op) (R X.K)) (hr : Lo2 C (R C.K) lr) (ha : LPE X C W a ta la) (hb : LPE X C W b tb lb) (hm : behindInMarks op b = false) : LPT X C W (.Compare a [op] [b] pos) (tTest (tOp (R C.K) ta tb)) (lTest (lOp lr la lb)) := lpt_cmp (by rw [← hK]; exact ho) hr ha hb hm
variable {x : Str} {id T : String} {p : Pos} {es : List Expr} {tas : TA} {las : LA}
theorem lp_callBK (R : PySem.W.Frag → List V → Hp → VK → Prop) (hK : X.K = C.K) (hc : CallR X (.builtin id) (R X.K)) (hl : LoL C (R C.K) ll) (hg : Gl X x) (hm : X.mg x = none) (hv : bootBuiltins x = some (.builtin id)) (ha : LPA X C W (e :: es) tas las) (hn : x ≠ "__name__" := by decide) (hdb : (x == ("__debug__" : Str)) = false := by decide)
    (he : starEach (e :: es) X.env = (false, eval e X.env) :: starEach es X.env := by rfl) (hpl : (backTo pos (starEach es X.env)).any (·.1) = false := by rfl) : LPE X C W (.Call (.Name x p) (e :: es) [] pos) (tCB (R C.K) tas) (lCB ll las) := lp_callB (by rw [← hK]; exact hc) hl hg hm hv ha hn hdb he hpl
theorem lp_callTyK (R : PySem.W.Frag → List V → Hp → VK → Prop) (hK : X.K = C.K) (hc : CallR X (.type T) (R X.K)) (hl : LoL C (R C.K) ll) (hg : Gl X x) (hm : X.mg x = none) (hv : bootBuiltins x = some (.type T)) (ha : LPA X C W (e :: es) tas las) (hn : x ≠ "__name__" := by decide) (hdb : (x == ("__debug__" : Str)) = false := by decide)
    (he : starEach (e :: es) X.env = (false, eval e X.env) :: starEach es X.env := by rfl) (hpl : (backTo pos (starEach es X.env)).any (·.1) = false := by rfl) : LPE X C W (.Call (.Name x p) (e :: es) [] pos) (tCB (R C.K) tas) (lCB ll las) := lp_callTy (by rw [← hK]; exact hc) hl hg hm hv ha hn hdb he hpl
end
def rLstA (K : PySem.W.Frag) : List V → Hp → VK → Prop := fun xs H Q => ∃ p ys, xs = [.ref p] ∧ (SqL K H p ys ∨ SqT K H p ys) ∧ ∀ l, H l = none → Q (.ref l) (upd H l (.lst ys))
/-- truth by value -/
def vTru (x : DV) (M : Mem) (k : Bool) : Prop := match x with
  | .dat .non => k = false
  | .dat (.bl b) => k = b
  | .dat (.int i) => k = (i != 0)
  | .dat (.str y) => y.length ≤ sizeLine ∧ k = ((y.length : Int) != 0)
  | .dat (.lst ds) => k = !ds.isEmpty
  | .dat (.tup ds) => k = !ds.isEmpty
  | .obj n => (∃ xs, M[n]? = some (.lst xs) ∧ k = !xs.isEmpty) ∨ ∃ kvs, M[n]? = some (.dK kvs) ∧ k = !kvs.isEmpty
  | _ => False
theorem emp_of {K : PySem.W.Frag} {N : Addr → Prop} {H : Hp} {vs : List V} {ds : List D} (h : VDs K N H vs ds) : (!vs.isEmpty) = !ds.isEmpty := by cases h <;> rfl
theorem emp_rs {α : List Addr} {H : Hp} {vs : List V} {ds : List DV} (h : VRs C α H vs ds) : (!vs.isEmpty) = !ds.isEmpty := by cases h <;> rfl
theorem emp_kv {κ : Type} {α : List Addr} {H : Hp} {vs : List (κ × V)} {ds : List (κ × DV)} (h : KVR C α H vs ds) : (!vs.isEmpty) = !ds.isEmpty := by cases h <;> rfl
theorem vTru_of {Z : List Addr} {α : List Addr} {H : Hp} {M : Mem} {v : V} {x : DV} {k : Bool} (r : RS (C.wz Z) α M H) (q : VR (C.wz Z) α H v x) (h : vTru x M k) : TruV C.K v H k := by
  cases x with
  | obj n =>
    obtain ⟨a, ea, rfl⟩ := q
    rcases h with ⟨xs, hM, e⟩ | ⟨kvs, hM, e⟩
    · obtain ⟨ys, eh, q⟩ := r.hr.get n a _ ea hM
      exact .inl ⟨ys, SqL.of eh, by rw [e, emp_rs q]⟩
    · obtain ⟨ys, eh, q⟩ := r.hr.get n a _ ea hM
      exact .inr (.inr ⟨ys, eh, by rw [e, emp_kv q]⟩)
  | dat d =>
    cases q with
    | non => exact h
    | bl b => exact h
    | int i => exact h
    | str z => exact h
    | lst hs hd => exact .inl ⟨_, hs.sq, by rw [(h : _ = _), emp_of hd]⟩
    | tup hs hd => exact .inr (.inl ⟨_, hs.sq, by rw [(h : _ = _), emp_of hd]⟩)
    | _ => exact h.elim
def lTru (l : LE) : LT := fun ρ M P PX => l ρ M (fun x M' => ∃ k, vTru x M' k ∧ P k M') PX
theorem lpt_tru_k0 (hK : X.K = C.K) (h : LPE X C W a ta la) (he : ∀ whole, isTrue a X.env whole = (do let v ← whole; standAt a.pos; holding [v] (truthy v)) := by intro _; rfl) : LPT X C W a (fun σ H Q => ta σ H fun x H' => ∃ k, TruV X.K x H' k ∧ Q k H') (lTru la) :=
  ⟨pt_truth h.pe he, fun ρ M P PX g Z σ H α Q vs rs k wk => h.lo.bind g vs rs wk fun v H1 α1 x M1 s1 r1 q1 h1 vs1 wk1 => by
    obtain ⟨b, hb, p⟩ := h1
    exact ⟨b, by rw [hK]; exact vTru_of r1 q1 hb, k b H1 α1 M1 s1 r1 p⟩⟩
theorem lpt_tru (hK : X.K = C.K) (h : LPE X C W a ta la) (he : ∀ whole, isTrue a X.env whole = (do let v ← whole; standAt a.pos; holding [v] (truthy v)) := by intro _; rfl) : LPT X C W a (fun σ H Q => ta σ H fun x H' => ∃ k, TruV C.K x H' k ∧ Q k H') (lTru la) := by
  rw [← hK]
  apply lpt_tru_k0 <;> assumption
def lNotT (l : LE) : LE := fun ρ M P PX => l ρ M (fun x M' => ∃ k, vTru x M' k ∧ P (.bl (!k)) M') PX
theorem lp_notT_k0 (hK : X.K = C.K) (h : LPE X C W a ta la) : LPE X C W (.UnaryOp .Not a pos) (tNotT X.K ta) (lNotT la) :=
  ⟨pe_notT h.pe, fun ρ M P PX g Z σ H α Q vs rs k wk => h.lo.bind g vs rs wk fun v H1 α1 x M1 s1 r1 q1 h1 vs1 wk1 => by
    obtain ⟨b, hb, p⟩ := h1
    exact ⟨b, by rw [hK]; exact vTru_of r1 q1 hb, (k.step s1).now r1 (d := .bl (!b)) (.bl _) p⟩⟩
theorem lp_notT (hK : X.K = C.K) (h : LPE X C W a ta la) : LPE X C W (.UnaryOp .Not a pos) (tNotT C.K ta) (lNotT la) := by
  rw [← hK]
  apply lp_notT_k0 <;> assumption
/-- a op b op' c -/
def lChain (lr lr' : DV → DV → Mem → PD → Prop) (la lb lc : LE) : LE := fun ρ M P PX => la ρ M (fun x M1 => lb ρ M1 (fun y M2 => lr x y M2 fun z M3 => ∃ k, z = .bl k ∧
  (if k = true then lc ρ M3 (fun w M4 => lr' y w M4 P) PX else P (.bl false) M3)) PX) PX
def lChainT (lr lr' : DV → DV → Mem → PD → Prop) (la lb lc : LE) : LT := lTest (lChain lr lr' la lb lc)
theorem lo_chain {r r' : R2} {lr lr' : DV → DV → Mem → PD → Prop} (hr : Lo2 C r lr) (hr' : Lo2 C r' lr') (ha : LoE C W ta la) (hb : LoE C W tb lb) (hc : LoE C W tc lc) : LoE C W (tChain r r' ta tb tc) (lChain lr lr' la lb lc) := fun ρ M P PX g Z σ H α Q vs rs kt wk =>
  ha.bind g vs rs wk fun v H1 α1 x M1 s1 r1 q1 h1 vs1 wk1 => hb.bind h1 vs1 r1 wk1 fun u H2 α2 y M2 s2 r2 q2 h2 vs2 wk2 =>
    hr x y M2 _ h2 _ α2 H2 v u _ r2 (q1.step s2) q2 fun z H3 α3 d M3 s3 r3 q3 h3 => by
      obtain ⟨k, e, h3⟩ := h3
      subst e
      cases q3
      refine ⟨k, rfl, ?_⟩
      cases k with
      | true => exact hc.bind h3 (vs2.step s3) r3 (wk2.step s3) fun w H4 α4 d M4 s4 r4 q4 h4 vs4 wk4 => hr' y d M4 P h4 _ α4 H4 u w Q r4 (q2.step (s3.trans s4)) q4 (kt.step (((s1.trans s2).trans s3).trans s4))
      | false => exact (kt.step ((s1.trans s2).trans s3)).now r3 (d := .bl false) (.bl false) h3
theorem lp_chain {op op' : CmpOp} {r r' : R2} {lr lr' : DV → DV → Mem → PD → Prop} (ho : OpR X (compareOp op) r) (hr : Lo2 C r lr) (ho' : OpR X (compareOp op') r') (hr' : Lo2 C r' lr') (ha : LPE X C W a ta la) (hb : LPE X C W b tb lb) (hc : LPE X C W c tc lc)
    (hm : lastMarks [op, op'] [b, c] = false := by with_unfolding_all rfl) : LPE X C W (.Compare a [op, op'] [b, c] pos) (tChain r r' ta tb tc) (lChain lr lr' la lb lc) := ⟨pe_chain ho ho' ha.pe hb.pe hc.pe hm, lo_chain hr hr' ha.lo hb.lo hc.lo⟩
theorem lpt_chain {op op' : CmpOp} {r r' : R2} {lr lr' : DV → DV → Mem → PD → Prop} (ho : OpR X (compareOp op) r) (hr : Lo2 C r lr) (ho' : OpR X (compareOp op') r') (hr' : Lo2 C r' lr') (ha : LPE X C W a ta la) (hb : LPE X C W b tb lb) (hc : LPE X C W c tc lc)
    (hm : lastMarks [op, op'] [b, c] = false := by with_unfolding_all rfl) : LPT X C W (.Compare a [op, op'] [b, c] pos) (tTest (tChain r r' ta tb tc)) (lChainT lr lr' la lb lc) := ⟨pt_chain ho ho' ha.pe hb.pe hc.pe hm, lo_test (lo_chain hr hr' ha.lo hb.lo hc.lo)⟩
/-- o[i] = v: a known list, a known dict -/
def lSetA (lo li lv : LE) : LS := fun L ρ M => lv ρ M (fun v M1 => lo ρ M1 (fun x M2 => li ρ M2 (fun y M3 => (∃ n ys i j, x = .obj n ∧ y = .int i ∧ M3[n]? = some (.lst ys) ∧ ixN ys.length i = some j ∧ L.nx ρ (M3.set n (.lst (ys.set j v)))) ∨
  ∃ n kvs k, x = .obj n ∧ M3[n]? = some (.dK kvs) ∧ y = .dat (keyD k) ∧ kvs.length < sizeLine ∧ L.nx ρ (M3.set n (.dK (putD kvs k v)))) (L.px ρ)) (L.px ρ)) (L.px ρ)
def rSetA : TSet := fun o i v H Q => rSetL o i v H Q ∨ rSetD o i v H Q
theorem set_A (hu : X.A.units + 1 < cLine) : PSet X rSetA := fun pins s σ H o i v ov iv u Q I ro ri rv h => h.elim (set_list pins s σ H o i v ov iv u Q I ro ri rv) (set_dict hu pins s σ H o i v ov iv u Q I ro ri rv)
theorem lps_setA {i : Expr} {ti : TE} {li : LE} {tpos : Pos} (hu : X.A.units + 1 < cLine) (ho : LPE X C W o to lo) (hi : LPE X C W i ti li) (he : LPE X C W e te le) (hs : swapsWithSole [.Subscript o i tpos] e pos.line X.env = pure false := by rfl) (hw : swappedStores [.Subscript o i tpos] e X.env = pure none := by rfl)
    (ha : ∀ v, assign (.Subscript o i tpos) X.env v = (do
      let ov ← holding [v] (eval o X.env)
      let iv ← holding [v, ov] (eval i X.env)
      standAt tpos
      holding [v, ov, iv] (setItem ov iv v)
      release [v, ov, iv] []) := by intro _; rfl)
    (h1 : (assignEach [.Subscript o i tpos] X.env).map (·.2) = [assign (.Subscript o i tpos) X.env] := by rfl) : LPS X C W (.Assign [.Subscript o i tpos] e pos) (tAsg te (gSub to ti rSetA)) (lSetA lo li le) :=
  ⟨ps_asg he.pe (pg_sub ho.pe hi.pe (set_A hu) ha) hs hw h1, fun L ρ M h Z D σ H α vs r d =>
    he.lo.bind h vs r (d.wk vs) fun v H1 α1 y M1 s1 r1 q1 h1 vs1 wk1 => ho.lo.bind h1 vs1 r1 wk1 fun u H2 α2 x M2 s2 r2 q2 h2 vs2 wk2 => hi.lo.bind h2 vs2 r2 wk2 fun w H3 α3 z M3 s3 r3 q3 h3 vs3 wk3 => by
      rcases h3 with ⟨n, ys, i0, j, rfl, rfl, hM, hj, p⟩ | ⟨n, kvs, ky, rfl, hM, rfl, hl, p⟩
      · obtain ⟨a, ea, rfl⟩ := q2.step s3
        cases q3
        obtain ⟨xs, eh, hd⟩ := r3.hr.get n a _ ea hM
        have st : Step (C.wz Z) α3 H3 α3 (upd H3 a (.lst (xs.set j v))) := put_step ea
        obtain ⟨r4, s4⟩ := r3.put (mo := .lst (ys.set j y)) ea ⟨_, upd_same, VRs.set ((q1.step (s2.trans s3)).step st) j (VRs.step hd st)⟩ (r3.noT ea hM)
        exact .inl ⟨a, xs, i0, j, rfl, rfl, eh, by rw [VRs.length hd]; exact hj, d.nx σ _ α3 ρ _ (((s1.trans s2).trans s3).trans s4) (vs3.step s4) r4 p⟩
      · obtain ⟨a, ea, rfl⟩ := q2.step s3
        have ey := keyD_of q3
        subst ey
        obtain ⟨ps, eh, kv⟩ := r3.hr.get n a _ ea hM
        have st : Step (C.wz Z) α3 H3 α3 (upd H3 a (.dK (putK ps ky v))) := put_step ea
        obtain ⟨r4, s4⟩ := r3.put (mo := .dK (putD kvs ky y)) ea ⟨_, upd_same, KVR.put ((q1.step (s2.trans s3)).step st) (KVR.step kv st)⟩ (r3.noT ea hM)
        exact .inr ⟨a, _, rfl, .k eh (by rw [KVR.length kv]; exact hl), d.nx σ _ α3 ρ _ (((s1.trans s2).trans s3).trans s4) (vs3.step s4) r4 p⟩⟩
/-- methods of built-in types -/
theorem lp_bm_k0 {T id : String} {name : Str} {apos cpos : Pos} {es : List Expr} {ta : TA} {la : LA} {r : V → List V → Hp → VK → Prop} {lr : DV → List DV → Mem → PD → Prop} (pa : PlainAttrs T) (slot : Slot T name id) (hty : typeOf (.builtin id) = pure (.type "method_descriptor")) (hm : MtR X id r) (hl : LoM C r lr) (hK : X.K = C.K)
    (ho : LPE X C W o to lo) (ha : LPA X C W (e :: es) ta la) (hbase : attributeBase o name X.env (eval o X.env) = eval o X.env := by rfl)
    (hfew : ((backTo cpos (starEach (e :: es) X.env)).all (fun x => !x.1) && (backToKw cpos (keywordEach [] X.env)).all (fun x => x.1.isSome)
      && decide ((e :: es).length + ([] : List Keyword).length + (if ([] : List Keyword).isEmpty then 0 else 1) < 30)) = true := by rfl)
    (hline : (apos.endLine == cpos.line) = true := by rfl) (hs : starEach (e :: es) X.env = (false, eval e X.env) :: starEach es X.env := by rfl) (hplain : (backTo cpos (starEach es X.env)).any (·.1) = false := by rfl) :
    LPE X C W (.Call (.Attribute o name apos) (e :: es) [] cpos) (tBM X.K T r to ta) (lBM T lr lo la) := ⟨pe_bm pa slot hty hm ho.pe ha.pa hbase hfew hline hs hplain, by rw [hK]; exact lo_bm hl ho.lo ha.lo⟩
theorem lp_bm {T id : String} {name : Str} {apos cpos : Pos} {es : List Expr} {ta : TA} {la : LA} {r : V → List V → Hp → VK → Prop} {lr : DV → List DV → Mem → PD → Prop} (pa : PlainAttrs T) (slot : Slot T name id) (hty : typeOf (.builtin id) = pure (.type "method_descriptor")) (hm : MtR X id r) (hl : LoM C r lr) (hK : X.K = C.K)
    (ho : LPE X C W o to lo) (ha : LPA X C W (e :: es) ta la) (hbase : attributeBase o name X.env (eval o X.env) = eval o X.env := by rfl)
    (hfew : ((backTo cpos (starEach (e :: es) X.env)).all (fun x => !x.1) && (backToKw cpos (keywordEach [] X.env)).all (fun x => x.1.isSome)
      && decide ((e :: es).length + ([] : List Keyword).length + (if ([] : List Keyword).isEmpty then 0 else 1) < 30)) = true := by rfl)
    (hline : (apos.endLine == cpos.line) = true := by rfl) (hs : starEach (e :: es) X.env = (false, eval e X.env) :: starEach es X.env := by rfl) (hplain : (backTo cpos (starEach es X.env)).any (·.1) = false := by rfl) : LPE X C W (.Call (.Attribute o name apos) (e :: es) [] cpos) (tBM C.K T r to ta) (lBM T lr lo la) := by
  rw [← hK]
  apply lp_bm_k0 <;> assumption
end

/-- the law is asked -/
theorem start_low {K : PySem.W.Frag} {H : Hp} {a : Addr} {ns : List Int} {lsp : LSp} (h : lsp [.dat (.lst (ns.map D.int))] [] (fun d _ => d = .bl true) fun _ _ => False) (hS : SqL K H a (ns.map V.int)) : low K noT lsp [.ref a] H (fun v _ => v = .bl true) fun _ _ _ => False := by
  have q : ∀ (N : Addr → Prop) (ns : List Int), VDs K N H (ns.map V.int) (ns.map D.int) := fun N ns => by
    induction ns with
    | nil => exact .nil
    | cons n ns ih => exact .cons (.int n) ih
  have rs : RS ⟨K, noT, []⟩ [] [] H := ⟨⟨rfl, fun n a o h1 h2 => (by simp at h1)⟩, .nil, fun _ z => absurd z not_noT, fun _ z => (by cases z), fun _ z => (by cases z)⟩
  have hl : SLi K (Cn.N ⟨K, noT, []⟩ []) H a (ns.map V.int) := hS.imp (fun z => ⟨z, by
    rintro (z | z | z)
    · cases z
    · exact absurd z not_noT
    · cases z⟩) id
  have vr : VRs ⟨K, noT, []⟩ [] H [.ref a] [.dat (.lst (ns.map D.int))] := .cons (show VD K _ H (.ref a) (.lst (ns.map D.int)) from .lst hl (q _ ns)) .nil
  refine ⟨[], [], _, [], _, _, rs, vr, h, fun v H' α' d M' s r q p => ?_, fun _ _ _ _ _ _ _ _ _ z => z.elim⟩
  subst p
  cases q
  rfl
/-- a def whose promise is empty -/
theorem ok_false {P : Program} {w : World} {K : PySem.W.Frag} {mg : Str → Option Value} {base : Heap} {k : Nat} {f : Addr} {fd : FuncData} {ps : List Str} {T : Tb} {CX : CXT} : FnOk P w K mg base CX k f fd ps (low K T fun _ _ _ _ => False) :=
  ⟨fun vs H Q E ⟨_, _, _, _, _, _, _, _, h, _⟩ => h.elim, fun A outer s H args us vs Q E _ _ _ _ ⟨_, _, _, _, _, _, _, _, h, _⟩ => h.elim⟩
end L3

/-! reading a lifted term, from the left -/
namespace L3
open PySem L2
section
variable {l m t u : LS} {le la lb lo li lv lc : LE} {as : LA} {lt lu : LT} {nx bk ct : Rho → Mem → Prop} {rt P : PD} {ex : LX → Rho → Mem → Prop} {PX : PXn} {ρ : Rho} {M : Mem} {i : Nat} {d : DV} {lw : LW} {g : LG} {L : LEnds}
theorem s_seq (h : l ⟨m ⟨nx, rt, bk, ct, ex⟩, rt, bk, ct, ex⟩ ρ M) : lSeq l m ⟨nx, rt, bk, ct, ex⟩ ρ M := h
theorem s_next (h : nx ρ M) : lNext ⟨nx, rt, bk, ct, ex⟩ ρ M := h
theorem s_break (h : bk ρ M) : lBreak ⟨nx, rt, bk, ct, ex⟩ ρ M := h
theorem s_cont (h : ct ρ M) : lCont ⟨nx, rt, bk, ct, ex⟩ ρ M := h
theorem s_drop (h : le ρ M (fun _ M1 => nx ρ M1) (fun x M => ex x ρ M)) : lDrop le ⟨nx, rt, bk, ct, ex⟩ ρ M := h
theorem s_ret (h : le ρ M rt (fun x M => ex x ρ M)) : lRet le ⟨nx, rt, bk, ct, ex⟩ ρ M := h
theorem s_retN (h : rt .non M) : lRetN ⟨nx, rt, bk, ct, ex⟩ ρ M := h
theorem s_ifS (h : lt ρ M (fun b M1 => if b = true then t ⟨nx, rt, bk, ct, ex⟩ ρ M1 else u ⟨nx, rt, bk, ct, ex⟩ ρ M1) (fun x M => ex x ρ M)) : lIfS lt t u ⟨nx, rt, bk, ct, ex⟩ ρ M := h
theorem s_set (h : le ρ M (fun x M1 => nx (ρ.set i (some x)) M1) (fun x M => ex x ρ M)) : lSet i le ⟨nx, rt, bk, ct, ex⟩ ρ M := h
theorem s_asg (h : le ρ M (fun x M1 => g x ρ M1 nx) (fun x M => ex x ρ M)) : lAsg le g ⟨nx, rt, bk, ct, ex⟩ ρ M := h
theorem s_gName {R : Rho → Mem → Prop} (h : R (ρ.set i (some d)) M) : lgName i d ρ M R := h
theorem s_gTup {n : Nat} {gs : LGs} {ds : List D} {R : Rho → Mem → Prop} (hn : ds.length = n) (h : gs (ds.map DV.dat) ρ M R) : lgTup n gs (.dat (.tup ds)) ρ M R := ⟨ds, rfl, hn, h⟩
theorem s_gCons {gs : LGs} {ds : List DV} {R : Rho → Mem → Prop} (h : g d ρ M fun ρ' M' => gs ds ρ' M' R) : lgCons g gs (d :: ds) ρ M R := ⟨d, ds, rfl, h⟩
theorem s_gNil {R : Rho → Mem → Prop} (h : R ρ M) : lgNil [] ρ M R := ⟨rfl, h⟩
theorem s_itT {A B : Prop} (h : A) : if true = true then A else B := h
theorem s_itF {A B : Prop} (h : B) : if false = true then A else B := h
theorem s_ite {b : Bool} {A B : Prop} (h1 : b = true → A) (h2 : b = false → B) : if b = true then A else B := by cases b with | true => exact h1 rfl | false => exact h2 rfl
theorem s_test' {R : Bool → Mem → Prop} (h : le ρ M (fun x M' => ∃ k, x = .bl k ∧ R k M') PX) : lTest le ρ M R PX := h
theorem s_exbl {R : Bool → Prop} {b : Bool} (h : R b) : ∃ k, DV.dat (.bl b) = DV.bl k ∧ R k := ⟨b, rfl, h⟩
theorem s_tru {R : Bool → Mem → Prop} (h : le ρ M (fun x M' => ∃ k, vTru x M' k ∧ R k M') PX) : lTru le ρ M R PX := h
theorem s_trubl {R : Bool → Prop} {b : Bool} (h : R b) : ∃ k, vTru (.dat (.bl b)) M k ∧ R k := ⟨b, rfl, h⟩
theorem s_truint {R : Bool → Prop} {b : Int} (h : R (b != 0)) : ∃ k, vTru (.dat (.int b)) M k ∧ R k := ⟨_, rfl, h⟩
theorem s_trulst {R : Bool → Prop} {ds : List D} (h : R (!ds.isEmpty)) : ∃ k, vTru (.dat (.lst ds)) M k ∧ R k := ⟨_, rfl, h⟩
theorem s_trutup {R : Bool → Prop} {ds : List D} (h : R (!ds.isEmpty)) : ∃ k, vTru (.dat (.tup ds)) M k ∧ R k := ⟨_, rfl, h⟩
theorem s_trunon {R : Bool → Prop} (h : R false) : ∃ k, vTru (.dat .non) M k ∧ R k := ⟨_, rfl, h⟩
theorem s_notT (h : le ρ M (fun x M' => ∃ k, vTru x M' k ∧ P (.bl (!k)) M') PX) : lNotT le ρ M P PX := h
theorem s_and {R : Bool → Mem → Prop} (h : lt ρ M (fun b M1 => if b = true then lu ρ M1 R PX else R false M1) PX) : lAnd lt lu ρ M R PX := h
theorem s_or {R : Bool → Mem → Prop} (h : lt ρ M (fun b M1 => if b = true then R true M1 else lu ρ M1 R PX) PX) : lOr lt lu ρ M R PX := h
theorem s_not {R : Bool → Mem → Prop} (h : lt ρ M (fun b M1 => R (!b) M1) PX) : lNot lt ρ M R PX := h
theorem s_andV (h : la ρ M (fun x M1 => ∃ c, x = .bl c ∧ if c = true then lb ρ M1 P PX else P (.bl false) M1) PX) : lAndV la lb ρ M P PX := h
theorem s_orV (h : la ρ M (fun x M1 => ∃ c, x = .bl c ∧ if c = true then P (.bl true) M1 else lb ρ M1 P PX) PX) : lOrV la lb ρ M P PX := h
theorem s_yes {R : Bool → Mem → Prop} (h : R true M) : lYes ρ M R PX := h
theorem s_if (h : lt ρ M (fun c M1 => if c = true then la ρ M1 P PX else lb ρ M1 P PX) PX) : lIf lt la lb ρ M P PX := h
theorem s_var (h : ρ[i]? = some (some d)) (p : P d M) : lVar i ρ M P PX := ⟨d, h, p⟩
theorem s_c {d : D} (p : P (.dat d) M) : lC d ρ M P PX := p
theorem s_op {lr : DV → DV → Mem → PD → Prop} (h : la ρ M (fun x M1 => lb ρ M1 (fun y M2 => lr x y M2 P) PX) PX) : lOp lr la lb ρ M P PX := h
theorem s_un {lr : DV → Mem → PD → Prop} (h : la ρ M (fun x M1 => lr x M1 P) PX) : lUn lr la ρ M P PX := h
theorem s_nil {R : List DV → Mem → Prop} (h : R [] M) : lNil ρ M R PX := h
theorem s_cons {R : List DV → Mem → Prop} (h : le ρ M (fun x M1 => as ρ M1 (fun xs M2 => R (x :: xs) M2) PX) PX) : lCons le as ρ M R PX := h
inductive Dats : List DV → List D → Prop
  | nil : Dats [] []
  | cons {d : D} {xs : List DV} {ds : List D} : Dats xs ds → Dats (.dat d :: xs) (d :: ds)
theorem Dats.eq {xs : List DV} {ds : List D} (h : Dats xs ds) : xs = ds.map DV.dat := by induction h with | nil => rfl | cons _ ih => rw [ih]; rfl
theorem s_tup (h : as ρ M (fun xs M1 => ∃ ds : List D, xs = ds.map DV.dat ∧ ds.length ≤ sizeLine ∧ P (.dat (.tup ds)) M1) PX) : lTup as ρ M P PX := h
theorem s_lst (h : as ρ M (fun xs M1 => ∃ ds : List D, xs = ds.map DV.dat ∧ ds.length ≤ sizeLine ∧ P (.dat (.lst ds)) M1) PX) : lLst as ρ M P PX := h
theorem s_exds {xs : List DV} {ds : List D} {R : List D → Prop} (hd : Dats xs ds) (hl : ds.length ≤ sizeLine) (h : R ds) : ∃ ds : List D, xs = ds.map DV.dat ∧ ds.length ≤ sizeLine ∧ R ds := ⟨ds, hd.eq, hl, h⟩
theorem s_lstM (h : as ρ M (fun xs M1 => xs.length ≤ sizeLine ∧ P (.obj M1.length) (M1 ++ [.lst xs])) PX) : lLstM as ρ M P PX := h
theorem s_cB {lr : List DV → Mem → PD → Prop} (h : as ρ M (fun xs M1 => lr xs M1 P) PX) : lCB lr as ρ M P PX := h
theorem s_call {lsp : LSp} (h : as ρ M (fun ds M1 => CallAt lsp ds M1 P fun _ _ => False) PX) : lCall lsp as ρ M P PX := h
theorem s_callX {lsp : LSp} (h : as ρ M (fun ds M1 => CallAt lsp ds M1 P PX) PX) : lCallX lsp as ρ M P PX := h
theorem s_meth {C : Addr} {mn : Str} {lsp : LSp} (h : lo ρ M (fun x M1 => ∃ n fs, x = .obj n ∧ M1[n]? = some (.ins C fs) ∧ fs.lookup mn = none ∧ as ρ M1 (fun ds M2 => CallAt lsp (.obj n :: ds) M2 P fun _ _ => False) PX) PX) : lMeth C mn lsp lo as ρ M P PX := h
theorem s_exmeth {C : Addr} {mn : Str} {n : Nat} {fs : List (Str × DV)} {R : Nat → Prop} (h1 : M[n]? = some (.ins C fs)) (h2 : fs.lookup mn = none) (h : R n) : ∃ n' fs, DV.obj n = .obj n' ∧ M[n']? = some (.ins C fs) ∧ fs.lookup mn = none ∧ R n' := ⟨n, fs, rfl, h1, h2, h⟩
theorem s_make {C : Addr} {lsp : LSp} (h : as ρ M (fun ds M1 => CallAt lsp (.obj M1.length :: ds) (M1 ++ [.ins C []]) (fun v M2 => v = .non ∧ P (.obj M1.length) M2) fun _ _ => False) PX) : lMake C lsp as ρ M P PX := h
theorem s_fld {C : Addr} {f : Str} (h : lo ρ M (fun x M1 => ∃ n fs d, x = .obj n ∧ M1[n]? = some (.ins C fs) ∧ fs.lookup f = some d ∧ P d M1) PX) : lFldOf C lo f ρ M P PX := h
theorem s_exfld {C : Addr} {f : Str} {n : Nat} {fs : List (Str × DV)} {R : DV → Prop} (h1 : M[n]? = some (.ins C fs)) (h2 : fs.lookup f = some d) (h : R d) : ∃ n' fs d, DV.obj n = .obj n' ∧ M[n']? = some (.ins C fs) ∧ fs.lookup f = some d ∧ R d := ⟨n, fs, d, rfl, h1, h2, h⟩
theorem s_setFld {C : Addr} {f : Str} (h : lv ρ M (fun y M1 => lo ρ M1 (fun x M2 => ∃ n fs, x = .obj n ∧ M2[n]? = some (.ins C fs) ∧ fs.length < 1000 ∧ nx ρ (M2.set n (.ins C (putFD f y fs)))) (fun x M => ex x ρ M)) (fun x M => ex x ρ M)) : lSetFld C lo lv f ⟨nx, rt, bk, ct, ex⟩ ρ M := h
theorem s_exsetFld {C : Addr} {n : Nat} {fs : List (Str × DV)} {R : Nat → List (Str × DV) → Prop} (h1 : M[n]? = some (.ins C fs)) (h2 : fs.length < 1000) (h : R n fs) : ∃ n' fs, DV.obj n = .obj n' ∧ M[n']? = some (.ins C fs) ∧ fs.length < 1000 ∧ R n' fs := ⟨n, fs, rfl, h1, h2, h⟩
theorem s_dnew (h : P (.obj M.length) (M ++ [.dK []])) : lDNew ρ M P PX := h
theorem s_dget1 (h : lo ρ M (fun x M1 => ∃ n kvs, x = .obj n ∧ M1[n]? = some (.dK kvs) ∧ li ρ M1 (fun y M2 => ∃ k kvs2, M2[n]? = some (.dK kvs2) ∧ y = .dat (keyD k) ∧ P ((valD kvs2 k).getD .non) M2) PX) PX) : lDGet1 lo li ρ M P PX := h
theorem s_exdict {n : Nat} {kvs : List (Key × DV)} {R : Nat → Prop} (h1 : M[n]? = some (.dK kvs)) (h : R n) : ∃ n' kvs, DV.obj n = .obj n' ∧ M[n']? = some (.dK kvs) ∧ R n' := ⟨n, kvs, rfl, h1, h⟩
theorem s_exkey {n : Nat} {kvs : List (Key × DV)} {k : Key} {R : Key → List (Key × DV) → Prop} (h1 : M[n]? = some (.dK kvs)) (h2 : d = .dat (keyD k)) (h : R k kvs) : ∃ k kvs2, M[n]? = some (.dK kvs2) ∧ d = .dat (keyD k) ∧ R k kvs2 := ⟨k, kvs, h1, h2, h⟩
theorem s_ddel (h : lo ρ M (fun x M1 => li ρ M1 (fun y M2 => ∃ n kvs k, x = .obj n ∧ M2[n]? = some (.dK kvs) ∧ y = .dat (keyD k) ∧ (valD kvs k).isSome = true ∧ nx ρ (M2.set n (.dK (dropD kvs k)))) (fun x M => ex x ρ M)) (fun x M => ex x ρ M)) : lDDel lo li ⟨nx, rt, bk, ct, ex⟩ ρ M := h
theorem s_setA (h : lv ρ M (fun v M1 => lo ρ M1 (fun x M2 => li ρ M2 (fun y M3 => (∃ n ys i j, x = .obj n ∧ y = .int i ∧ M3[n]? = some (.lst ys) ∧ ixN ys.length i = some j ∧ nx ρ (M3.set n (.lst (ys.set j v)))) ∨
  ∃ n kvs k, x = .obj n ∧ M3[n]? = some (.dK kvs) ∧ y = .dat (keyD k) ∧ kvs.length < sizeLine ∧ nx ρ (M3.set n (.dK (putD kvs k v)))) (fun x M => ex x ρ M)) (fun x M => ex x ρ M)) (fun x M => ex x ρ M)) : lSetA lo li lv ⟨nx, rt, bk, ct, ex⟩ ρ M := h
theorem s_sl {ls : DV → Option Int → Option Int → Mem → PD → Prop} {ll lh : LO} (h : le ρ M (fun x M1 => ll ρ M1 (fun a M2 => lh ρ M2 (fun b M3 => ls x a b M3 P) PX) PX) PX) : lSl ls le ll lh ρ M P PX := h
theorem s_noPart {R : Option Int → Mem → Prop} (h : R none M) : lNoPart ρ M R PX := h
theorem s_part {R : Option Int → Mem → Prop} (h : le ρ M (fun x M1 => ∃ i, x = .int i ∧ R (some i) M1) PX) : lPart le ρ M R PX := h
theorem s_exint {R : Int → Prop} {i : Int} (h : R i) : ∃ j, DV.dat (.int i) = .int j ∧ R j := ⟨i, rfl, h⟩
theorem s_slL {a b : Option Int} {ds : List D} (h : P (.dat (.lst (cutD ds a b))) M) : vSl (.dat (.lst ds)) a b M P := h
theorem s_bM {T : String} {lr : DV → List DV → Mem → PD → Prop} (h : lo ρ M (fun x M1 => tyD T x M1 ∧ as ρ M1 (fun xs M2 => lr x xs M2 P) PX) PX) : lBM T lr lo as ρ M P PX := h
/-! values -/
theorem s_I0 {gg : Int → Int → D} {a b : Int} (h : P (.dat (gg a b)) M) : vI0 gg (.dat (.int a)) (.dat (.int b)) M P := ⟨a, b, rfl, rfl, h⟩
theorem s_I {Cd : Int → Int → Prop} {gg : Int → Int → D} {a b : Int} (hc : Cd a b) (h : P (.dat (gg a b)) M) : vI Cd gg (.dat (.int a)) (.dat (.int b)) M P := ⟨a, b, rfl, rfl, hc, h⟩
theorem s_ordI {gi : Int → Int → Bool} {gs : List Nat → List Nat → Bool} {a b : Int} (h : P (.bl (gi a b)) M) : vOrdr gi gs (.dat (.int a)) (.dat (.int b)) M P := h
theorem s_addI {a b : Int} (h : P (.int (a + b)) M) : vAdd (.dat (.int a)) (.dat (.int b)) M P := h
theorem s_addS {a b : Str} (hl : a.length + b.length ≤ sizeLine) (h : P (.str (a ++ b)) M) : vAdd (.dat (.str a)) (.dat (.str b)) M P := ⟨hl, h⟩
theorem s_addL {a b : List D} (hl : a.length + b.length ≤ sizeLine) (h : P (.dat (.lst (a ++ b))) M) : vAdd (.dat (.lst a)) (.dat (.lst b)) M P := ⟨hl, h⟩
theorem s_mulI {a b : Int} (hc : CMul a b) (h : P (.int (a * b)) M) : vMul (.dat (.int a)) (.dat (.int b)) M P := ⟨hc, h⟩
theorem s_isN {b : Bool} {x : DV} (h : P (.bl (if b then !isNon x else isNon x)) M) : vIsN b x (.dat .non) M P := ⟨rfl, h⟩
theorem s_lenL {ds : List D} (h : P (.int (ds.length : Nat)) M) : vLenA [.dat (.lst ds)] M P := .inl ⟨_, rfl, _, rfl, h⟩
theorem s_lenT {ds : List D} (h : P (.int (ds.length : Nat)) M) : vLenA [.dat (.tup ds)] M P := .inl ⟨_, rfl, _, rfl, h⟩
theorem s_lenS {x : Str} (hl : x.length ≤ sizeLine) (h : P (.int (x.length : Nat)) M) : vLenA [.dat (.str x)] M P := .inl ⟨_, rfl, _, ⟨hl, rfl⟩, h⟩
theorem s_lenO {n : Nat} {ys : List DV} (hM : M[n]? = some (.lst ys)) (h : P (.int (ys.length : Nat)) M) : vLenA [.obj n] M P := .inl ⟨_, rfl, _, ⟨ys, hM, rfl⟩, h⟩
theorem s_lenD {n : Nat} {kvs : List (Key × DV)} (hM : M[n]? = some (.dK kvs)) (h : P (.int (kvs.length : Nat)) M) : vLenA [.obj n] M P := .inr ⟨n, kvs, rfl, hM, h⟩
theorem s_ixL {ds : List D} {e : D} {j : Int} (h1 : atI ds j = some e) (h : P (.dat e) M) : vIxA (.dat (.lst ds)) (.dat (.int j)) M P := .inl ⟨j, rfl, e, h1, h⟩
theorem s_ixT {ds : List D} {e : D} {j : Int} (h1 : atI ds j = some e) (h : P (.dat e) M) : vIxA (.dat (.tup ds)) (.dat (.int j)) M P := .inl ⟨j, rfl, e, h1, h⟩
theorem s_ixS {x : Str} {c : Nat} {j : Int} (hl : x.length ≤ sizeLine) (h1 : atI x.cps.toList j = some c) (h : P (.str ⟨#[c]⟩) M) : vIxA (.dat (.str x)) (.dat (.int j)) M P := .inl ⟨j, rfl, hl, c, h1, h⟩
theorem s_ixO {n : Nat} {ys : List DV} {e : DV} {j : Int} (hM : M[n]? = some (.lst ys)) (h1 : atI ys j = some e) (h : P e M) : vIxA (.obj n) (.dat (.int j)) M P := .inl ⟨j, rfl, ys, e, hM, h1, h⟩
theorem s_ixD {n : Nat} {kvs : List (Key × DV)} {k : Key} {e : DV} (hM : M[n]? = some (.dK kvs)) (hk : d = .dat (keyD k)) (h1 : valD kvs k = some e) (h : P e M) : vIxA (.obj n) d M P := .inr ⟨n, kvs, k, e, rfl, .inl hM, hk, h1, h⟩
theorem s_isi {e : D} {n : String} {b : Bool} (hn : n = "int" ∨ n = "str" ∨ n = "bool" ∨ n = "tuple" ∨ n = "list") (ht : (tyN e == "") = false) (hb : isiD e n = b) (h : P (.bl b) M) : vIsi [.dat e, .dat (.ty n)] M P := ⟨e, n, rfl, hn, ht, by rw [hb]; exact h⟩
theorem s_int1 {j : Int} (h : P (.int j) M) : vInt1 [.dat (.int j)] M P := .inl ⟨j, rfl, h⟩
theorem s_int1b {b : Bool} (h : P (.int (if b then 1 else 0)) M) : vInt1 [.dat (.bl b)] M P := .inr ⟨b, rfl, h⟩
theorem s_abs {j : Int} (h : P (.int (if j < 0 then -j else j)) M) : vAbs [.dat (.int j)] M P := ⟨j, rfl, h⟩
theorem s_strI {j : Int} (hb : j.natAbs.log2 < 1920) (h : P (.str (toString j)) M) : vStrI [.dat (.int j)] M P := ⟨j, rfl, hb, h⟩
theorem s_tupL {ds : List D} (h : P (.dat (.tup ds)) M) : vTupA [.dat (.lst ds)] M P := .inl ⟨_, rfl, .inl ⟨ds, rfl, h⟩⟩
theorem s_tupT {ds : List D} (h : P (.dat (.tup ds)) M) : vTupA [.dat (.tup ds)] M P := .inl ⟨_, rfl, .inr (.inl ⟨ds, rfl, h⟩)⟩
theorem s_tupD {n : Nat} {kvs : List (Key × DV)} (hM : M[n]? = some (.dK kvs)) (h : P (.dat (.tup (kvs.map fun kv => keyD kv.1))) M) : vTupA [.obj n] M P := .inr ⟨n, kvs, rfl, hM, h⟩
theorem s_inD {b : Bool} {n : Nat} {kvs : List (Key × DV)} {k : Key} {c : Bool} (hM : M[n]? = some (.dK kvs)) (hk : d = .dat (keyD k)) (hc : (if b then !(valD kvs k).isSome else (valD kvs k).isSome) = c) (h : P (.bl c) M) : vInA b d (.obj n) M P := .inr (.inl ⟨n, kvs, k, rfl, hM, hk, by rw [hc]; exact h⟩)
theorem s_inL {b : Bool} {e : D} {ds : List D} {c : Bool} (h1 : flatD e = true) (h2 : ds.all flatD = true) (hc : (if b then !inD e ds else inD e ds) = c) (h : P (.bl c) M) : vInA b (.dat e) (.dat (.lst ds)) M P := .inl ⟨e, ds, rfl, .inl rfl, h1, h2, by rw [hc]; exact h⟩
theorem s_eqI {b : Bool} {x y : Int} (h : P (.bl (if b then !decide (x = y) else decide (x = y))) M) : vEq b (.dat (.int x)) (.dat (.int y)) M P := vEq_int h
theorem s_eqS {b : Bool} {x y : Str} (h : P (.bl (if b then !decide (x = y) else decide (x = y))) M) : vEq b (.dat (.str x)) (.dat (.str y)) M P := vEq_str h
theorem s_eqB {b : Bool} {x y : Bool} (h : P (.bl (if b then !decide (x = y) else decide (x = y))) M) : vEq b (.dat (.bl x)) (.dat (.bl y)) M P := vEq_bl h
theorem s_wRng1 {R : List DV → (Mem → Prop) → Mem → Prop} (h : as ρ M (fun xs M1 => ∃ j : Int, xs = [.int j] ∧ -(2 ^ 62) ≤ j ∧ j < 2 ^ 62 ∧ R (rangeD 0 j.toNat) (fun _ => True) M1) PX) : lwRng1 as ρ M R PX := h
theorem s_exrng {R : Int → Prop} {j : Int} (h1 : -(2 ^ 62) ≤ j) (h2 : j < 2 ^ 62) (h : R j) : ∃ k : Int, [DV.dat (.int j)] = [.int k] ∧ -(2 ^ 62) ≤ k ∧ k < 2 ^ 62 ∧ R k := ⟨j, rfl, h1, h2, h⟩
theorem s_wAnyL {R : List DV → (Mem → Prop) → Mem → Prop} {ds : List D} (hv : ρ[i]? = some (some (.dat (.lst ds)))) (h : R (ds.map DV.dat) (fun _ => True) M) : lwAny (lVar i) ρ M R PX := ⟨_, hv, h⟩
theorem s_wAnyT {R : List DV → (Mem → Prop) → Mem → Prop} {ds : List D} (hv : ρ[i]? = some (some (.dat (.tup ds)))) (h : R (ds.map DV.dat) (fun _ => True) M) : lwAny (lVar i) ρ M R PX := ⟨_, hv, h⟩
theorem s_for (h : lw ρ M (fun items okM M1 => ∃ I : Nat → Rho → Mem → Prop, I 0 ρ M1 ∧ (∀ i ρ M, I i ρ M → okM M) ∧
  (∀ i x ρ M, items[i]? = some x → I i ρ M → g x ρ M fun ρ' M' => l ⟨DropS M1.length (I (i + 1)), rt, nx, DropS M1.length (I (i + 1)), ex⟩ ρ' M') ∧ ∀ ρ M, I items.length ρ M → nx ρ M) (fun x M => ex x ρ M)) : lFor lw g l ⟨nx, rt, bk, ct, ex⟩ ρ M := h
/-! calls -/
theorem merge_nil (M : Mem) : merge [] M [] = M := by unfold merge putAll; simp
theorem call0 {lsp : LSp} {ds : List DV} {es : List D} (hd : Dats ds es) (h : lsp (es.map DV.dat) [] (fun d M' => (∃ e, d = .dat e) ∧ M' = [] ∧ P d M) fun _ _ => False) (mono : ∀ {ds M} {P P' : PD} {PX PX' : PXn}, (∀ d M, P d M → P' d M) → (∀ x M, PX x M → PX' x M) → lsp ds M P PX → lsp ds M P' PX') : CallAt lsp ds M P PX := by
  refine .inr ⟨[], es.map DV.dat, [], List.nodup_nil, ?_, ?_, rfl, rfl, mono ?_ ?_ h⟩
  · simp [okDV]
  · rw [hd.eq, List.map_map]; exact List.map_congr_left fun e _ => rfl
  · rintro d M' ⟨⟨e, rfl⟩, rfl, p⟩
    rw [merge_nil]
    exact p
  · exact fun _ _ h => h.elim
end
end L3

/-! what the laws share -/
namespace L3
open PySem L2
theorem dropAll {k : Nat} {P : PD} {d : DV} {M : Mem} (hk : k ≤ M.length) (hd : okDV M.length d = true) (hM : M.all (okMO M.length) = true) (p : P d M) : DropD k P d M :=
  .inr ⟨M.length, hk, hd, by rw [List.take_length]; exact hM, by rw [List.take_length]; exact p⟩
theorem atI_ex {α : Type} {xs : List α} {i : Int} (h0 : 0 ≤ i) (h1 : i < xs.length) : ∃ c, atI xs i = some c ∧ c ∈ xs := by
  obtain ⟨j, rfl⟩ : ∃ j : Nat, i = j := ⟨i.toNat, by omega⟩
  have hj : j < xs.length := by omega
  exact ⟨xs[j], atI_nat (List.getElem?_eq_getElem hj), List.getElem_mem hj⟩
theorem atI_int {ns : List Int} {i : Int} (h0 : 0 ≤ i) (h1 : i < ns.length) : ∃ c, atI (ns.map D.int) i = some (.int c) := by
  obtain ⟨d, h, hm⟩ := atI_ex (xs := ns.map D.int) h0 (by rw [List.length_map]; exact h1)
  obtain ⟨c, _, rfl⟩ := List.mem_map.mp hm
  exact ⟨c, h⟩
theorem rangeD_at {n i : Nat} {x : DV} (h : (rangeD 0 n)[i]? = some x) : i < n ∧ x = .int (i : Nat) := by
  unfold rangeD at h
  rw [List.getElem?_map] at h
  by_cases hi : i < n
  · rw [List.getElem?_range hi] at h
    simp at h
    exact ⟨hi, h.symm⟩
  · rw [List.getElem?_eq_none (by simp; omega)] at h
    simp at h
theorem map_at {ds : List D} {i : Nat} {x : DV} (h : (ds.map DV.dat)[i]? = some x) : ∃ d, ds[i]? = some d ∧ x = .dat d ∧ i < ds.length ∧ d ∈ ds := by
  rw [List.getElem?_map] at h
  cases e : ds[i]? with
  | none => rw [e] at h; cases h
  | some d =>
    rw [e] at h
    exact ⟨d, rfl, (Option.some.inj h).symm, (List.getElem?_eq_some_iff.mp e).1, List.mem_of_getElem? e⟩
theorem set_self {M : Mem} {n : Nat} {o : MO} (h : M[n]? = some o) : M.set n o = M := by
  obtain ⟨h1, h2⟩ := List.getElem?_eq_some_iff.mp h
  rw [← h2]
  exact List.set_getElem_self h1
/-- the state of the draws -/
def Dr (o : MO) : Prop := ∃ i p g : Int, o = .lst [.int i, .int p, .int g] ∧ 0 ≤ i ∧ 0 ≤ p ∧ 0 ≤ g ∧ g < 2147483647
def spDraw (pre : List D → Prop) (S : List D → D → Prop) : LSp := fun ds M P PX => ∃ (ns : List Int) (as : List D) (o : MO), ds = .obj 0 :: .dat (.lst (ns.map D.int)) :: as.map DV.dat ∧ ns.length ≤ 63 ∧ M = [o] ∧ Dr o ∧ pre as ∧ ∀ d o', S as d → Dr o' → P (.dat d) [o']
theorem call_draw {pre : List D → Prop} {S : List D → D → Prop} {n : Nat} {o : MO} {xs : List DV} {as : List D} {ns : List Int} {M : Mem} {P : PD} {PX : PXn} (hM : M[n]? = some o) (ho : Dr o) (hl : ns.length ≤ 63) (hd : Dats xs as) (hp : pre as) (k : ∀ d o', S as d → Dr o' → P (.dat d) (M.set n o')) :
    CallAt (spDraw pre S) (.obj n :: .dat (.lst (ns.map D.int)) :: xs) M P PX := by
  obtain ⟨i, p, g, rfl, ho1⟩ := id ho
  refine .inr ⟨[n], .obj 0 :: .dat (.lst (ns.map D.int)) :: as.map DV.dat, [_], by simp, ?_, ?_, rfl, ?_, ns, as, _, rfl, hl, rfl, ho, hp, fun d o' hs ho' => ?_⟩
  · simp [okDV]
  · rw [hd.eq]
    show _ = renDV [n] M.length (.obj 0) :: renDV [n] M.length (.dat _) :: (as.map DV.dat).map (renDV [n] M.length)
    rw [List.map_map]
    congr 2
  · simp [hM, renMO, renDV]
  · obtain ⟨i', p', g', rfl, ho2⟩ := id ho'
    show P (.dat d) (merge [n] M [_])
    have e : merge [n] M [MO.lst [.int i', .int p', .int g']] = M.set n (MO.lst [.int i', .int p', .int g']) := by
      simp [merge, putAll, renMO, renDV]
    rw [e]
    exact k d _ hs ho'
def nextPre (as : List D) : Prop := ∃ m : Int, as = [.int m] ∧ 0 < m ∧ m < 1073741824
def nextS (as : List D) (d : D) : Prop := ∃ m r : Int, as = [.int m] ∧ d = .int r ∧ 0 ≤ r ∧ r < m
theorem call_next {n : Nat} {o : MO} {m : Int} {ns : List Int} {M : Mem} {P : PD} {PX : PXn} (hM : M[n]? = some o) (ho : Dr o) (hl : ns.length ≤ 63) (h0 : 0 < m) (h1 : m < 1073741824) (k : ∀ r o', 0 ≤ r → r < m → Dr o' → P (.dat (.int r)) (M.set n o')) :
    CallAt (spDraw nextPre nextS) [.obj n, .dat (.lst (ns.map D.int)), .dat (.int m)] M P PX :=
  call_draw hM ho hl (.cons .nil) ⟨m, rfl, h0, h1⟩ fun d o' ⟨m', r, e, hd, h2, h3⟩ ho' => by
    cases e
    subst hd
    exact k r o' h2 h3 ho'
/-- data in, data out -/
def spP (pre : List D → Prop) (S : List D → D → Prop) : LSp := fun ds M P PX => ∃ as : List D, ds = as.map DV.dat ∧ M = [] ∧ pre as ∧ ∀ r, S as r → P (.dat r) []
theorem call_P {pre : List D → Prop} {S : List D → D → Prop} {xs : List DV} {as : List D} {M : Mem} {P : PD} {PX : PXn} (hd : Dats xs as) (hp : pre as) (k : ∀ r, S as r → P (.dat r) M) : CallAt (spP pre S) xs M P PX := by
  refine .inr ⟨[], as.map DV.dat, [], List.nodup_nil, by simp [okDV], ?_, rfl, rfl, as, rfl, rfl, hp, fun r hr => ?_⟩
  · rw [hd.eq, List.map_map]; exact List.map_congr_left fun e _ => rfl
  · show P (.dat r) (merge [] M [])
    rw [merge_nil]
    exact k r hr
/-- values that the laws compare with themselves -/
def okV : Nat → D → Prop
  | 0, _ => False
  | _ + 1, .non => True
  | _ + 1, .bl _ => True
  | _ + 1, .int _ => True
  | _ + 1, .str _ => True
  | n + 1, .tup ds => ds.length ≤ 1000000 ∧ ∀ d ∈ ds, okV n d
  | _ + 1, _ => False
def samePre (n : Nat) (as : List D) : Prop := ∃ d, as = [d, d] ∧ okV n d
def yesS (_ : List D) (r : D) : Prop := r = .bl true
def spSame : Nat → LSp
  | 0 => fun _ _ _ _ => False
  | n + 1 => spP (samePre (n + 1)) yesS
theorem call_same {n : Nat} {d : D} {M : Mem} {P : PD} {PX : PXn} (h : okV n d) (k : P (.dat (.bl true)) M) : CallAt (spSame n) [.dat d, .dat d] M P PX := by
  cases n with
  | zero => exact h.elim
  | succ n => exact call_P (.cons (.cons .nil)) ⟨d, rfl, h⟩ fun r e => by cases e; exact k
theorem okV_mono {n : Nat} : ∀ {d : D}, okV n d → okV (n + 1) d := by
  induction n with
  | zero => intro d h; exact h.elim
  | succ n ih =>
    intro d h
    cases d with
    | tup ds => exact ⟨h.1, fun d hd => ih (h.2 d hd)⟩
    | non => trivial
    | bl => trivial
    | int => trivial
    | str => trivial
    | lst => exact h.elim
    | ty => exact h.elim
    | con => exact h.elim
    | exc => exact h.elim
/-- a comprehension that draws nothing -/
theorem lc_pure {v kk : Nat} {lt : LT} {te : LE} {ρ : Rho} {M : Mem} {P : PD} {PX : PXn} {ds : List D} (p : D → Bool) (f : D → D) (hv : ρ[v]? = some (some (.dat (.lst ds)))) (hl : ds.length ≤ sizeLine)
    (ht : ∀ d ∈ ds, ∀ R : Bool → Mem → Prop, R (p d) M → lt ((ρ.set kk none).set kk (some (.dat d))) M R noX) (he : ∀ d ∈ ds, p d = true → ∀ R : PD, R (.dat (f d)) M → te ((ρ.set kk none).set kk (some (.dat d))) M R noX) (h : P (.dat (.lst ((ds.filter p).map f))) M) :
    lLc (lwAny (lVar v)) (lgName kk) lt te [kk] ρ M P PX := by
  refine ⟨_, hv, fun i acc M' => M' = M ∧ acc = ((ds.take i).filter p).map f, ⟨rfl, by simp⟩, fun _ _ _ _ => trivial, ?_, ?_⟩
  · rintro i x acc M' hx ⟨rfl, rfl⟩
    obtain ⟨d, hd, rfl, hi, hm⟩ := map_at hx
    have e : ((ds.take (i + 1)).filter p).map f = ((ds.take i).filter p).map f ++ (if p d = true then [f d] else []) := by
      rw [List.take_add_one, hd, List.filter_append, List.map_append]
      congr 1
      show ([d].filter p).map f = _
      cases hp : p d <;> simp [hp]
    refine ht d hm _ ?_
    show if p d = true then _ else _
    cases hp : p d with
    | false =>
      refine .inl ⟨rfl, ?_⟩
      rw [e, hp]
      simp
    | true =>
      refine he d hm hp _ ⟨?_, _, rfl, .inl ⟨rfl, ?_⟩⟩
      · rw [List.length_map]
        have h1 := List.length_filter_le p (ds.take i)
        have h2 : (ds.take i).length ≤ i := by rw [List.length_take]; omega
        omega
      · rw [e, hp]
        rfl
  · rintro acc M' ⟨rfl, rfl⟩
    rw [List.length_map, List.take_length]
    exact h
theorem s_itnF {A B : Prop} (h : A) : if (!false) = true then A else B := h
theorem s_itnT {A B : Prop} (h : B) : if (!true) = true then A else B := h
theorem s_isNT {b : Bool} {x : DV} {P : PD} {M : Mem} (e : (if b then !isNon x else isNon x) = true) (h : P (.bl true) M) : vIsN b x (.dat .non) M P := s_isN (by rw [e]; exact h)
theorem s_isNF {b : Bool} {x : DV} {P : PD} {M : Mem} (e : (if b then !isNon x else isNon x) = false) (h : P (.bl false) M) : vIsN b x (.dat .non) M P := s_isN (by rw [e]; exact h)
theorem s_isiT {e : D} {n : String} {P : PD} {M : Mem} (hn : n = "int" ∨ n = "str" ∨ n = "bool" ∨ n = "tuple" ∨ n = "list") (ht : (tyN e == "") = false) (hb : isiD e n = true) (h : P (.bl true) M) : vIsi [.dat e, .dat (.ty n)] M P := s_isi hn ht hb h
theorem s_isiF {e : D} {n : String} {P : PD} {M : Mem} (hn : n = "int" ∨ n = "str" ∨ n = "bool" ∨ n = "tuple" ∨ n = "list") (ht : (tyN e == "") = false) (hb : isiD e n = false) (h : P (.bl false) M) : vIsi [.dat e, .dat (.ty n)] M P := s_isi hn ht hb h
theorem s_eqST {x : Str} {P : PD} {M : Mem} (h : P (.bl true) M) : vEq false (.dat (.str x)) (.dat (.str x)) M P := s_eqS (by simpa using h)
theorem s_eqIT {x : Int} {P : PD} {M : Mem} (h : P (.bl true) M) : vEq false (.dat (.int x)) (.dat (.int x)) M P := s_eqI (by simpa using h)
theorem s_neIT {x : Int} {P : PD} {M : Mem} (h : P (.bl false) M) : vEq true (.dat (.int x)) (.dat (.int x)) M P := s_eqI (by simpa using h)
theorem s_eqBT {x : Bool} {P : PD} {M : Mem} (h : P (.bl true) M) : vEq false (.dat (.bl x)) (.dat (.bl x)) M P := s_eqB (by simpa using h)
end L3

/-! more steps: texts, loops -/
namespace L3
open PySem L2
section
variable {C : Cn}
def vFind3 : DV → List DV → Mem → PD → Prop := fun x xs M P => ∃ a b i, x = .str a ∧ xs = [.str b, .int i] ∧ P (.int (Txt.find3 a b i)) M
theorem lm_find3 : LoM C (fun x xs H Q => ∃ (a b : Str) (i : Int), x = .str a ∧ xs = [.str b, .int i] ∧ Q (.int (Txt.find3 a b i)) H) vFind3 := fun x xs M P ⟨a, b, i, e1, e2, p⟩ Z α H v vs Q r q qs k => by
  subst e1 e2
  cases q
  obtain ⟨v1, v2, rfl, q1, q2⟩ := two_inv qs
  cases q1
  cases q2
  exact ⟨a, b, i, rfl, rfl, k.now (d := .int _) r (.int _) p⟩
def vStarts : DV → List DV → Mem → PD → Prop := fun x xs M P => ∃ a b, x = .str a ∧ xs = [.str b] ∧ P (.bl (Txt.startswith a b)) M
def vEnds : DV → List DV → Mem → PD → Prop := fun x xs M P => ∃ a b, x = .str a ∧ xs = [.str b] ∧ P (.bl (Txt.endswith a b)) M
def vFind : DV → List DV → Mem → PD → Prop := fun x xs M P => ∃ a b, x = .str a ∧ xs = [.str b] ∧ P (.int (Txt.find a b)) M
def vCount : DV → List DV → Mem → PD → Prop := fun x xs M P => ∃ a b, x = .str a ∧ xs = [.str b] ∧ P (.int (Txt.count a b)) M
end
/-- a written tuple of texts -/
structure TupOk (K : PySem.W.Frag) (a : Addr) (xs : List Str) : Prop where
  ex : ∃ (o : Obj) (its : Array Value) (n : Nat), K.lookup a = some o ∧ o.cls = .type "tuple" ∧ o.data = .seq its n ∧ its.size ≤ sizeLine ∧ Vals (xs.map V.str) its.toList
theorem lp_gtupE {X : Cx} {C : Cn} {W : WX} {pos : Pos} {x : Str} {xs : List Str} {a : Addr} (hK : X.K = C.K) (hg : Gl X x) (hm : X.mg x = some (.ref a) ∧ TupOk X.K a xs) (hd : (x == ("__debug__" : Str)) = false := by decide) : LPE X C W (.Name x pos) (tC (.ref a)) (lC (.tup (xs.map D.str))) := by
  obtain ⟨h1, h2⟩ := hm
  rw [hK] at h2
  refine lp_glob hg h1 (rv := rfl) (fun Z α H => ?_) hd
  obtain ⟨o, its, n, e1, e2, e3, e4, e5⟩ := h2.ex
  refine .tup (.inr ⟨o, its, n, e1, e2, e3, e4, e5⟩) ?_
  clear e5 h2
  induction xs with
  | nil => exact .nil
  | cons x xs ih => exact .cons (.str x) ih
section
variable {l m t u : LS} {le la lb lo li lv lc : LE} {as : LA} {lt lu : LT} {nx bk ct : Rho → Mem → Prop} {rt P : PD} {ex : LX → Rho → Mem → Prop} {PX : PXn} {ρ : Rho} {M : Mem} {i : Nat} {d : DV} {lw : LW} {g : LG} {L : LEnds}
theorem s_while (h : ∃ (I : Nat → Rho → Mem → Prop), (∃ m, I m ρ M) ∧ ∀ m ρ1 M1, I m ρ1 M1 → lt ρ1 M1 (fun b M2 => if b = true then
  l ⟨DropS M.length (fun ρ' M' => ∃ m', m' < m ∧ I m' ρ' M'), rt, nx, DropS M.length (fun ρ' M' => ∃ m', m' < m ∧ I m' ρ' M'), ex⟩ ρ1 M2 else nx ρ1 M2) (fun x M => ex x ρ1 M)) : lWhile lt l ⟨nx, rt, bk, ct, ex⟩ ρ M := h
theorem s_gConsM {gs : LGs} {e : D} {ds : List D} {R : Rho → Mem → Prop} (h : g (.dat e) ρ M fun ρ' M' => gs (ds.map DV.dat) ρ' M' R) : lgCons g gs ((e :: ds).map DV.dat) ρ M R := ⟨.dat e, ds.map DV.dat, rfl, h⟩
theorem s_gNilM {R : Rho → Mem → Prop} (h : R ρ M) : lgNil (([] : List D).map DV.dat) ρ M R := ⟨rfl, h⟩
theorem s_inC {b : Bool} {x z : Str} {c : Nat} {k : Bool} (hx : x = ⟨#[c]⟩) (hk : (if b then !decide (c ∈ z.cps.toList) else decide (c ∈ z.cps.toList)) = k) (h : P (.bl k) M) : vInA b (.dat (.str x)) (.dat (.str z)) M P := .inr (.inr (.inr ⟨c, z, by rw [hx], rfl, by rw [hk]; exact h⟩))
theorem s_tyO {n : Nat} {xs : List DV} {R : Prop} (hM : M[n]? = some (.lst xs)) (h : R) : tyD "list" (.obj n) M ∧ R := ⟨⟨rfl, xs, hM⟩, h⟩
theorem s_tyS {x : Str} {R : Prop} (h : R) : tyD "str" (.dat (.str x)) M ∧ R := ⟨rfl, h⟩
theorem s_append {n : Nat} {ys : List DV} {y : DV} (hM : M[n]? = some (.lst ys)) (hl : ys.length < sizeLine) (h : P .non (M.set n (.lst (ys ++ [y])))) : vAppend (.obj n) [y] M P := ⟨n, ys, y, rfl, rfl, hM, hl, h⟩
theorem s_joinO {a : Str} {n : Nat} {ys : List Str} (hM : M[n]? = some (.lst (ys.map DV.str))) (hl : (ys.map (·.length)).sum + ys.length * a.length ≤ 16777216) (h : P (.str (Txt.join a ys)) M) : vJoin (.dat (.str a)) [.obj n] M P := ⟨a, ys, rfl, .inr (.inr ⟨n, rfl, hM⟩), hl, h⟩
theorem s_joinL {a : Str} {ys : List Str} (hl : (ys.map (·.length)).sum + ys.length * a.length ≤ 16777216) (h : P (.str (Txt.join a ys)) M) : vJoin (.dat (.str a)) [.dat (.lst (ys.map D.str))] M P := ⟨a, ys, rfl, .inl rfl, hl, h⟩
theorem s_neg {j : Int} (h : P (.int (-j)) M) : vNeg (.dat (.int j)) M P := ⟨j, rfl, h⟩
theorem s_slS {a b : Option Int} {z : Str} (hl : z.length ≤ sizeLine) (h : P (.str (cutS z a b)) M) : vSl (.dat (.str z)) a b M P := ⟨hl, h⟩
theorem s_tupO {n : Nat} {ds : List D} (hM : M[n]? = some (.lst (ds.map DV.dat))) (h : P (.dat (.tup ds)) M) : vTupA [.obj n] M P := .inl ⟨_, rfl, .inr (.inr ⟨n, ds, rfl, hM, h⟩)⟩
theorem s_mulS {z : Str} {n : Int} (h0 : 0 ≤ n) (h1 : n < 2 ^ 63) (hl : z.length * n.toNat ≤ sizeLine) (h : P (.str (repS z n.toNat)) M) : vMul (.dat (.str z)) (.dat (.int n)) M P := ⟨by omega, h1, hl, h⟩
theorem s_find3 {a b : Str} {j : Int} (h : P (.int (Txt.find3 a b j)) M) : vFind3 (.dat (.str a)) [.dat (.str b), .dat (.int j)] M P := ⟨a, b, j, rfl, rfl, h⟩
theorem s_starts {a b : Str} (h : P (.bl (Txt.startswith a b)) M) : vStarts (.dat (.str a)) [.dat (.str b)] M P := ⟨a, b, rfl, rfl, h⟩
theorem s_wAnyC {R : List DV → (Mem → Prop) → Mem → Prop} {ds : List D} (h : R (ds.map DV.dat) (fun _ => True) M) : lwAny (lC (.tup ds)) ρ M R PX := h
theorem s_wAnyS {R : List DV → (Mem → Prop) → Mem → Prop} {z : Str} (hv : ρ[i]? = some (some (.dat (.str z)))) (h : R (signsD z) (fun _ => True) M) : lwAny (lVar i) ρ M R PX := ⟨_, hv, h⟩
end
/-! texts by their signs -/
abbrev S (cs : List Nat) : Str := ⟨cs.toArray⟩
theorem S_cs (x : Str) : S x.cps.toList = x := by cases x; simp
theorem cs_S (cs : List Nat) : (S cs).cps.toList = cs := by simp
theorem len_cs (x : Str) : x.length = x.cps.toList.length := by show x.cps.size = _; simp
theorem cs_inj {x y : Str} (h : x.cps.toList = y.cps.toList) : x = y := by rw [← S_cs x, ← S_cs y, h]
theorem cs_app (x y : Str) : (x ++ y).cps.toList = x.cps.toList ++ y.cps.toList := by
  show (x.cps ++ y.cps).toList = _
  exact Array.toList_append
theorem S_app (a b : List Nat) : S a ++ S b = S (a ++ b) := cs_inj (by rw [cs_app])
theorem cutS_nat (z : Str) (i j : Nat) : cutS z (some (i : Int)) (some (j : Int)) = S ((z.cps.toList.drop i).take (j - i)) := by
  unfold cutS
  rw [HT.sIx_nat, HT.sIx_nat, len_cs]
  apply cs_inj
  simp only [cs_S]
  generalize z.cps.toList = l
  by_cases h1 : i ≤ l.length
  · have e1 : min i l.length = i := by omega
    rw [e1]
    by_cases h2 : j ≤ l.length
    · have e2 : min j l.length = j := by omega
      rw [e2]
    · have e2 : min j l.length = l.length := by omega
      rw [e2, List.take_of_length_le (by rw [List.length_drop]; omega), List.take_of_length_le (by rw [List.length_drop]; omega)]
  · have e1 : min i l.length = l.length := by omega
    rw [e1, List.drop_eq_nil_of_le (Nat.le_refl _), List.drop_eq_nil_of_le (by omega)]
    simp
theorem at_cs {z : Str} {i : Nat} {c : Nat} (h : z.cps.toList[i]? = some c) : atI z.cps.toList (i : Int) = some c := atI_nat h
theorem drop_cons {α : Type} {xs : List α} {i : Nat} {c : α} (h : xs[i]? = some c) : xs.drop i = c :: xs.drop (i + 1) := by
  obtain ⟨h1, h2⟩ := List.getElem?_eq_some_iff.mp h
  rw [List.drop_eq_getElem_cons h1, h2]
theorem at_lt {α : Type} {xs : List α} {i : Nat} (h : i < xs.length) : ∃ c, xs[i]? = some c := ⟨xs[i], List.getElem?_eq_getElem h⟩
end L3

/-! sorted, of data -/
namespace L3
open PySem L2 PySem.W PyProof.Rows
def rSortD (K : PySem.W.Frag) : List V → Hp → VK → Prop := fun xs H Q => ∃ (a : Addr) (bs : List (V × PyData)), xs = [.ref a] ∧ SqL K H a (bs.map (·.1)) ∧ (∀ b ∈ bs, Dp K H b.1 b.2) ∧ AllAlike (bs.map (·.2)) ∧ Sortable (bs.map (·.2)) ∧ (∀ b ∈ bs, b.2.depth ≤ 60) ∧
  ∀ p, H p = none → Q (.ref p) (upd H p (.lst ((bs.mergeSort (dataLe false fun b => b.2)).map (·.1))))
theorem each_of {R : Value → V × PyData → Prop} : ∀ {bs : List (V × PyData)} {its : List Value}, Vals (bs.map (·.1)) its → (∀ b ∈ bs, ∀ u, RelV b.1 u → R u b) → EachIs R its bs
  | [], _, r, _ => by cases r; exact .nil
  | b :: bs, _, r, h => by
    cases r with
    | cons r0 rt => exact .cons (h b List.mem_cons_self _ r0) (each_of rt fun b hb => h b (List.mem_cons_of_mem _ hb))
theorem vals_each : ∀ {bs : List (V × PyData)} {its : List Value}, EachIs (fun u b => RelV b.1 u) its bs → Vals (bs.map (·.1)) its
  | _, _, .nil => .nil
  | _, _, .cons h t => .cons h (vals_each t)
theorem cr_sortD {X : Cx} (hu : X.A.units + 64 < cLine) : CallR X (.builtin "sorted") (rSortD X.K) := by
  intro pins s σ H vs us Q I r h
  obtain ⟨a, bs, rfl, hs, hd, hal, hk, hdep, q⟩ := h
  obtain ⟨its, rv, hl, hz⟩ := I.list hs
  rw [Vals.ref1 r]
  rw [List.length_map] at hz
  have e : EachIs (fun u (b : V × PyData) => RelV b.1 u) its bs := each_of rv fun b _ u hr => hr
  have er : EachIs (fun u (b : V × PyData) => ∃ as, Reads s.heap u b.2 as) its bs := each_of rv fun b hb u hr => Dp.reads I b.2 b.1 u (hd b hb) hr
  refine sorted_data (enc := fun b => b.2) (bs := bs) (R := fun u (b : V × PyData) => RelV b.1 u) hl.isList e er hal hk hz (fun b hb => ?_) fun out ho eo => ?_
  · have := hdep b hb
    omega
  · obtain ⟨ep, he'⟩ := PyProof.Rows.sortedAll_at s.heap its out.toArray
    have hlen : ((bs.mergeSort (dataLe false fun b => b.2)).map (·.1)).length ≤ sizeLine := by rw [List.length_map, List.length_mergeSort]; exact hz
    exact ⟨.ref _, upd H (s.heap.objs.size + 1) (.lst ((bs.mergeSort (dataLe false fun b => b.2)).map (·.1))), I.laid (t' := s.toks) (fun _ _ => PyProof.Rows.sortedAll_old) (Nat.le_succ _) ⟨hlen, out, ep, vals_each eo, he'⟩, rfl, q _ (I.hok.fresh (Nat.le_succ _))⟩
section
variable {C : Cn}
def vSort : List DV → Mem → PD → Prop := fun xs M P => ∃ x, ∃ ds : List D, xs = [x] ∧ (x = .dat (.lst ds) ∨ ∃ n, x = .obj n ∧ M[n]? = some (.lst (ds.map DV.dat))) ∧ ds.all pureD = true ∧ AllAlike (ds.map pyD) ∧ Sortable (ds.map pyD) ∧ (∀ d ∈ ds, (pyD d).depth ≤ 60) ∧
  P (.dat (.lst (ds.mergeSort (dataLe false pyD)))) M
theorem VDs.zip {K : PySem.W.Frag} {N : Addr → Prop} {H : Hp} : ∀ {vs : List V} {ds : List D}, VDs K N H vs ds → ∃ ts : List (V × D), ts.map (·.1) = vs ∧ ts.map (·.2) = ds ∧ ∀ t ∈ ts, VD K N H t.1 t.2
  | _, _, .nil => ⟨[], rfl, rfl, by simp⟩
  | v :: vs, d :: ds, .cons h t => by
    obtain ⟨ts, e1, e2, h2⟩ := VDs.zip t
    refine ⟨(v, d) :: ts, by rw [List.map_cons, e1], by rw [List.map_cons, e2], fun t ht => ?_⟩
    rcases List.mem_cons.mp ht with rfl | h3
    · exact h
    · exact h2 t h3
theorem VDs.unzip {K : PySem.W.Frag} {N : Addr → Prop} {H : Hp} : ∀ {ts : List (V × D)}, (∀ t ∈ ts, VD K N H t.1 t.2) → VDs K N H (ts.map (·.1)) (ts.map (·.2))
  | [], _ => .nil
  | t :: ts, h => .cons (h t List.mem_cons_self) (VDs.unzip fun u hu => h u (List.mem_cons_of_mem _ hu))
theorem ll_sort : LoL C (rSortD C.K) vSort := fun xs M P ⟨x, ds, e, hx, hp, hal, hk, hdep, p⟩ Z α H vs Q r q k => by
  subst e
  obtain ⟨v, rfl, q0⟩ := one_inv q
  have go : ∀ a ws, v = .ref a → SqL C.K H a ws → VDs C.K ((C.wz Z).N α) H ws ds → rSortD C.K [v] H Q := by
    rintro a ws rfl hs hd
    obtain ⟨ts, rfl, rfl, ht⟩ := hd.zip
    have e1 : (ts.map fun t => (t.1, pyD t.2)).map (·.1) = ts.map (·.1) := by rw [List.map_map]; rfl
    have e2 : (ts.map fun t => (t.1, pyD t.2)).map (·.2) = (ts.map (·.2)).map pyD := by rw [List.map_map, List.map_map]; rfl
    have hpure : ∀ t ∈ ts, pureD t.2 = true := fun t h => List.all_eq_true.mp hp t.2 (List.mem_map.mpr ⟨t, h, rfl⟩)
    refine ⟨a, ts.map fun t => (t.1, pyD t.2), rfl, by rw [e1]; exact hs, fun b hb => ?_, by rw [e2]; exact hal, by rw [e2]; exact hk, fun b hb => ?_, ?_⟩
    · obtain ⟨t, h, rfl⟩ := List.mem_map.mp hb
      exact (ht t h).dp (hpure t h)
    · obtain ⟨t, h, rfl⟩ := List.mem_map.mp hb
      exact hdep t.2 (List.mem_map.mpr ⟨t, h, rfl⟩)
    · have m1 : ((ts.map fun t => (t.1, pyD t.2)).mergeSort (dataLe false fun b => b.2)) = (ts.mergeSort (dataLe false fun t => pyD t.2)).map fun t => (t.1, pyD t.2) := (List.map_mergeSort (r := dataLe false fun t : V × D => pyD t.2) (s := dataLe false fun b : V × PyData => b.2) (f := fun t : V × D => (t.1, pyD t.2)) (l := ts) (fun a _ b _ => rfl)).symm
      have m2 : (ts.map (·.2)).mergeSort (dataLe false pyD) = (ts.mergeSort (dataLe false fun t => pyD t.2)).map (·.2) := (List.map_mergeSort (r := dataLe false fun t : V × D => pyD t.2) (s := dataLe false pyD) (f := fun t : V × D => t.2) (l := ts) (fun a _ b _ => rfl)).symm
      rw [m1, List.map_map]
      rw [m2] at p
      refine new_lst r k (ds := (ts.mergeSort (dataLe false fun t => pyD t.2)).map (·.2)) ?_ p
      exact VDs.unzip fun t h => ht t ((List.mergeSort_perm _ _).mem_iff.mp h)
  rcases hx with rfl | ⟨n, rfl, hn⟩
  · obtain ⟨a, ws, rfl, hs, hd⟩ := VD.lst_inv q0
    exact go a ws rfl hs.sq hd
  · obtain ⟨a, ws, rfl, hs, hd⟩ := seq_of r q0 hn
    exact go a ws rfl hs hd
theorem s_sortL {ds : List D} {M : Mem} {P : PD} (hp : ds.all pureD = true) (hal : AllAlike (ds.map pyD)) (hk : Sortable (ds.map pyD)) (hdep : ∀ d ∈ ds, (pyD d).depth ≤ 60) (p : P (.dat (.lst (ds.mergeSort (dataLe false pyD)))) M) : vSort [.dat (.lst ds)] M P := ⟨_, ds, rfl, .inl rfl, hp, hal, hk, hdep, p⟩
theorem s_sortO {n : Nat} {ds : List D} {M : Mem} {P : PD} (hM : M[n]? = some (.lst (ds.map DV.dat))) (hp : ds.all pureD = true) (hal : AllAlike (ds.map pyD)) (hk : Sortable (ds.map pyD)) (hdep : ∀ d ∈ ds, (pyD d).depth ≤ 60) (p : P (.dat (.lst (ds.mergeSort (dataLe false pyD)))) M) : vSort [.obj n] M P := ⟨_, ds, rfl, .inr ⟨n, rfl, hM⟩, hp, hal, hk, hdep, p⟩
/-- sorted(d) of a dict with text keys -/
def rSortK : List V → Hp → VK → Prop := fun xs H Q => ∃ (a : Addr) (kvs : List (Key × V)) (ks : List Str), xs = [.ref a] ∧ Rd H a (.dK kvs) ∧ kvs.map (·.1) = ks.map Sum.inr ∧ ks.length < 64 ∧
    ∀ ys p, ys.Perm ks → sortedS ys = true → H p = none → Q (.ref p) (upd H p (.lst (ys.map V.str)))
def vSortK : List DV → Mem → PD → Prop := fun xs M P => ∃ n kvs, ∃ ks : List Str, xs = [.obj n] ∧ M[n]? = some (.dK kvs) ∧ kvs.map (·.1) = ks.map Sum.inr ∧ ks.length < 64 ∧ ∀ ys : List Str, ys.Perm ks → sortedS ys = true → P (.dat (.lst (ys.map D.str))) M
theorem KVR.keysEq {α : List Addr} {H : Hp} : ∀ {ps : List (Key × V)} {fs : List (Key × DV)}, KVR C α H ps fs → ps.map (·.1) = fs.map (·.1)
  | _, _, .nil => rfl
  | _, _, .cons h t => by rw [List.map_cons, List.map_cons, h.1, KVR.keysEq t]
theorem VDs.strs {K : PySem.W.Frag} {N : Addr → Prop} {H : Hp} : ∀ ys : List Str, VDs K N H (ys.map V.str) (ys.map D.str)
  | [] => .nil
  | y :: ys => .cons (.str y) (VDs.strs ys)
theorem ll_sortK : LoL C rSortK vSortK := fun xs M P ⟨n, kvs, ks, e, hM, hks, hl, p⟩ Z α H vs Q r q k => by
  subst e
  obtain ⟨v, rfl, q0⟩ := one_inv q
  obtain ⟨a, ea, rfl⟩ := q0
  obtain ⟨ps, eh, kv⟩ := r.hr.get n a _ ea hM
  exact ⟨a, ps, ks, rfl, .inl eh, by rw [KVR.keysEq kv]; exact hks, hl, fun ys p0 h1 h2 h3 => new_lst r k (VDs.strs ys) (p ys h1 h2) p0 h3⟩
def rSortA (K : PySem.W.Frag) : List V → Hp → VK → Prop := fun xs H Q => rSortD K xs H Q ∨ rSortK xs H Q
theorem call_sortA {X : Cx} (hc : X.calm = true) (hu : X.A.units + 64 < cLine) : CallR X (.builtin "sorted") (rSortA X.K) := CallR.or (cr_sortD hu) (call_sortedD hc)
def vSortA : List DV → Mem → PD → Prop := fun xs M P => vSort xs M P ∨ vSortK xs M P
theorem ll_sortA : LoL C (rSortA C.K) vSortA := ll_or ll_sort ll_sortK
end
/-! `in` a list of deep data -/
section
variable {C : Cn}
theorem hu65 {k : Nat} {A : Around} (r : Room k A) : A.units + 65 < cLine := by have := r.un; omega
def rInDp (K : PySem.W.Frag) (neg : Bool) : R2 := fun x y H Q => ∃ d ds, Dp K H x d ∧ Dp K H y (.list ds) ∧ SeqAt.shaped d = true ∧ SeqAt.shaped (.list ds) = true ∧ Q (.bl (if neg then !(ds.any fun z => PyData.eqv z d) else ds.any fun z => PyData.eqv z d)) H
theorem op_inDp {X : Cx} (hu : X.A.units + 65 < cLine) : OpR X (compareOp .In) (rInDp X.K false) := op_inD hu
theorem op_notInDp {X : Cx} (hu : X.A.units + 65 < cLine) : OpR X (compareOp .NotIn) (rInDp X.K true) := op_notInD hu
theorem pyDs_map : ∀ ds : List D, pyDs ds = ds.map pyD
  | [] => rfl
  | d :: ds => by show pyD d :: pyDs ds = _; rw [pyDs_map ds]; rfl
def vInDp (neg : Bool) : DV → DV → Mem → PD → Prop := fun x y M P => ∃ d ds, x = .dat d ∧ (y = .dat (.lst ds) ∨ ∃ n, y = .obj n ∧ M[n]? = some (.lst (ds.map DV.dat))) ∧ okD d = true ∧ okD (.lst ds) = true ∧ P (.bl (if neg then !inD d ds else inD d ds)) M
theorem l2_inDp (neg : Bool) : Lo2 C (rInDp C.K neg) (vInDp neg) := fun x y M P ⟨d, ds, e1, e2, h1, h2, p⟩ Z α H v u Q r q1 q2 k => by
  subst e1
  unfold okD at h1 h2
  rw [Bool.and_eq_true] at h1 h2
  have q1 : VD C.K _ H v d := q1
  have key : ∀ ws a, u = .ref a → SqL C.K H a ws → VDs C.K ((C.wz Z).N α) H ws ds → rInDp C.K neg v u H Q := by
    rintro ws a rfl hs hd
    refine ⟨pyD d, pyDs ds, q1.dp h1.1, .lst hs (hd.dp h2.1), h1.2, h2.2, ?_⟩
    have e : ((pyDs ds).any fun z => PyData.eqv z (pyD d)) = inD d ds := by
      rw [pyDs_map, List.any_map]
      rfl
    rw [e]
    exact k.now (d := .bl _) r (.bl _) p
  rcases e2 with rfl | ⟨n, rfl, hn⟩
  · obtain ⟨a, ws, e, hs, hd⟩ := VD.lst_inv q2
    exact key ws a e hs.sq hd
  · obtain ⟨a, ws, e, hs, hd⟩ := seq_of r q2 hn
    exact key ws a e hs hd
def rInX (K : PySem.W.Frag) (neg : Bool) : R2 := fun x y H Q => rInA K neg x y H Q ∨ rInDp K neg x y H Q
def vInX (neg : Bool) : DV → DV → Mem → PD → Prop := fun x y M P => vInA neg x y M P ∨ vInDp neg x y M P
theorem op_inX {X : Cx} (hu : X.A.units + 65 < cLine) : OpR X (compareOp .In) (rInX X.K false) := (op_inA (by omega)).or (op_inDp hu)
theorem op_notInX {X : Cx} (hu : X.A.units + 65 < cLine) : OpR X (compareOp .NotIn) (rInX X.K true) := (op_notInA (by omega)).or (op_notInDp hu)
theorem l2_inX (neg : Bool) : Lo2 C (rInX C.K neg) (vInX neg) := l2_or (l2_inA neg) (l2_inDp neg)
theorem s_inDpO {b : Bool} {n : Nat} {d : D} {ds : List D} {c : Bool} {M : Mem} {P : PD} (hM : M[n]? = some (.lst (ds.map DV.dat))) (h1 : okD d = true) (h2 : okD (.lst ds) = true) (hc : (if b then !inD d ds else inD d ds) = c) (h : P (.bl c) M) : vInX b (.dat d) (.obj n) M P := .inr ⟨d, ds, rfl, .inr ⟨n, rfl, hM⟩, h1, h2, by rw [hc]; exact h⟩
end
end L3

/-! startswith, partition, split at one sign, by signs -/
namespace L3
open PySem L2
theorem starts_eq (x y : Str) : Txt.startswith x y = decide (x.cps.toList.take y.cps.toList.length = y.cps.toList) := by
  unfold Txt.startswith
  rw [StrLaws.subAt_eq, Bool.eq_iff_iff, Bool.and_eq_true, decide_eq_true_iff, decide_eq_true_iff, List.drop_zero, beq_iff_eq, len_cs y]
  constructor
  · exact fun h => h.2
  · intro h
    refine ⟨?_, h⟩
    have := congrArg List.length h
    rw [List.length_take] at this
    rw [len_cs x]
    omega
theorem sub_cs (x : Str) (i j : Nat) : (PySem.Builtin.Str.strSub x i j).cps.toList = (x.cps.toList.take j).drop i := by
  show (x.cps.extract i j).toList = _
  rw [Array.toList_extract, List.extract_eq_drop_take, List.drop_take]
/-- before the first c, behind it -/
def headC (c : Nat) (xs : List Nat) : List Nat := xs.takeWhile fun x => !decide (x = c)
theorem head_at {c : Nat} {xs : List Nat} {k : Nat} (h : xs[k]? = some c) (hn : ∀ i, i < k → xs[i]? ≠ some c) : headC c xs = xs.take k := by
  induction xs generalizing k with
  | nil => simp at h
  | cons a xs ih =>
    unfold headC
    cases k with
    | zero =>
      have : a = c := by simpa using h
      rw [List.takeWhile_cons, this]
      simp
    | succ k =>
      have ha : a ≠ c := fun e => hn 0 (by omega) (by rw [e]; rfl)
      rw [List.takeWhile_cons]
      simp only [ha, decide_false, Bool.not_false, if_true]
      have := ih (k := k) (by simpa using h) fun i hi => by have := hn (i + 1) (by omega); simpa using this
      unfold headC at this
      rw [this]
      rfl
theorem head_none {c : Nat} {xs : List Nat} (h : c ∉ xs) : headC c xs = xs := by
  unfold headC
  induction xs with
  | nil => rfl
  | cons a xs ih =>
    have ha : a ≠ c := fun e => h (by rw [← e]; exact List.mem_cons_self)
    rw [List.takeWhile_cons]
    simp only [ha, decide_false, Bool.not_false, if_true]
    rw [ih fun hm => h (List.mem_cons_of_mem _ hm)]
theorem occ1 (x : Str) (c limit : Nat) (hl : 1 ≤ limit) : (PySem.Builtin.Str.occurrences x (S [c]) 0 x.length limit = [] ∧ c ∉ x.cps.toList) ∨
    ∃ i r, PySem.Builtin.Str.occurrences x (S [c]) 0 x.length limit = i :: r ∧ c ∈ x.cps.toList ∧ x.cps.toList.take i = headC c x.cps.toList ∧ x.cps.toList[i]? = some c := by
  rcases StrLaws.occ_head_from x (S [c]) 0 limit hl with ⟨h0, hn⟩ | ⟨i, r, h0, _, hi, hn⟩
  · refine .inl ⟨h0, fun hm => ?_⟩
    obtain ⟨j, hj⟩ := List.mem_iff_getElem?.mp hm
    exact hn j (Nat.zero_le _) ((StrLaws.subAt_one x c j).mpr hj)
  · have h1 := (StrLaws.subAt_one x c i).mp hi
    refine .inr ⟨i, r, h0, List.mem_of_getElem? h1, (head_at h1 fun j hj e => hn j (Nat.zero_le _) hj ((StrLaws.subAt_one x c j).mpr e)).symm, h1⟩
theorem part_eq (x : Str) (c : Nat) : ∃ z, Txt.partition x (S [c]) = (if c ∈ x.cps.toList then (S (headC c x.cps.toList), S [c], z) else (x, ("" : Str), ("" : Str))) := by
  unfold Txt.partition
  rcases occ1 x c 1 (Nat.le_refl _) with ⟨h0, hn⟩ | ⟨i, r, h0, hm, ht, _⟩
  · refine ⟨("" : Str), ?_⟩
    rw [h0, if_neg hn]
    rfl
  · refine ⟨PySem.Builtin.Str.strSub x (i + (S [c]).length) x.length, ?_⟩
    rw [h0, if_pos hm]
    have : PySem.Builtin.Str.strSub x 0 i = S (headC c x.cps.toList) := cs_inj (by rw [sub_cs, cs_S, List.drop_zero, ht])
    rw [← this]
theorem kind_le {x : Str} {c : Nat} (h : c ∈ x.cps.toList) : PySem.Builtin.Str.strKind (S [c]) ≤ PySem.Builtin.Str.strKind x := by
  have hm : c ∈ x.cps := by simpa using h
  unfold PySem.Builtin.Str.strKind
  have e1 : ∀ p : Nat → Bool, (S [c]).cps.all p = p c := fun p => by simp
  rw [e1, e1]
  by_cases h1 : x.cps.all (fun c => decide (c < 256)) = true
  · have := (Array.all_eq_true_iff_forall_mem.mp h1) c hm
    rw [h1, this]
    exact Nat.le_refl _
  · by_cases h2 : x.cps.all (fun c => decide (c < 65536)) = true
    · have := (Array.all_eq_true_iff_forall_mem.mp h2) c hm
      rw [if_neg h1, if_pos h2, this]
      split <;> simp
    · rw [if_neg h1, if_neg h2]
      split
      · decide
      · split <;> decide
/-- x.split(c): the first part, one part alone if c is not in x -/
theorem split_eq (x : Str) (c : Nat) : (c ∉ x.cps.toList ∧ Txt.split x (S [c]) = [x]) ∨ (c ∈ x.cps.toList ∧ ∃ y ys, Txt.split x (S [c]) = S (headC c x.cps.toList) :: y :: ys) := by
  unfold Txt.split
  by_cases hm : c ∈ x.cps.toList
  · right
    refine ⟨hm, ?_⟩
    have h1 : (decide (x.length < (S [c]).length) || decide (PySem.Builtin.Str.strKind x < PySem.Builtin.Str.strKind (S [c]))) = false := by
      have hk := kind_le hm
      have hl : 1 ≤ x.length := by
        rw [len_cs]
        exact List.length_pos_of_mem hm
      rw [Bool.or_eq_false_iff, decide_eq_false_iff_not, decide_eq_false_iff_not]
      exact ⟨by show ¬ x.length < 1; omega, by omega⟩
    rw [h1, if_neg (by decide)]
    rcases occ1 x c (x.length + 1) (by omega) with ⟨_, hn⟩ | ⟨i, r, h0, _, ht, _⟩
    · exact absurd hm hn
    · rw [h0, if_neg (by simp)]
      unfold PySem.Builtin.Str.partsBetween
      have e : PySem.Builtin.Str.strSub x 0 i = S (headC c x.cps.toList) := cs_inj (by rw [sub_cs, cs_S, List.drop_zero, ht])
      cases r with
      | nil => rw [← e]; exact ⟨_, _, rfl⟩
      | cons j r => rw [← e]; exact ⟨_, _, rfl⟩
  · left
    refine ⟨hm, ?_⟩
    split
    · rfl
    · rcases occ1 x c (x.length + 1) (by omega) with ⟨h0, _⟩ | ⟨i, r, _, hm', _⟩
      · rw [h0]
        rfl
      · exact absurd hm' hm
end L3

/-! any, all of a generator expression whose element is any expression -/
namespace L3
open PySem L2 PySem.Spec PyProof.Rows GenW
/-- the names of a generator expression: its own (with their places in N), or captured -/
structure GenOk (N : List Str) (sc scope : Scope) (own : List (Str × Nat)) : Prop where
  kind : scope.kind = .function
  co : scope.isCoroutine = false
  dot : scope.names.lookup (".0" : Str) = some NameKind.local
  cell : ∀ y ∈ scope.names, y.2 ≠ .cell
  uniq : ∀ y ∈ scope.names, scope.names.lookup y.1 = some y.2
  ix : ∀ p ∈ own, N[p.2]? = some p.1
  free : ∀ y ∈ scope.names, y.2 = .free → sc.names.lookup y.1 = some .cell ∨ sc.names.lookup y.1 = some .free
  own : ∀ y ∈ scope.names, y.2 = .local → y.1 ∈ own.map (·.1) ∨ y.1 ∉ N
/-- the context of the generator's frame -/
abbrev cxG (X : Cx) (s : Shared) (H : Hp) (cenv : Env) (Ag : Around) (fp : List Addr) : Cx :=
  { X with s_0 := s, H_0 := H, env := cenv, A := Ag, outer := X.stack, stack := cenv :: X.stack, ex := fp, fn := fun _ => false, pn := [], xe := fun _ _ => False }
section
variable {X : Cx} {pins : List (Addr × Obj)} {σ : L2.St} {H : Hp} {s : Shared}
theorem invSame {s' : Shared} (I : Inv X pins σ H s) (h : s'.heap = s.heap) (o : s'.os = s.os) (b : AllBare s'.gens) : Inv X pins σ H s' := by
  obtain ⟨hp, g, d, t, os⟩ := s'
  cases (show hp = s.heap from h)
  exact ⟨I.ok, o.trans I.os, b, I.base, I.loc, I.cell, I.free, I.freeC, I.pin, I.hok, I.len⟩
theorem gen_start {scope : Scope} {own : List (Str × Nat)} {fp : List Addr} {Ag : Around} {code : Value} {s' : Shared} {m : Str → Option Value} (I : Inv X pins σ H s) (ok : GenOk X.N X.env.scope scope own) (hN : X.N.Nodup)
    (hfp : ∀ b ∈ fp, FpOk X pins H b ∧ b < s.heap.objs.size) (hfr : Ag.frames = some (genEnv scope (cloFrom X.env.cells scope.names []) s.heap.objs.size code builtinsNs X.env :: X.stack)) (hh : Ag.handled = none)
    (os : s'.os = s.os) (hb : AllBare s'.gens) (kp : ∀ b o, s.heap.get? b = some o → s'.heap.get? b = some o) (hn : s'.heap.Ns s.heap.objs.size m) :
    Inv (cxG X s H (genEnv scope (cloFrom X.env.cells scope.names []) s.heap.objs.size code builtinsNs X.env) Ag fp) [] (wipe σ (own.map (·.2))) H s' := by
  have cm : ∀ {y c}, (cloFrom X.env.cells scope.names []).lookup y = some c → X.env.cells.lookup y = some c ∧ scope.names.lookup y = some .free := fun {y c} hm => by
    rcases cloFrom_mem (PySem.mem_of_lookup hm) with hm | ⟨h1, rfl⟩
    · cases hm
    · have hl := ok.uniq _ h1
      obtain ⟨c, hc⟩ : ∃ c, X.env.cells.lookup y = some c := by
        rcases ok.free _ h1 rfl with k | k
        · exact I.ok.has _ (.inl k)
        · exact I.ok.has _ (.inr k)
      rw [hc]
      exact ⟨rfl, hl⟩
  have look : ∀ {y}, scope.names.lookup y = some .free → ∃ c, (cloFrom X.env.cells scope.names []).lookup y = some c ∧ X.env.cells.lookup y = some c := fun {y} hl => by
    obtain ⟨c, e⟩ := mem_lookup (cloFrom_has (cells := X.env.cells) (acc := []) (PySem.mem_of_lookup hl))
    exact ⟨c, e, (cm e).1⟩
  have clt : ∀ {y c}, X.env.cells.lookup y = some c → c < s.heap.objs.size := fun {y c} e => by
    obtain ⟨w, z⟩ := I.cell _ _ e
    exact z.lt
  have okB : (cxG X s H (genEnv scope (cloFrom X.env.cells scope.names []) s.heap.objs.size code builtinsNs X.env) Ag fp).Ok := by
    refine ⟨I.ok.mod, ok.kind, I.ok.glob, rfl, Nat.le_refl _, fun y z c e1 e2 => I.ok.inj y z c (cm e1).1 (cm e2).1, fun y hy => ?_, fun y c z e => absurd (show false = true from z) Bool.false_ne_true, fun _ => hh, hfr, .inr ⟨rfl, rfl⟩, fun b hb => ⟨Nat.ne_of_lt (hfp b hb).2, fun y c e z => (hfp b hb).1.2.2.2.2.1 y c (cm e).1 z⟩,
      I.bs, Nat.le_trans I.ok.bsz I.sz, fun b o e hb => ?_, fun b hb z => ?_, I.stack, I.stkFree⟩
    · have key : scope.names.lookup y = some .free := by
        rcases hy with hy | hy
        · exact absurd rfl (ok.cell _ (PySem.mem_of_lookup hy))
        · exact hy
      obtain ⟨c, e, _⟩ := look key
      exact ⟨c, e⟩
    · rcases (hfp b hb).1.2.2.2.1 with z | z
      · exact I.ok.noex b o e z
      · exact absurd (Nat.lt_of_lt_of_le (Heap.lt_size e) (Nat.le_trans I.ok.bsz z)) (Nat.lt_irrefl _)
    · rcases List.mem_cons.mp (I.stkSub b z) with z | z
      · exact (hfp b hb).1.2.1 z
      · exact (hfp b hb).1.2.2.1 z
  refine ⟨okB, os, hb, Un.kept kp, ⟨m, hn, fun i y av e1 e2 e3 => ?_⟩, fun y c e => ?_, I.hok.fresh (Nat.le_refl _), fun y c e => I.freeC y c (cm e).1, fun p hp => absurd (show p ∈ ([] : List (Addr × Obj)) ++ [] from hp) (by simp), I.hok.kept kp, by rw [wipe_length]; exact I.len⟩
  · obtain ⟨e2, hne⟩ := wipe_some e2
    have hfree : scope.names.lookup y = some .free := by
      rcases (show Vis scope y from e3) with k | k | k
      · exfalso
        rcases ok.own _ (PySem.mem_of_lookup k) rfl with e' | e'
        · obtain ⟨p, hp, hpy⟩ := List.mem_map.mp e'
          have e3 := ok.ix p hp
          rw [show p.1 = y from hpy] at e3
          exact hne (List.mem_map.mpr ⟨p, hp, nodup_ix hN e3 e1⟩)
        · exact e' (List.mem_of_getElem? e1)
      · exact absurd rfl (ok.cell _ (PySem.mem_of_lookup k))
      · exact k
    obtain ⟨c, h1, h2⟩ := look hfree
    obtain ⟨m0, hn0, hl⟩ := I.loc
    have hvis : Vis X.env.scope y := (ok.free _ (PySem.mem_of_lookup hfree) rfl).elim (fun k => .inr (.inl k)) (fun k => .inr (.inr k))
    obtain ⟨w, r, q⟩ := hl i y av e1 e2 hvis
    refine ⟨w, r, .inr ⟨.inr hfree, c, h1, ?_⟩⟩
    rcases q with ⟨k, _⟩ | ⟨_, c', e', z⟩
    · have k : X.env.scope.names.lookup y = some .local := k
      rcases ok.free _ (PySem.mem_of_lookup hfree) rfl with k' | k' <;> rw [show X.env.scope.names.lookup y = _ from k'] at k <;> cases k
    · rw [h2] at e'
      cases e'
      exact z.keeps kp
  · obtain ⟨w, z⟩ := I.cell y c (cm e).1
    exact ⟨w, z.keeps kp⟩
end
/-! the generator's turns -/
section
variable {Xg : Cx} {σ0 : L2.St} {Q : Bool → Hp → Prop} {st : Bool} {pn0 : List (Addr × Obj)}
/-- it has ended -/
def RB (Xg : Cx) (pn0 : List (Addr × Obj)) (Q : Bool → Hp → Prop) (st : Bool) : GenEnd := fun _ _ r s1 => r = .ok .next ∧ ∃ σ' H', Inv Xg pn0 σ' H' s1 ∧ Q (!st) H'
/-- a truth is handed out -/
def YB (Xg : Cx) (pn0 : List (Addr × Obj)) (Q : Bool → Hp → Prop) (st : Bool) : Protocol := fun _ _ v s kap =>
  ∃ b : Bool, v = .bool b ∧ ∃ σ' H', Inv Xg pn0 σ' H' s ∧ (b = st → Q st H') ∧ (b ≠ st → ∀ s'' : Shared, s''.heap = s.heap → s''.os = s.os → AllBare s''.gens → kap (.send .none) s'')
theorem seg_turns {A : Around} {elt tg iter : Expr} {scope : Scope} {pos : Pos} {it : Addr} {g : TG} {te : TE} {vs : List Nat} {W : Nat → Nat → Hp → Prop} {J : It} {fp : List Addr} {tn : Nat → Heap → Prop}
    (hc : Xg.calm = true) (hA : A.over (.compLoop (.GeneratorExp elt [⟨tg, iter, [], 0⟩] scope pos) 0 (.ref it) .none Xg.env) [] = Xg.A) (hxe : Xg.xe = fun _ _ => False) (hco : Xg.env.scope.isCoroutine = false)
    (pg : PG Xg tg g) (pe : PE Xg elt te) (T : Turn Xg.prog Xg.w Xg.K tg J fp it tn) (stat : ∀ {σ' : L2.St} {H' : Hp} {s' : Shared}, Inv Xg pn0 σ' H' s' → (∀ b ∈ fp, H' b = none) → ∀ b ∈ fp, FpOk Xg pn0 H' b)
    (turn : ∀ i m H, W i m H → (J.stop i H ∧ Q (!st) H) ∨ (J.go i H ∧ ∃ Nx : Hp → Prop, (∀ H', Nx H' → ∃ m', m' < m ∧ W (i + 1) m' H') ∧ ∀ x H', J.yld i H x H' → g x σ0 H' fun σ2 H2 => wipe σ2 vs = σ0 ∧ te σ2 H2 fun y H4 => ∃ b, y = .bl b ∧ if b = st then Q st H4 else Nx H4)) :
    ∀ (m i n : Nat) (s0 s : Shared) (H : Hp), m < n → W i m H → Inv Xg pn0 σ0 H s → tn i s.heap → (∀ b ∈ fp, H b = none) →
      Seg (model Xg.prog Xg.w) A (RB Xg pn0 Q st) (YB Xg pn0 Q st) n s0 (.compLoop (.GeneratorExp elt [⟨tg, iter, [], 0⟩] scope pos) 0 (.ref it) .none Xg.env)
        ((model Xg.prog Xg.w).den (.compLoop (.GeneratorExp elt [⟨tg, iter, [], 0⟩] scope pos) 0 (.ref it) .none Xg.env)) [] s := by
  intro m
  induction m using Nat.strongRecOn with
  | ind m ih =>
    intro i n s0 s H hmn w I hst hfn
    show Seg _ A _ _ _ s0 _ ((compTurn (.GeneratorExp elt [⟨tg, iter, [], 0⟩] scope pos) 0 (.ref it) .none Xg.env).onRaise (leaving Xg.env)) [] s
    rw [compTurn_gen, Sem.onRaise_eq_wrap]
    refine seg_bind_wrap (wpAny_standAt ?_)
    rcases turn i m H w with ⟨stop, q⟩ | ⟨go, Nx, hNx, step⟩
    · refine seg_bind_wrap ?_
      rw [hA]
      refine thnF (T.done Xg rfl rfl rfl hc i pn0 s _ H (fun _ _ => False) I (stat I hfn) hst stop) fun r s1 ⟨hr, I1⟩ => ?_
      subst hr
      exact seg_end (.ok .next) ⟨rfl, _, H, I1, q⟩
    · refine seg_bind_wrap ?_
      rw [hA]
      refine thnF (T.item Xg rfl rfl rfl hc i pn0 s _ H (fun _ _ => False) I (stat I hfn) hst go) fun r s1 ⟨u, hr, h1⟩ => ?_
      subst hr
      refine seg_bind_wrap ?_
      rw [hA]
      refine thnF h1 fun _ s2 ⟨x, H2, I2, r2, y2, st2, n2⟩ => ?_
      have I2' := I2.pinned (stat I2 n2) (T.obj _ _ st2)
      refine seg_bind_wrap ?_
      rw [hA]
      have hg := pg.run _ s2 _ H2 x u _ I2' r2 (step x H2 y2)
      rw [hxe] at hg
      refine thnF hg fun _ s3 ⟨σ3, H3, I3, hw3, q3⟩ => ?_
      refine seg_bind_wrap (wpAny_pure ?_)
      simp only [if_true]
      have hy : ∀ v, yieldOut Xg.env v = yieldValue v := fun v => by simp only [yieldOut, hco, Bool.false_eq_true, if_false]
      simp only [hy]
      rw [Sem.bind_eq_wrap', Sem.bind_eq_wrap', Sem.wrap_wrap, Sem.wrap_wrap]
      refine seg_wrap ?_
      rw [hA]
      have he := pe.run _ s3 σ3 H3 _ I3 q3
      rw [hxe] at he
      refine thnF he fun yv s4 ⟨y, H4, I4, ry, b, ey, q4⟩ => ?_
      subst ey
      obtain rfl : yv = .bool b := ry
      obtain ⟨n, rfl⟩ : ∃ k, n = k + 1 := ⟨n - 1, by omega⟩
      refine seg_at (seg_yield rfl rfl rfl ⟨b, rfl, σ3, H4, I4.unpinned, fun e => ?_, fun e s5 e1 e2 e3 => ?_⟩)
      · rw [if_pos e] at q4
        exact q4
      · rw [if_neg e] at q4
        obtain ⟨m', hm, w'⟩ := hNx H4 q4
        have pin' : ∀ b ∈ fp, ∀ o, s2.heap.get? b = some o → s4.heap.get? b = some o ∧ H4 b = none := fun b hb o e =>
          let z := I4.pin (b, o) (List.mem_append_right _ (List.mem_append_right _ (mem_pinsAt hb e)))
          ⟨z.1, z.2.1⟩
        have hl : σ0.length = σ3.length := by rw [← hw3, wipe_length]
        have I5 : Inv Xg pn0 σ0 H4 s5 := invSame ((I4.unpinned (pins := pn0)).weak hl fun j v e => by
          rw [← hw3] at e
          exact (wipe_some e).1) e1 e2 e3
        refine seg_again rfl (ih m' hm (i + 1) n s5 s5 H4 (by omega) w' I5 ?_ fun b hb => ?_)
        · rw [e1]
          exact T.keep _ _ _ st2 fun b hb o e => (pin' b hb o e).1
        · obtain ⟨o, e, _⟩ := T.obj _ _ st2 b hb
          exact (pin' b hb o e).2
theorem seg_begin {A : Around} {elt tg iter : Expr} {scope : Scope} {pos : Pos} {it : Addr} {J : It} {fp : List Addr} {tn : Nat → Heap → Prop} {R : GenEnd} {Y : Protocol} {n : Nat} {s0 s : Shared} {cenv : Env} {prog : Program} {w : World} {K : PySem.W.Frag}
    (T : Turn prog w K tg J fp it tn) (hst : tn 0 s.heap)
    (loop : Seg (model prog w) A R Y n s0 (.compLoop (.GeneratorExp elt [⟨tg, iter, [], 0⟩] scope pos) 0 (.ref it) .none cenv) ((model prog w).den (.compLoop (.GeneratorExp elt [⟨tg, iter, [], 0⟩] scope pos) 0 (.ref it) .none cenv)) [] s) :
    Seg (model prog w) A R Y n s0 (.compStart (.GeneratorExp elt [⟨tg, iter, [], 0⟩] scope pos) 0 (.ref it) .none cenv) ((model prog w).den (.compStart (.GeneratorExp elt [⟨tg, iter, [], 0⟩] scope pos) 0 (.ref it) .none cenv)) [] s := by
  show Seg _ A _ _ _ s0 _ ((compStart (.GeneratorExp elt [⟨tg, iter, [], 0⟩] scope pos) 0 (.ref it) .none cenv).onRaise (leaving cenv)) [] s
  unfold compStart
  rw [Sem.onRaise_eq_wrap]
  show Seg _ A _ _ _ s0 _ ((ask >>= _).wrap _ _ _ _) [] s
  refine seg_bind_wrap (wpAny_askSetting ?_)
  split
  · exact seg_again rfl loop
  · first
      | exact seg_bind_wrap (wpAny_rule (seg_bind_wrap (wpAny_standAt (seg_bind_wrap (T.self _ 0 s _ _ hst (seg_again rfl loop))))))
      | (refine seg_bind_wrap (wpAny_rule ?_); show Seg _ A _ _ _ s0 _ ((standAt iter.pos >>= _).wrap _ _ _ _) [] s; exact seg_bind_wrap (wpAny_standAt (seg_bind_wrap (T.self _ 0 s _ _ hst (seg_again rfl loop)))))
theorem any_drain {A : Around} {R : Result → Shared → Prop} {a : Addr} {g : Nat} {go : Obj} (hh : A.handled = none) (hd : A.depth < recursionLimit) (hp0 : (a, go) ∈ pn0) (hgen : ∀ h : Heap, h.get? a = some go → h.IsGen a g)
    (hR : ∀ b σ' H' s', Inv Xg pn0 σ' H' s' → Q b H' → R (.ok (.ret (.bool b))) s') :
    ∀ (n : Nat) (s : Shared), s.heap.IsGen a g → s.heap.NoLimit → (∃ gs, s.gens[g]? = some gs ∧ gs.Goes (model Xg.prog Xg.w) A.in1.in1 (RB Xg pn0 Q true) (YB Xg pn0 Q true) n (.send .none) (s.setGen g .running)) →
      codeAny (model Xg.prog Xg.w) A (.builtin "any.loop" ⟨[.ref a], []⟩) R s := by
  intro n
  induction n with
  | zero =>
    intro s hg hl ⟨gs, hgs, hgo⟩
    refine codeAny_builtin F.entry_any_loop ?_
    rw [Around.under_plainId F.plain_any_loop _]
    show wpAny _ A.in1 (pyNext (.ref a) >>= _) _ _ s
    refine wpAny_bind (wpAny_pyNext_genexpQ (A := A.in1) (P := fun _ _ s1 => ∃ σ' H', Inv Xg pn0 σ' H' s1 ∧ Q (!true) H') hh hl hd hg hgs hgo (fun v s1 gs' hb hv => ?_) fun s1 hp h' hk => ?_)
    · obtain ⟨b, rfl, σ', H', I1, q1, q2⟩ := hv
      refine wpAny_bind (wpAny_holding (wpAny_truthy_bool ?_))
      refine wpAny_bind (wpAny_letGo ?_)
      by_cases hb1 : b = true
      · subst hb1
        refine (wpAny_bind (wpAny_rule (wpAny_pure ?_)))
        exact hR _ σ' H' _ (invSame I1 rfl rfl (allBare_setGen I1.bare hb)) (q1 rfl)
      · exact False.elim (q2 hb1 s1 rfl rfl I1.bare)
    · obtain ⟨σ', H', I1, q1⟩ := hp
      refine wpAny_bind (wpAny_rule (wpAny_pure ?_))
      exact hR _ σ' H' _ ((invSame (s' := s1.setGen g .finished) I1 rfl rfl (allBare_setGen I1.bare rfl)).kept (t' := s1.toks) hk) q1
  | succ n ih =>
    intro s hg hl ⟨gs, hgs, hgo⟩
    have hgl : g < s.gens.size := (Array.getElem?_eq_some_iff.mp hgs).1
    refine codeAny_builtin F.entry_any_loop ?_
    rw [Around.under_plainId F.plain_any_loop _]
    show wpAny _ A.in1 (pyNext (.ref a) >>= _) _ _ s
    refine wpAny_bind (wpAny_gsz (n := g + 1) hgl (wpAny_pyNext_genexpQ (A := A.in1) (P := fun _ _ s1 => ∃ σ' H', Inv Xg pn0 σ' H' s1 ∧ Q (!true) H') hh hl hd hg hgs hgo (fun v s1 gs' hb hv => ?_) fun s1 hp h' hk => ?_))
    · intro hsz
      obtain ⟨b, rfl, σ', H', I1, q1, q2⟩ := hv
      refine wpAny_bind (wpAny_holding (wpAny_truthy_bool ?_))
      refine wpAny_bind (wpAny_letGo ?_)
      have J1 : Inv Xg pn0 σ' H' (s1.setGen g gs') := invSame I1 rfl rfl (allBare_setGen I1.bare hb)
      by_cases hb1 : b = true
      · subst hb1
        refine (wpAny_bind (wpAny_rule (wpAny_pure ?_)))
        exact hR _ σ' H' _ J1 (q1 rfl)
      · have hb2 : b = !true := by cases b <;> simp_all
        subst hb2
        refine wpAny_pure ⟨plainId_quiet F.plain_any_loop _, ?_⟩
        have hsz1 : g < s1.gens.size := by
          have q : (s1.setGen g gs').gens.size = s1.gens.size := setGen_size _ _ _
          have hsz' : g + 1 ≤ (s1.setGen g gs').gens.size := hsz
          omega
        refine ih (s1.setGen g gs') (hgen _ (J1.pin (a, go) (List.mem_append_right _ hp0)).1) J1.nolimit ⟨gs', setGen_at hsz1, ?_⟩
        exact q2 hb1 _ rfl rfl (allBare_setGen (s := s1.setGen g gs') J1.bare rfl)
    · intro hsz
      obtain ⟨σ', H', I1, q1⟩ := hp
      refine wpAny_bind (wpAny_rule (wpAny_pure ?_))
      exact hR _ σ' H' _ ((invSame (s' := s1.setGen g .finished) I1 rfl rfl (allBare_setGen I1.bare rfl)).kept (t' := s1.toks) hk) q1
theorem all_drain {A : Around} {R : Result → Shared → Prop} {a : Addr} {g : Nat} {go : Obj} (hh : A.handled = none) (hd : A.depth < recursionLimit) (hp0 : (a, go) ∈ pn0) (hgen : ∀ h : Heap, h.get? a = some go → h.IsGen a g)
    (hR : ∀ b σ' H' s', Inv Xg pn0 σ' H' s' → Q b H' → R (.ok (.ret (.bool b))) s') :
    ∀ (n : Nat) (s : Shared), s.heap.IsGen a g → s.heap.NoLimit → (∃ gs, s.gens[g]? = some gs ∧ gs.Goes (model Xg.prog Xg.w) A.in1.in1 (RB Xg pn0 Q false) (YB Xg pn0 Q false) n (.send .none) (s.setGen g .running)) →
      codeAny (model Xg.prog Xg.w) A (.builtin "all.loop" ⟨[.ref a], []⟩) R s := by
  intro n
  induction n with
  | zero =>
    intro s hg hl ⟨gs, hgs, hgo⟩
    refine codeAny_builtin F.entry_all_loop ?_
    rw [Around.under_plainId F.plain_all_loop _]
    show wpAny _ A.in1 (pyNext (.ref a) >>= _) _ _ s
    refine wpAny_bind (wpAny_pyNext_genexpQ (A := A.in1) (P := fun _ _ s1 => ∃ σ' H', Inv Xg pn0 σ' H' s1 ∧ Q (!false) H') hh hl hd hg hgs hgo (fun v s1 gs' hb hv => ?_) fun s1 hp h' hk => ?_)
    · obtain ⟨b, rfl, σ', H', I1, q1, q2⟩ := hv
      refine wpAny_bind (wpAny_holding (wpAny_truthy_bool ?_))
      refine wpAny_bind (wpAny_letGo ?_)
      by_cases hb1 : b = false
      · subst hb1
        refine (wpAny_bind (wpAny_rule (wpAny_pure ?_)))
        exact hR _ σ' H' _ (invSame I1 rfl rfl (allBare_setGen I1.bare hb)) (q1 rfl)
      · exact False.elim (q2 hb1 s1 rfl rfl I1.bare)
    · obtain ⟨σ', H', I1, q1⟩ := hp
      refine wpAny_bind (wpAny_rule (wpAny_pure ?_))
      exact hR _ σ' H' _ ((invSame (s' := s1.setGen g .finished) I1 rfl rfl (allBare_setGen I1.bare rfl)).kept (t' := s1.toks) hk) q1
  | succ n ih =>
    intro s hg hl ⟨gs, hgs, hgo⟩
    have hgl : g < s.gens.size := (Array.getElem?_eq_some_iff.mp hgs).1
    refine codeAny_builtin F.entry_all_loop ?_
    rw [Around.under_plainId F.plain_all_loop _]
    show wpAny _ A.in1 (pyNext (.ref a) >>= _) _ _ s
    refine wpAny_bind (wpAny_gsz (n := g + 1) hgl (wpAny_pyNext_genexpQ (A := A.in1) (P := fun _ _ s1 => ∃ σ' H', Inv Xg pn0 σ' H' s1 ∧ Q (!false) H') hh hl hd hg hgs hgo (fun v s1 gs' hb hv => ?_) fun s1 hp h' hk => ?_))
    · intro hsz
      obtain ⟨b, rfl, σ', H', I1, q1, q2⟩ := hv
      refine wpAny_bind (wpAny_holding (wpAny_truthy_bool ?_))
      refine wpAny_bind (wpAny_letGo ?_)
      have J1 : Inv Xg pn0 σ' H' (s1.setGen g gs') := invSame I1 rfl rfl (allBare_setGen I1.bare hb)
      by_cases hb1 : b = false
      · subst hb1
        refine (wpAny_bind (wpAny_rule (wpAny_pure ?_)))
        exact hR _ σ' H' _ J1 (q1 rfl)
      · have hb2 : b = !false := by cases b <;> simp_all
        subst hb2
        refine wpAny_pure ⟨plainId_quiet F.plain_all_loop _, ?_⟩
        have hsz1 : g < s1.gens.size := by
          have q : (s1.setGen g gs').gens.size = s1.gens.size := setGen_size _ _ _
          have hsz' : g + 1 ≤ (s1.setGen g gs').gens.size := hsz
          omega
        refine ih (s1.setGen g gs') (hgen _ (J1.pin (a, go) (List.mem_append_right _ hp0)).1) J1.nolimit ⟨gs', setGen_at hsz1, ?_⟩
        exact q2 hb1 _ rfl rfl (allBare_setGen (s := s1.setGen g gs') J1.bare rfl)
    · intro hsz
      obtain ⟨σ', H', I1, q1⟩ := hp
      refine wpAny_bind (wpAny_rule (wpAny_pure ?_))
      exact hR _ σ' H' _ ((invSame (s' := s1.setGen g .finished) I1 rfl rfl (allBare_setGen I1.bare rfl)).kept (t' := s1.toks) hk) q1
end

open GxR in
section
variable {X : Cx} {pins : List (Addr × Obj)} {σ : L2.St} {H : Hp} {s : Shared}
theorem FpOk.to {H' : Hp} {b : Addr} (f : FpOk X pins H b) (h : H' b = none) : FpOk X pins H' b := ⟨h, f.2⟩
theorem among_own {pos p' : Pos} {c cv : Value} (l : List Value) (h : TriplesOk l) (hc : codeAmong p' (l ++ [rawInt pos.line, rawInt pos.col, c]) = some cv) : codeAmong p' l = some cv ∨ (pos.line = p'.line ∧ pos.col = p'.col) := by
  fun_induction TriplesOk l with
  | case1 =>
    simp only [List.nil_append, rawInt, codeAmong] at hc
    split at hc
    · rename_i q
      simp only [Bool.and_eq_true, beq_iff_eq] at q
      exact .inr ⟨by omega, by omega⟩
    · cases hc
  | case2 a t b u x rest ih =>
    simp only [List.cons_append, codeAmong] at hc ⊢
    split
    · rename_i q
      rw [if_pos q] at hc
      exact .inl hc
    · rename_i q
      rw [if_neg q] at hc
      exact ih h hc
  | case3 => exact absurd h (by simp_all [TriplesOk])
/-- H' is H but for the table at P, which may hold one code object more, that of the place pos -/
def Tabd (P : Addr) (pos : Pos) (H H' : Hp) : Prop := GxR.Tabbed P H H' ∧ ∀ ps ps' : Array Value, H P = some (.tbl ps) → H' P = some (.tbl ps') → ∀ (q : Pos) (cv : Value), codeAmong q ps'.toList = some cv → codeAmong q ps.toList = some cv ∨ (pos.line = q.line ∧ pos.col = q.col)
/-- what the turns of the generator keep -/
def TurnsG (st : Bool) (vs : List Nat) (g : TG) (te : TE) (σ : L2.St) (Q : Bool → Hp → Prop) (J : It) (H2 : Hp) : Prop := ∃ W : Nat → Nat → Hp → Prop, (∃ m, W 0 m H2) ∧ ∀ i m H, W i m H →
  (J.stop i H ∧ Q (!st) H) ∨ (J.go i H ∧ ∃ Nx : Hp → Prop, (∀ H', Nx H' → ∃ m', m' < m ∧ W (i + 1) m' H') ∧ ∀ x H', J.yld i H x H' → g x (wipe σ vs) H' fun σ2 H2 => wipe σ2 vs = wipe σ vs ∧ te σ2 H2 fun y H4 => ∃ b, y = .bl b ∧ if b = st then Q st H4 else Nx H4)
theorem gen_made {c P : Addr} {elt tg iter : Expr} {gpos : Pos} {scope : Scope} {own : List (Str × Nat)} {wi : TI} {g : TG} {te : TE} {k : Nat} {st : Bool} {Q : Bool → Hp → Prop} {Q' : Value → Shared → Prop}
    (hc : X.calm = true) (hN : X.N.Nodup) (hr : Room (k + 1) X.A) (TB : GxR.TabB X.base X.mg c P) (hcode : X.env.code = .ref c) (ok : GenOk X.N X.env.scope scope own) (hi : PI X tg iter wi)
    (hgt : ∀ (s : Shared) (H : Hp) (C : Addr) (code : Value) (Ag : Around) (fp : List Addr), PG (cxG X s H (genEnv scope (cloFrom X.env.cells scope.names []) C code builtinsNs X.env) Ag fp) tg g)
    (he : ∀ (s : Shared) (H : Hp) (C : Addr) (code : Value) (Ag : Around) (fp : List Addr), Room k Ag → PE (cxG X s H (genEnv scope (cloFrom X.env.cells scope.names []) C code builtinsNs X.env) Ag fp) elt te)
    (hs : ∀ v, genFold iter X.env v = pure v) (I : Inv X pins σ H s) (h : wi σ H fun J H1 => GxR.TabG H1 P ∧ ∀ H2, Tabd P gpos H1 H2 → TurnsG st (own.map (·.2)) g te σ Q J H2)
    (hQ : ∀ (a : Addr) (gi : Nat) (go : Obj) (s5 : Shared) (Xg : Cx) (pn0 : List (Addr × Obj)), Xg.prog = X.prog → Xg.w = X.w → (a, go) ∈ pn0 → (∀ h : Heap, h.get? a = some go → h.IsGen a gi) → s5.heap.IsGen a gi → s5.heap.NoLimit → AllBare s5.gens →
      (∃ gs n, s5.gens[gi]? = some gs ∧ ∀ s6 : Shared, s6.heap = s5.heap → s6.os = s5.os → AllBare s6.gens → gs.Goes (model X.prog X.w) X.A.in1.in1 (RB Xg pn0 Q st) (YB Xg pn0 Q st) n (.send .none) s6) →
      (∀ σ' H' s', Inv Xg pn0 σ' H' s' → Inv X pins σ H' s') → Q' (.ref a) s5) :
    wpAny (model X.prog X.w) X.A (eval (.GeneratorExp elt [⟨tg, iter, [], 0⟩] scope gpos) X.env) Q' X.xe s := by
  have hfree : ∀ y ∈ scope.names, y.2 = .free → ∃ c, X.env.cells.lookup y.1 = some c := fun y hy e => by
    rcases ok.free y hy e with k | k
    · exact I.ok.has _ (.inl k)
    · exact I.ok.has _ (.inr k)
  refine wpAny_GeneratorExp_make ok.co (closure_ok hfree) ok.cell ok.dot ok.kind (by have := hr.dp; omega) ?_ hs
  refine thn (hi.run pins s σ H _ I h) fun xv s1 h1 => thn h1 fun itv s2 h2 => ?_
  obtain ⟨it, fp, tn, J, H2, rfl, I2, T, st2, f2, ⟨ps, hP, ht⟩, q⟩ := h2
  have hPs : s2.heap.get? P = some { cls := .none, data := .fields ps } := I2.hok P _ hP
  have cd : PySem.W.CodeHd s2.heap c P := TB.code.keeps I2.bk
  have fpP : ∀ b ∈ fp, b ≠ P := fun b hb z => by
    have := (f2 b hb).1
    rw [z, hP] at this
    cases this
  have cont : ∀ (code : Value) (h3 : Heap) (tk : Nat) (ps' : Array Value), Heap.ExtBut P s2.heap h3 → s2.heap.objs.size ≤ h3.objs.size → h3.get? P = some { cls := .none, data := .fields ps' } → ((∃ more, ps' = ps ++ more) ∧ ∀ (q : Pos) (cv : Value), codeAmong q ps'.toList = some cv → codeAmong q ps.toList = some cv ∨ (gpos.line = q.line ∧ gpos.col = q.col)) → TriplesOk ps'.toList →
      wpAny (model X.prog X.w) X.A (builtinsFor X.env.globals X.env.builtins) (fun bi s4 => ∀ h', h'.Ns s4.heap.objs.size (fun y => if y = ".0" then some (.ref it) else none) → Heap.SameBut s4.heap.objs.size (s4.heap.push { cls := .type "frame", data := .dict #[] }) h' →
          Q' (.ref h'.objs.size) { s4 with
            gens := s4.gens.push (.fresh (.compStart (.GeneratorExp elt [⟨tg, iter, [], 0⟩] scope gpos) 0 (.ref it) .none (genEnv scope (cloFrom X.env.cells scope.names []) s4.heap.objs.size code bi X.env))),
            toks := s4.toks + 1 + 1 + 1,
            heap := h'.push { cls := .type "generator", data := .fields #[.int s4.gens.size 0, .str "<genexpr>" (s4.toks + 1), .str (X.env.qual ++ "<genexpr>") (s4.toks + 1 + 1)] } }) X.xe { s2 with heap := h3, toks := tk } := by
    intro code h3 tk ps' hx hsz hP3 hmore ht3
    obtain ⟨bm, ob, e1, e2, e3, e4, e5, e6, e7, e8⟩ := TB.bm
    have keep3 : ∀ b u, b ≠ P → s2.heap.get? b = some u → h3.get? b = some u := fun b u hb e => hx b u hb e
    refine wpAny_builtinsFor (m := X.mg) (by rw [I2.ok.glob]; exact (I2.mod.glob.keeps I2.bk).extBut hx TB.gP) e1 e2 (keep3 _ _ e4 (I2.bk _ _ e5)) e6 e7 e8 ?_
    obtain ⟨⟨more, em⟩, hco0⟩ := hmore
    subst em
    have I3 : Inv X pins σ (upd H2 P (.tbl (ps ++ more))) { s2 with heap := h3, toks := tk } := GxR.inv_tab (more := more) (h' := h3) (g' := s2.gens) (d' := s2.drawn) (t' := tk) I2 hP keep3 hP3 I2.bare
    obtain ⟨W, ⟨m0, w0⟩, turn⟩ := q _ ⟨⟨⟨_, upd_same, ht3⟩, fun b hb => upd_ne hb⟩, fun qs qs' e1 e2 => by
      rw [hP] at e1
      cases e1
      rw [upd_same] at e2
      cases e2
      exact hco0⟩
    generalize hH3 : upd H2 P (.tbl (ps ++ more)) = H3 at I3 w0
    have n3 : ∀ b ∈ fp, H3 b = none := fun b hb => by rw [← hH3, upd_ne (fpP b hb)]; exact (f2 b hb).1
    have st3 : tn 0 h3 := T.keep _ _ _ st2 fun b hb o e => keep3 b o (fpP b hb) e
    generalize hs3 : ({ s2 with heap := h3, toks := tk } : Shared) = s3 at I3 ⊢
    have eh3 : s3.heap = h3 := by rw [← hs3]
    rw [← eh3] at st3
    intro h' hn' hs'
    have hsz' : h'.objs.size = s3.heap.objs.size + 1 := by rw [hs'.1, Heap.size_push]
    have keep' : ∀ b o, s3.heap.get? b = some o → h'.get? b = some o := fun b o e => hs'.extBut b o (Nat.ne_of_lt (Heap.lt_size e)) (Heap.get?_push_of_some _ e)
    generalize hgo : ({ cls := .type "generator", data := .fields #[.int s3.gens.size 0, .str "<genexpr>" (s3.toks + 1), .str (X.env.qual ++ "<genexpr>") (s3.toks + 1 + 1)] } : Obj) = go
    have keep5 : ∀ b o, s3.heap.get? b = some o → (h'.push go).get? b = some o := fun b o e => Heap.get?_push_of_some _ (keep' b o e)
    have hgen : ∀ h : Heap, h.get? h'.objs.size = some go → h.IsGen h'.objs.size s3.gens.size := fun h e => ⟨go, _, _, e, by rw [← hgo], by rw [← hgo], by rw [← hgo]⟩
    have hself : (h'.push go).get? h'.objs.size = some go := Heap.get?_push_size _ (by rw [← hgo]; rfl)
    have fsz : ∀ b ∈ fp, b < s3.heap.objs.size := fun b hb => by
      obtain ⟨o, e, _⟩ := T.obj _ _ st3 b hb
      exact Heap.lt_size e
    have f3 : ∀ b ∈ fp, FpOk X pins H3 b ∧ b < s3.heap.objs.size := fun b hb => ⟨FpOk.to (f2 b hb) (n3 b hb), fsz b hb⟩
    generalize hcenv : genEnv scope (cloFrom X.env.cells scope.names []) s3.heap.objs.size code builtinsNs X.env = cenv
    generalize hAg : X.A.in1.in1.over (.compLoop (.GeneratorExp elt [⟨tg, iter, [], 0⟩] scope gpos) 0 (.ref it) .none cenv) [] = Ag
    have hfr : Ag.frames = some (cenv :: X.stack) := by
      rw [← hAg]
      unfold Around.over
      simp only [pushEnvs_eq, I3.ok.frames]
      rfl
    have hrg : Room k Ag := by
      rw [← hAg]
      refine ⟨hr.hd, ?_, ?_⟩
      · have := hr.dp
        show X.A.depth + 1 + 3 * k + 5 < _
        omega
      · have := hr.un
        show X.A.units + 1 + 1 + 3 + 16 * k + 200 < _
        omega
    have hba : AllBare (s3.gens.push (.fresh (.compStart (.GeneratorExp elt [⟨tg, iter, [], 0⟩] scope gpos) 0 (.ref it) .none cenv))) := AllBare.push I3.bare rfl
    have Ig : Inv (cxG X s3 H3 cenv Ag fp) [] (wipe σ (own.map (·.2))) H3 { s3 with gens := s3.gens.push (.fresh (.compStart (.GeneratorExp elt [⟨tg, iter, [], 0⟩] scope gpos) 0 (.ref it) .none cenv)), toks := s3.toks + 1 + 1 + 1, heap := h'.push go } := by
      have := gen_start (code := code) (Ag := Ag) (s' := { s3 with gens := s3.gens.push (.fresh (.compStart (.GeneratorExp elt [⟨tg, iter, [], 0⟩] scope gpos) 0 (.ref it) .none cenv)), toks := s3.toks + 1 + 1 + 1, heap := h'.push go }) I3 ok hN f3 (by rw [hcenv]; exact hfr) hrg.hd rfl hba keep5 (hn'.push _)
      rw [hcenv] at this
      exact this
    have cL : cenv.locals = s3.heap.objs.size := by rw [← hcenv]; rfl
    have cC : ∀ y c, cenv.cells.lookup y = some c → c < s3.heap.objs.size := fun y c e => by
      obtain ⟨v, z⟩ := I3.cell y c (by
        rw [← hcenv] at e
        rcases cloFrom_mem (PySem.mem_of_lookup e) with hm | ⟨h1, rfl⟩
        · cases hm
        · obtain ⟨c, hc⟩ := hfree _ h1 rfl
          rw [hc]; rfl)
      exact z.lt
    have pinG : ∀ {σ' : L2.St} {H' : Hp} {s' : Shared}, Inv (cxG X s3 H3 cenv Ag fp) [] σ' H' s' → s'.heap.get? h'.objs.size = some go → H' h'.objs.size = none → Inv (cxG X s3 H3 cenv Ag fp) [(h'.objs.size, go)] σ' H' s' := fun {σ' H' s'} I' e n => I'.pins_of fun p hp => by
      rw [List.mem_singleton.mp hp]
      refine ⟨e, n, ?_, fun z => ?_, fun v z => by rw [← hgo] at z; cases z⟩
      · show h'.objs.size ≠ cenv.locals
        rw [cL, hsz']
        exact Nat.succ_ne_self _
      · obtain ⟨_, o, ho, _⟩ := I3.stack.mem z
        have := Heap.lt_size ho
        rw [hsz'] at this
        exact absurd (Nat.lt_trans (Nat.lt_succ_self _) this) (Nat.lt_irrefl _)
    have fin := hQ h'.objs.size s3.gens.size go { s3 with gens := s3.gens.push (.fresh (.compStart (.GeneratorExp elt [⟨tg, iter, [], 0⟩] scope gpos) 0 (.ref it) .none cenv)), toks := s3.toks + 1 + 1 + 1, heap := h'.push go }
      (cxG X s3 H3 cenv Ag fp) [(h'.objs.size, go)] rfl rfl (List.mem_singleton.mpr rfl) hgen (hgen _ hself) Ig.nolimit hba ?_ ?_
    · exact fin
    · refine ⟨_, m0 + 1, Array.getElem?_push_size .., fun s6 e1 e2 e3 => ⟨rfl, ?_⟩⟩
      have e1 : s6.heap = h'.push go := e1
      have I6 : Inv (cxG X s3 H3 cenv Ag fp) [(h'.objs.size, go)] (wipe σ (own.map (·.2))) H3 s6 := pinG (invSame Ig e1 e2 e3) (by rw [e1]; exact hself) (I3.hok.fresh (by rw [hsz']; exact Nat.le_succ _))
      have st6 : tn 0 s6.heap := by
        rw [e1]
        exact T.keep _ _ _ st3 fun b hb o e => keep5 b o e
      refine seg_begin T st6 ?_
      have hgt' := hgt s3 H3 s3.heap.objs.size code Ag fp
      have he' := he s3 H3 s3.heap.objs.size code Ag fp hrg
      rw [hcenv] at hgt' he'
      refine seg_turns (Xg := cxG X s3 H3 cenv Ag fp) (st := st) (Q := Q) (vs := own.map (·.2)) (W := W) (J := J) (fp := fp) hc hAg rfl (by rw [← hcenv]; exact ok.co) hgt' he' T ?_ turn m0 0 (m0 + 1) s6 s6 H3 (Nat.lt_succ_self _) w0 I6 st6 n3
      intro σ' H' s' I' hn b hb
      refine ⟨hn b hb, (I'.ok.exf b hb).1, I'.ok.exfs b hb, .inl hb, (I'.ok.exf b hb).2, fun p hp => ?_⟩
      rw [List.mem_singleton.mp (show p ∈ [(h'.objs.size, go)] from hp)]
      have := fsz b hb
      show h'.objs.size ≠ b
      exact Nat.ne_of_gt (by rw [hsz']; exact Nat.lt_succ_of_lt this)
    · intro σ' H' s' I'
      exact I3.call' (ch := fp) I'.os I'.base I'.hok I'.bare fun b hb => ⟨(f3 b hb).1.2.2.2.1, (f3 b hb).1.2.1, (f3 b hb).1.2.2.2.2.1, (f3 b hb).1.2.2.2.2.2⟩
  refine ⟨I2.nolimit, ?_⟩
  cases hf : codeAmong gpos ps.toList with
  | none =>
    refine wpAny_genexprCodeX hcode (cd.code hPs ht) (cd.tab hPs) hf fun c' h' tk hx hge hlt hco' _ htab' _ => ?_
    obtain ⟨o1, vs, f1, tf, fl, tg, inF, tx, tt, op, _, _, _, _, _, _, _, _, _, htr, _⟩ := hco'
    exact cont _ h' tk _ hx (Nat.le_trans hge (Nat.le_of_lt hlt)) htab'.2 ⟨⟨_, rfl⟩, fun q cv hq => by
      have e9 : (ps ++ #[rawInt gpos.line, rawInt gpos.col, .ref c']).toList = ps.toList ++ [rawInt gpos.line, rawInt gpos.col, .ref c'] := by simp
      have hq : codeAmong q (ps ++ #[rawInt gpos.line, rawInt gpos.col, .ref c']).toList = some cv := hq
      rw [e9] at hq
      exact among_own _ ht hq⟩ htr
  | some cv =>
    refine wpAny_genexprCode_hit hcode (cd.code hPs ht) hf ?_
    exact cont cv s2.heap s2.toks ps (Heap.ExtBut.refl _ _) (Nat.le_refl _) hPs ⟨⟨#[], by simp⟩, fun _ _ z => .inl z⟩ ht
theorem pe_anyG {c P : Addr} {elt tg iter : Expr} {p pos gpos : Pos} {scope : Scope} {own : List (Str × Nat)} {wi : TI} {g : TG} {te : TE} {k : Nat}
    (hc : X.calm = true) (hN : X.N.Nodup) (hr : Room (k + 1) X.A) (hg : Gl X "any") (hm : X.mg "any" = none) (hb : bootBuiltins "any" = some (.builtin "any")) (TB : GxR.TabB X.base X.mg c P) (hcode : X.env.code = .ref c) (ok : GenOk X.N X.env.scope scope own) (hi : PI X tg iter wi)
    (hgt : ∀ (s : Shared) (H : Hp) (C : Addr) (code : Value) (Ag : Around) (fp : List Addr), PG (cxG X s H (genEnv scope (cloFrom X.env.cells scope.names []) C code builtinsNs X.env) Ag fp) tg g)
    (he : ∀ (s : Shared) (H : Hp) (C : Addr) (code : Value) (Ag : Around) (fp : List Addr), Room k Ag → PE (cxG X s H (genEnv scope (cloFrom X.env.cells scope.names []) C code builtinsNs X.env) Ag fp) elt te)
    (hs : ∀ v, genFold iter X.env v = pure v := by intro _; rfl)
    (hst : starEach [.GeneratorExp elt [⟨tg, iter, [], 0⟩] scope gpos] X.env = (false, eval (.GeneratorExp elt [⟨tg, iter, [], 0⟩] scope gpos) X.env) :: starEach [] X.env := by rfl) :
    PE X (.Call (.Name "any" p) [.GeneratorExp elt [⟨tg, iter, [], 0⟩] scope gpos] [] pos) (fun σ H Q => wi σ H fun J H1 => GxR.TabG H1 P ∧ ∀ H2, Tabd P gpos H1 H2 → TurnsG true (own.map (·.2)) g te σ (fun b H' => Q (.bl b) H') J H2) := by
  refine ⟨fun pins s σ H Q I h => ?_⟩
  refine wpAny_Call_Name_kw (ld_blt I hg hm hb ?_)
  refine PyProof.Rows.callWith_builtin1 ?_ hst (by rfl)
  rw [hst]
  show wpAny _ _ (spliced ((false, eval (.GeneratorExp elt [⟨tg, iter, [], 0⟩] scope gpos) X.env) :: backTo pos (starEach [] X.env))) _ _ s
  refine Calls.spliced_cons (gen_made (st := true) (Q := fun b H' => Q (.bl b) H') hc hN hr TB hcode ok hi hgt he hs I h fun a gi go s5 Xg pn0 e1 e2 hp0 hgen hg5 hl5 hb5 hgo hback => ?_)
  refine Calls.spliced_nil ?_
  refine call_function_tree F.kind_any F.plain_any F.entry_any (F.args_any1 _) ?_
  unfold Builtin.«any»
  refine wpAny_bind (m := oneArg "any" _) (wpAny_pure ?_)
  refine wpAny_bind (wpAny_pyIter_gen hg5 ?_)
  refine wpAny_pure ⟨plainId_quiet F.plain_any_loop _, ?_⟩
  obtain ⟨gs, n, hgs, hgo⟩ := hgo
  rw [← e1, ← e2]
  rw [← e1, ← e2] at hgo
  refine any_drain (Xg := Xg) (pn0 := pn0) (Q := fun b H' => Q (.bl b) H') hr.hd (by have := hr.dp; omega) hp0 hgen (fun b σ' H' s' I' q => ?_) n s5 hg5 hl5 ⟨gs, hgs, hgo _ rfl rfl (allBare_setGen hb5 rfl)⟩
  exact ⟨.bl b, H', hback _ _ _ I', rfl, q⟩
theorem pe_allG {c P : Addr} {elt tg iter : Expr} {p pos gpos : Pos} {scope : Scope} {own : List (Str × Nat)} {wi : TI} {g : TG} {te : TE} {k : Nat}
    (hc : X.calm = true) (hN : X.N.Nodup) (hr : Room (k + 1) X.A) (hg : Gl X "all") (hm : X.mg "all" = none) (hb : bootBuiltins "all" = some (.builtin "all")) (TB : GxR.TabB X.base X.mg c P) (hcode : X.env.code = .ref c) (ok : GenOk X.N X.env.scope scope own) (hi : PI X tg iter wi)
    (hgt : ∀ (s : Shared) (H : Hp) (C : Addr) (code : Value) (Ag : Around) (fp : List Addr), PG (cxG X s H (genEnv scope (cloFrom X.env.cells scope.names []) C code builtinsNs X.env) Ag fp) tg g)
    (he : ∀ (s : Shared) (H : Hp) (C : Addr) (code : Value) (Ag : Around) (fp : List Addr), Room k Ag → PE (cxG X s H (genEnv scope (cloFrom X.env.cells scope.names []) C code builtinsNs X.env) Ag fp) elt te)
    (hs : ∀ v, genFold iter X.env v = pure v := by intro _; rfl)
    (hst : starEach [.GeneratorExp elt [⟨tg, iter, [], 0⟩] scope gpos] X.env = (false, eval (.GeneratorExp elt [⟨tg, iter, [], 0⟩] scope gpos) X.env) :: starEach [] X.env := by rfl) :
    PE X (.Call (.Name "all" p) [.GeneratorExp elt [⟨tg, iter, [], 0⟩] scope gpos] [] pos) (fun σ H Q => wi σ H fun J H1 => GxR.TabG H1 P ∧ ∀ H2, Tabd P gpos H1 H2 → TurnsG false (own.map (·.2)) g te σ (fun b H' => Q (.bl b) H') J H2) := by
  refine ⟨fun pins s σ H Q I h => ?_⟩
  refine wpAny_Call_Name_kw (ld_blt I hg hm hb ?_)
  refine PyProof.Rows.callWith_builtin1 ?_ hst (by rfl)
  rw [hst]
  show wpAny _ _ (spliced ((false, eval (.GeneratorExp elt [⟨tg, iter, [], 0⟩] scope gpos) X.env) :: backTo pos (starEach [] X.env))) _ _ s
  refine Calls.spliced_cons (gen_made (st := false) (Q := fun b H' => Q (.bl b) H') hc hN hr TB hcode ok hi hgt he hs I h fun a gi go s5 Xg pn0 e1 e2 hp0 hgen hg5 hl5 hb5 hgo hback => ?_)
  refine Calls.spliced_nil ?_
  refine call_function_tree F.kind_all F.plain_all F.entry_all (F.args_all1 _) ?_
  unfold Builtin.«all»
  refine wpAny_bind (m := oneArg "all" _) (wpAny_pure ?_)
  refine wpAny_bind (wpAny_pyIter_gen hg5 ?_)
  refine wpAny_pure ⟨plainId_quiet F.plain_all_loop _, ?_⟩
  obtain ⟨gs, n, hgs, hgo⟩ := hgo
  rw [← e1, ← e2]
  rw [← e1, ← e2] at hgo
  refine all_drain (Xg := Xg) (pn0 := pn0) (Q := fun b H' => Q (.bl b) H') hr.hd (by have := hr.dp; omega) hp0 hgen (fun b σ' H' s' I' q => ?_) n s5 hg5 hl5 ⟨gs, hgs, hgo _ rfl rfl (allBare_setGen hb5 rfl)⟩
  exact ⟨.bl b, H', hback _ _ _ I', rfl, q⟩
end
end L3

namespace L3
open PySem L2 PySem.Spec PyProof.Rows
/-- any (true), all (false) of e for x in .. -/
def lAG (st : Bool) (lw : LW) (g : LG) (te : LE) (vs : List Nat) : LE := fun ρ M P PX => lw ρ M (fun items okM M1 => ∃ I : Nat → Mem → Prop, I 0 M1 ∧ (∀ i M, I i M → okM M) ∧
  (∀ i x M, items[i]? = some x → I i M → g x (wipeL ρ vs) M fun ρ2 M2 => te ρ2 M2 (fun y M3 => ∃ b, y = .bl b ∧ if b = st then P (.bl st) M3 else DropM M1.length (I (i + 1)) M3) noX) ∧
  ∀ M, I items.length M → P (.bl (!st)) M) PX
section
variable {C : Cn} {α : List Addr} {H H' : Hp} {M : Mem} {P0 : Addr}
theorem tab_step (h0 : P0 ∈ C.T) (r : RS C α M H) (t : GxR.Tabbed P0 H H') : Step C α H α H' := by
  obtain ⟨ps, e, _⟩ := r.tb P0 h0
  obtain ⟨⟨ps', e', _⟩, hn⟩ := t
  refine ⟨⟨[], by simp, by simp⟩, fun b o h _ nt => ?_, fun b o h => ?_⟩
  · rw [hn b fun z => nt (by rw [z]; exact h0)]
    exact h
  · by_cases z : b = P0
    · exact ⟨_, by rw [z]; exact e'⟩
    · exact ⟨o, by rw [hn b z]; exact h⟩
theorem tab_rs {gpos : Pos} (h0 : P0 ∈ C.T) (hq : ∀ p ∈ C.T.qs, p.1 = P0 → ¬ (gpos.line = p.2.1.line ∧ gpos.col = p.2.1.col)) (r : RS C α M H) (t2 : Tabd P0 gpos H H') : RS C α M H' := by
  obtain ⟨t, hco⟩ := t2
  have s := tab_step h0 r t
  obtain ⟨ps, e, _⟩ := r.tb P0 h0
  obtain ⟨⟨ps', e', ht⟩, hn⟩ := t
  refine ⟨⟨r.hr.len, fun n a o h1 h2 => ?_⟩, r.nd, fun P hP => ?_, fun z hz => ?_, fun p hp => ?_⟩
  rotate_left 3
  · by_cases hp0 : p.1 = P0
    · intro qs h cv hc
      rw [hp0, e'] at h
      cases h
      rcases hco ps ps' e e' _ _ hc with z | z
      · obtain ⟨c, e1, e2, e3⟩ := r.tq p hp ps (by rw [hp0]; exact e) cv z
        refine ⟨c, e1, e2, ?_⟩
        rw [hn c fun z => r.codeNotT e3 (by rw [z]; exact h0)]
        exact e3
      · exact absurd z (hq p hp hp0)
    · exact (r.tq p hp).keep (r.tabAt hp) (fun b o h q => by
        rcases q with q | ⟨q, rfl, _⟩
        · rw [hn b (by rw [q]; exact hp0)]; exact h
        · rw [hn b (fun z => r.codeNotT h (by rw [z]; exact h0))]; exact h) fun _ _ _ z => z
  · have q := r.hr.get n a o h1 h2
    have ne : a ≠ P0 := fun z => by
      subst z
      cases o with
      | lst ds => obtain ⟨xs, x, _⟩ := q; rw [e] at x; cases x
      | dK ds => obtain ⟨xs, x, _⟩ := q; rw [e] at x; cases x
      | lk t ds => obtain ⟨x, _⟩ := q; rw [e] at x; cases x
      | ins D ds => obtain ⟨dx, xs, x, _⟩ := q; rw [e] at x; cases x
    cases o with
    | lst ds => obtain ⟨xs, x, q⟩ := q; exact ⟨xs, by rw [hn a ne]; exact x, VRs.step q s⟩
    | dK ds => obtain ⟨xs, x, q⟩ := q; exact ⟨xs, by rw [hn a ne]; exact x, KVR.step q s⟩
    | lk t ds => exact ⟨by rw [hn a ne]; exact q.1, KVR.step q.2 s⟩
    | ins D ds => obtain ⟨dx, xs, x, q⟩ := q; exact ⟨dx, xs, by rw [hn a ne]; exact x, KVR.step q s⟩
  · by_cases z : P = P0
    · subst z; exact ⟨ps', e', ht⟩
    · obtain ⟨qs, h1, h2⟩ := r.tb P hP
      exact ⟨qs, by rw [hn P z]; exact h1, h2⟩
  · obtain ⟨o, h⟩ := r.zd z hz
    exact s.dom z o h
end
def tAG (st : Bool) (P0 : Addr) (gpos : Pos) (wi : TI) (g : TG) (te : TE) (ns : List Nat) : TE := fun σ H Q => wi σ H fun J H1 => GxR.TabG H1 P0 ∧ ∀ H2, Tabd P0 gpos H1 H2 → TurnsG st ns g te σ (fun b H' => Q (.bl b) H') J H2
theorem lo_aG {gpos : Pos} {C : Cn} {W : WX} {st : Bool} {P0 : Addr} {wi : TI} {lw : LW} {g : TG} {lg : LG} {te : TE} {le : LE} {ns : List Nat} (h0 : P0 ∈ C.T) (hq : ∀ p ∈ C.T.qs, p.1 = P0 → ¬ (gpos.line = p.2.1.line ∧ gpos.col = p.2.1.col)) (hi : LoW C W wi lw) (hg : LoG C g lg) (hw : Wm g ns) (he : LoE C W0 te le) :
    LoE C W (tAG st P0 gpos wi g te ns) (lAG st lw lg le ns) := fun ρ M P PX h Z σ H α Q vs rs kt wk => by
  refine hi _ _ _ _ h Z σ H α _ vs rs wk fun J H1 α1 items okM M1 s1 r1 it ok1 h1 => ?_
  obtain ⟨I, i0, iok, turn, done⟩ := h1
  refine ⟨r1.tb P0 h0, fun H2 ht => ?_⟩
  have s2 : Step (C.wz Z) α1 H1 α1 H2 := tab_step (C := C.wz Z) h0 r1 ht.1
  have r2 : RS (C.wz Z) α1 M1 H2 := tab_rs (C := C.wz Z) h0 hq r1 ht
  have it' := it Z H2 s2.mv
  have vs1 : VS (C.wz Z) α1 H2 (wipe σ ns) (wipeL ρ ns) := wipe_vs ((vs.step s1).step s2) ns
  refine ⟨fun i m H' => m = items.length - i ∧ i ≤ items.length ∧ ∃ α' M', Step (C.wz Z) α1 H2 α' H' ∧ RS (C.wz Z) α' M' H' ∧ I i M', ⟨_, rfl, Nat.zero_le _, α1, M1, Step.refl, r2, i0⟩, ?_⟩
  rintro i m H' ⟨rfl, hi', α', M', s', r', p⟩
  by_cases hlt : i < items.length
  · obtain ⟨go, yld⟩ := it'.go i α' H' M' _ s'.pre r' (iok i M' p) (List.getElem?_eq_getElem hlt)
    refine .inr ⟨go, fun H3 => ∃ α3 M3, Step (C.wz Z) α1 H2 α3 H3 ∧ RS (C.wz Z) α3 M3 H3 ∧ I (i + 1) M3, fun H3 q => ⟨items.length - (i + 1), by omega, rfl, hlt, q⟩, fun x H3 y => ?_⟩
    obtain ⟨r3, s3, q3⟩ := yld x H3 y
    refine hw.mono _ _ _ _ _ (fun σ3 H3 z => ⟨z.1.trans (wipe_idem fun _ h => h), z.2⟩) (hw.wg _ _ _ _ ?_)
    refine hg _ _ M' _ (turn i _ M' (List.getElem?_eq_getElem hlt) p) x Z (wipe σ ns) H3 α' _ q3 (vs1.step (s'.trans s3)) r3 fun σ4 H4 α4 ρ4 M4 s4 vs4 r4 p4 => ?_
    refine he.bind p4 vs4 r4 XR.any fun v H5 α5 y M5 s5 r5 q5 h5 vs5 wk5 => ?_
    obtain ⟨b, rfl, h5⟩ := h5
    cases q5
    have sz : Step (C.wz Z) α1 H2 α5 H5 := ((s'.trans s3).trans s4).trans s5
    refine ⟨b, rfl, ?_⟩
    by_cases hb : b = st
    · rw [if_pos hb] at h5 ⊢
      exact kt _ H5 α5 (.dat (.bl st)) M5 ((s1.trans s2).trans sz) r5 (.bl st) h5
    · rw [if_neg hb] at h5 ⊢
      rcases h5 with h5 | ⟨n, hn, hM, h5⟩
      · exact ⟨α5, M5, sz, r5, h5⟩
      · rw [← r1.hr.len] at hn
        exact ⟨α5.take n, M5.take n, sz.drop hn, r5.drop hM, h5⟩
  · have e : i = items.length := by omega
    subst e
    refine .inl ⟨it'.stop α' H' M' s'.pre r' (iok _ M' p), ?_⟩
    exact kt _ H' α' (.dat (.bl (!st))) M' ((s1.trans s2).trans s') r' (.bl _) (done M' p)
section
variable {X : Cx} {C : Cn} {W : WX} {c P0 : Addr} {elt tg iter : Expr} {p pos gpos : Pos} {scope : Scope} {own : List (Str × Nat)} {wi : TI} {lw : LW} {g : TG} {lg : LG} {te : TE} {le : LE} {k : Nat}
theorem lp_anyG (hc : X.calm = true) (hN : X.N.Nodup) (hr : Room (k + 1) X.A) (hg : Gl X "any") (hm : X.mg "any" = none) (TB : GxR.TabB X.base X.mg c P0) (h0 : P0 ∈ C.T) (hq : ∀ p ∈ C.T.qs, p.1 = P0 → ¬ (gpos.line = p.2.1.line ∧ gpos.col = p.2.1.col)) (hcode : X.env.code = .ref c) (ok : GenOk X.N X.env.scope scope own) (hw : Wm g (own.map (·.2))) (hi : LPI X C W tg iter wi lw)
    (hgt : ∀ (s : Shared) (H : Hp) (D : Addr) (code : Value) (Ag : Around) (fp : List Addr), LPG (cxG X s H (genEnv scope (cloFrom X.env.cells scope.names []) D code builtinsNs X.env) Ag fp) C tg g lg)
    (he : ∀ (s : Shared) (H : Hp) (D : Addr) (code : Value) (Ag : Around) (fp : List Addr), Room k Ag → LPE (cxG X s H (genEnv scope (cloFrom X.env.cells scope.names []) D code builtinsNs X.env) Ag fp) C W0 elt te le)
    (hs : ∀ v, genFold iter X.env v = pure v := by intro _; rfl)
    (hst : starEach [.GeneratorExp elt [⟨tg, iter, [], 0⟩] scope gpos] X.env = (false, eval (.GeneratorExp elt [⟨tg, iter, [], 0⟩] scope gpos) X.env) :: starEach [] X.env := by rfl) :
    LPE X C W (.Call (.Name "any" p) [.GeneratorExp elt [⟨tg, iter, [], 0⟩] scope gpos] [] pos) (tAG true P0 gpos wi g te (own.map (·.2))) (lAG true lw lg le (own.map (·.2))) :=
  ⟨pe_anyG hc hN hr hg hm (by decide +kernel) TB hcode ok hi.pi (fun s H D code Ag fp => (hgt s H D code Ag fp).pg) (fun s H D code Ag fp r => (he s H D code Ag fp r).pe) hs hst,
   lo_aG h0 hq hi.lo (hgt ({} : Shared) (fun _ => none) 0 .none X.A []).lo hw (he ({} : Shared) (fun _ => none) 0 .none X.A [] (hr.mono (Nat.le_succ k))).lo⟩
theorem lp_allG (hc : X.calm = true) (hN : X.N.Nodup) (hr : Room (k + 1) X.A) (hg : Gl X "all") (hm : X.mg "all" = none) (TB : GxR.TabB X.base X.mg c P0) (h0 : P0 ∈ C.T) (hq : ∀ p ∈ C.T.qs, p.1 = P0 → ¬ (gpos.line = p.2.1.line ∧ gpos.col = p.2.1.col)) (hcode : X.env.code = .ref c) (ok : GenOk X.N X.env.scope scope own) (hw : Wm g (own.map (·.2))) (hi : LPI X C W tg iter wi lw)
    (hgt : ∀ (s : Shared) (H : Hp) (D : Addr) (code : Value) (Ag : Around) (fp : List Addr), LPG (cxG X s H (genEnv scope (cloFrom X.env.cells scope.names []) D code builtinsNs X.env) Ag fp) C tg g lg)
    (he : ∀ (s : Shared) (H : Hp) (D : Addr) (code : Value) (Ag : Around) (fp : List Addr), Room k Ag → LPE (cxG X s H (genEnv scope (cloFrom X.env.cells scope.names []) D code builtinsNs X.env) Ag fp) C W0 elt te le)
    (hs : ∀ v, genFold iter X.env v = pure v := by intro _; rfl)
    (hst : starEach [.GeneratorExp elt [⟨tg, iter, [], 0⟩] scope gpos] X.env = (false, eval (.GeneratorExp elt [⟨tg, iter, [], 0⟩] scope gpos) X.env) :: starEach [] X.env := by rfl) :
    LPE X C W (.Call (.Name "all" p) [.GeneratorExp elt [⟨tg, iter, [], 0⟩] scope gpos] [] pos) (tAG false P0 gpos wi g te (own.map (·.2))) (lAG false lw lg le (own.map (·.2))) :=
  ⟨pe_allG hc hN hr hg hm (by decide +kernel) TB hcode ok hi.pi (fun s H D code Ag fp => (hgt s H D code Ag fp).pg) (fun s H D code Ag fp r => (he s H D code Ag fp r).pe) hs hst,
   lo_aG h0 hq hi.lo (hgt ({} : Shared) (fun _ => none) 0 .none X.A []).lo hw (he ({} : Shared) (fun _ => none) 0 .none X.A [] (hr.mono (Nat.le_succ k))).lo⟩
end
end L3

namespace L3
open PySem L2 PySem.Spec PyProof.Rows
/-! a def whose code object is known -/
section
variable {P : Program} {w : World} {K : PySem.W.Frag} {mg : Str → Option Value} {base : Heap}
theorem okLc {x qual : Str} {st : Stmt} {f c : Addr} {fd : FuncData} {N ps : List Str} {k : Nat} {T : Tb} {lsp : LSp} (F : Fun K x qual st f fd) (hc : fd.code = .ref c) (S : FnScope N ps (defScope st)) (len : ∀ ds M P PX, lsp ds M P PX → ds.length = ps.length)
    (hbody : ∀ (A : Around) (outer : List Env) (s : Shared) (H : Hp) (E : XK), Room k (A.deeper (PyProof.Rows.envOfC qual (defScope st) s.heap.objs.size f (.ref c))) →
      ∃ ts l, LPSs (cxOf CX0 P w K mg base N qual (defScope st) f (.ref c) A outer s H E).nox ⟨K, T, []⟩ W0 (defBody st) ts l ∧ ∀ ds M Pd PX, lsp ds M Pd PX → l { nx := fun _ M' => DropD M.length Pd .non M', rt := DropD M.length Pd } (startL N ds) M) :
    FnOk P w K mg base CX0 (k + 1) f fd ps (low K T lsp) := by
  obtain ⟨oc, od, kV, doc, pm, an, cdv, ct, osl, rfl, lk, hcd⟩ := F.ex
  cases (show cdv = .ref c from hc)
  refine fn_of lk hcd S (fun vs H Q E h => ?_) fun A outer s H vs Q E hr h => ?_
  · obtain ⟨Z, α, ds, M, Pd, PX, _, r, h, _⟩ := h
    rw [VRs.length r]
    exact len _ _ _ _ h
  · obtain ⟨Z, α, ds, M, Pd, PX, rs, r, h, kt, _⟩ := h
    obtain ⟨ts, l, hp, hl⟩ := hbody A outer s H E hr
    exact ⟨ts, hp.ps.nox, hp.lo _ _ _ (hl ds M Pd PX h) Z _ _ H α (start_vs r) rs (ends_top rs.hr.len kt W0 _ fun _ _ _ _ _ _ _ _ _ _ _ _ h => h)⟩
end
/-! the names of a generator expression, decided -/
def genOkB (N : List Str) (sc scope : Scope) (own : List (Str × Nat)) : Bool :=
  decide (scope.kind = .function) && (decide (scope.isCoroutine = false) && (decide (scope.names.lookup (".0" : Str) = some NameKind.local) && (scope.names.all (fun y => decide (y.2 ≠ .cell)) && (scope.names.all (fun y => decide (scope.names.lookup y.1 = some y.2)) &&
    (own.all (fun p => decide (N[p.2]? = some p.1)) && (scope.names.all (fun y => decide (y.2 = .free → sc.names.lookup y.1 = some .cell ∨ sc.names.lookup y.1 = some .free)) && scope.names.all (fun y => decide (y.2 = .local → y.1 ∈ own.map (·.1) ∨ y.1 ∉ N))))))))
theorem genOk_by {N : List Str} {sc scope : Scope} {own : List (Str × Nat)} (h : genOkB N sc scope own = true) : GenOk N sc scope own := by
  unfold genOkB at h
  simp only [Bool.and_eq_true, List.all_eq_true, decide_eq_true_eq] at h
  obtain ⟨h1, h2, h3, h4, h5, h6, h7, h8⟩ := h
  exact ⟨h1, h2, h3, h4, h5, h6, h7, h8⟩
/-! the written part without some objects -/
def dropA (ts : List Addr) (K : PySem.W.Frag) : PySem.W.Frag := K.filter fun q => !ts.contains q.1
theorem drop_lookup {ts : List Addr} {a : Addr} (h : a ∉ ts) : ∀ K : PySem.W.Frag, (dropA ts K).lookup a = K.lookup a
  | [] => rfl
  | (b, o) :: r => by
    have ih := drop_lookup h r
    unfold dropA at ih ⊢
    by_cases e : a = b
    · subst e
      have hn : (!ts.contains a) = true := by simpa using h
      rw [List.filter_cons_of_pos (by simpa using h), List.lookup_cons, List.lookup_cons]
      simp
    · have hb : (a == b) = false := by simpa using e
      rw [List.lookup_cons, hb]
      by_cases hq : (!ts.contains b) = true
      · rw [List.filter_cons_of_pos (by simpa using hq), List.lookup_cons, hb]
        exact ih
      · rw [List.filter_cons_of_neg (by simpa using hq)]
        exact ih
theorem drop_none {ts : List Addr} {a : Addr} (h : a ∈ ts) : ∀ K : PySem.W.Frag, (dropA ts K).lookup a = none
  | [] => rfl
  | (b, o) :: r => by
    have ih := drop_none h r
    unfold dropA at ih ⊢
    by_cases hq : b ∈ ts
    · rw [List.filter_cons_of_neg (by simpa using hq)]
      exact ih
    · have hb : (a == b) = false := by
        rw [beq_eq_false_iff_ne]
        intro e
        exact hq (by rw [← e]; exact h)
      rw [List.filter_cons_of_pos (by simpa using hq), List.lookup_cons, hb]
      exact ih
theorem drop_in {ts : List Addr} {K : PySem.W.Frag} {h : Heap} (X : K.In h) : (dropA ts K).In h := fun a o e => by
  by_cases ha : a ∈ ts
  · rw [drop_none ha] at e; cases e
  · rw [drop_lookup ha] at e
    exact X a o e
section
variable {ts : List Addr} {K : PySem.W.Frag} (ht : ∀ P ∈ ts, K.lookup P = some { cls := .none, data := .fields #[] })
include ht
theorem drop_at {a : Addr} {o : Obj} (h : K.lookup a = some o) (ne : o ≠ { cls := .none, data := .fields #[] }) : (dropA ts K).lookup a = some o := by
  rw [drop_lookup fun z => ?_]
  · exact h
  · have := ht a z
    rw [h] at this
    exact ne (Option.some.inj this)
theorem drop_fn {a : Addr} {oc : Value} {od : Option Addr} {fd : FuncData} {sl : Array (Option Value)} (h : K.lookup a = some ⟨oc, od, .func fd, sl⟩) : (dropA ts K).lookup a = some ⟨oc, od, .func fd, sl⟩ := drop_at ht h fun z => by cases z
theorem drop_keep {a : Addr} {oc : Value} {od : Option Addr} {fd : FuncData} {sl : Array (Option Value)} (h : K.lookup a = some ⟨oc, od, .func fd, sl⟩) : PySem.W.keepIn (dropA ts K) (.ref a) = true := by
  unfold PySem.W.keepIn
  dsimp only
  rw [drop_fn ht h]
theorem drop_code {cd : Value} {q : Str} (h : PySem.W.codeIn K cd q = true) : PySem.W.codeIn (dropA ts K) cd q = true := by
  cases cd with
  | ref c =>
    unfold PySem.W.codeIn at h ⊢
    dsimp only at h ⊢
    cases e : K.lookup c with
    | none => rw [e] at h; cases h
    | some o =>
      rw [e] at h
      rw [drop_at ht e fun z => by subst z; cases h]
      exact h
  | _ => cases h
theorem drop_ns {a : Addr} {x : Str} {r : Option Value} (h : PySem.W.nsIn K a x = some r) : PySem.W.nsIn (dropA ts K) a x = some r := by
  unfold PySem.W.nsIn at h ⊢
  cases e : K.lookup a with
  | none => rw [e] at h; cases h
  | some o =>
    rw [e] at h
    rw [drop_at ht e fun z => by subst z; cases h]
    exact h
end
theorem start_lowT {K : PySem.W.Frag} {H : Hp} {T : Tb} {a : Addr} {ns : List Int} {lsp : LSp} (h : lsp [.dat (.lst (ns.map D.int))] [] (fun d _ => d = .bl true) fun _ _ => False) (hT : ∀ P ∈ T, H P = some (.tbl #[])) (hS : SqL K H a (ns.map V.int)) : low K T lsp [.ref a] H (fun v _ => v = .bl true) fun _ _ _ => False := by
  have q : ∀ (N : Addr → Prop) (ns : List Int), VDs K N H (ns.map V.int) (ns.map D.int) := fun N ns => by
    induction ns with
    | nil => exact .nil
    | cons n ns ih => exact .cons (.int n) ih
  have rs : RS ⟨K, T, []⟩ [] [] H := ⟨⟨rfl, fun n a o h1 h2 => (by simp at h1)⟩, .nil, fun P hP => ⟨#[], hT P hP, by constructor⟩, fun _ z => (by cases z), fun p hp ps h cv hc => by
    rw [hT p.1 (T.sub p hp)] at h
    cases h
    have hc : codeAmong p.2.1 [] = some cv := hc
    simp [codeAmong] at hc⟩
  have hl : SLi K (Cn.N ⟨K, T, []⟩ []) H a (ns.map V.int) := hS.imp (fun z => ⟨z, by
    rintro (y | y | y)
    · cases y
    · have e := hT a y
      rcases z with z | ⟨o, z⟩ <;> rw [e] at z <;> cases z
    · cases y⟩) id
  have vr : VRs ⟨K, T, []⟩ [] H [.ref a] [.dat (.lst (ns.map D.int))] := .cons (show VD K _ H (.ref a) (.lst (ns.map D.int)) from .lst hl (q _ ns)) .nil
  refine ⟨[], [], _, [], _, _, rs, vr, h, fun v H' α' d M' s r q p => ?_, fun _ _ _ _ _ _ _ _ _ z => z.elim⟩
  subst p
  cases q
  rfl
/-! steps -/
section
variable {g : LG} {te : LE} {vs : List Nat} {ρ : Rho} {M : Mem} {P : PD} {PX : PXn} {lw : LW} {st : Bool}
theorem s_aG (h : lw ρ M (fun items okM M1 => ∃ I : Nat → Mem → Prop, I 0 M1 ∧ (∀ i M, I i M → okM M) ∧
  (∀ i x M, items[i]? = some x → I i M → g x (wipeL ρ vs) M fun ρ2 M2 => te ρ2 M2 (fun y M3 => ∃ b, y = .bl b ∧ if b = st then P (.bl st) M3 else DropM M1.length (I (i + 1)) M3) noX) ∧
  ∀ M, I items.length M → P (.bl (!st)) M) PX) : lAG st lw g te vs ρ M P PX := h
/-- an element that draws nothing -/
theorem s_exany {items : List DV} {okM : Mem → Prop} {PT PF : Mem → Prop} (p : Nat → Bool) (hok : okM M) (he : ∀ i x, items[i]? = some x → ∀ R : PD, R (.bl (p i)) M → g x (wipeL ρ vs) M fun ρ2 M2 => te ρ2 M2 R noX)
    (h1 : (∃ i, i < items.length ∧ p i = st) → PT M) (h2 : (∀ i, i < items.length → p i ≠ st) → PF M) :
    ∃ I : Nat → Mem → Prop, I 0 M ∧ (∀ i M, I i M → okM M) ∧ (∀ i x M', items[i]? = some x → I i M' → g x (wipeL ρ vs) M' fun ρ2 M2 => te ρ2 M2 (fun y M3 => ∃ b, y = .bl b ∧ if b = st then PT M3 else DropM M.length (I (i + 1)) M3) noX) ∧
      ∀ M', I items.length M' → PF M' := by
  refine ⟨fun i M' => M' = M ∧ ∀ j, j < i → p j ≠ st, ⟨rfl, fun j hj => absurd hj (Nat.not_lt_zero _)⟩, fun i M' h => by rw [h.1]; exact hok, ?_, fun M' h => by rw [h.1]; exact h2 h.2⟩
  rintro i x M' hx ⟨rfl, hn⟩
  refine he i x hx _ ⟨p i, rfl, ?_⟩
  by_cases e : p i = st
  · rw [if_pos e]
    exact h1 ⟨i, (List.getElem?_eq_some_iff.mp hx).1, e⟩
  · rw [if_neg e]
    refine .inl ⟨rfl, fun j hj => ?_⟩
    rcases Nat.lt_succ_iff_lt_or_eq.mp hj with h | h
    · exact hn j h
    · rw [h]; exact e
end
/-! list(x), then changed -/
section
variable {C : Cn}
theorem vds_vrs {α : List Addr} {H : Hp} : ∀ {us : List V} {ds : List D}, VDs C.K (C.N α) H us ds → VRs C α H us (ds.map DV.dat)
  | _, _, .nil => .nil
  | _, _, .cons a b => .cons a (vds_vrs b)
theorem new_obj {Z : List Addr} {α : List Addr} {H : Hp} {M : Mem} {P : PD} {Q : VK} {us : List V} {ds : List D} (r : RS (C.wz Z) α M H) (k : Kt (C.wz Z) α H P Q) (hd : VDs C.K ((C.wz Z).N α) H us ds) (p : P (.obj M.length) (M ++ [.lst (ds.map DV.dat)])) : ∀ p, H p = none → Q (.ref p) (upd H p (.lst us)) := fun p0 hp => by
  have st : Step (C.wz Z) α H (α ++ [p0]) (upd H p0 (.lst us)) := ⟨⟨[p0], rfl, by simpa using hp⟩, fun b o h _ _ => by rw [upd_ne (ne_of_none h hp)]; exact h, fun b o h => ⟨o, by rw [upd_ne (ne_of_none h hp)]; exact h⟩⟩
  have q1 : VRs (C.wz Z) (α ++ [p0]) (upd H p0 (.lst us)) us (ds.map DV.dat) := vds_vrs (hd.mv st.mv)
  obtain ⟨r2, s2⟩ := r.newM (o := .lst us) (mo := .lst (ds.map DV.dat)) hp ⟨us, upd_same, q1⟩
  exact k _ _ _ (.obj M.length) _ s2 r2 ⟨p0, by rw [← r.hr.len]; simp, rfl⟩ p
def vLstM : List DV → Mem → PD → Prop := fun xs M P => ∃ ds : List D, (xs = [.dat (.lst ds)] ∨ xs = [.dat (.tup ds)]) ∧ P (.obj M.length) (M ++ [.lst (ds.map DV.dat)])
theorem ll_lstM : LoL C (fun xs H Q => ∃ p ys, xs = [.ref p] ∧ (SqL C.K H p ys ∨ SqT C.K H p ys) ∧ ∀ l, H l = none → Q (.ref l) (upd H l (.lst ys))) vLstM := fun xs M P ⟨ds, e, p⟩ Z α H vs Q r q k => by
  rcases e with rfl | rfl
  · obtain ⟨v, rfl, q0⟩ := one_inv q
    obtain ⟨a, ws, rfl, hs, hd⟩ := VD.lst_inv q0
    exact ⟨a, ws, rfl, .inl hs.sq, new_obj r k hd p⟩
  · obtain ⟨v, rfl, q0⟩ := one_inv q
    obtain ⟨a, ws, rfl, hs, hd⟩ := VD.tup_inv q0
    exact ⟨a, ws, rfl, .inr hs.sq, new_obj r k hd p⟩
theorem s_lstMT {ds : List D} {M : Mem} {P : PD} (h : P (.obj M.length) (M ++ [.lst (ds.map DV.dat)])) : vLstM [.dat (.tup ds)] M P := ⟨ds, .inr rfl, h⟩
theorem s_lstML {ds : List D} {M : Mem} {P : PD} (h : P (.obj M.length) (M ++ [.lst (ds.map DV.dat)])) : vLstM [.dat (.lst ds)] M P := ⟨ds, .inl rfl, h⟩
theorem s_lstT {ds : List D} {M : Mem} {P : PD} (h : P (.dat (.lst ds)) M) : vLst [.dat (.tup ds)] M P := ⟨_, rfl, .inr (.inl ⟨ds, rfl, h⟩)⟩
theorem s_lstL {ds : List D} {M : Mem} {P : PD} (h : P (.dat (.lst ds)) M) : vLst [.dat (.lst ds)] M P := ⟨_, rfl, .inl ⟨ds, rfl, h⟩⟩
end
end L3

namespace L3
open PySem L2 PySem.Spec PyProof.Rows NdefX
/-! super().__init__(e, ..) within the __init__ of an own exception class over ValueError -/
section
variable {prog : Program} {w : World} {A : Around} {E : Value → Shared → Prop} {h : Heap} {g : Array GenState} {d : Drawn} {t : Nat} {os : OsState}
variable {nm q : Str} {C N : Addr} {bs bm : List Value} {hdct : Bool} {sn : List Str} {sub : List Value} {ab : Bool} {col : Option Bool} {dd : Option Addr} {k0 k1 k2 k3 k5 : Option Value}
theorem call_mwVE {u e t0 : Addr} {rest : List Value} {Q : Value → Shared → Prop}
    (hC : h.get? C = some (excClassObj nm q C N bs bm hdct sn sub ab col dd k0 k1 k2 k3 k5 "ValueError.__new__")) (he : h.get? e = some (HandSPX.excO C t0)) (hu : h.get? u = some (PySem.W.kxs_mw "ValueError.__init__" e)) (hrest : rest.length ≤ sizeLine)
    (hq : ∀ h' t1, (∀ b o, b ≠ e → h.get? b = some o → h'.get? b = some o) → h'.get? e = some (HandSPX.excO C t1) → Q .none ⟨h', g, d, t, os⟩) :
    wpAny (model prog w) A (call (.ref u) rest) Q E ⟨h, g, d, t, os⟩ := by
  refine wpAny_call (codeAny_of_tree ?_)
  show wpAny _ A.in1 (callAny (.ref u) ⟨rest, []⟩) _ _ _
  simp only [callAny]
  refine wpAny_bind (wpAny_load hu ?_)
  simp only [PySem.W.kxs_mw, show (Value.type "method-wrapper" == Value.type "method" || Value.type "method-wrapper" == Value.type "builtin_function_or_method" || Value.type "method-wrapper" == Value.type "method-wrapper") = true by decide, if_true]
  refine W.KFB.if_so (by decide) ?_
  refine wpAny_bind (ESX.check_bound F.excBase_ValueError hC he rfl ?_)
  refine wpAny_bind (wpAny_pure (wpAny_pure ?_))
  refine ⟨Code.quiet_builtin _ (by decide +kernel), codeAny_builtin F.excBase_ValueError.initEntry ?_⟩
  rw [Around.under_plainId F.excBase_ValueError.init.plain _]
  wp_walk
  refine hq _ h.objs.size (fun b o hb ho => ?_) ?_
  · rw [Heap.get?_update_other _ _ (Ne.symm hb)]
    exact Heap.get?_push_of_some _ ho
  · rw [Heap.get?_update_self _ (Heap.get?_push_of_some _ he) rfl]
    rfl
end
section
variable {X : Cx} {pins : List (Addr × Obj)} {σ : L2.St} {H : Hp} {s : Shared} {a C u : Addr}
theorem omw_ok {us : List Value} {Q : Value → Shared → Prop} (T : OexC X.K C) (I : Inv X pins σ H s) (hm : (u, PySem.W.kxs_mw "ValueError.__init__" a) ∈ pins) (e : H a = some (exo a C none)) (hl : us.length ≤ sizeLine) (h : ∀ s', Inv X pins σ H s' → Q .none s') {E : Value → Shared → Prop} :
    wpAny (model X.prog X.w) X.A (call (.ref u) us) Q E s := by
  obtain ⟨nm, q, N, bs, bm, sn, sub, ab, col, dd, k0, k1, k2, k3, k5, hC, hbm⟩ := T.cls
  obtain ⟨t1, ho⟩ := exo_at I.hok e
  have hu := (I.pin _ (List.mem_append_right _ hm)).1
  obtain ⟨hp, g, d, t, os⟩ := s
  refine call_mwVE (I.kIn _ _ hC) ho hu hl fun h' t2 k hx => ?_
  have J := I.write (t' := t) (x := a) (e := a) (o := exo a C none) (by rw [e]; exact True.intro) (.inl rfl) k ⟨_, hx⟩ (exo_ok hx)
  have eu : upd H a (exo a C none) = H := by
    funext b
    by_cases hb : b = a
    · rw [hb, upd_same, e]
    · rw [upd_ne hb]
  rw [eu] at J
  exact h _ J
end
/-- what the written part says of the class, for super().__init__ -/
structure SupC (P : Program) (K : PySem.W.Frag) (C cc c : Addr) : Prop where
  sup : PySem.W.ks_superIn K C C "__init__" = some (some (.builtin "ValueError.__init__"))
  opq : PySem.W.nsIn K cStatics "thirdparty.any" = some none
  ve : PySem.W.subIn K (.ref C) (.type "ValueError") = some true
  self : PySem.W.mroIn K C (.ref C) = some true
  cell : ∃ (cl : Value) (cld : Option Addr) (csl : Array (Option Value)), K.lookup cc = some ⟨cl, cld, .cell (some (.ref C)), csl⟩
  cls : ∃ cd, PySem.W.clsIn K C = some cd
  code : ∃ (ccl : Value) (cdd : Option Addr) (vs : Array Value) (ccs : Array (Option Value)) (file : Str) (tf : Tok), K.lookup c = some ⟨ccl, cdd, .fields vs, ccs⟩ ∧ vs[2]? = some (.str file tf) ∧ ((P.main.file : Str) == file) = true
  top : (P.main.scope.names.lookup ("super" : Str)).isSome = false
section
variable {CX : CXT} {P : Program} {w : World} {K : PySem.W.Frag} {mg : Str → Option Value} {base : Heap} {N ps : List Str} {F : NF} {f cc C : Addr} {k : Nat} {sp : Sp} {dV kV doc pm ct oc : Value} {an od : Option Addr} {osl : Array (Option Value)} {ar : Arg} {self : Str} {rest : List Stmt} {e : Expr} {es : List Expr} {p0 p1 p2 p3 p4 : Pos}
theorem fn_super (lk : K.lookup f = some ⟨oc, od, .func (PySem.W.fnX F.name F.qual F.params F.body F.scope F.cl dV kV doc pm an (.ref F.c) ct), osl⟩) (hcd : PySem.W.codeIn K (.ref F.c) F.qual = true) (S : NScope N (self :: ps) ["__class__"] F.scope)
    (hcl : F.cl = [(("__class__" : Str), cc)]) (SC : SupC P K C cc F.c) (hp : (F.params.posonlyargs ++ F.params.args).head? = some ar) (har : ar.arg = self) (hks : F.scope.names.lookup ("super" : Str) = some .globalImplicit) (hsup : mg "super" = none)
    (T : OexC K C) (hbd : F.body = .Expr (.Call (.Attribute (.Call (.Name "super" p0) [] [] p1) "__init__" p2) (e :: es) [] p3) p4 :: rest) (len : ∀ vs H Q E, sp vs H Q E → vs.length = (self :: ps).length)
    (hbody : ∀ (A : Around) (outer : List Env) (s : Shared) (H : Hp) (vs : List V) (Q : VK) (E : XK), Room k (A.deeper (envF F f s.heap.objs.size)) → sp vs H Q E →
      ∃ ta t a vt, vs = .ref a :: vt ∧ H a = some (exo a C none) ∧ PA (ncx CX P w K mg base N F f A outer s H E) (e :: es) ta ∧ PSs (ncx CX P w K mg base N F f A outer s H E) rest t ∧
        ta (startF N vs [none]) H fun us H1 => us.length ≤ 1000 ∧ H1 a = some (exo a C none) ∧ t { nx := fun _ H' => Q .non H', rt := Q } (startF N vs [none]) H1)
    {pl : Env → Sem Bool} (hev : ∀ env : Env, eval (.Call (.Attribute (.Call (.Name "super" p0) [] [] p1) "__init__" p2) (e :: es) [] p3) env = (do
      let ov ← attributeBase (.Call (.Name "super" p0) [] [] p1) "__init__" env (eval (.Call (.Name "super" p0) [] [] p1) env)
      standAt p2.atName
      let (f, first) ← holding [ov] (getMethod ov "__init__" (pl env))
      callWith p3 f first (backTo p3 (starEach (e :: es) env)) []))
    (hi : ∀ (A : Around) (outer : List Env) (s : Shared), interactive (envF F f s.heap.objs.size) = false) (hsw : ∀ (A : Around) (s : Shared), swapsWith (.Call (.Attribute (.Call (.Name "super" p0) [] [] p1) "__init__" p2) (e :: es) [] p3) none p4.line (envF F f s.heap.objs.size) = pure false)
    (hse : ∀ env : Env, starEach (e :: es) env = (false, eval e env) :: starEach es env) (hpl : ∀ env : Env, (backTo p3 (starEach es env)).any (·.1) = false) :
    FnOk P w K mg base CX (k + 1) f (PySem.W.fnX F.name F.qual F.params F.body F.scope F.cl dV kV doc pm an (.ref F.c) ct) (self :: ps) sp := by
  refine ⟨len, fun A outer s H args us vs Q E hr e0 hb r hsp => ?_⟩
  have KX : K.In s.heap := e0.mod.kin.keeps fun b o e => (e0.bs b o e).1
  have hl := len _ _ _ _ hsp
  have lim : s.heap.NoLimit := e0.mod.nolimit.keeps fun b o e => (e0.bs b o e).1
  refine codeAny_call_function hr.depth (KX _ _ lk) rfl S.co S.gen rfl (PySem.W.codeRec_of KX hcd) (hb _ _ _ _ ?_)
  refine wpAny_newFunctionEnv S.nocell (fun ⟨n, _⟩ hy => S.par n (List.of_mem_zip hy).1) (fun h₁ hns hsb => ⟨lim.fresh _ hsb, ?_⟩) S.kind
  show codeAny _ _ (.func F.body (envF F f s.heap.objs.size)) _ _
  refine ks_codeAny_funcAt ?_
  have kp : ∀ b o, s.heap.get? b = some o → h₁.get? b = some o := fun b o e => hsb.extBut b o (Nat.ne_of_lt (Heap.lt_size e)) (Heap.get?_push_of_some _ e)
  obtain ⟨ta, t, a, vt, ev, ea, hpa, hps, hq⟩ := hbody A outer s H vs Q E (hr.deeper _) hsp
  obtain ⟨cl, cld, csl, hcell⟩ := SC.cell
  obtain ⟨cdC, hcdC⟩ := SC.cls
  obtain ⟨ccl, cdd, cvs, ccs, file, tf, hco, hvs, hfile⟩ := SC.code
  have cells : CellsAt F.cl ["__class__"] [none] s.heap H := by
    rw [hcl]
    have hcc : base.get? cc = some ⟨cl, cld, .cell (some (.ref C)), csl⟩ := e0.mod.kin _ _ hcell
    have one : ∀ y c, ([("__class__", cc)] : List (Str × Addr)).lookup y = some c → y = "__class__" ∧ c = cc := fun y c z => by
      rw [List.lookup_cons] at z
      split at z
      · rename_i h1
        exact ⟨by simpa using h1, (Option.some.inj z).symm⟩
      · cases z
    refine ⟨rfl, fun y c z => ?_, fun x y c z1 z2 => by rw [(one x c z1).1, (one y c z2).1], fun i y z => ?_⟩
    · obtain ⟨_, rfl⟩ := one y c z
      exact ⟨(e0.bs _ _ hcc).2, _, _, (e0.bs _ _ hcc).1, rfl⟩
    · cases i with
      | zero =>
        cases z
        exact ⟨cc, by rw [List.lookup_cons_self], fun v z => by simp at z⟩
      | succ i => simp at z
  have I : Inv (ncx CX P w K mg base N F f A outer s H E) [] (startF N vs [none]) H { s with heap := h₁, toks := s.toks + ((self :: ps).zip us).length } := inv_startN S hr.hd e0 hl r cells hns kp
  obtain ⟨t0, hea⟩ := exo_at I.hok ea
  have hself : h₁.Ns s.heap.objs.size fun y => ((self :: ps).zip us).reverse.lookup y := hns
  have fin : ∀ {σ' : L2.St} {H' : Hp} {v : V} {u : Value} {s' : Shared}, Inv (ncx CX P w K mg base N F f A outer s H E) [] σ' H' s' → L2.RelV v u → Q v H' → CE outer P w H s Q u s' :=
    fun {σ' H' v u s'} J rv q => ⟨v, H', J.os, J.bare, J.base, J.hok, rv, q⟩
  rw [hbd]
  have hC : h₁.get? C = some _ := kp _ _ (KX _ _ T.cls.choose_spec.choose_spec.choose_spec.choose_spec.choose_spec.choose_spec.choose_spec.choose_spec.choose_spec.choose_spec.choose_spec.choose_spec.choose_spec.choose_spec.choose_spec.1)
  have hCc : ∃ oD, h₁.get? C = some oD ∧ oD.data = .cls cdC := by
    have z := hcdC
    unfold PySem.W.clsIn at z
    split at z
    · rename_i c d cd' sl ho
      cases z
      exact ⟨_, kp _ _ (KX _ _ ho), rfl⟩
    · cases z
  obtain ⟨oD, hD1, hD2⟩ := hCc
  have X1 : K.In h₁ := KX.keeps kp
  refine ks_wpAt_execs_cons (ks_wpAt_Expr_any (ks_wpAt_MethodCall (pl := pl _) ?_ (hev _)) (hi A outer s) (hsw A s))
  refine ks_wpAt_super_base (env := envF F f s.heap.objs.size) hks (S.frk _ (by simp)) (by decide) rfl (kp _ _ (KX _ _ lk)) rfl hp rfl (kp _ _ (KX _ _ hco)) rfl hvs hfile SC.top ?_
  obtain ⟨mb, hb1, hb2⟩ := e0.mod.blt
  have bk : ∀ b o, base.get? b = some o → h₁.get? b = some o := fun b o z => kp _ _ (e0.bs b o z).1
  refine PySem.W.ks_loadName_global S.kind hks (Calls.loadGlobal_builtin (env := envF F f s.heap.objs.size) (e0.mod.glob.keeps bk) hsup (hb1.keeps bk) ((hb2 _ (by decide +kernel)).trans (by kernel_rfl : bootBuiltins "super" = some (.type "super"))) ⟨rfl, ?_⟩)
  refine wpAny_loadName_free S.kind (S.frk _ (by simp)) (by show F.cl.lookup _ = _; rw [hcl]; rfl) ⟨_, kp _ _ (KX _ _ hcell), rfl⟩ ?_
  have hself1 : ((self :: ps).zip us).reverse.lookup ar.arg = some (.ref a) := by
    subst ev
    cases r with
    | @cons _ u0 _ ur ra rw' =>
      obtain rfl : u0 = Value.ref a := ra
      rw [har]
      have nd : (self :: ps).Nodup := by
        have z := S.nd.sublist (List.take_sublist ((self :: ps).length + 1) N)
        rw [show N.take ((self :: ps).length + 1) = _ from S.pre] at z
        exact (List.nodup_append.mp z).1
      exact zip_look (i := 0) nd rfl rfl
  refine wpAny_loadName_local S.kind (by rw [har]; exact S.par _ (by simp)) hns hself1 ?_
  refine ks_wpAny_isType_cls hD1 hD2 ⟨rfl, ?_⟩
  refine ks_wpAny_call_super hD1 hD2 hea rfl (fun c z => by cases z) (PySem.W.looks_mroIn X1 SC.self) (fun h2 ho2 k2 => ?_)
  have xC : a ≠ C := fun z => by
    rw [z, hD1] at hea
    cases hea
    cases hD2
  have X2 : K.In h2 := X1.keeps k2
  have hI : PySem.W.Looks (model P w) h2 (isInstance (.ref a) (.type "ValueError")) true := by
    have L1 : PySem.W.Looks (model P w) h2 (typeOf (.ref a)) (.ref C) := fun A Q E s k q => wpAny_typeOf_ref (k _ _ (k2 _ _ hea)) q
    exact L1.andThen (PySem.W.looks_subIn X2 SC.ve)
  have hsu := SC.sup
  unfold PySem.W.ks_superIn at hsu
  rw [hcdC] at hsu
  refine PySem.W.kxs_getMethod PySem.W.kxs_ValueError ho2 (PySem.W.looks_opaque X2 SC.opq) (l₀ := cdC.mro) (fun A Q E s k q => wpAny_bind ((PySem.W.looks_clsIn X2 hcdC) A _ E s k (wpAny_pure q))) rfl X2 hsu hI xC (by decide) ?_
  have k3 : ∀ b o, h₁.get? b = some o → (h2.push (PySem.W.kxs_mw "ValueError.__init__" a)).get? b = some o := fun b o z => Heap.get?_push_of_some _ (k2 _ _ z)
  have I3 := I.kept (h' := h2.push (PySem.W.kxs_mw "ValueError.__init__" a)) (t' := s.toks + ((self :: ps).zip us).length + 1) k3
  have hu : (h2.push (PySem.W.kxs_mw "ValueError.__init__" a)).get? h2.objs.size = some (PySem.W.kxs_mw "ValueError.__init__" a) := Heap.get?_push_size _ rfl
  have sz : h₁.objs.size ≤ h2.objs.size := Nat.le_of_lt (Heap.lt_size ho2)
  have I4 : Inv (ncx CX P w K mg base N F f A outer s H E) [(h2.objs.size, PySem.W.kxs_mw "ValueError.__init__" a)] (startF N vs [none]) H _ := Inv.pins_of I3 fun p hp => by
    obtain rfl : p = _ := by simpa using hp
    refine ⟨hu, I.hok.fresh sz, ?_, ?_, fun v z => by cases z⟩
    · exact fun z => absurd (Nat.lt_of_lt_of_le I.lt sz) (by show ¬ s.heap.objs.size < h2.objs.size; rw [show h2.objs.size = s.heap.objs.size from z]; exact Nat.lt_irrefl _)
    · exact I.nofs sz
  have hpl' : ((starEach (e :: es) (envF F f s.heap.objs.size) |> backTo p3).any (·.1)) = false := by
    rw [hse]
    show (false || (backTo p3 (starEach es (envF F f s.heap.objs.size))).any (·.1)) = false
    rw [hpl]
    rfl
  refine PySem.W.kxs_callWith (i := "ValueError.__init__") (x := a) hpl' ?_
  have hrun := hpa.run p3 _ _ _ _ _ I4 hq
  rw [show (ncx CX P w K mg base N F f A outer s H E).env = envF F f s.heap.objs.size from rfl, hse] at hrun
  rw [hse]
  refine Calls.evalArgs_plain (wpAny_mono hrun (fun us s4 ⟨vs', H4, I5, r5, hl5, ea5, q5⟩ => ⟨?_, ?_⟩) fun _ _ z => z)
  · exact (I5.pin (h2.objs.size, PySem.W.kxs_mw "ValueError.__init__" a) (List.mem_append_right _ (by simp))).1
  · refine omw_ok T I5 (by simp) ea5 (by show us.length ≤ sizeLine; rw [← Paired.length r5, sizeLine_eq]; omega) fun s5 I6 => ?_
    refine wpAt_of_wpAny (wpAny_mono (hps.run _ s5 _ H4 _ I6 q5) (fun fl s' hs => ?_) fun _ _ z => z)
    cases fl with
    | ret u =>
      obtain ⟨v, σ', H', J, rv, q⟩ := hs
      exact fin (J.pins_of (pins' := []) (fun p hp => absurd hp (by simp))) rv q
    | next =>
      obtain ⟨σ', H', J, q⟩ := hs
      exact fin (v := V.non) (u := Value.none) (J.pins_of (pins' := []) (fun p hp => absurd hp (by simp))) rfl q
    | brk =>
      obtain ⟨_, _, _, q⟩ := hs
      exact False.elim q
    | cont =>
      obtain ⟨_, _, _, q⟩ := hs
      exact False.elim q
end
end L3

namespace L3
open PySem L2 PySem.Spec PyProof.Rows NdefX
/-! an own exception with fields: its __init__, kept as a promise -/
/-- self.f1 = y1; ..: the dict at the end, the last field first -/
def spI (C : Addr) (fs : List Str) : Sp := fun vs H Q _ => ∃ (a : Addr) (ys : List V), vs = .ref a :: ys ∧ ys.length = fs.length ∧ H a = some (exo a C none) ∧
  ∀ (dx : Addr) (H2 : Hp), H dx = none → dx ≠ a → H2 = upd (upd H dx (exd dx (fs.zip ys).reverse)) a (exo a C (some dx)) → Q .non H2
/-- raise C(e, ..) -/
def lRaise (Cl : Addr) (fs : List Str) (la : LA) : LS := fun L ρ M => la ρ M (fun ds M1 => ∃ es : List D, ds = es.map DV.dat ∧ es.length = fs.length ∧ es.length ≤ 900 ∧ L.ex ⟨Cl, (fs.zip es).reverse⟩ ρ M1) (L.px ρ)
section
variable {C : Cn} {W : WX} {ta : TA} {la : LA} {Cl : Addr} {fs : List Str}
theorem zip_paired {K : PySem.W.Frag} {N : Addr → Prop} {H : Hp} : ∀ {fs : List Str} {ys : List V} {es : List D}, VDs K N H ys es → Paired (fun (p : Str × V) (q : Str × D) => p.1 = q.1 ∧ VD K N H p.2 q.2) (fs.zip ys) (fs.zip es)
  | [], _, _, _ => .nil
  | _ :: _, _, _, .nil => .nil
  | _ :: _, _, _, .cons a b => .cons ⟨rfl, a⟩ (zip_paired b)
theorem paired_app {α β : Type} {R : α → β → Prop} : ∀ {xs xs' : List α} {ys ys' : List β}, Paired R xs ys → Paired R xs' ys' → Paired R (xs ++ xs') (ys ++ ys')
  | _, _, _, _, .nil, h => h
  | _, _, _, _, .cons a b, h => .cons a (paired_app b h)
theorem paired_rev {α β : Type} {R : α → β → Prop} : ∀ {xs : List α} {ys : List β}, Paired R xs ys → Paired R xs.reverse ys.reverse
  | _, _, .nil => .nil
  | _, _, .cons a b => by
    rw [List.reverse_cons, List.reverse_cons]
    exact paired_app (paired_rev b) (.cons a .nil)
theorem lo_raise (ha : LoA C W ta la) : LoS C W (fun _ σ H => tMkO Cl (spI Cl fs) [] ta σ H fun cls d H' => W cls d σ H') (lRaise Cl fs la) := fun L ρ M h Z D σ H α vs r d =>
  ha.bind h vs r (d.wk vs) fun us H1 α1 ds M1 s1 r1 q1 h1 vs1 wk1 => by
    obtain ⟨es, rfl, hl, h9, p⟩ := h1
    have qd := VRs.data q1
    refine ⟨by rw [qd.length]; omega, fun a na => ⟨a, us, by rw [List.append_nil], by rw [qd.length]; exact hl, upd_same, fun dx H2 hdx ne e2 => ?_⟩⟩
    subst e2
    have nd1 : H1 dx = none := by rw [upd_ne ne] at hdx; exact hdx
    refine ⟨rfl, dx, (fs.zip us).reverse, upd_same, by rw [upd_ne ne, upd_same], nd1, ?_⟩
    have eH : upd (L2.del (upd (upd (upd H1 a (exo a Cl none)) dx (exd dx (fs.zip us).reverse)) a (exo a Cl (some dx))) a) dx (.xd (fs.zip us).reverse) = upd H1 dx (.xd (fs.zip us).reverse) := by
      funext b
      by_cases hb : b = dx
      · subst hb; rw [upd_same, upd_same]
      · rw [upd_ne hb, upd_ne hb]
        by_cases hba : b = a
        · subst hba; rw [L2.del_same]; exact na.symm
        · rw [L2.del_ne hba, upd_ne hba, upd_ne hb, upd_ne hba]
    rw [eH]
    obtain ⟨r2, s2⟩ := r1.new1 (o := .xd (fs.zip us).reverse) nd1
    refine d.ex _ _ σ _ α1 ρ M1 ⟨Cl, (fs.zip es).reverse⟩ (s1.trans s2) (vs1.step s2) r2 ⟨rfl, .inr ⟨dx, _, rfl, upd_same, r1.fresh nd1, ?_⟩⟩ p
    exact paired_rev (zip_paired (qd.mv s2.mv))
end
theorem Vals.nil_of {ds : List Value} : Vals ([] : List V) ([] : List Value) := .nil
/-! an instance of an own class of exceptions, made where nothing is handled -/
section
variable {X : Cx} {CX : CXT} {x : Str} {e : Expr} {es : List Expr} {ta : TA} {p pos : Pos} {C fI : Addr} {k : Nat} {fd : FuncData} {ps : List Str} {sp : Sp} {ds : List Value} {dvs : List V}
theorem pmk_oex (T : OexC X.K C) (iC : PySem.W.findIn X.K (.ref C) "__init__" = some (some (.ref fI))) (tI : PySem.W.typeIn X.K (.ref fI) = some (.type "function"))
    (F1 : FnOk X.prog X.w X.K X.mg X.base CX k fI fd ps sp) (hr : Room (k + 1) X.A) (hb : Binds X.K fd ps ds) (hd : Vals dvs ds) (hx : Passes CX X (fun _ _ _ => False)) (hg : Gl X x) (hm : X.mg x = some (.ref C)) (ha : PA X (e :: es) ta)
    (hdb : (x == ("__debug__" : Str)) = false := by decide) (he : starEach (e :: es) X.env = (false, eval e X.env) :: starEach es X.env := by rfl) (hpl : (backTo pos (starEach es X.env)).any (·.1) = false := by rfl) : PMk X (.Call (.Name x p) (e :: es) [] pos) (tMkO C sp dvs ta) := fun pins s σ H Q I h => by
  obtain ⟨_, _, _, _, bm, _, _, _, _, _, _, _, _, _, _, hC, hbm⟩ := T.cls
  refine wpAny_Call_Name_kw (ld_glob I hg hm ?_ hdb)
  refine PySem.W.callWith_K (h₀ := X.base) I.ok.mod.kin T.kC (thn (ha.run pos pins s σ H _ I h) fun us s1 hq1 => ?_) he hpl
  obtain ⟨vs, H1, I1, r1, _, q1⟩ := hq1
  refine ⟨I1.kIn, ?_⟩
  show wpAny _ _ (call (.ref C) us) _ _ _
  obtain ⟨hp, g, dr, tk, os⟩ := s1
  have ge : hp.objs.size ≤ hp.objs.size + 1 := Nat.le_succ _
  have hq := q1 (hp.objs.size + 1) (I1.hok.fresh ge)
  have at1 : ((hp.push (PySem.W.kdv_tup us)).push (PySem.HandSPX.excO C hp.objs.size)).get? (hp.objs.size + 1) = some (PySem.HandSPX.excO C hp.objs.size) := by heap_get
  have kp : ∀ b o, hp.get? b = some o → ((hp.push (PySem.W.kdv_tup us)).push (PySem.HandSPX.excO C hp.objs.size)).get? b = some o := fun b o z => Heap.get?_push_of_some _ (Heap.get?_push_of_some _ z)
  have J : Inv X pins σ (upd H1 (hp.objs.size + 1) (exo (hp.objs.size + 1) C none)) ⟨(hp.push (PySem.W.kdv_tup us)).push (PySem.HandSPX.excO C hp.objs.size), g, dr, tk, os⟩ := I1.laid (t' := tk) kp ge (exo_ok at1)
  have rv : Vals (V.ref (hp.objs.size + 1) :: (vs ++ dvs)) (Value.ref (hp.objs.size + 1) :: (us ++ ds)) := .cons rfl (r1.append hd)
  have hl : (Value.ref (hp.objs.size + 1) :: us ++ ds).length = ps.length := (show _ = _ from rv.length).symm.trans (F1.len _ _ _ _ hq)
  have small : us.length ≤ sizeLine := by rw [← Paired.length r1, sizeLine_eq]; omega
  refine wpAny_call (PySem.HandSPX.call_own F.excBase_ValueError (fun Y => PySem.HandSPX.refsVE_contains Y bm hbm) (I1.kIn _ _ hC) (PySem.W.looks_findIn I1.kIn iC) (fun self => PySem.W.bind_fn I1.kIn self tI) small ?_)
  refine codeAny_mono (F1.run _ X.stack _ _ ⟨Value.ref (hp.objs.size + 1) :: us, []⟩ (Value.ref (hp.objs.size + 1) :: (us ++ ds)) _ _ (fun _ _ _ => False) (hr.make C us []) (J.env0.make C us []) (hb _ _ J.kIn hl) rv hq) fun r s' z => ?_
  match r, z with
  | .error er, z => exact hx pins σ _ _ er s' J z
  | .ok (.ret u), z =>
    obtain ⟨v, H2, os2, bare2, un2, hok2, ru, ev, d, fs, ea, ed, hd1, q2⟩ := z
    subst ev
    obtain ⟨h2, g2, d2, t2, os'⟩ := s'
    obtain ⟨t0, G, J2, kG, gn, hoe, na⟩ := mk_end0 (d2 := d2) (t2 := t2) I1 ge kp un2 hok2 os2 bare2 ea ed hd1
    exact ⟨ru, hp.objs.size + 1, _, _, ⟨G, g2, d2, t2, os'⟩, _, .ref C, some d, rfl, J2, kG, gn, hoe, ⟨rfl, rfl, fun vs hv => by cases hv; rfl⟩, rfl, rfl, na, rfl, bare2, raises_own T.exC T.tyC, q2⟩
  | .ok .next, z => exact False.elim z
  | .ok .brk, z => exact False.elim z
  | .ok .cont, z => exact False.elim z
end
/-- what a class of own exceptions with fields must have, to be made -/
structure OexM (X : Cx) (Cl fI : Addr) (fd : FuncData) (ps : List Str) (fs : List Str) (k : Nat) : Prop where
  T : OexC X.K Cl
  iC : PySem.W.findIn X.K (.ref Cl) "__init__" = some (some (.ref fI))
  tI : PySem.W.typeIn X.K (.ref fI) = some (.type "function")
  F : FnOk X.prog X.w X.K X.mg X.base CX0 k fI fd ps (spI Cl fs)
  B : Binds X.K fd ps []
section
variable {X : Cx} {C : Cn} {W : WX} {ta : TA} {la : LA} {Cl fI : Addr} {fd : FuncData} {ps fs : List Str} {k : Nat} {x : Str} {e : Expr} {es : List Expr} {p pos pos2 : Pos}
theorem lps_raise (hc : X.calm = true) (tk : Takes X W) (M : OexM X Cl fI fd ps fs k) (hr : Room (k + 1) X.A) (hg : Gl X x) (hm : X.mg x = some (.ref Cl)) (ha : LPA X C W (e :: es) ta la)
    (hdb : (x == ("__debug__" : Str)) = false := by decide) (he : starEach (e :: es) X.env = (false, eval e X.env) :: starEach es X.env := by rfl) (hpl : (backTo pos (starEach es X.env)).any (·.1) = false := by rfl) :
    LPS X C W (.Raise (some (.Call (.Name x p) (e :: es) [] pos)) none pos2) (fun _ σ H => tMkO Cl (spI Cl fs) [] ta σ H fun cls d H' => W cls d σ H') (lRaise Cl fs la) :=
  ⟨ps_raise hc tk (pmk_oex M.T M.iC M.tI M.F hr M.B .nil pass0 hg hm ha.pa hdb he hpl), lo_raise ha.lo⟩
end
/-! raise C() of an own class without fields -/
section
variable {X : Cx} {C : Cn} {W : WX} {Cl : Addr} {bmB : List Value} {B newId initId : String} {x : Str} {p pos pos2 : Pos}
theorem pmk_bare (F : ExcBaseFacts B newId initId bmB) (q : PySem.W.excIn X.K Cl bmB newId = true) (gC : X.mg x = some (.ref Cl)) (kC : PySem.W.keepIn X.K (.ref Cl) = true) (r : Raises X (.ref Cl)) (hg : Gl X x)
    (hdb : (x == ("__debug__" : Str)) = false := by decide) : PMk X (.Call (.Name x p) [] [] pos) (fun _ H Q => Q (.ref Cl) none H) := fun pins s σ H Q I h => by
  refine wpAny_Call_Name_kw (ld_glob I hg gC ?_ hdb)
  refine PySem.W.callWith_K0 I.kIn kC ?_
  obtain ⟨bm, N, nm, qn, bs, hdct, sn, sub, ab, col, dd, k0, k1, k2, k3, k5, mN, hC, hN, hni, T⟩ := exc_obj I.kIn q
  exact wpAny_call_exc_subT F T hC hN hni (fun h' e hm => mk_of I hm r h (I.hok.gone hm.new)) (by show 0 ≤ sizeLine; omega)
def lRaise0 (Cl : Addr) : LS := fun L ρ M => L.ex ⟨Cl, []⟩ ρ M
theorem lps_raise0 (hc : X.calm = true) (tk : Takes X W) (F : ExcBaseFacts B newId initId bmB) (q : PySem.W.excIn X.K Cl bmB newId = true) (gC : X.mg x = some (.ref Cl)) (kC : PySem.W.keepIn X.K (.ref Cl) = true) (r : Raises X (.ref Cl)) (hg : Gl X x)
    (hdb : (x == ("__debug__" : Str)) = false := by decide) : LPS X C W (.Raise (some (.Call (.Name x p) [] [] pos)) none pos2) (fun _ σ H => W (.ref Cl) none σ H) (lRaise0 Cl) :=
  ⟨ps_raise (t := fun _ H Q => Q (.ref Cl) none H) hc tk (pmk_bare F q gC kC r hg hdb), fun L ρ M h Z D σ H α vs r d => d.ex _ _ σ H α ρ M ⟨Cl, []⟩ Step.refl vs r ⟨rfl, .inl ⟨rfl, rfl⟩⟩ h⟩
end
end L3

namespace L3
open PySem L2 PySem.Spec PyProof.Rows NdefX
/-! try: body / except X as n: suite -/
/-- the slot's value: the caught exception -/
def excD (a : Addr) (x : LX) (d : Option Addr) : DV := .dat (.exc a x.cls d (x.fs.map (·.1)) (x.fs.map (·.2)))
def lTryAs (tab : List (Addr × Bool)) (i : Nat) (lb : LS) (ls : Addr → Value → Option Addr → LS) : LS := fun L ρ M => lb { L with ex := fun x ρ' M' => ∃ b, (x.cls, b) ∈ tab ∧
  (b = true → ∀ a d, ls a (.ref x.cls) d { nx := fun ρ2 M2 => L.nx (ρ2.set i none) M2, rt := L.rt, bk := fun ρ2 M2 => L.bk (ρ2.set i none) M2, ct := fun ρ2 M2 => L.ct (ρ2.set i none) M2 } (ρ'.set i (some (excD a x d))) M') ∧
  (b = false → L.ex x ρ' M') } ρ M
theorem VS.clr {C : Cn} {α : List Addr} {H : Hp} {σ : L2.St} {ρ : Rho} (vs : VS C α H σ ρ) (i : Nat) : VS C α H (σ.set i none) (ρ.set i none) := by
  refine ⟨by rw [List.length_set, List.length_set]; exact vs.len, fun j d h => ?_⟩
  by_cases e : j = i
  · subst e
    by_cases hl : j < ρ.length
    · rw [List.getElem?_set_self hl] at h; cases h
    · rw [List.getElem?_eq_none (by rw [List.length_set]; omega)] at h; cases h
  · rw [List.getElem?_set_ne (Ne.symm e)] at h
    rw [List.getElem?_set_ne (Ne.symm e)]
    exact vs.get j d h
theorem paired_vds {K : PySem.W.Frag} {N : Addr → Prop} {H : Hp} : ∀ {ps : List (Str × V)} {fs : List (Str × D)}, Paired (fun (p : Str × V) (q : Str × D) => p.1 = q.1 ∧ VD K N H p.2 q.2) ps fs →
    ps = (fs.map (·.1)).zip (ps.map (·.2)) ∧ (fs.map (·.1)).length = (ps.map (·.2)).length ∧ VDs K N H (ps.map (·.2)) (fs.map (·.2))
  | [], [], .nil => ⟨rfl, rfl, .nil⟩
  | (n, v) :: ps, (m, d) :: fs, .cons ⟨e, q⟩ t => by
    obtain ⟨h1, h2, h3⟩ := paired_vds t
    have e' : n = m := e
    subst e'
    refine ⟨?_, ?_, .cons q h3⟩
    · show (n, v) :: ps = (n, v) :: (fs.map (·.1)).zip (ps.map (·.2))
      rw [← h1]
    · show (fs.map (·.1)).length + 1 = (ps.map (·.2)).length + 1
      rw [h2]
theorem XR.val {C : Cn} {α : List Addr} {H : Hp} {cls : Value} {d : Option Addr} {x : LX} (r : XR C α H cls d x) (a : Addr) : VR C α H (.ref a) (excD a x d) := by
  obtain ⟨_, ⟨h1, h2⟩ | ⟨dd, ps, h1, h2, h3, h4⟩⟩ := r
  · subst h2
    show VD C.K (C.N α) H (.ref a) (.exc a x.cls none (x.fs.map (·.1)) (x.fs.map (·.2)))
    rw [h1]
    exact .exc0 a x.cls
  · subst h1
    obtain ⟨e1, e2, e3⟩ := paired_vds h4
    exact .excD h2 h3 e1 e2 e3
section
variable {X : Cx} {C : Cn} {Wout : WX} {x n : Str} {Cl : Addr} {i : Nat} {body suite : List Stmt} {b₀ : Stmt} {np pos pos' : Pos} {tb : WX → TS} {ts : Addr → Value → Option Addr → TS} {lb : LS} {ls : Addr → Value → Option Addr → LS} {tab : List (Addr × Bool)}
theorem takes_noOk {X : Cx} {W : WX} (h : ¬ X.Ok) : Takes X W := fun _ _ ⟨_, _, _, _, _, _, _, _, _, I, _⟩ => absurd I.ok h
theorem lps_tryAs (hs : X.stack = X.env :: X.outer) (hf : X.env.frame = some X.env.locals) (hN : X.N.Nodup) (hi : X.N[i]? = some n) (hln : X.env.kindOf n = some .local) (hc : Names X x (.ref Cl)) (tk : Takes X Wout) (hK : X.K = C.K)
    (htab : ∀ p ∈ tab, PySem.W.exmOne X.K (.ref p.1) (.ref Cl) = some p.2)
    (hb : ∀ (W : WX) (pn : List (Addr × Obj)) (xe : Value → Shared → Prop) (ex : List Addr), Takes { X with pn := pn, xe := xe, ex := ex } W → PassesOwn (model X.prog X.w) X.A X.env xe → LPSs { X with pn := pn, xe := xe, ex := ex } C W body (tb W) lb)
    (hsu : ∀ (a : Addr) (oe : Obj) (cls : Value) (d : Option Addr) (pn : List (Addr × Obj)), Zc cls d oe → (∃ vs, oe.data = .fields vs) → LPSs (X.suite a ((a, oe) :: pn)) C W0 (b₀ :: suite) (ts a cls d) (ls a cls d)) :
    LPS X C Wout (.Try body [.ExceptHandler (some (.Name x np)) (some n) (b₀ :: suite) pos'] [] [] pos) (fun D σ H => tb (wAs X.K (.ref Cl) i ts Wout D) D σ H) (lTryAs tab i lb ls) := by
  refine ⟨ps_try_as hs hf hN hi hln hc tk (fun W pn xe t p => (hb W pn xe X.ex t p).ps) (fun a oe cls d pn z f => (hsu a oe cls d pn z f).ps), fun L ρ M h Z D σ H α vs r d => ?_⟩
  have q := (hb (wAs X.K (.ref Cl) i ts Wout D) [] (fun _ _ => False) [X.env.locals] (takes_noOk fun ok => (ok.exf _ (List.mem_singleton.mpr rfl)).1 rfl) PassesOwn.never).lo
  refine q _ ρ M h Z D σ H α vs r ⟨d.nx, d.rt, d.bk, d.ct, fun cls dd σ1 H1 α1 ρ1 M1 y s1 vs1 r1 q1 g => ?_⟩
  obtain ⟨b, hm, hy, hn⟩ := g
  have ec := q1.1
  subst ec
  refine ⟨b, htab _ hm, fun e a na => ?_, fun e => d.ex _ _ σ1 H1 α1 ρ1 M1 y s1 vs1 r1 q1 (hn e)⟩
  refine (hsu a { cls := .ref y.cls, dict := dd, data := .fields #[.none, .none, .none] } _ dd [] ⟨rfl, rfl, fun vs e => by cases e; rfl⟩ ⟨_, rfl⟩).lo _ _ M1 (hy e a dd) Z _ _ H1 α1 (vs1.set i (q1.val a)) r1 ⟨fun σ2 H2 α2 ρ2 M2 s2 vs2 r2 p2 => d.nx _ H2 α2 _ M2 (s1.trans s2) (vs2.clr i) r2 p2, fun v H2 α2 z M2 s2 r2 q2 p2 => d.rt v H2 α2 z M2 (s1.trans s2) r2 q2 p2,
    fun σ2 H2 α2 ρ2 M2 s2 vs2 r2 p2 => d.bk _ H2 α2 _ M2 (s1.trans s2) (vs2.clr i) r2 p2, fun σ2 H2 α2 ρ2 M2 s2 vs2 r2 p2 => d.ct _ H2 α2 _ M2 (s1.trans s2) (vs2.clr i) r2 p2, fun _ _ _ _ _ _ _ _ _ _ _ _ h => h.elim⟩
end
/-! err.f in the suite -/
def lXf (a : Addr) (cls : Value) (d : Option Addr) (Cl : Addr) (f : Str) (le : LE) : LE := fun ρ M P PX => le ρ M (fun x M1 => ∃ (ns : List Str) (ds : List D) (v : D), x = .dat (.exc a Cl d ns ds) ∧ cls = .ref Cl ∧ (ns.zip ds).lookup f = some v ∧ P (.dat v) M1) PX
theorem lookup_zip {K : PySem.W.Frag} {N : Addr → Prop} {H : Hp} {f : Str} {d : D} : ∀ {ns : List Str} {xs : List V} {ds : List D}, VDs K N H xs ds → (ns.zip ds).lookup f = some d → ∃ v, (ns.zip xs).lookup f = some v ∧ VD K N H v d
  | [], _, _, _, e => by cases e
  | _ :: _, _, _, .nil, e => by cases e
  | n :: ns, x :: xs, c :: ds, .cons q t, e => by
    rw [List.zip_cons_cons, List.lookup_cons] at e ⊢
    split at e
    · cases e; exact ⟨x, rfl, q⟩
    · exact lookup_zip t e
section
variable {X : Cx} {C : Cn} {a Cl : Addr} {oe : Obj} {cls : Value} {d : Option Addr} {pn : List (Addr × Obj)} {e : Expr} {te : TE} {le : LE} {pos : Pos} {f : Str} {W : WX}
theorem lo_xf (h : LoE C W te le) : LoE C W (tXf a cls d Cl f te) (lXf a cls d Cl f le) := fun ρ M P PX g Z σ H α Q vs r kt wk =>
  h.bind g vs r wk fun v H1 α1 y M1 s1 r1 q1 h1 vs1 wk1 => by
    obtain ⟨ns, ds, z, rfl, ec, el, p⟩ := h1
    cases q1 with
    | exc0 => simp at el
    | excD h1 h2 h3 h4 h5 =>
      rename_i dd ps xs
      obtain ⟨v, ev, qv⟩ := lookup_zip h5 el
      subst h3
      exact ⟨rfl, ec, dd, _, v, rfl, h1, ev, kt _ H1 α1 (.dat z) M1 s1 r1 qv p⟩
theorem lp_xf (T : XfC X.K Cl) (hno : PySem.W.findIn X.K (.ref Cl) f = some none) (hz : Zc cls d oe) (hf : ∃ vs, oe.data = .fields vs) (he : LPE (X.suite a ((a, oe) :: pn)) C W e te le) (hb : attributeBase e f X.env (eval e X.env) = eval e X.env := by rfl) :
    LPE (X.suite a ((a, oe) :: pn)) C W (.Attribute e f pos) (tXf a cls d Cl f te) (lXf a cls d Cl f le) := ⟨pe_xf T hno hz.zc hf he.pe hb, lo_xf he.lo⟩
end
end L3

namespace L3
open PySem L2 PySem.Spec PyProof.Rows NdefX L2H
/-! a def that raises nothing and walks nothing: it may be called in an except suite, too -/
structure FnC (P : Program) (w : World) (K : PySem.W.Frag) (mg : Str → Option Value) (base : Heap) (k : Nat) (f : Addr) (fd : FuncData) (ps : List Str) (sp : Sp) : Prop where
  len : ∀ vs H Q E, sp vs H Q E → vs.length = ps.length
  run : ∀ (A : Around) (outer : List Env) (s : Shared) (H : Hp) (args : Args) (us : List Value) (vs : List V) (Q : VK) (E : XK), RoomH k A → Env0 P w K mg base A outer s H → BindsTo s fd args (ps.zip us) → Vals vs us → sp vs H Q E →
    codeAny (model P w) A (.call (.ref f) args) (CR CX0 outer P w H s Q E) s
section
variable {P : Program} {w : World} {K : PySem.W.Frag} {mg : Str → Option Value} {base : Heap}
/-- some object of the written part, as a pin -/
theorem some_pin {A : Around} {outer : List Env} {s : Shared} {H : Hp} (e0 : Env0 P w K mg base A outer s H) : ∃ p, PinOk outer H s p := by
  obtain ⟨o, es, ep, ho, hd, _⟩ := e0.mod.glob
  obtain ⟨h1, h2⟩ := e0.bs _ _ ho
  refine ⟨(mainGlobals, o), h1, h2, fun hm => ?_, fun v z => ?_⟩
  · obtain ⟨hn, _⟩ := e0.funs.mem hm
    rw [ho] at hn
    cases hn
  · have z' : o.data = .cell v := z
    rw [hd] at z'
    cases z'
theorem okLC {x qual : Str} {st : Stmt} {f : Addr} {fd : FuncData} {N ps : List Str} {k : Nat} {T : Tb} {lsp : LSp} (F : Fun K x qual st f fd) (S : FnScope N ps (defScope st)) (len : ∀ ds M P PX, lsp ds M P PX → ds.length = ps.length)
    (hbody : ∀ (cdv : Value) (A : Around) (outer : List Env) (s : Shared) (H : Hp) (E : XK) (p : Addr × Obj), RoomH k (A.deeper (PyProof.Rows.envOfC qual (defScope st) s.heap.objs.size f cdv)) →
      ∃ ts l, LPSs (cxH CX0 P w K mg base N qual (defScope st) f cdv A outer s H E p).nox ⟨K, T, []⟩ W0 (defBody st) ts l ∧ ∀ ds M Pd PX, lsp ds M Pd PX → l { nx := fun _ M' => DropD M.length Pd .non M', rt := DropD M.length Pd } (startL N ds) M) :
    FnC P w K mg base (k + 1) f fd ps (low K T lsp) := by
  obtain ⟨oc, od, kV, doc, pm, an, cdv, ct, osl, rfl, lk, hcd⟩ := F.ex
  have len' : ∀ vs H Q E, low K T lsp vs H Q E → vs.length = ps.length := fun vs H Q E h => by
    obtain ⟨Z, α, ds, M, Pd, PX, _, r, h, _⟩ := h
    rw [VRs.length r]
    exact len _ _ _ _ h
  refine ⟨len', fun A outer s H args us vs Q E hr e0 hb r hsp => ?_⟩
  obtain ⟨p, hpin⟩ := some_pin e0
  have hl := len' _ _ _ _ hsp
  have KX : K.In s.heap := e0.mod.kin.keeps fun b o e => (e0.bs b o e).1
  have lim : s.heap.NoLimit := e0.mod.nolimit.keeps fun b o e => (e0.bs b o e).1
  refine codeAny_call_function hr.depth (KX _ _ lk) rfl S.co S.gen rfl (PySem.W.codeRec_of KX hcd) (hb _ _ _ _ ?_)
  refine wpAny_newFunctionEnv_cells S.kind (fun y hy => (S.par y.1 (List.of_mem_zip hy).1).imp id fun q => ⟨q, PySem.W.cellsFrom_some _ _ _ (.inl q)⟩) fun env he s1 x => ?_
  subst he
  refine ⟨lim.keeps x.toInCall.keep, codeAny_func ?_⟩
  obtain ⟨Z, α, ds, M, Pd, PX, rs, rd, h, kt, _⟩ := hsp
  obtain ⟨ts, l, hp, hl2⟩ := hbody cdv A outer s H E p (hr.deeper _)
  have q := hp.lo _ _ _ (hl2 ds M Pd PX h) Z { nx := fun _ H' => Q .non H', rt := Q } _ H α (start_vs rd) rs (ends_top rs.hr.len kt W0 _ fun _ _ _ _ _ _ _ _ _ _ _ _ h => h)
  have I : Inv (cxH CX0 P w K mg base N qual (defScope st) f cdv A outer s H E p) [] (L2.start N vs) H s1 := inv_startH S hpin e0 hl r x
  refine wpAny_mono (hp.ps.nox.run [] s1 _ H _ I q) (fun fl s' hs => ?_) fun e s' hs => hs
  have fin : ∀ {σ' : L2.St} {H' : Hp} {v : V} {u : Value}, Inv (cxH CX0 P w K mg base N qual (defScope st) f cdv A outer s H E p) [] σ' H' s' → L2.RelV v u → Q v H' → CE outer P w H s Q u s' :=
    fun {σ' H' v u} J rv q => ⟨v, H', J.os, J.bare, J.base, J.hok, rv, q⟩
  rcases fl with _ | _ | _ | u
  · obtain ⟨σ', H', J, q⟩ := hs
    exact fin (v := V.non) (u := Value.none) J rfl q
  · obtain ⟨_, _, _, q⟩ := hs
    exact False.elim q
  · obtain ⟨_, _, _, q⟩ := hs
    exact False.elim q
  · obtain ⟨v, σ', H', J, rv, q⟩ := hs
    exact fin J rv q
theorem FnC.mono {j k : Nat} {f : Addr} {fd : FuncData} {ps : List Str} {sp : Sp} (F : FnC P w K mg base j f fd ps sp) (h : j ≤ k) : FnC P w K mg base k f fd ps sp := ⟨F.len, fun A outer s H args us vs Q E hr => F.run A outer s H args us vs Q E (hr.mono h)⟩
end
section
variable {X : Cx} {C : Cn} {W : WX} {k : Nat} {f : Addr} {fd : FuncData} {ps : List Str} {sp : Sp} {lsp : LSp} {x : Str} {q pos : Pos} {e : Expr} {es : List Expr} {t : TA} {la : LA}
theorem pe_callC (F : FnC X.prog X.w X.K X.mg X.base k f fd ps sp) (hr : RoomH k X.A) (hg : Gl X x) (hm : X.mg x = some (.ref f)) (hk : PySem.W.keepIn X.K (.ref f) = true) (hb : Binds X.K fd ps [])
    (ha : PA X (e :: es) t) (hdb : (x == ("__debug__" : Str)) = false := by decide) (he : starEach (e :: es) X.env = (false, eval e X.env) :: starEach es X.env := by rfl) (hpl : (backTo pos (starEach es X.env)).any (·.1) = false := by rfl) :
    PE X (.Call (.Name x q) (e :: es) [] pos) (tCall sp [] E0 t) := ⟨fun pins s σ H Q I h => wpAny_Call_Name_kw (ld_glob I hg hm
      (PySem.W.callWith_K (h₀ := X.base) I.ok.mod.kin hk (thn (ha.run pos pins s σ H _ I h) fun us s1 ⟨vs, H1, I1, r, z⟩ => ⟨I1.kIn, by
        have z : sp (vs ++ []) H1 Q E0 := z
        rw [List.append_nil] at z
        show wpAny _ _ (call (.ref f) us) _ _ _
        have hl : us.length = ps.length := by rw [← r.length]; exact F.len _ _ _ _ z
        have b := hb s1 us I1.kIn (by rw [List.append_nil]; exact hl)
        rw [List.append_nil] at b
        refine wpAny_call (codeAny_mono (F.run X.A X.stack s1 H1 ⟨us, []⟩ us vs Q E0 hr I1.env0 b r z) fun r s' hq => ?_)
        rcases r with er | (_ | _ | _ | u)
        · exact pass0 pins σ H1 s1 er s' I1 hq
        · exact False.elim hq
        · exact False.elim hq
        · exact False.elim hq
        · exact I1.after hq⟩) he hpl) hdb)⟩
theorem lp_callC_k0 (F : FnC X.prog X.w X.K X.mg X.base k f fd ps (low X.K C.T lsp)) (hK : X.K = C.K) (hr : RoomH k X.A) (hg : Gl X x) (hm : X.mg x = some (.ref f)) (hk : PySem.W.keepIn X.K (.ref f) = true) (hb : Binds X.K fd ps [])
    (ha : LPA X C W (e :: es) t la) (hdb : (x == ("__debug__" : Str)) = false := by decide) (he : starEach (e :: es) X.env = (false, eval e X.env) :: starEach es X.env := by rfl) (hpl : (backTo pos (starEach es X.env)).any (·.1) = false := by rfl) :
    LPE X C W (.Call (.Name x q) (e :: es) [] pos) (tCall (low X.K C.T lsp) [] E0 t) (lCall lsp la) := ⟨pe_callC F hr hg hm hk hb ha.pa hdb he hpl, by rw [hK]; exact lo_call ha.lo⟩
theorem lp_callC (F : FnC X.prog X.w X.K X.mg X.base k f fd ps (low X.K C.T lsp)) (hK : X.K = C.K) (hr : RoomH k X.A) (hg : Gl X x) (hm : X.mg x = some (.ref f)) (hk : PySem.W.keepIn X.K (.ref f) = true) (hb : Binds X.K fd ps [])
    (ha : LPA X C W (e :: es) t la) (hdb : (x == ("__debug__" : Str)) = false := by decide) (he : starEach (e :: es) X.env = (false, eval e X.env) :: starEach es X.env := by rfl) (hpl : (backTo pos (starEach es X.env)).any (·.1) = false := by rfl) :
    LPE X C W (.Call (.Name x q) (e :: es) [] pos) (tCall (low C.K C.T lsp) [] E0 t) (lCall lsp la) := by
  rw [← hK]
  apply lp_callC_k0 <;> assumption
end
theorem roomH_m {k : Nat} {A : Around} (r : Room k A) (h : Option Value) : RoomH k (A.mark h) := ⟨r.dp, r.un⟩
theorem huH_of {k : Nat} {A : Around} (r : RoomH k A) : A.units + 1 < cLine := by have := r.un; omega
theorem huH65 {k : Nat} {A : Around} (r : RoomH k A) : A.units + 65 < cLine := by have := r.un; omega
theorem RoomH_units {k : Nat} {A : Around} (r : RoomH k A) : A.units + 64 < cLine := by have := r.un; omega
end L3

namespace L3
open PySem L2 PySem.Spec PyProof.Rows NdefX L2H
/-! what the written part tells of a class of own exceptions over ValueError -/
structure ExC (K : PySem.W.Frag) (mg : Str → Option Value) (x : Str) (Cl : Addr) : Prop where
  g : mg x = some (.ref Cl)
  T : OexC K Cl
  xf : XfC K Cl
theorem ExC.raises {X : Cx} {x : Str} {Cl : Addr} (E : ExC X.K X.mg x Cl) : Raises X (.ref Cl) := raises_own E.T.exC E.T.tyC
/-- .. with an own __init__(self, p) that says super().__init__(p), self.p = p -/
structure Ex1 (P : Program) (K : PySem.W.Frag) (mg : Str → Option Value) (st : Stmt) (x qual p : Str) (Cl f : Addr) (fd : FuncData) : Prop where
  ex : ∃ (oc dV kV doc pm ct : Value) (od an : Option Addr) (osl : Array (Option Value)) (cc c : Addr), fd = PySem.W.fnX "__init__" qual (defArgs st) (defBody st) (defScope st) [(("__class__" : Str), cc)] dV kV doc pm an (.ref c) ct ∧
    K.lookup f = some ⟨oc, od, .func fd, osl⟩ ∧ PySem.W.codeIn K (.ref c) qual = true ∧ SupC P K Cl cc c
  tI : PySem.W.typeIn K (.ref f) = some (.type "function")
  iC : PySem.W.findIn K (.ref Cl) "__init__" = some (some (.ref f))
  hno : PySem.W.findIn K (.ref Cl) p = some none
  B : Binds K fd ["self", p] []
section
variable {P : Program} {w : World} {K : PySem.W.Frag} {mg : Str → Option Value} {base : Heap} {st : Stmt} {x qual p : Str} {Cl f : Addr} {fd : FuncData} {k : Nat} {ar : Arg} {p0 p1 p2 p3 p4 q1 q2 q3 q4 q5 : Pos}
theorem Ex1.ok (E : Ex1 P K mg st x qual p Cl f fd) (G : ExC K mg x Cl) (S : NScope ["self", p, "__class__"] ["self", p] ["__class__"] (defScope st)) (hsup : mg "super" = none) (hks : (defScope st).names.lookup ("super" : Str) = some .globalImplicit)
    (hp : ((defArgs st).posonlyargs ++ (defArgs st).args).head? = some ar) (har : ar.arg = "self") (hd : (p == ("__debug__" : Str)) = false) (hd2 : (p == ("__classdict__" : Str)) = false)
    (hb : defBody st = [.Expr (.Call (.Attribute (.Call (.Name "super" p0) [] [] p1) "__init__" p2) [.Name p q1] [] p3) p4, .Assign [.Attribute (.Name "self" q2) p q3] (.Name p q4) q5])
    {pl : Env → Sem Bool} (hev : ∀ env : Env, eval (.Call (.Attribute (.Call (.Name "super" p0) [] [] p1) "__init__" p2) [.Name p q1] [] p3) env = (do
      let ov ← attributeBase (.Call (.Name "super" p0) [] [] p1) "__init__" env (eval (.Call (.Name "super" p0) [] [] p1) env)
      standAt p2.atName
      let (f, first) ← holding [ov] (getMethod ov "__init__" (pl env))
      callWith p3 f first (backTo p3 (starEach [.Name p q1] env)) [])) :
    FnOk P w K mg base CX0 (k + 1) f fd ["self", p] (spI Cl [p]) := by
  obtain ⟨oc, dV, kV, doc, pm, ct, od, an, osl, cc, c, rfl, lk, hcd, SC⟩ := E.ex
  refine fn_super (F := ⟨"__init__", qual, defArgs st, defBody st, defScope st, [(("__class__" : Str), cc)], c⟩) (ps := [p]) lk hcd S rfl SC hp har hks hsup G.T hb (fun vs H Q E h => ?_) (fun A outer s H vs Q Ex hr h => ?_) hev (fun _ _ _ => by show ((defScope st).kind == .module && _) = false; rw [S.kind]; rfl) (fun _ _ => rfl) (fun _ => rfl) (fun _ => rfl)
  · obtain ⟨a, ys, rfl, hl, _⟩ := h
    rw [List.length_cons, hl]
    rfl
  · obtain ⟨a, ys, rfl, hl, ea, h⟩ := h
    match ys, hl with
    | [y], _ =>
      have l0 : (defScope st).names.lookup ("self" : Str) = some .local := S.par _ (by simp)
      have l1 : (defScope st).names.lookup p = some .local := S.par _ (by simp)
      refine ⟨_, _, a, _, rfl, ea, pa_cons (pv 1 rfl (.inl l1) hd hd2) pa_nil rfl, pss_one (ps_ost (pv 0 rfl (.inl l0) (by decide) (by decide)) (pv 1 rfl (.inl l1) hd hd2) rfl), ?_⟩
      refine ⟨y, rfl, by show 1 ≤ 1000; decide, ea, ?_⟩
      refine ⟨y, rfl, .ref a, rfl, a, Cl, rfl, G.T, E.hno, .inl ⟨ea, fun dx nd ne => h dx _ nd ne rfl⟩⟩
theorem Ex1.m {X : Cx} (E : Ex1 X.prog X.K X.mg st x qual p Cl f fd) (G : ExC X.K X.mg x Cl) (S : NScope ["self", p, "__class__"] ["self", p] ["__class__"] (defScope st)) (hsup : X.mg "super" = none) (hks : (defScope st).names.lookup ("super" : Str) = some .globalImplicit)
    (hp : ((defArgs st).posonlyargs ++ (defArgs st).args).head? = some ar) (har : ar.arg = "self") (hd : (p == ("__debug__" : Str)) = false) (hd2 : (p == ("__classdict__" : Str)) = false)
    (hb : defBody st = [.Expr (.Call (.Attribute (.Call (.Name "super" p0) [] [] p1) "__init__" p2) [.Name p q1] [] p3) p4, .Assign [.Attribute (.Name "self" q2) p q3] (.Name p q4) q5])
    {pl : Env → Sem Bool} (hev : ∀ env : Env, eval (.Call (.Attribute (.Call (.Name "super" p0) [] [] p1) "__init__" p2) [.Name p q1] [] p3) env = (do
      let ov ← attributeBase (.Call (.Name "super" p0) [] [] p1) "__init__" env (eval (.Call (.Name "super" p0) [] [] p1) env)
      standAt p2.atName
      let (f, first) ← holding [ov] (getMethod ov "__init__" (pl env))
      callWith p3 f first (backTo p3 (starEach [.Name p q1] env)) [])) : OexM X Cl f fd ["self", p] [p] 1 :=
  ⟨G.T, E.iC, E.tI, E.ok (k := 0) G S hsup hks hp har hd hd2 hb hev, E.B⟩
end
/-! a def with a known code object that may raise -/
section
variable {P : Program} {w : World} {K : PySem.W.Frag} {mg : Str → Option Value} {base : Heap}
theorem okLXc {x qual : Str} {st : Stmt} {f c : Addr} {fd : FuncData} {N ps : List Str} {k : Nat} {T : Tb} {lsp : LSp} (F : Fun K x qual st f fd) (hc : fd.code = .ref c) (S : FnScope N ps (defScope st)) (len : ∀ ds M P PX, lsp ds M P PX → ds.length = ps.length)
    (hbody : ∀ (A : Around) (outer : List Env) (s : Shared) (H : Hp) (E : XK), Room k (A.deeper (PyProof.Rows.envOfC qual (defScope st) s.heap.objs.size f (.ref c))) →
      ∃ ts l, LPSs (cxOf (L2N.CX P w) P w K mg base N qual (defScope st) f (.ref c) A outer s H E) ⟨K, T, []⟩ (WF E) (defBody st) ts l ∧ ∀ ds M Pd PX, lsp ds M Pd PX → l { nx := fun _ M' => DropD M.length Pd .non M', rt := DropD M.length Pd, ex := DropX M.length PX } (startL N ds) M) :
    FnOk P w K mg base (L2N.CX P w) (k + 1) f fd ps (low K T lsp) := by
  obtain ⟨oc, od, kV, doc, pm, an, cdv, ct, osl, rfl, lk, hcd⟩ := F.ex
  cases (show cdv = .ref c from hc)
  refine fn_of lk hcd S (fun vs H Q E h => ?_) fun A outer s H vs Q E hr h => ?_
  · obtain ⟨Z, α, ds, M, Pd, PX, _, r, h, _⟩ := h
    rw [VRs.length r]
    exact len _ _ _ _ h
  · obtain ⟨Z, α, ds, M, Pd, PX, rs, r, h, kt, kx⟩ := h
    obtain ⟨ts, l, hp, hl⟩ := hbody A outer s H E hr
    exact ⟨ts, hp.ps, hp.lo _ _ _ (hl ds M Pd PX h) Z _ _ H α (start_vs r) rs (ends_top rs.hr.len kt (WF E) _ fun cls d σ H' α' ρ M' x s _ r q p => by
      rcases p with p | ⟨n, hn, hM, p⟩
      · exact kx cls d H' α' M' x s r q p
      · exact kx cls d H' (α'.take n) (M'.take n) x (s.drop (by rw [rs.hr.len]; exact hn)) (r.drop hM) q.drop p)⟩
end
theorem tab_nil {K : PySem.W.Frag} {c : Value} : ∀ p ∈ ([] : List (Addr × Bool)), PySem.W.exmOne K (.ref p.1) c = some p.2 := fun _ h => absurd h (by simp)
theorem tab_cons {K : PySem.W.Frag} {c : Value} {a : Addr} {b : Bool} {r : List (Addr × Bool)} (h : PySem.W.exmOne K (.ref a) c = some b) (t : ∀ p ∈ r, PySem.W.exmOne K (.ref p.1) c = some p.2) : ∀ p ∈ (a, b) :: r, PySem.W.exmOne K (.ref p.1) c = some p.2 := fun p hp => by
  rcases List.mem_cons.mp hp with rfl | hp
  · exact h
  · exact t p hp
/-- data in; data out, or an exception -/
def spX (pre : List D → Prop) (S : List D → D → Prop) (SX : List D → LX → Prop) : LSp := fun ds M P PX => ∃ as : List D, ds = as.map DV.dat ∧ M = [] ∧ pre as ∧ (∀ r, S as r → P (.dat r) []) ∧ ∀ x, SX as x → PX x []
theorem call_X {pre : List D → Prop} {S : List D → D → Prop} {SX : List D → LX → Prop} {xs : List DV} {as : List D} {M : Mem} {P : PD} {PX : PXn} (hd : Dats xs as) (hp : pre as) (k : ∀ r, S as r → P (.dat r) M) (kx : ∀ x, SX as x → PX x M) : CallAt (spX pre S SX) xs M P PX := by
  refine .inr ⟨[], as.map DV.dat, [], List.nodup_nil, by simp [okDV], ?_, rfl, rfl, as, rfl, rfl, hp, fun r hr => ?_, fun x hx => ?_⟩
  · rw [hd.eq, List.map_map]; exact List.map_congr_left fun e _ => rfl
  · show P (.dat r) (merge [] M [])
    rw [merge_nil]
    exact k r hr
  · show PX x (merge [] M [])
    rw [merge_nil]
    exact kx x hx
/-- scalars compared with themselves, in an except suite -/
def scV : D → Prop
  | .non => True
  | .bl _ => True
  | .int _ => True
  | .str _ => True
  | _ => False
def samePreH (as : List D) : Prop := ∃ d, as = [d, d] ∧ scV d
def spSameH : LSp := spP samePreH yesS
theorem call_sameH {d : D} {M : Mem} {P : PD} {PX : PXn} (h : scV d) (k : P (.dat (.bl true)) M) : CallAt spSameH [.dat d, .dat d] M P PX := call_P (.cons (.cons .nil)) ⟨d, rfl, h⟩ fun r e => by cases e; exact k
/-! steps -/
section
variable {ρ : Rho} {M : Mem} {L : LEnds} {P : PD} {PX : PXn}
theorem s_raise {Cl : Addr} {fs : List Str} {la : LA} (h : la ρ M (fun ds M1 => ∃ es : List D, ds = es.map DV.dat ∧ es.length = fs.length ∧ es.length ≤ 900 ∧ L.ex ⟨Cl, (fs.zip es).reverse⟩ ρ M1) (L.px ρ)) : lRaise Cl fs la L ρ M := h
theorem s_raise0 {Cl : Addr} (h : L.ex ⟨Cl, []⟩ ρ M) : lRaise0 Cl L ρ M := h
theorem s_exR1 {Cl : Addr} {f : Str} {d : D} (h : L.ex ⟨Cl, [(f, d)]⟩ ρ M) : ∃ es : List D, [DV.dat d] = es.map DV.dat ∧ es.length = ([f] : List Str).length ∧ es.length ≤ 900 ∧ L.ex ⟨Cl, (([f] : List Str).zip es).reverse⟩ ρ M := ⟨[d], rfl, rfl, by show 1 ≤ 900; decide, h⟩
theorem s_tryAs {tab : List (Addr × Bool)} {i : Nat} {lb : LS} {ls : Addr → Value → Option Addr → LS} (h : lb { L with ex := fun x ρ' M' => ∃ b, (x.cls, b) ∈ tab ∧
  (b = true → ∀ a d, ls a (.ref x.cls) d { nx := fun ρ2 M2 => L.nx (ρ2.set i none) M2, rt := L.rt, bk := fun ρ2 M2 => L.bk (ρ2.set i none) M2, ct := fun ρ2 M2 => L.ct (ρ2.set i none) M2 } (ρ'.set i (some (excD a x d))) M') ∧
  (b = false → L.ex x ρ' M') } ρ M) : lTryAs tab i lb ls L ρ M := h
theorem s_xf {a : Addr} {d : Option Addr} {Cl : Addr} {f : Str} {i : Nat} {ns : List Str} {ds : List D} {v : D} (e : ρ[i]? = some (some (.dat (.exc a Cl d ns ds)))) (hl : (ns.zip ds).lookup f = some v) (h : P (.dat v) M) : lXf a (.ref Cl) d Cl f (lVar i) ρ M P PX := ⟨_, e, ns, ds, v, rfl, rfl, hl, h⟩
end
theorem cls_in {K : PySem.W.Frag} {nm q : Str} {Cl N : Addr} {bs bm : List Value} {hdct : Bool} {sn : List Str} {sub : List Value} {ab : Bool} {col : Option Bool} {dd : Option Addr} {k0 k1 k2 k3 k5 : Option Value} {newId : String}
    (h : K.lookup Cl = some (excClassObj nm q Cl N bs bm hdct sn sub ab col dd k0 k1 k2 k3 k5 newId)) : ∃ cd, PySem.W.clsIn K Cl = some cd := by
  unfold PySem.W.clsIn
  rw [h]
  exact ⟨_, rfl⟩
end L3

namespace L3
open PySem L2 PySem.Spec PyProof.Rows NdefX
/-! isinstance(e, c) of the caught exception, its dict there or not -/
def rIsEd (K : PySem.W.Frag) (D a : Addr) (cls : Value) (d : Option Addr) (cv : Value) (b : Bool) : List V → Hp → VK → Prop := fun xs H Q => ∃ c : V, xs = [.ref a, c] ∧ (∀ u, RelV c u → u = cv) ∧ cls = .ref D ∧ PySem.W.kitOne K (.ref D) cv = some b ∧
  (d = none ∨ ∃ (dd : Addr) (ps : List (Str × V)), d = some dd ∧ H dd = some (.xd ps)) ∧ Q (.bl b) H
theorem call_isEd {X : Cx} {a D : Addr} {cls : Value} {d : Option Addr} {cv : Value} {b : Bool} {oe : Obj} {pn : List (Addr × Obj)} (C : ExcC X.K D) (hz : Zc cls d oe) (hf : ∃ vs, oe.data = .fields vs) : CallR (X.suite a ((a, oe) :: pn)) (.builtin "isinstance") (rIsEd X.K D a cls d cv b) := by
  intro pins s σ H xs us Q I r h
  obtain ⟨c, rfl, hcv, rfl, e, hd, q⟩ := h
  cases r with
  | cons rx rr =>
    cases rr with
    | cons rt rr =>
      cases rr
      cases rx
      have ec := hcv _ rt
      subst ec
      obtain ⟨hget, _⟩ := I.pin (a, oe) (List.mem_append.mpr (.inl List.mem_cons_self))
      obtain ⟨vs, hv⟩ := hf
      have J : ∃ od, PySem.W.InstAt s.heap a oe D od := by
        obtain ⟨oc, od, oda, osl⟩ := oe
        obtain ⟨h1, h2, _⟩ := hz
        dsimp only at h1 h2 hv
        subst h1 h2 hv
        rcases hd with rfl | ⟨dd, ps, rfl, hx⟩
        · exact ⟨none, hget, rfl, rfl, trivial⟩
        · obtain ⟨mA, hns, _⟩ := (show ObjOk X.prog X.w H s.heap dd (.xd ps) from I.hok dd _ hx)
          obtain ⟨o, es, ep, ho, _⟩ := hns
          exact ⟨some o, hget, rfl, rfl, ho⟩
      obtain ⟨od, J⟩ := J
      obtain ⟨cdD, hcD, _⟩ := PySem.W.any_some C.hd
      exact PySem.W.kia_one (PySem.W.kitx_exc (x := a) (ox := oe) (od := od) (by rw [hcD]; rfl) C.hg C.hk C.hs C.ha C.hn C.ht C.hm) I.kIn J e (fun z => nomatch z) fun tk => ⟨.bl b, H, I.kept (t' := tk) fun _ _ z => z, rfl, q⟩
def lIsE (a : Addr) (cls : Value) (d : Option Addr) (Cl : Addr) (b : Bool) (le : LE) : LE := fun ρ M P PX => le ρ M (fun x M1 => ∃ (ns : List Str) (ds : List D), x = .dat (.exc a Cl d ns ds) ∧ cls = .ref Cl ∧ P (.bl b) M1) PX
section
variable {X : Cx} {C : Cn} {W : WX} {a Cl : Addr} {oe : Obj} {cls : Value} {d : Option Addr} {pn : List (Addr × Obj)} {e c : Expr} {te : TE} {le : LE} {p pos : Pos} {v : V} {cv : Value} {b : Bool} {dc : D}
theorem lp_isE (E : ExcC X.K Cl) (hk : PySem.W.kitOne X.K (.ref Cl) cv = some b) (hz : Zc cls d oe) (hf : ∃ vs, oe.data = .fields vs) (hg : Gl X "isinstance") (hm : X.mg "isinstance" = none) (he : LPE (X.suite a ((a, oe) :: pn)) C W e te le)
    (hc : PE (X.suite a ((a, oe) :: pn)) c (tC v)) (hv : ∀ u, RelV v u → u = cv) (hb : bootBuiltins "isinstance" = some (.builtin "isinstance"))
    (hs : starEach [e, c] X.env = (false, eval e X.env) :: starEach [c] X.env := by rfl) (hs2 : starEach [c] X.env = (false, eval c X.env) :: starEach [] X.env := by rfl) (hpl : (backTo pos (starEach [c] X.env)).any (·.1) = false := by rfl) :
    LPE (X.suite a ((a, oe) :: pn)) C W (.Call (.Name "isinstance" p) [e, c] [] pos) (tCB (rIsEd X.K Cl a cls d cv b) (tCons te (tCons (tC v) tNil))) (lIsE a cls d Cl b le) :=
  ⟨pe_callB (call_isEd E hz hf) hg hm hb (pa_cons he.pe (pa_cons hc pa_nil hs2) hs) (by decide) (by decide) hs hpl, fun ρ M P PX g Z σ H α Q vs r kt wk =>
    he.lo.bind g vs r wk fun u H1 α1 y M1 s1 r1 q1 h1 vs1 wk1 => by
      obtain ⟨ns, ds, rfl, ec, pp⟩ := h1
      refine ⟨v, ?_, hv, ec, hk, ?_, kt _ H1 α1 (.bl b) M1 s1 r1 (.bl b) pp⟩
      · cases q1 <;> rfl
      · cases q1 with
        | exc0 => exact .inl rfl
        | excD h1 => exact .inr ⟨_, _, rfl, h1⟩⟩
end
section
variable {ρ : Rho} {M : Mem} {P : PD} {PX : PXn}
theorem s_isE {a : Addr} {d : Option Addr} {Cl : Addr} {b : Bool} {i : Nat} {ns : List Str} {ds : List D} (e : ρ[i]? = some (some (.dat (.exc a Cl d ns ds)))) (h : P (.bl b) M) : lIsE a (.ref Cl) d Cl b (lVar i) ρ M P PX := ⟨_, e, ns, ds, rfl, rfl, h⟩
end
end L3

namespace L3
open PySem L2 PySem.Spec PyProof.Rows NdefX
/-! try with a first clause that takes nothing of what the body raises, then 'except C as n' -/
def wSkip (K : PySem.W.Frag) (c1 : Value) (W : WX) : WX := fun cls d σ H => PySem.W.exmOne K cls c1 = some false ∧ W cls d σ H
/-- the exception as it lies before the clauses -/
structure Lies (X : Cx) (pins : List (Addr × Obj)) (a : Addr) (cls : Value) (d : Option Addr) (σ : L2.St) (H : Hp) (B : Heap) (sI s' : Shared) (h3 : Heap) : Prop where
  inv : Inv X pins σ H sI
  nb : ∀ b o, sI.heap.get? b = some o → b ∉ frs X.stack → B.get? b = some o
  up : sI.heap.UpToSlots h3
  os : s'.os = sI.os
  ag : AllBare s'.gens
  na : H a = none
  fl : HandSPX.FlyingZ B (X.env :: X.outer) a (Zc cls d) h3
section
variable {X : Cx} {pins : List (Addr × Obj)} {a : Addr} {cls : Value} {d : Option Addr} {σ : L2.St} {H : Hp} {B : Heap} {sI s' : Shared} {h3 : Heap}
theorem Lies.j (L : Lies X pins a cls d σ H B sI s' h3) : Inv X pins σ H { s' with heap := h3 } := L.inv.landed L.nb L.fl.1 L.up L.os L.ag
theorem Lies.away (L : Lies X pins a cls d σ H B sI s' h3) (hf : X.env.frame = some X.env.locals) : a ≠ X.env.locals ∧ a ∉ X.fs := by
  obtain ⟨oe, vs, he, _, hd⟩ := L.fl.there
  have no : a ∉ frs (X.env :: X.outer) := fun hm => by
    obtain ⟨_, o, e, hnf⟩ := L.fl.2.2.1.mem hm
    rw [he] at e
    cases e
    exact hnf _ hd
  refine ⟨fun z => no (List.mem_filterMap.mpr ⟨X.env, List.mem_cons_self, by rw [hf, z]⟩), fun hm => ?_⟩
  obtain ⟨e, he2, q⟩ := List.mem_filterMap.mp hm
  exact no (List.mem_filterMap.mpr ⟨e, List.mem_cons_of_mem _ he2, q⟩)
theorem Lies.suite (L : Lies X pins a cls d σ H B sI s' h3) (hf : X.env.frame = some X.env.locals) : ∃ oe, Zc cls d oe ∧ (∃ vs, oe.data = .fields vs) ∧ s'.heap = s'.heap ∧ Inv (X.suite a ((a, oe) :: (X.pn ++ pins))) [] σ H { s' with heap := h3 } ∧ h3.get? a = some oe := by
  obtain ⟨oe, vs, he, hz, hd⟩ := L.fl.there
  exact ⟨oe, hz, ⟨vs, hd⟩, rfl, L.j.suite he hd L.na (L.away hf).1 (L.away hf).2, he⟩
/-- what a clause's name is -/
theorem Lies.name (L : Lies X pins a cls d σ H B sI s' h3) (hf : X.env.frame = some X.env.locals) {x : Str} {c : Value} {np : Pos} (hc : Names X x c) {Q : Value → Shared → Prop} {E : Value → Shared → Prop} (q : Q c { s' with heap := h3 }) :
    wpAny (model X.prog X.w) (X.A.mark (some (.ref a))) (eval (.Name x np) X.env) Q E { s' with heap := h3 } := by
  obtain ⟨oe, _, _, _, S, _⟩ := L.suite hf
  obtain ⟨hg, hdb, hm | ⟨hm, hv, hnn⟩⟩ := hc
  · exact ld_glob S hg hm q hdb
  · exact ld_blt S hg hm hv q hnn hdb
theorem Lies.asks (L : Lies X pins a cls d σ H B sI s' h3) {c : Value} {b : Bool} (e : PySem.W.exmOne X.K cls c = some b) : PySem.W.Looks (model X.prog X.w) h3 (excMatches (.ref a) c) b := by
  obtain ⟨oe, vs, he, hz, hd⟩ := L.fl.there
  exact PySem.W.exm_one (M := model X.prog X.w) L.j.kIn (fun A Q E s k q => wpAny_typeOf_ref (k _ _ he) (by rw [hz.1]; exact q)) e
end
section
variable {X : Cx} {x1 x n : Str} {c1 c : Value} {i : Nat} {body suite s1 : List Stmt} {b₀ : Stmt} {n1 : Option Str} {np1 np pos1 pos pos' : Pos} {tb : WX → TS} {ts : Addr → Value → Option Addr → TS} {Wout : WX}
theorem ps_try_two (hs : X.stack = X.env :: X.outer) (hf : X.env.frame = some X.env.locals) (hN : X.N.Nodup) (hi : X.N[i]? = some n) (hln : X.env.kindOf n = some .local) (hc1 : Names X x1 c1) (hc : Names X x c) (tk : Takes X Wout)
    (hb : ∀ (W : WX) (pn : List (Addr × Obj)) (xe : Value → Shared → Prop), Takes (X.tr pn xe) W → PassesOwn (model X.prog X.w) X.A X.env xe → PSs (X.tr pn xe) body (tb W))
    (hsu : ∀ (a : Addr) (oe : Obj) (cls : Value) (d : Option Addr) (pn : List (Addr × Obj)), Zc cls d oe → (∃ vs, oe.data = .fields vs) → PSs (X.suite a ((a, oe) :: pn)) (b₀ :: suite) (ts a cls d)) :
    PS X (.Try body [.ExceptHandler (some (.Name x1 np1)) n1 s1 pos1, .ExceptHandler (some (.Name x np)) (some n) (b₀ :: suite) pos'] [] [] pos) (fun D σ H => tb (wSkip X.K c1 (wAs X.K c i ts Wout D)) D σ H) := ⟨fun pins s σ H D I h => by
  refine wpAny_Try_except (wpAny_mono ((hb (wSkip X.K c1 (wAs X.K c i ts Wout D)) (X.pn ++ pins) _ (fun u s' xx => ?_) PassesOwn.looking).run [] s σ H D (I.toTry _) h) (fun f s2 hsp => ?_) fun e s2 he => he)
  · obtain ⟨a, B, sI, pins', σ', H', cls, d, rfl, J', nb, up, sky, na, os, ag, hc1f, b, hb1, hyes, hno⟩ := xx
    have hfr : X.A.frames = some (X.env :: X.outer) := by rw [I.ok.frames, hs]
    refine Sky.land Zc.steady hfr hf (by rw [← hs]; exact sky) fun h3 fl3 up3 => ?_
    have L3' : Lies X pins a cls d σ' H' B sI s' h3 := ⟨J'.ofTry I.ok, nb, up.trans up3, os, ag, na, fl3⟩
    refine wpAny_handleBy_cons (codeAny_handlers_test (L3'.name hf hc1 ((L3'.asks hc1f).here ?_))) (by intro q; cases q)
    show wpAny _ X.A (handleBy (.ref a) X.env [_]) _ _ _
    refine wpAny_handleBy_cons (codeAny_handlers_test (L3'.name hf hc ((L3'.asks hb1).here ?_))) (by intro q; cases q)
    cases b with
    | true =>
      refine codeAny_handlers_suite_as (HandSPX.lands_againZ fl3 fun h4 fl4 up4 => ?_)
      have L4 : Lies X pins a cls d σ' H' B sI s' h4 := ⟨L3'.inv, nb, L3'.up.trans up4, os, ag, na, fl4⟩
      obtain ⟨oe, hz, hd, _, S4, _⟩ := L4.suite hf
      refine store_ok (X := X.suite a ((a, oe) :: (X.pn ++ pins))) (v := .ref a) S4 hN hi (.inl hln) rfl (fun s5 S5 => ?_) (.inr hln)
      refine wpAny_mono ((hsu a oe cls d (X.pn ++ pins) hz hd).run [] s5 _ H' _ S5 (hyes rfl a na)) (fun f s6 hsp => ?_) fun _ _ z => False.elim z
      have fin : ∀ {σ6 : L2.St} {H6 : Hp} {Q : Shared → Prop}, Inv (X.suite a ((a, oe) :: (X.pn ++ pins))) [] σ6 H6 s6 → (∀ s7, Inv X pins (σ6.set i none) H6 s7 → Q s7) → wpAny (model X.prog X.w) X.A (do bindName X.env n .none; unbindBehindTheSuite X.env n pos') (fun _ s7 => Q s7) X.xe s6 :=
        fun {σ6 H6 Q} S6 hq => gone_ok (S6.unsuite I.ok) hN hi hln hq
      cases f with
      | ret u =>
        obtain ⟨v, σ6, H6, S6, r6, q6⟩ := hsp
        exact fin S6 fun s7 J7 => ⟨v, _, _, J7, r6, q6⟩
      | _ =>
        obtain ⟨σ6, H6, S6, q6⟩ := hsp
        exact fin S6 fun s7 J7 => ⟨_, _, J7, q6⟩
    | false =>
      show wpAny _ X.A (handleBy (.ref a) X.env []) _ _ _
      refine wpAny_handleBy_nil ?_
      obtain ⟨k1, k2, k3, oe, vs, T, oT, tsv, he, hz, hd, h1, hr⟩ := id fl3
      unfold PySem.passOn
      refine wpAny_bind (wpAny_field he hd h1 ?_)
      rw [if_neg (show ¬ ((Value.ref T == Value.none) = true) from by simp)]
      have go : wpAny (model X.prog X.w) X.A (setFlight (.ref a) X.env.frame) (fun _ s4 => wpAny (model X.prog X.w) X.A (throw (.ref a) : Sem Flow) (SP X pins D) X.xe s4) X.xe { s' with heap := h3 } := by
        rw [hf]
        exact HandSPX.setFlight_upZ fl3 fun h4 hh4 up4 => wpAny_throw (tk _ _ ⟨a, B, sI, pins, σ', H', cls, d, rfl, L3'.inv, nb, L3'.up.trans up4, .inr (.inr (by rw [hs]; exact hh4)), na, os, ag, hno rfl⟩)
      first | exact wpAny_bind (wpAny_pure (wpAny_bind go)) | exact wpAny_bind go
  · cases f with
    | next =>
      obtain ⟨σ', H', J', q⟩ := hsp
      exact wpAny_execs_nil ⟨σ', H', J'.ofTry I.ok, q⟩
    | ret u =>
      obtain ⟨v, σ', H', J', r, q⟩ := hsp
      exact ⟨v, σ', H', J'.ofTry I.ok, r, q⟩
    | _ =>
      obtain ⟨σ', H', J', q⟩ := hsp
      exact ⟨σ', H', J'.ofTry I.ok, q⟩⟩
end
section
variable {X : Cx} {C : Cn} {Wout : WX} {x1 x n : Str} {C1 Cl : Addr} {i : Nat} {body suite s1 : List Stmt} {b₀ : Stmt} {n1 : Option Str} {np1 np pos1 pos pos' : Pos} {tb : WX → TS} {ts : Addr → Value → Option Addr → TS} {lb : LS} {ls : Addr → Value → Option Addr → LS} {tab : List (Addr × Bool)}
theorem lps_tryTwo (hs : X.stack = X.env :: X.outer) (hf : X.env.frame = some X.env.locals) (hN : X.N.Nodup) (hi : X.N[i]? = some n) (hln : X.env.kindOf n = some .local) (hc1 : Names X x1 (.ref C1)) (hc : Names X x (.ref Cl)) (tk : Takes X Wout) (hK : X.K = C.K)
    (ht1 : ∀ p ∈ tab, PySem.W.exmOne X.K (.ref p.1) (.ref C1) = some false) (htab : ∀ p ∈ tab, PySem.W.exmOne X.K (.ref p.1) (.ref Cl) = some p.2)
    (hb : ∀ (W : WX) (pn : List (Addr × Obj)) (xe : Value → Shared → Prop) (ex : List Addr), Takes { X with pn := pn, xe := xe, ex := ex } W → PassesOwn (model X.prog X.w) X.A X.env xe → LPSs { X with pn := pn, xe := xe, ex := ex } C W body (tb W) lb)
    (hsu : ∀ (a : Addr) (oe : Obj) (cls : Value) (d : Option Addr) (pn : List (Addr × Obj)), Zc cls d oe → (∃ vs, oe.data = .fields vs) → LPSs (X.suite a ((a, oe) :: pn)) C W0 (b₀ :: suite) (ts a cls d) (ls a cls d)) :
    LPS X C Wout (.Try body [.ExceptHandler (some (.Name x1 np1)) n1 s1 pos1, .ExceptHandler (some (.Name x np)) (some n) (b₀ :: suite) pos'] [] [] pos) (fun D σ H => tb (wSkip X.K (.ref C1) (wAs X.K (.ref Cl) i ts Wout D)) D σ H) (lTryAs tab i lb ls) := by
  refine ⟨ps_try_two hs hf hN hi hln hc1 hc tk (fun W pn xe t p => (hb W pn xe X.ex t p).ps) (fun a oe cls d pn z f => (hsu a oe cls d pn z f).ps), fun L ρ M h Z D σ H α vs r d => ?_⟩
  have q := (hb (wSkip X.K (.ref C1) (wAs X.K (.ref Cl) i ts Wout D)) [] (fun _ _ => False) [X.env.locals] (takes_noOk fun ok => (ok.exf _ (List.mem_singleton.mpr rfl)).1 rfl) PassesOwn.never).lo
  refine q _ ρ M h Z D σ H α vs r ⟨d.nx, d.rt, d.bk, d.ct, fun cls dd σ1 H1 α1 ρ1 M1 y s1 vs1 r1 q1 g => ?_⟩
  obtain ⟨b, hm, hy, hn⟩ := g
  have ec := q1.1
  subst ec
  refine ⟨ht1 _ hm, b, htab _ hm, fun e a na => ?_, fun e => d.ex _ _ σ1 H1 α1 ρ1 M1 y s1 vs1 r1 q1 (hn e)⟩
  refine (hsu a { cls := .ref y.cls, dict := dd, data := .fields #[.none, .none, .none] } _ dd [] ⟨rfl, rfl, fun vs e => by cases e; rfl⟩ ⟨_, rfl⟩).lo _ _ M1 (hy e a dd) Z _ _ H1 α1 (vs1.set i (q1.val a)) r1 ⟨fun σ2 H2 α2 ρ2 M2 s2 vs2 r2 p2 => d.nx _ H2 α2 _ M2 (s1.trans s2) (vs2.clr i) r2 p2, fun v H2 α2 z M2 s2 r2 q2 p2 => d.rt v H2 α2 z M2 (s1.trans s2) r2 q2 p2,
    fun σ2 H2 α2 ρ2 M2 s2 vs2 r2 p2 => d.bk _ H2 α2 _ M2 (s1.trans s2) (vs2.clr i) r2 p2, fun σ2 H2 α2 ρ2 M2 s2 vs2 r2 p2 => d.ct _ H2 α2 _ M2 (s1.trans s2) (vs2.clr i) r2 p2, fun _ _ _ _ _ _ _ _ _ _ _ _ h => h.elim⟩
end
theorem tabF_nil {K : PySem.W.Frag} {c : Value} : ∀ p ∈ ([] : List (Addr × Bool)), PySem.W.exmOne K (.ref p.1) c = some false := fun _ h => absurd h (by simp)
theorem tabF_cons {K : PySem.W.Frag} {c : Value} {a : Addr} {b : Bool} {r : List (Addr × Bool)} (h : PySem.W.exmOne K (.ref a) c = some false) (t : ∀ p ∈ r, PySem.W.exmOne K (.ref p.1) c = some false) : ∀ p ∈ (a, b) :: r, PySem.W.exmOne K (.ref p.1) c = some false := fun p hp => by
  rcases List.mem_cons.mp hp with rfl | hp
  · exact h
  · exact t p hp
/-! xs.insert(i, y); a list of data == a known list of data -/
section
variable {C : Cn}
theorem VRs.take {α : List Addr} {H : Hp} : ∀ {xs : List V} {ds : List DV} (n : Nat), VRs C α H xs ds → VRs C α H (xs.take n) (ds.take n)
  | _, _, 0, _ => .nil
  | _, _, _ + 1, .nil => .nil
  | _, _, n + 1, .cons a b => .cons a (VRs.take n b)
theorem VRs.drop2 {α : List Addr} {H : Hp} : ∀ {xs : List V} {ds : List DV} (n : Nat), VRs C α H xs ds → VRs C α H (xs.drop n) (ds.drop n)
  | _, _, 0, h => h
  | _, _, _ + 1, .nil => .nil
  | _, _, n + 1, .cons _ b => VRs.drop2 n b
def vInsert : DV → List DV → Mem → PD → Prop := fun x xs M P => ∃ n ys i y, x = .obj n ∧ xs = [.int i, y] ∧ M[n]? = some (.lst ys) ∧ ys.length < sizeLine ∧ 0 ≤ i ∧ i < 2 ^ 63 ∧ P .non (M.set n (.lst (ys.take i.toNat ++ [y] ++ ys.drop i.toNat)))
theorem lm_insert : LoM C (fun x vs H Q => ∃ (l : Addr) (xs : List V) (i : Int) (y : V), x = .ref l ∧ vs = [.int i, y] ∧ H l = some (.lst xs) ∧ xs.length < sizeLine ∧ 0 ≤ i ∧ i < 2 ^ 63 ∧
    Q .non (upd H l (.lst (xs.take i.toNat ++ [y] ++ xs.drop i.toNat)))) vInsert := fun x xs M P ⟨n, ys, i, y, e1, e2, hm, hl, h0, h1, p⟩ Z α H v vs Q r q qs k => by
  subst e1 e2
  obtain ⟨v1, w, rfl, q1, qw⟩ := two_inv qs
  cases q1
  obtain ⟨a, ea, rfl⟩ := q
  obtain ⟨zs, eh, hd⟩ := r.hr.get n a _ ea hm
  have st : Step (C.wz Z) α H α (upd H a (.lst (zs.take i.toNat ++ [w] ++ zs.drop i.toNat))) := put_step ea
  have hd' := VRs.step hd st
  obtain ⟨r4, s4⟩ := r.put (mo := .lst (ys.take i.toNat ++ [y] ++ ys.drop i.toNat)) ea ⟨_, upd_same, VRs.append (VRs.append (VRs.take _ hd') (.cons (qw.step st) .nil)) (VRs.drop2 _ hd')⟩ (r.noT ea hm)
  exact ⟨a, zs, i, w, rfl, rfl, eh, by rw [VRs.length hd]; exact hl, h0, h1, k _ _ α .non _ s4 r4 .non p⟩
def vEqO : DV → DV → Mem → PD → Prop := fun x y M P => vEq false x y M P ∨ ∃ (ds : List D) (n : Nat) (es : List D), x = .dat (.lst ds) ∧ y = .obj n ∧ M[n]? = some (.lst (es.map DV.dat)) ∧ okD (.lst ds) = true ∧ okD (.lst es) = true ∧ P (.bl (eqD (.lst ds) (.lst es))) M
theorem l2_eqO : Lo2 C (rEqA C.K) vEqO := fun x y M P g Z α H v u Q r q1 q2 k => by
  rcases g with g | ⟨ds, n, es, rfl, rfl, hM, h1, h2, p⟩
  · exact l2_eq _ _ M P g Z α H v u Q r q1 q2 k
  · unfold okD at h1 h2
    rw [Bool.and_eq_true] at h1 h2
    obtain ⟨b, xs, rfl, hs, hd⟩ := seq_of r q2 hM
    have h3 : pureDs es = true := by have := h2.1; unfold pureD at this; exact this
    exact .inr ⟨pyD (.lst ds), .list (pyDs es), VD.dp h1.1 q1, .lst hs (VDs.dp h3 hd), h1.2, h2.2, k.now (d := .bl _) r (.bl _) p⟩
end
section
variable {M : Mem} {P : PD}
theorem s_insert {n : Nat} {ys : List DV} {i : Int} {y : DV} (hM : M[n]? = some (.lst ys)) (hl : ys.length < sizeLine) (h0 : 0 ≤ i) (h1 : i < 2 ^ 63) (h : P .non (M.set n (.lst (ys.take i.toNat ++ [y] ++ ys.drop i.toNat)))) : vInsert (.obj n) [.dat (.int i), y] M P := ⟨n, ys, i, y, rfl, rfl, hM, hl, h0, h1, h⟩
end
end L3

/-! sets of texts: made, one text more, sorted -/
namespace L3
open PySem PySem.Spec L2 PyProof.Rows

def keyT (v : Value) : Str := match v with | .str k _ => k | _ => default
def insT (k : Str) (l : List Str) : List Str := if k ∈ l then l else k :: l
theorem insT_len (k : Str) (l : List Str) : (insT k l).length ≤ l.length + 1 := by
  unfold insT; split <;> simp
theorem insT_mem (k : Str) (l : List Str) (x : Str) : x ∈ insT k l ↔ x = k ∨ x ∈ l := by
  unfold insT
  split
  · rename_i h
    exact ⟨.inr, fun e => e.elim (fun e => e ▸ h) id⟩
  · exact List.mem_cons
theorem insT_nodup (k : Str) {l : List Str} (h : l.Nodup) : (insT k l).Nodup := by
  unfold insT
  split
  · exact h
  · rename_i c
    exact List.nodup_cons.mpr ⟨c, h⟩

/-- the payload behind an add -/
theorem tl_perm (ep : Nat) (es : Array (Int × Value)) (t : SetTable) (b : Bool) : (Froz.tailTx ep es t b).1.toList.Perm es.toList := by
  unfold Froz.tailTx
  split
  · exact relayAll_perm _ _ _
  · exact .refl _
theorem tl_ris (ep : Nat) (es : Array (Int × Value)) (t : SetTable) (b : Bool) (r : Ris t.place.toList) : Ris (Froz.tailTx ep es t b).2.2.place.toList := by
  unfold Froz.tailTx
  split
  · exact relayAll_ris _ _ _
  · exact r
theorem tl_led (ep : Nat) (es : Array (Int × Value)) (t : SetTable) (b : Bool) : (Froz.tailTx ep es t b).2.2.led = t.led := by
  unfold Froz.tailTx
  split
  · exact relayAll_led _ _ _
  · rfl
theorem off_place (t : SetTable) : (if t.plain = true then { t with plain := false } else t).place = t.place := by split <;> rfl
theorem off_led (t : SetTable) : (if t.plain = true then { t with plain := false } else t).led = t.led := by split <;> rfl
theorem addTx_perm (h : Int) (v : Value) (D : Froz.SD) : (Froz.addTx h v D).1.toList.Perm ((h, v) :: D.1.toList) := by
  have p := layNew_perm D.2.2 D.1 h v
  rw [Array.toList_push] at p
  exact (tl_perm _ _ _ _).trans (p.trans (List.perm_append_singleton (h, v) D.1.toList))
theorem addTx_ris (h : Int) (v : Value) (D : Froz.SD) (r : Ris D.2.2.place.toList) : Ris (Froz.addTx h v D).2.2.place.toList :=
  tl_ris _ _ _ _ (by rw [off_place]; exact layNew_ris D.2.2 D.1 h v r)
theorem addTx_led (h : Int) (v : Value) (D : Froz.SD) : (Froz.addTx h v D).2.2.led = D.2.2.led :=
  (tl_led _ _ _ _).trans ((off_led _).trans (layNew_led D.2.2 D.1 h v))

/-- the set of the texts l lies at a -/
def TxAt (P : Program) (w : World) (h : Heap) (a : Addr) (l : List Str) : Prop :=
  ∃ D : Froz.SD, h.get? a = some (Froz.sObj "set" D) ∧ Froz.TxOk P w D l ∧ Ris D.2.2.place.toList ∧ (w.params.followText "set-order" = true ∨ D.2.2.led = true) ∧ (D.1.toList.map fun e => keyT e.2).Perm l
theorem TxAt.at {P : Program} {w : World} {h h' : Heap} {a : Addr} {l : List Str} (R : TxAt P w h a l) (k : ∀ o, h.get? a = some o → h'.get? a = some o) : TxAt P w h' a l := by
  obtain ⟨D, ho, r⟩ := R
  exact ⟨D, k _ ho, r⟩

section
variable {P : Program} {w : World} {A : Around} {E : Value → Shared → Prop} {s : Shared} {a : Addr} {l : List Str}
theorem tx_hashed {k : Str} {u : Tok} {Q : Bool → Shared → Prop} (R : TxAt P w s.heap a l) (room : l.length + 1 < scanBound)
    (hQ : ∀ b h', Heap.SameBut a s.heap h' → TxAt P w h' a (insT k l) → Q b { s with heap := h' }) : wpAny (model P w) A (setAddHashed a (.str k u) (hashStr w k)) Q E s := by
  obtain ⟨D, ho, F, hr, hl, pk⟩ := R
  by_cases hk : k ∈ l
  · have e : insT k l = l := if_pos hk
    rw [e] at hQ
    have q := hQ false s.heap (Heap.SameBut.refl a s.heap) ⟨D, ho, F, hr, hl, pk⟩
    obtain ⟨es, ep, t⟩ := D
    have hd : (Froz.sObj "set" (es, ep, t)).data = .set es ep t := rfl
    have hsz : es.size = l.length := F.sz
    have hb0 : es.size < scanBound := by omega
    obtain ⟨e0, he0, is0⟩ := (F.mem k).mp hk
    unfold setAddHashed setAddHashedIn
    refine wpAny_holding (wpAny_bind (wpAny_setState_of ho hd F.fit ?_))
    dsimp only
    rw [byScan_of (knd := strKind P w) rfl hb0 F.el]
    simp only [↓reduceIte]
    unfold setAddByScan
    refine wpAny_bind (wpAny_bind (wpAny_rule (wpAny_bind (wpAny_setScan_of (knd := strKind P w) (k := k) (Froz.is_str k u) ho hd F.fit F.el ?_))))
    cases hf : List.findIdx? (fun e => (strKind P w).is k e.2) es.toList with
    | none =>
      have c := List.findIdx?_eq_none_iff.mp hf e0 he0
      rw [is0] at c
      cases c
    | some j => exact wpAny_pure (wpAny_pure q)
  · have e : insT k l = k :: l := if_neg hk
    rw [e] at hQ
    refine Froz.add_x ho F hk room (hQ true _ (Heap.SameBut.update s.heap a _) ⟨_, Froz.get_upd _ ho rfl, Froz.add_ok u F, addTx_ris _ _ _ hr, hl.imp id fun z => by rw [addTx_led]; exact z, ?_⟩)
    have q := (addTx_perm (hashStr w k) (.str k u) D).map fun e => keyT e.2
    exact q.trans (show (k :: D.1.toList.map fun e => keyT e.2).Perm (k :: l) from pk.cons k)
/-- found.add(k) -/
theorem tx_add {k : Str} {u : Tok} {Q : Value → Shared → Prop} (R : TxAt P w s.heap a l) (room : l.length + 1 < scanBound)
    (hQ : ∀ h', Heap.SameBut a s.heap h' → TxAt P w h' a (insT k l) → Q .none { s with heap := h', toks := s.toks + 1 }) : wpAny (model P w) A (call (.builtin "set.add") [.ref a, .str k u]) Q E s := by
  have hT : s.TypeIs (.ref a) "set" := let ⟨_, ho, _⟩ := R; ⟨_, ho, rfl⟩
  refine wpAny_call_entry F.slot_set_add hT F.entry_set_add ?_ (F.args_set_add_2 _ _)
  unfold Builtin.«set.add» Builtin.Frozenset.oneOther Builtin.Frozenset.addrOf setAdd
  simp only [List.isEmpty_nil, bind_assoc]
  refine wpAny_bind (wpAny_pure (wpAny_bind (wpAny_pure (wpAny_bind (wpAny_holding (wpAny_bind ((strKind P w).pyHash (Froz.is_str k u) ?_)))))))
  exact tx_hashed (s := { s with toks := s.toks + 1 }) R room fun b h' sb r => wpAny_pure ⟨_, rfl, hQ h' sb r⟩
theorem tx_fresh {h : Heap} (P : Program) (w : World) : TxAt P w (h.push { cls := .type "set", dict := none, data := .set #[] 0 (.fresh 0 0 (!w.params.followText "set-order")) }) h.objs.size [] := by
  refine ⟨(#[], 0, .fresh 0 0 (!w.params.followText "set-order")), Heap.get?_push_size _ rfl, Froz.TxOk.nil (by rfl), List.Pairwise.nil, ?_, List.Perm.nil⟩
  show _ ∨ (!w.params.followText "set-order") = true
  cases w.params.followText "set-order"
  · exact .inr rfl
  · exact .inl rfl
theorem strs_of : ∀ vs : List Value, (∀ v ∈ vs, ∃ k t, v = Value.str k t) → StrsAre vs (vs.map keyT)
  | [], _ => .nil
  | v :: vs, h => by
    obtain ⟨k, t, e⟩ := h v List.mem_cons_self
    subst e
    exact .cons _ _ (strs_of vs fun u hu => h u (List.mem_cons_of_mem _ hu))
/-- sorted(found) -/
theorem tx_sorted {Q : Value → Shared → Prop} (R : TxAt P w s.heap a l) (hh : A.handled = none) (hb : l.length < scanBound)
    (hQ : ∀ s' p (out : Array Value) (c : Nat) (ys : List Str), (∀ b o, s.heap.get? b = some o → s'.heap.get? b = some o) → s'.gens = s.gens → s'.os = s.os → s.heap.objs.size ≤ p →
      s'.heap.get? p = some (seqObj "list" out c) → StrsAre out.toList ys → ys.Perm l → sortedS ys = true → Q (.ref p) s') :
    wpAny (model P w) A (call (.builtin "sorted") [.ref a]) Q E s := by
  obtain ⟨⟨es, ep, t⟩, ho, F, hr, hl, pk⟩ := R
  have hsz : es.size = l.length := F.sz
  have hb0 : es.size < scanBound := by omega
  refine Calls.call_function_entry kind_sorted plain_sorted entry_sorted (args_sorted1 _) ?_
  unfold Builtin.«sorted»
  refine wpAny_bind (m := checkCount "sorted" 1 1 _) (wpAny_pure (wpAny_bind (collect_set (A := A.in1) hh ⟨_, ho, rfl, rfl⟩ F.fit hb0 hr hl fun s1 vs k1 hz g1 o1 pm => ?_)))
  have hvl : vs.length = l.length := by rw [pm.length_eq, List.length_map, Array.length_toList]; exact hsz
  have hS : StrsAre vs (vs.map keyT) := strs_of vs fun v hv => by
    obtain ⟨e, he, q⟩ := List.mem_map.mp (pm.mem_iff.mp hv)
    obtain ⟨⟨k, h1, _⟩, _⟩ := F.el e he
    obtain ⟨tk, h2⟩ := Value.isStrOf_shape h1
    exact ⟨k, tk, by rw [← q]; exact h2⟩
  have pp : (vs.map keyT).Perm l := by
    have q := pm.map keyT
    rw [List.map_map] at q
    exact q.trans pk
  have hL : vs.length ≤ sizeLine := by rw [hvl]; exact fits_of_scanBound hb
  refine wpAny_bind (wpAny_newList ?_ (by simpa using hL))
  have hoL : (s1.heap.push (seqObj "list" vs.toArray 0)).get? s1.heap.objs.size = some (seqObj "list" vs.toArray 0) := Heap.get?_push_size _ rfl
  refine wpAny_bind (wpAny_holding (wpAny_call_entry slot_list_sort ⟨_, hoL, rfl⟩ entry_list_sort (list_sort_treeKAny strKind_oneLt hoL hS.keysOf (fun v₁ v₂ rest e => keyKind_strs (by rw [← e]; exact hS)) hL fun st' hp hs => ⟨_, rfl, ?_⟩) (args_list_sort _)))
  obtain ⟨ys, a1, a2, a3⟩ := sorted_out_str hS hp hs
  obtain ⟨c, hc⟩ := sortedHeap_at (vs := vs) (out := (arrOf st').map (·.2)) hoL
  refine wpAny_pure ⟨_, rfl, hQ _ s1.heap.objs.size _ c ys (fun b u e => ?_) g1 o1 hz hc a1 (a2.trans pp) a3⟩
  have q := k1 b u e
  have lt := Heap.lt_size q
  show (sortedHeap (s1.heap.push (seqObj "list" vs.toArray 0)) s1.heap.objs.size vs _).get? b = some u
  rw [sortedHeap_old (Nat.ne_of_lt lt) (by rw [size_push']; exact Nat.lt_succ_of_lt lt)]
  exact Heap.get?_push_of_some _ q
end

/-! ### as a tracked thing -/
def TxO (P : Program) (w : World) (a : Addr) (l : List Str) : HO := .ext fun h => TxAt P w h a l
theorem txO_new {w : World} {P : Program} {H : Hp} {h : Heap} {a : Addr} {l : List Str} (R : TxAt P w h a l) : ObjOk P w H h a (TxO P w a l) :=
  ⟨R, let ⟨_, ho, _⟩ := R; ⟨_, ho⟩, fun h1 h2 p k => TxAt.at p k⟩
section
variable {X : Cx} {pins : List (Addr × Obj)} {σ : L2.St} {H : Hp} {s : Shared}
theorem txO_get {a : Addr} {l : List Str} (I : Inv X pins σ H s) (ha : H a = some (TxO X.prog X.w a l)) : TxAt X.prog X.w s.heap a l := (I.hok a _ ha).1
theorem txO_add {E : Value → Shared → Prop} {D : Addr} {l : List Str} {k : Str} {u : Tok} {Q : Value → Shared → Prop} (I : Inv X pins σ H s) (hD : H D = some (TxO X.prog X.w D l)) (room : l.length + 1 < scanBound)
    (h : ∀ s', Inv X pins σ (upd H D (TxO X.prog X.w D (insT k l))) s' → Q .none s') : wpAny (model X.prog X.w) X.A (call (.builtin "set.add") [.ref D, .str k u]) Q E s :=
  tx_add (txO_get I hD) room fun h' sb new =>
    h _ (I.write (e := D) (t' := s.toks + 1) (by rw [hD]; trivial) (.inl rfl) (fun b u hb hu => (sb.2 b hb).trans hu) (let ⟨_, ho, _⟩ := new; ⟨_, ho⟩) (txO_new new))
/-- sorted(found), as a call's rule -/
def rSortX (P : Program) (w : World) : List V → Hp → VK → Prop := fun vs H Q => ∃ (a : Addr) (l : List Str), vs = [V.ref a] ∧ H a = some (TxO P w a l) ∧ l.length < scanBound ∧
  ∀ (ys : List Str) (p : Addr), ys.Perm l → sortedS ys = true → H p = none → Q (.ref p) (upd H p (.lst (ys.map V.str)))
theorem cr_sortX (hc : X.calm = true) : CallR X (.builtin "sorted") (rSortX X.prog X.w) := by
  intro pins s σ H vs us Q I r h
  obtain ⟨a, l, rfl, ha, hb, q⟩ := h
  rw [Vals.ref1 r]
  refine tx_sorted (txO_get I ha) (I.ok.hd hc) hb fun s' p out c ys k g o hp hg hi hm hs => ?_
  have hlen : (ys.map V.str).length ≤ sizeLine := by rw [List.length_map, hm.length_eq]; exact fits_of_scanBound hb
  have hn : H p = none := I.hok.fresh hp
  have J : Inv X pins σ (upd H p (.lst (ys.map V.str))) { s with heap := s'.heap, gens := s'.gens, drawn := s'.drawn, toks := s'.toks } :=
    I.call (ch := []) (Un.laid k hp hn) (I.hok.laid k hp ⟨hlen, out.toList, c, vals_of_strs hi, hg⟩) (by rw [g]; exact I.bare) (fun _ z => nomatch z)
  have e : s' = { s with heap := s'.heap, gens := s'.gens, drawn := s'.drawn, toks := s'.toks } := by
    cases s'; cases s; cases o; rfl
  rw [e]
  exact ⟨.ref p, _, J, rfl, q ys p hm hs hn⟩
end
end L3

/-! sorted({e for t in xs if c}), e a text -/
namespace L3
open PySem PySem.Spec L2 PyProof.Rows

/-- the set's making, by terms: D is the new set -/
def tSx (P : Program) (w : World) (wi : TI) (g : TG) (tt : TT) (te : TE) (vs : List Nat) : TE := fun σ H Q => wi σ H fun J H1 => ∀ D, H1 D = none → ∃ W : Nat → Nat → Hp → Prop, (∃ m, W 0 m (upd H1 D (TxO P w D []))) ∧
  ∀ i m H, W i m H → (J.stop i H ∧ Q (.ref D) H) ∨ (J.go i H ∧ ∃ Nx : Hp → Prop, (∀ H', Nx H' → ∃ m', m' < m ∧ W (i + 1) m' H') ∧ ∀ x H', J.yld i H x H' → g x (wipe σ vs) H' fun σ2 H2 => wipe σ2 vs = wipe σ vs ∧ tt σ2 H2 fun b H3 =>
    if b = true then te σ2 H3 fun y H4 => ∃ (k : Str) (l : List Str), y = .str k ∧ H4 D = some (TxO P w D l) ∧ l.length + 1 < scanBound ∧ Nx (upd H4 D (TxO P w D (insT k l))) else Nx H3)
section
variable {X : Cx}
theorem pe_sx {elt tg iter : Expr} {ifs : List Expr} {scope : Scope} {own : List (PySem.Str × Nat)} {pos : Pos} {wi : TI} {g : TG} {tt : TT} {te : TE} (hc : X.calm = true) (hN : X.N.Nodup) (hi : PI X tg iter wi) (ok : BlkOk X.N X.env.scope scope own)
    (hg : ∀ (s : Shared) (H : Hp) (c : Addr) (cl : List (PySem.Str × Addr)) (fp : List Addr), PG (X.blk s H scope (compEnvC scope cl c X.env) fp) tg g) (ht : ∀ (s : Shared) (H : Hp) (c : Addr) (cl : List (PySem.Str × Addr)) (fp : List Addr), PTs (X.blk s H scope (compEnvC scope cl c X.env) fp) ifs tt)
    (he : ∀ (s : Shared) (H : Hp) (c : Addr) (cl : List (PySem.Str × Addr)) (fp : List Addr), PE (X.blk s H scope (compEnvC scope cl c X.env) fp) elt te) (hs : ∀ x, foldedSetIterable iter X.env x = pure x := by intro _; rfl) :
    PE X (.SetComp elt [⟨tg, iter, ifs, 0⟩] scope pos) (tSx X.prog X.w wi g tt te (own.map (·.2))) := by
  refine ⟨fun pins s σ H Q I h => ?_⟩
  rw [PpSet.eval_SetComp]
  have hfree : ∀ y ∈ scope.names, y.2 = .free → ∃ c, X.env.cells.lookup y.1 = some c := fun y hy e => (ok.free y hy e).elim (fun k => I.ok.has _ (.inl k)) fun k => I.ok.has _ (.inr k)
  refine wpAny_comprehension_free (use := none) rfl hs (closure_ok hfree) ok.kind (fun y hy e => by rw [ok.uniq y hy, e]) (thn (hi.run pins s σ H _ I h) fun xv sA hx => thn hx fun itv sB hB => ?_)
  obtain ⟨it, fp, tn, J, HB, rfl, IB, T, stB, fB, qB⟩ := hB
  refine PpSet.newSet_ok (newEnv_comp ?_)
  generalize eD : sB.heap.objs.size = D
  obtain ⟨W, ⟨m0, w0⟩, turn⟩ := qB D (IB.hok.fresh (Nat.le_of_eq eD))
  -- the set is there
  generalize eC : ({ sB with heap := sB.heap.push { cls := .type "set", dict := none, data := .set #[] 0 (.fresh 0 0 (!X.w.params.followText "set-order")) } } : Shared) = sC
  have hC : sC.heap = sB.heap.push { cls := .type "set", dict := none, data := .set #[] 0 (.fresh 0 0 (!X.w.params.followText "set-order")) } := by rw [← eC]
  have IC : Inv X pins σ (upd HB D (TxO X.prog X.w D [])) sC := by
    subst eD; subst eC
    exact IB.laid (t' := sB.toks) (fun b o e => Heap.get?_push_of_some _ e) (Nat.le_refl _) (txO_new (tx_fresh X.prog X.w))
  have fC : ∀ b ∈ fp, FpOk X pins (upd HB D (TxO X.prog X.w D [])) b ∧ b < sC.heap.objs.size := fun b hb => by
    obtain ⟨o, e, _⟩ := T.obj _ _ stB b hb
    have lt := Heap.lt_size e
    exact ⟨⟨by rw [upd_ne (Nat.ne_of_lt (eD ▸ lt))]; exact (fB b hb).1, (fB b hb).2⟩, by rw [hC, Heap.size_push]; exact Nat.lt_succ_of_lt lt⟩
  have stC : tn 0 sC.heap := T.keep _ _ _ stB fun b _ o e => by rw [hC]; exact Heap.get?_push_of_some _ e
  -- the block
  have IL := block_start IC ok hN fC
  generalize eH : upd HB D (TxO X.prog X.w D []) = HC at IC IL w0 fC
  generalize eE : compEnvC scope (cellsFrom (sC.heap.objs.size + 1) scope.names (cloFrom X.env.cells scope.names [])) sC.heap.objs.size X.env = ce at IL
  have pg : PG (X.blk sC HC scope ce fp) tg g := eE ▸ hg sC HC _ _ fp
  have pt : PTs (X.blk sC HC scope ce fp) ifs tt := eE ▸ ht sC HC _ _ fp
  have pe : PE (X.blk sC HC scope ce fp) elt te := eE ▸ he sC HC _ _ fp
  have cL : ce.locals = sC.heap.objs.size := by rw [← eE]; rfl
  show codeAny _ _ (.compStart (.SetComp elt [⟨tg, iter, ifs, 0⟩] scope pos) 0 (.ref it) (.ref D) (compEnvC scope (cellsFrom (sC.heap.objs.size + 1) scope.names (cloFrom X.env.cells scope.names [])) sC.heap.objs.size X.env)) (compPost (model X.prog X.w) X.A X.xe none _ (.ref D) sC.heap.objs.size) { sC with heap := pushCells (sC.heap.push { cls := .type "dict", data := .dict #[] }) scope.names }
  rw [eE]
  generalize eS : ({ sC with heap := pushCells (sC.heap.push { cls := .type "dict", data := .dict #[] }) scope.names } : Shared) = sL at IL ⊢
  have stL : tn 0 sL.heap := T.keep _ _ _ stC fun b _ o e => by rw [← eS]; exact pushCells_keeps _ _ _ _ (Heap.get?_push_of_some _ e)
  have stat : ∀ {σ' : L2.St} {H' : Hp} {s' : Shared}, Inv (X.blk sC HC scope ce fp) [] σ' H' s' → (∀ b ∈ fp, H' b = none) → ∀ b ∈ fp, FpOk (X.blk sC HC scope ce fp) [] H' b := fun {σ' H' s'} I' hn b hb =>
    ⟨hn b hb, (I'.ok.exf b hb).1, I'.ok.exfs b hb, .inl hb, fun x c e => (I'.ok.exf b hb).2 x c e, fun p hp => absurd (show p ∈ ([] : List (Addr × Obj)) ++ [] from hp) (by simp)⟩
  refine (fun loop => PpSet.codeAny_compStart_set loop (T.self X.A 0 _ _ _ stL loop)) (?_ : codeAny (model X.prog X.w) X.A (.compLoop (.SetComp elt [⟨tg, iter, ifs, 0⟩] scope pos) 0 (.ref it) (.ref D) ce) _ sL)
  refine PpSet.compLoopS_any (fun n s' => ∃ i H', Inv (X.blk sC HC scope ce fp) [] (wipe σ (own.map (·.2))) H' s' ∧ tn i s'.heap ∧ (∀ b ∈ fp, H' b = none) ∧ W i n H') ?_ m0 ⟨0, HC, IL, stL, fun b hb => (fC b hb).1.1, w0⟩
  rintro n s5 ⟨i, H5, I5, st5, n5, w5⟩
  rcases turn i n H5 w5 with ⟨stop, qq⟩ | ⟨go, Nx, hNx, step⟩
  · refine thnF (T.done (X.blk sC HC scope ce fp) rfl rfl rfl hc i [] s5 _ H5 (fun _ _ => False) I5 (stat I5 n5) st5 stop) fun r s6 ⟨hr, I6⟩ => ?_
    subst hr
    have I7 : Inv X pins σ H5 s6 := IC.call' (ch := fp) I6.os I6.base I6.hok I6.bare fun b hb => ⟨(fC b hb).1.2.2.2.1, (fC b hb).1.2.1, (fC b hb).1.2.2.2.2.1, (fC b hb).1.2.2.2.2.2⟩
    have nC : H5 sC.heap.objs.size = none := cL ▸ I6.free
    obtain ⟨m, hn, _⟩ := I6.loc
    have hn' : s6.heap.Ns sC.heap.objs.size m := cL ▸ hn
    obtain ⟨f0, f1, f2, f3, f4, f5⟩ := IC.fpOk (Nat.le_refl _) nC
    exact ⟨m, hn', fun h'' sb => ⟨.ref D, H5, I7.turned (t' := s6.toks) (fun b o hb e => (sb.2 b hb).trans e) f0 f1 f3 f4 f5, rfl, qq⟩⟩
  · refine thnF (T.item (X.blk sC HC scope ce fp) rfl rfl rfl hc i [] s5 _ H5 (fun _ _ => False) I5 (stat I5 n5) st5 go) fun r s6 ⟨u, hr, h6⟩ => ?_
    subst hr
    refine thnF h6 fun _ s7 ⟨x, H7, I7, r7, y7, st7, n7⟩ => thnF (pg.run _ s7 _ H7 x u _ (I7.pinned (stat I7 n7) (T.obj _ _ st7)) r7 (step x H7 y7)) fun _ s8 ⟨σ8, H8, I8, hw8, q8⟩ => thnF (pt.run _ s8 σ8 H8 _ I8 q8) fun b s9 ⟨H9, I9, q9⟩ => ?_
    have fin : ∀ {s' : Shared} {H' : Hp}, Inv (X.blk sC HC scope ce fp) ([] ++ pinsAt fp s7.heap) σ8 H' s' → Nx H' → ∃ m, m < n ∧ ∃ i H', Inv (X.blk sC HC scope ce fp) [] (wipe σ (own.map (·.2))) H' s' ∧ tn i s'.heap ∧ (∀ b ∈ fp, H' b = none) ∧ W i m H' := fun {s' H'} I' nx => by
      obtain ⟨m', hm, w'⟩ := hNx H' nx
      have pin : ∀ b ∈ fp, ∀ o, s7.heap.get? b = some o → s'.heap.get? b = some o ∧ H' b = none := fun b hb o e =>
        let z := I'.pin (b, o) (List.mem_append_right _ (List.mem_append_right _ (mem_pinsAt hb e)))
        ⟨z.1, z.2.1⟩
      refine ⟨m', hm, i + 1, H', (I'.unpinned (pins := [])).weak (by rw [← hw8, wipe_length]) (fun j v e => (wipe_some (hw8 ▸ e)).1), T.keep _ _ _ st7 fun b hb o e => (pin b hb o e).1, fun b hb => ?_, w'⟩
      obtain ⟨o, e, _⟩ := T.obj _ _ st7 b hb
      exact (pin b hb o e).2
    cases b with
    | false => exact fin I9 (by simpa using q9)
    | true =>
      simp only [if_true] at q9 ⊢
      refine thnF (pe.run _ s9 σ8 H9 _ I9 q9) fun z s10 ⟨yv, H10, I10, r10, k, l, ey, hD10, hz10, nx⟩ => ?_
      subst ey
      obtain ⟨tk, rfl⟩ := (show ∃ t, z = Value.str k t from r10)
      exact txO_add (X := X.blk sC HC scope ce fp) I10 hD10 hz10 fun s11 I11 => fin I11 nx
end

/-! ### lifted -/
/-- sorted({e for t in xs if c}): the texts, each once, ascending -/
def lSx (lw : LW) (g : LG) (tt : LT) (te : LE) (vs : List Nat) : LE := fun ρ M P PX => lw ρ M (fun items okM M1 => ∃ I : Nat → List Str → Mem → Prop, I 0 [] M1 ∧ (∀ i acc M, I i acc M → okM M) ∧
  (∀ i x acc M, items[i]? = some x → I i acc M → g x (wipeL ρ vs) M fun ρ2 M2 => tt ρ2 M2 (fun b M3 => if b = true then te ρ2 M3 (fun y M4 => acc.length + 1 < scanBound ∧ ∃ k, y = .str k ∧ DropM M1.length (I (i + 1) (insT k acc)) M4) noX else DropM M1.length (I (i + 1) acc) M3) noX) ∧
  ∀ acc M, I items.length acc M → acc.length < scanBound ∧ ∀ ys : List Str, ys.Perm acc → sortedS ys = true → P (.dat (.lst (ys.map D.str))) M) PX
theorem lo_sx {C : Cn} {W : WX} {Pg : Program} {w : World} {wi : TI} {lw : LW} {g : TG} {lg : LG} {tt : TT} {lt : LT} {te : TE} {le : LE} {ns : List Nat} (hi : LoW C W wi lw) (hg : LoG C g lg) (hw : Wm g ns) (ht : LoT C W0 tt lt) (he : LoE C W0 te le) :
    LoE C W (tCB (rSortX Pg w) (tCons (tSx Pg w wi g tt te ns) tNil)) (lSx lw lg lt le ns) := fun ρ M P PX h Z σ H α Q vs rs kt wk => by
  refine hi _ _ _ _ h Z σ H α _ vs rs wk fun J H1 α1 items okM M1 s1 r1 it ok1 h1 => fun D hD => ?_
  obtain ⟨I, i0, iok, turn, done⟩ := h1
  have nD := r1.fresh hD
  have naD : D ∉ α1 := fun z => nD (.inl z)
  have ntD : D ∉ C.T := fun z => nD (.inr (.inl z))
  have m1 : Mv ((C.wz Z).N α1) H1 ((C.wz (D :: Z)).N α1) (upd H1 D (TxO Pg w D [])) := ⟨fun b o h _ => by rw [upd_ne (ne_of_none h hD)]; exact h, fun b o h n z => by
    rcases z with z | z | z
    · exact n (.inl z)
    · exact n (.inr (.inl z))
    · rcases List.mem_cons.mp z with z | z
      · exact ne_of_none h hD z
      · exact n (.inr (.inr z))⟩
  have r1' : RS (C.wz (D :: Z)) α1 M1 (upd H1 D (TxO Pg w D [])) := r1.chg m1 (fun a ha => upd_ne fun e => naD (by rw [← e]; exact ha)) (fun Q hQ => upd_ne fun e => ntD (by rw [← e]; exact hQ)) fun z hz => by
    by_cases e : z = D
    · subst e; exact ⟨_, upd_same⟩
    · obtain ⟨u, h⟩ := r1.zd z ((List.mem_cons.mp hz).resolve_left e)
      exact ⟨u, by rw [upd_ne e]; exact h⟩
  have it' := it (D :: Z) _ m1
  have vs1 : VS (C.wz (D :: Z)) α1 (upd H1 D (TxO Pg w D [])) (wipe σ ns) (wipeL ρ ns) := wipe_vs ((vs.step s1).chg m1) ns
  refine ⟨fun i m H' => m = items.length - i ∧ i ≤ items.length ∧ ∃ α' M' acc, Pre (C.wz (D :: Z)) α1 (upd H1 D (TxO Pg w D [])) α' H' ∧ Step (C.wz Z) α1 H1 α' H' ∧ RS (C.wz (D :: Z)) α' M' H' ∧ H' D = some (TxO Pg w D acc) ∧ D ∉ α' ∧ I i acc M',
    ⟨_, rfl, Nat.zero_le _, α1, M1, [], ⟨⟨[], by simp⟩, .refl⟩, Step.refl.own hD, r1', upd_same, naD, i0⟩, ?_⟩
  rintro i m H' ⟨rfl, hi', α', M', acc, pre', s', r', hx, na', p⟩
  by_cases hlt : i < items.length
  · obtain ⟨go, yld⟩ := it'.go i α' H' M' _ pre' r' (iok i acc M' p) (List.getElem?_eq_getElem hlt)
    refine .inr ⟨go, fun H2 => ∃ α2 M2 acc, Pre (C.wz (D :: Z)) α1 (upd H1 D (TxO Pg w D [])) α2 H2 ∧ Step (C.wz Z) α1 H1 α2 H2 ∧ RS (C.wz (D :: Z)) α2 M2 H2 ∧ H2 D = some (TxO Pg w D acc) ∧ D ∉ α2 ∧ I (i + 1) acc M2, fun H2 q => ⟨items.length - (i + 1), by omega, rfl, hlt, q⟩, fun x H2 y => ?_⟩
    obtain ⟨r2, s2, q2⟩ := yld x H2 y
    have p2 := pre'.trans s2.pre
    have fin : ∀ α5 M5 H5 acc5, Pre (C.wz (D :: Z)) α1 (upd H1 D (TxO Pg w D [])) α5 H5 → Step (C.wz Z) α1 H1 α5 H5 → RS (C.wz (D :: Z)) α5 M5 H5 → H5 D = some (TxO Pg w D acc5) → D ∉ α5 → DropM M1.length (I (i + 1) acc5) M5 →
        ∃ α2 M2 acc, Pre (C.wz (D :: Z)) α1 (upd H1 D (TxO Pg w D [])) α2 H5 ∧ Step (C.wz Z) α1 H1 α2 H5 ∧ RS (C.wz (D :: Z)) α2 M2 H5 ∧ H5 D = some (TxO Pg w D acc) ∧ D ∉ α2 ∧ I (i + 1) acc M2 := fun α5 M5 H5 acc5 pt st r5 h5 na5 q5 => by
      rcases q5 with q5 | ⟨n, hn, hM, q5⟩
      · exact ⟨α5, M5, acc5, pt, st, r5, h5, na5, q5⟩
      · rw [← r1.hr.len] at hn
        refine ⟨α5.take n, M5.take n, acc5, ⟨?_, pt.mv.trans Mv.take⟩, st.drop hn, r5.drop hM, h5, fun z => na5 (List.mem_of_mem_take z), q5⟩
        obtain ⟨β, e⟩ := pt.ext
        exact ⟨β.take (n - α1.length), by rw [e, List.take_append, List.take_of_length_le hn]⟩
    have na_ : ∀ {α5 H5}, Step (C.wz (D :: Z)) α' H' α5 H5 → D ∉ α5 := fun {α5 H5} s5 z => by
      obtain ⟨β, e, fr⟩ := s5.ext
      rw [e] at z
      rcases List.mem_append.mp z with z | z
      · exact na' z
      · have := fr D z; rw [hx] at this; cases this
    have sz : ∀ {α5 H5}, Step (C.wz (D :: Z)) α' H' α5 H5 → Step (C.wz Z) α1 H1 α5 H5 := fun s5 => s'.trans ⟨s5.ext, s5.keep, s5.dom⟩
    refine hw.mono _ _ _ _ _ (fun σ3 H3 z => ⟨z.1.trans (wipe_idem fun _ h => h), z.2⟩) (hw.wg _ _ _ _ ?_)
    refine hg _ _ M' _ (turn i _ acc M' (List.getElem?_eq_getElem hlt) p) x (D :: Z) (wipe σ ns) H2 α' _ q2 (vs1.pre p2) r2 fun σ3 H3 α3 ρ3 M3 s3 vs3 r3 p3 => ?_
    have s23 := s2.trans s3
    refine ht.bind p3 vs3 r3 XR.any fun b H4 α4 M4 s4 r4 h4 vs4 wk4 => ?_
    have s24 := s23.trans s4
    have hD4 : H4 D = some (TxO Pg w D acc) := s24.keep D _ hx na' ntD
    cases b with
    | false => exact fin α4 M4 H4 acc (pre'.trans s24.pre) (sz s24) r4 hD4 (na_ s24) h4
    | true =>
      refine he.bind h4 vs4 r4 XR.any fun v H5 α5 y M5 s5 r5 q5 h5 vs5 wk5 => ?_
      obtain ⟨hz, k, rfl, h5⟩ := h5
      have ev : v = .str k := by cases q5; rfl
      have s25 := s24.trans s5
      have hD5 : H5 D = some (TxO Pg w D acc) := s25.keep D _ hx na' ntD
      refine ⟨k, acc, ev, hD5, hz, ?_⟩
      have mo : Mv ((C.wz (D :: Z)).N α5) H5 ((C.wz (D :: Z)).N α5) (upd H5 D (TxO Pg w D (insT k acc))) := mv_own (.inr (.inr List.mem_cons_self))
      have pp := pre'.trans s25.pre
      exact fin α5 M5 _ (insT k acc) ⟨pp.ext, pp.mv.trans mo⟩ ((sz s25).own hD) (r5.own (na_ s25) ntD) upd_same (na_ s25) h5
  · have e : i = items.length := by omega
    subst e
    refine .inl ⟨it'.stop α' H' M' pre' r' (iok _ acc M' p), ?_⟩
    have mw : Mv ((C.wz (D :: Z)).N α') H' ((C.wz Z).N α') H' := ⟨fun _ _ h _ => h, fun b o h n z => n (z.imp id fun z => z.imp id fun z => List.mem_cons_of_mem _ z)⟩
    have rZ : RS (C.wz Z) α' M' H' := r'.chg mw (fun _ _ => rfl) (fun _ _ => rfl) fun z hz => r'.zd z (List.mem_cons_of_mem _ hz)
    obtain ⟨hb, fin⟩ := done acc M' p
    exact ⟨D, acc, rfl, hx, hb, fun ys p0 h1 h2 h3 => new_lst rZ (kt.step (s1.trans s')) (VDs.strs ys) (fin ys h1 h2) p0 h3⟩
section
variable {X : Cx} {C : Cn} {W : WX} {elt tg iter : Expr} {ifs : List Expr} {scope : Scope} {own : List (Str × Nat)} {cpos pos np : Pos} {wi : TI} {lw : LW} {g : TG} {lg : LG} {tt : TT} {lt : LT} {te : TE} {le : LE}
theorem lp_sx (hc : X.calm = true) (hN : X.N.Nodup) (hgl : Gl X "sorted") (hm : X.mg "sorted" = none) (hv : bootBuiltins "sorted" = some (.builtin "sorted")) (hi : LPI X C W tg iter wi lw) (ok : BlkOk X.N X.env.scope scope own) (hw : Wm g (own.map (·.2)))
    (hg : ∀ (s : Shared) (H : Hp) (c : Addr) (cl : List (Str × Addr)) (fp : List Addr), LPG (X.blk s H scope (compEnvC scope cl c X.env) fp) C tg g lg) (ht : ∀ (s : Shared) (H : Hp) (c : Addr) (cl : List (Str × Addr)) (fp : List Addr), LPTs (X.blk s H scope (compEnvC scope cl c X.env) fp) C W0 ifs tt lt)
    (he : ∀ (s : Shared) (H : Hp) (c : Addr) (cl : List (Str × Addr)) (fp : List Addr), LPE (X.blk s H scope (compEnvC scope cl c X.env) fp) C W0 elt te le) (hs : ∀ x, foldedSetIterable iter X.env x = pure x := by intro _; rfl) :
    LPE X C W (.Call (.Name "sorted" np) [.SetComp elt [⟨tg, iter, ifs, 0⟩] scope pos] [] cpos) (tCB (rSortX X.prog X.w) (tCons (tSx X.prog X.w wi g tt te (own.map (·.2))) tNil)) (lSx lw lg lt le (own.map (·.2))) :=
  ⟨pe_callB (cr_sortX hc) hgl hm hv (pa_cons (pe_sx hc hN hi.pi ok (fun s H c cl fp => (hg s H c cl fp).pg) (fun s H c cl fp => (ht s H c cl fp).pt) (fun s H c cl fp => (he s H c cl fp).pe) hs) pa_nil) (by decide) (by decide) rfl rfl,
   lo_sx hi.lo (hg ({} : Shared) (fun _ => none) 0 [] []).lo hw (ht ({} : Shared) (fun _ => none) 0 [] []).lo (he ({} : Shared) (fun _ => none) 0 [] []).lo⟩
end
/-- over data, without conditions: what comes is written down -/
theorem sx_pure {lg : LG} {te : LE} {vs : List Nat} {ρ : Rho} {M : Mem} {P : PD} {ds : List D} {okM : Mem → Prop} (f : D → Str) (hok : okM M) (hb : ds.length < scanBound)
    (he : ∀ d ∈ ds, ∀ R : PD, R (.str (f d)) M → lg (.dat d) (wipeL ρ vs) M fun ρ2 M2 => te ρ2 M2 R noX)
    (h : ∀ ys : List Str, (∀ x, x ∈ ys ↔ ∃ d ∈ ds, f d = x) → ys.Nodup → sortedS ys = true → P (.dat (.lst (ys.map D.str))) M) :
    ∃ I : Nat → List Str → Mem → Prop, I 0 [] M ∧ (∀ i acc M, I i acc M → okM M) ∧
      (∀ i x acc M', (ds.map DV.dat)[i]? = some x → I i acc M' → lg x (wipeL ρ vs) M' fun ρ2 M2 => lYes ρ2 M2 (fun b M3 => if b = true then te ρ2 M3 (fun y M4 => acc.length + 1 < scanBound ∧ ∃ k, y = .str k ∧ DropM M.length (I (i + 1) (insT k acc)) M4) noX else DropM M.length (I (i + 1) acc) M3) noX) ∧
      ∀ acc M', I (ds.map DV.dat).length acc M' → acc.length < scanBound ∧ ∀ ys : List Str, ys.Perm acc → sortedS ys = true → P (.dat (.lst (ys.map D.str))) M' := by
  refine ⟨fun i acc M' => M' = M ∧ acc.Nodup ∧ acc.length ≤ i ∧ ∀ x, x ∈ acc ↔ ∃ d ∈ ds.take i, f d = x, ⟨rfl, List.nodup_nil, Nat.le_refl _, fun x => by simp⟩, fun i acc M' h => h.1 ▸ hok, ?_, ?_⟩
  · rintro i x acc M' hx ⟨rfl, nd, hl, hm⟩
    obtain ⟨d, hd, rfl, hi, hdm⟩ := map_at hx
    show lg (.dat d) (wipeL ρ vs) M' fun ρ2 M2 => te ρ2 M2 _ noX
    refine he d hdm _ ⟨?_, f d, rfl, .inl ⟨rfl, insT_nodup _ nd, Nat.le_trans (insT_len _ _) (by omega), fun y => ?_⟩⟩
    · omega
    · rw [insT_mem, hm, List.take_add_one, hd]
      simp only [Option.toList_some, List.mem_append, List.mem_singleton]
      constructor
      · rintro (e | ⟨d', h1, h2⟩)
        · exact ⟨d, .inr rfl, e.symm⟩
        · exact ⟨d', .inl h1, h2⟩
      · rintro ⟨d', h1 | h1, h2⟩
        · exact .inr ⟨d', h1, h2⟩
        · subst h1; exact .inl h2.symm
  · rintro acc M' ⟨rfl, nd, hl, hm⟩
    rw [List.length_map] at hl
    refine ⟨by omega, fun ys p s => h ys (fun x => ?_) (p.nodup_iff.mpr nd) s⟩
    rw [p.mem_iff, hm, List.length_map, List.take_length]
theorem s_sxL {ρ : Rho} {M : Mem} {P : PD} {PX : PXn} {lg : LG} {te : LE} {vs : List Nat} {ds : List D} (f : D → Str) (hb : ds.length < scanBound)
    (he : ∀ d ∈ ds, ∀ R : PD, R (.str (f d)) M → lg (.dat d) (wipeL ρ vs) M fun ρ2 M2 => te ρ2 M2 R noX)
    (h : ∀ ys : List Str, (∀ x, x ∈ ys ↔ ∃ d ∈ ds, f d = x) → ys.Nodup → sortedS ys = true → P (.dat (.lst (ys.map D.str))) M) (le : LE)
    (hl : ∀ R : PD, R (.dat (.lst ds)) M → le ρ M R PX) : lSx (lwAny le) lg lYes te vs ρ M P PX := hl _ (sx_pure f trivial hb he h)
theorem s_sxT {ρ : Rho} {M : Mem} {P : PD} {PX : PXn} {lg : LG} {te : LE} {vs : List Nat} {ds : List D} (f : D → Str) (hb : ds.length < scanBound)
    (he : ∀ d ∈ ds, ∀ R : PD, R (.str (f d)) M → lg (.dat d) (wipeL ρ vs) M fun ρ2 M2 => te ρ2 M2 R noX)
    (h : ∀ ys : List Str, (∀ x, x ∈ ys ↔ ∃ d ∈ ds, f d = x) → ys.Nodup → sortedS ys = true → P (.dat (.lst (ys.map D.str))) M) (le : LE)
    (hl : ∀ R : PD, R (.dat (.tup ds)) M → le ρ M R PX) : lSx (lwAny le) lg lYes te vs ρ M P PX := hl _ (sx_pure f trivial hb he h)
end L3

/-! sorted(e, key=lambda v: v[0]): rows with a text ahead -/
namespace L3
open PySem PySem.Spec L2 PySem.W PyProof.Rows LamX

/-- the code object of the place pos, if the table holds it, bears the name q -/
def TabL (H : Hp) (P : Addr) (pos : Pos) (q : Str) : Prop := ∃ ps : Array Value, H P = some (.tbl ps) ∧ TriplesOk ps.toList ∧ ∀ cv : Value, codeAmong pos ps.toList = some cv → ∃ c, cv = .ref c ∧ H c = some (CodeO c q)
/-- a lambda was made: its code object is new, or found in the table -/
structure LamStep (P : Addr) (pos : Pos) (q : Str) (H H1 : Hp) : Prop where
  tab : ∃ ps : Array Value, H1 P = some (.tbl ps) ∧ TriplesOk ps.toList ∧ ∀ cv : Value, codeAmong pos ps.toList = some cv → ∃ c, cv = .ref c ∧ H1 c = some (CodeO c q) ∧ (H c = none ∨ ∃ ps0 : Array Value, H P = some (.tbl ps0) ∧ codeAmong pos ps0.toList = some (.ref c))
  keep : ∀ b o, b ≠ P → H b = some o → H1 b = some o
section
variable {X : Cx} {pins : List (Addr × Obj)} {σ : L2.St} {H : Hp} {s : Shared}
theorem lam_make3 {c P : Addr} {params : Arguments} {body : Expr} {scope : Scope} {pos : Pos} {E : Value → Shared → Prop} {Q : Value → Shared → Prop} (I : Inv X pins σ H s) (TB : LamX.TabB X.base X.mg c P) (hcode : X.env.code = .ref c)
    (hT : TabL H P pos (X.env.qual ++ "<lambda>")) (hdef : defaultsOf params X.env = ([], [])) (hfree : ∀ y ∈ scope.names, y.2 = .free → ∃ c, X.env.cells.lookup y.1 = some c)
    (h : ∀ (f c' : Addr) (pm ctv : Value) (H1 : Hp) (s' : Shared), Inv X pins σ H1 s' → LamStep P pos (X.env.qual ++ "<lambda>") H H1 →
      s'.heap.get? f = some (PySem.W.kla_obj "<lambda>" (X.env.qual ++ "<lambda>") params body scope (cloFrom X.env.cells scope.names []) pm c' ctv) → H1 c' = some (CodeO c' (X.env.qual ++ "<lambda>")) → Q (.ref f) s') :
    wpAny (model X.prog X.w) X.A (eval (.Lambda params body scope pos) X.env) Q E s := by
  obtain ⟨ps, hP, ht, ha⟩ := hT
  refine PySem.W.kla_eval hdef ?_
  have bP : s.heap.BuiltinsAt X.mg P := TB.bm.keeps I.bk
  have hP' : s.heap.get? P = some { cls := .none, data := .fields ps } := I.hok P _ hP
  cases hc : codeAmong pos ps.toList with
  | none =>
    refine PySem.W.kla_makeFunction (mg := X.mg) (c := c) (P := P) (ps := ps) (closure_ok hfree) I.ok.glob (I.mod.glob.keeps I.bk) hcode (TB.code.keeps I.bk) hP' ht hc TB.gP bP fun c' ctv h' tk hx hge hlt hrec htb => ?_
    obtain ⟨c2, oc, vs, t, e2, hoc, hd, hv⟩ := hrec
    cases e2
    have nC : H c' = none := I.hok.fresh hge
    have I1 := inv_table (t' := tk) (more := #[rawInt pos.line, rawInt pos.col, .ref c']) (h' := h'.push (PySem.W.kla_obj "<lambda>" (X.env.qual ++ "<lambda>") params body scope (cloFrom X.env.cells scope.names []) ((X.mg "__name__").getD .none) c' ctv)) I hP
      (fun b o hb e => Heap.get?_push_of_some _ (hx b o hb e)) (Heap.get?_push_of_some _ htb) hge ⟨oc, vs, t, Heap.get?_push_of_some _ hoc, hd, hv⟩
    have kp : ∀ b o, b ≠ P → H b = some o → (upd (upd H P (.tbl (ps ++ #[rawInt pos.line, rawInt pos.col, .ref c']))) c' (CodeO c' (X.env.qual ++ "<lambda>"))) b = some o := fun b o n e => by
      rw [upd_ne (ne_of_none e nC), upd_ne n]
      exact e
    have eL : (ps ++ #[rawInt pos.line, rawInt pos.col, .ref c']).toList = ps.toList ++ [rawInt pos.line, rawInt pos.col, .ref c'] := by simp
    refine h h'.objs.size c' ((X.mg "__name__").getD .none) ctv _ _ I1 ⟨⟨_, by rw [upd_ne (ne_of_none hP nC), upd_same], by rw [eL]; exact PySem.TriplesOk_snoc _ _ _ _ ht, fun cv hcv => ?_⟩, kp⟩ (Heap.get?_push_size _ rfl) upd_same
    rw [eL] at hcv
    rcases among_app _ ht hcv with z | z
    · rw [hc] at z
      cases z
    · exact ⟨c', z, upd_same, .inl nC⟩
  | some cv =>
    obtain ⟨c', e, hco⟩ := ha cv hc
    subst e
    refine PySem.W.kla_makeFunctionHit (mg := X.mg) (c := c) (P := P) (ps := ps) (closure_ok hfree) I.ok.glob (I.mod.glob.keeps I.bk) hcode (TB.code.keeps I.bk) hP' ht hc bP fun ctv h' tk hx hsz => ?_
    have I1 : Inv X pins σ H { s with heap := h'.push (PySem.W.kla_obj "<lambda>" (X.env.qual ++ "<lambda>") params body scope (cloFrom X.env.cells scope.names []) ((X.mg "__name__").getD .none) c' ctv), toks := tk } := I.kept fun b o e => Heap.get?_push_of_some _ (hx b o e)
    refine h h'.objs.size c' ((X.mg "__name__").getD .none) ctv H _ I1 ⟨⟨ps, hP, ht, fun cv hcv => ?_⟩, fun _ _ _ e => e⟩ (Heap.get?_push_size _ rfl) hco
    obtain ⟨c0, e1, e2⟩ := ha cv hcv
    exact ⟨c0, e1, e2, .inr ⟨ps, hP, by rw [← e1]; exact hcv⟩⟩
end
/-- the lambda's one parameter; no captured name -/
structure Lam1 (scope : Scope) (v : Str) : Prop where
  kind : scope.kind = .function
  co : scope.isCoroutine = false
  gen : scope.isGenerator = false
  cell : ∀ y ∈ scope.names, y.2 ≠ .cell
  free : ∀ y ∈ scope.names, y.2 ≠ .free
  par : scope.names.lookup v = some .local
def lam1B (scope : Scope) (v : Str) : Bool :=
  decide (scope.kind = .function) && (!scope.isCoroutine && (!scope.isGenerator && (scope.names.all (fun y => !decide (y.2 = .cell)) && (scope.names.all (fun y => !decide (y.2 = .free)) && decide (scope.names.lookup v = some .local)))))
theorem lam1_by {scope : Scope} {v : Str} (h : lam1B scope v = true) : Lam1 scope v := by
  unfold lam1B at h
  simp only [Bool.and_eq_true, Bool.not_eq_true', decide_eq_true_eq, decide_eq_false_iff_not, List.all_eq_true] at h
  obtain ⟨h1, h2, h3, h4, h5, h6⟩ := h
  exact ⟨h1, h2, h3, h4, h5, h6⟩
/-- the rows: tuples with a text ahead -/
def RowsA (K : PySem.W.Frag) (v : V) (H : Hp) (bs : List (V × Str)) : Prop := ∃ a, v = .ref a ∧ SqL K H a (bs.map (·.1)) ∧ ∀ b ∈ bs, ∃ t xs, b.1 = .ref t ∧ SqT K H t xs ∧ xs[0]? = some (.str b.2)
def tSortLam (K : PySem.W.Frag) (P0 : Addr) (lp : Pos) (qn : Str) (te : TE) : TE := fun σ H Q => te σ H fun v H1 => TabL H1 P0 lp qn ∧ ∃ bs, RowsA K v H1 bs ∧
  ∀ H2, LamStep P0 lp qn H1 H2 → ∀ p, H2 p = none → Q (.ref p) (upd H2 p (.lst ((bs.mergeSort (dataLe false fun b => .str b.2)).map (·.1))))
section
variable {P : Addr} {lp : Pos} {q : Str} {H H1 : Hp} {K : PySem.W.Frag}
theorem LamStep.rd (t : LamStep P lp q H H1) (hP : ∃ ps, H P = some (.tbl ps)) {a : Addr} {u : HO} (h : Rd H a u) (n : ∀ ps, u ≠ .tbl ps) : Rd H1 a u := by
  obtain ⟨ps, hP⟩ := hP
  rcases h with h | ⟨o, h⟩
  · refine .inl (t.keep _ _ (fun z => ?_) h)
    rw [z, hP] at h
    exact n ps (Option.some.inj h).symm
  · refine .inr ⟨o, t.keep _ _ (fun z => ?_) h⟩
    rw [z, hP] at h
    cases h
theorem LamStep.sqL (t : LamStep P lp q H H1) (hP : ∃ ps, H P = some (.tbl ps)) {a : Addr} {xs : List V} (h : SqL K H a xs) : SqL K H1 a xs := h.imp (fun h => t.rd hP h fun _ z => by cases z) id
theorem LamStep.sqT (t : LamStep P lp q H H1) (hP : ∃ ps, H P = some (.tbl ps)) {a : Addr} {xs : List V} (h : SqT K H a xs) : SqT K H1 a xs := h.imp (fun h => t.rd hP h fun _ z => by cases z) id
theorem LamStep.rows (t : LamStep P lp q H H1) (hP : ∃ ps, H P = some (.tbl ps)) {v : V} {bs : List (V × Str)} (h : RowsA K v H bs) : RowsA K v H1 bs := by
  obtain ⟨a, e, h1, h2⟩ := h
  exact ⟨a, e, t.sqL hP h1, fun b hb => let ⟨u, xs, e1, e2, e3⟩ := h2 b hb; ⟨u, xs, e1, t.sqT hP e2, e3⟩⟩
end
theorem eachS {R : Value → V × Str → Prop} : ∀ {bs : List (V × Str)} {its : List Value}, Vals (bs.map (·.1)) its → (∀ b ∈ bs, ∀ u, RelV b.1 u → R u b) → EachIs R its bs
  | [], _, r, _ => by cases r; exact .nil
  | b :: bs, _, r, h => by
    cases r with
    | cons r0 rt => exact .cons (h b List.mem_cons_self _ r0) (eachS rt fun b hb => h b (List.mem_cons_of_mem _ hb))
theorem valsS {R : Value → V × Str → Prop} (hR : ∀ u b, R u b → RelV b.1 u) : ∀ {bs : List (V × Str)} {its : List Value}, EachIs R its bs → Vals (bs.map (·.1)) its
  | _, _, .nil => .nil
  | _, _, .cons h t => .cons (hR _ _ h) (valsS hR t)
/-- a row, over the heap -/
def RowH (h : Heap) (u : Value) (b : V × Str) : Prop := RelV b.1 u ∧ ∃ t its tk, u = .ref t ∧ IsTup h t its ∧ its[0]? = some (.str b.2 tk)
section
variable {X : Cx} {pins : List (Addr × Obj)} {σ : L2.St} {H : Hp} {s : Shared}
/-- the lambda, called with a row -/
theorem lam_turn {A : Around} {scope : Scope} {v q : Str} {params : Arguments} {f c' : Addr} {pm ctv : Value} {cl : List (Str × Addr)} {j : Nat} {p1 p2 p3 : Pos} {u : Value} {b : V × Str} {h : Heap} {tk : Nat} (I : Inv X pins σ H s) (L : Lam1 scope v) (hd : A.depth < recursionLimit)
    (hf : s.heap.get? f = some (PySem.W.kla_obj "<lambda>" q params (.Subscript (.Name v p1) (.Constant (.int 0) j p2) p3) scope cl pm c' ctv)) (hc : H c' = some (CodeO c' q))
    (hb : bindArgs (PySem.W.kla_fn "<lambda>" q params (.Subscript (.Name v p1) (.Constant (.int 0) j p2) p3) scope cl pm (.ref c') ctv) ⟨[u], []⟩ = pure [(v, u)]) (hdv : (v == ("__debug__" : Str)) = false)
    (hr : RowH s.heap u b) (kp : ∀ b o, s.heap.get? b = some o → h.get? b = some o) :
    wpAny (model X.prog X.w) A (call (.ref f) [u]) (KeyPure (.str b.2) { s with heap := h, toks := tk }) (fun _ _ => False) { s with heap := h, toks := tk } := by
  obtain ⟨_, t, its, tq, rfl, ⟨ot, ht, htc, htd⟩, hx⟩ := hr
  obtain ⟨⟨oc, vs, t', hoc, hdc, hvc⟩, _, _⟩ := I.hok c' _ hc
  refine wpAny_call ?_
  refine PySem.W.kla_callFunE (body := .Subscript (.Name v p1) (.Constant (.int 0) j p2) p3) hd (kp _ _ hf) rfl L.co L.gen rfl ⟨c', oc, vs, t', rfl, kp _ _ hoc, hdc, hvc⟩ ?_
  rw [hb]
  refine wpAny_pure (wpAny_newFunctionEnv L.cell (fun y hy => ?_) (fun h₁ hns hsb => ⟨(I.nolimit.keeps kp).fresh _ hsb, ?_⟩) L.kind)
  · obtain rfl : y = (v, .ref t) := by simpa using hy
    exact L.par
  · have k2 : ∀ b o, h.get? b = some o → h₁.get? b = some o := fun b o e => hsb.extBut b o (Nat.ne_of_lt (Heap.lt_size e)) (Heap.get?_push_of_some _ e)
    refine PySem.W.kla_codeExpr ?_
    refine Subscript_ (wpAny_Name (wpAny_loadName_local L.kind L.par hns (v := .ref t) (by simp [List.lookup]) ?_) hdv)
    refine wpAny_Constant_int ?_
    refine item_tuple (items := its) (j := 0) ⟨ot, k2 _ _ (kp _ _ ht), htc, htd⟩ (by decide) (by decide) ?_ hx ?_
    · have : 0 < its.size := (Array.getElem?_eq_some_iff.mp hx).1
      unfold seqIndex?
      simp [this]
    · exact ⟨h₁, _, rfl, k2, .str _ _⟩
end
section
variable {X : Cx}
theorem pe_sortLam {c P0 : Addr} {e : Expr} {te : TE} {scope : Scope} {v : Str} {params : Arguments} {j : Nat} {p lpos kpos pos p1 p2 p3 : Pos} (hu : X.A.units + 64 < cLine) (hdp : X.A.depth < recursionLimit) (hg : Gl X "sorted") (hm : X.mg "sorted" = none) (TB : LamX.TabB X.base X.mg c P0) (hcode : X.env.code = .ref c) (L : Lam1 scope v)
    (he : PE X e te) (hdef : defaultsOf params X.env = ([], []))
    (hbind : ∀ (q : Str) (cl : List (Str × Addr)) (pm cv ctv u : Value), bindArgs (PySem.W.kla_fn "<lambda>" q params (.Subscript (.Name v p1) (.Constant (.int 0) j p2) p3) scope cl pm cv ctv) ⟨[u], []⟩ = pure [(v, u)])
    (hdv : (v == ("__debug__" : Str)) = false := by decide)
    (hst : starEach [e] X.env = (false, eval e X.env) :: starEach [] X.env := by rfl) :
    PE X (.Call (.Name "sorted" p) [e] [⟨some "key", .Lambda params (.Subscript (.Name v p1) (.Constant (.int 0) j p2) p3) scope lpos, kpos⟩] pos) (tSortLam X.K P0 lpos (X.env.qual ++ "<lambda>") te) := by
  refine ⟨fun pins s σ H Q I h => ?_⟩
  refine wpAny_Call_Name_kw (ld_blt I hg hm (u := .builtin "sorted") (by first | rfl | decide +kernel) ?_ (by first | decide +kernel | decide) (by first | decide +kernel | decide))
  refine PyProof.Rows.callWith_kw ?_ (by rw [hst]; rfl) (by rw [hst]; rfl)
  refine thn ((pa_cons he pa_nil hst).run pos pins s σ H (fun vs H1 => match vs with
    | [v0] => TabL H1 P0 lpos (X.env.qual ++ "<lambda>") ∧ ∃ bs, RowsA X.K v0 H1 bs ∧ ∀ H2, LamStep P0 lpos (X.env.qual ++ "<lambda>") H1 H2 → ∀ p, H2 p = none → Q (.ref p) (upd H2 p (.lst ((bs.mergeSort (dataLe false fun b => .str b.2)).map (·.1))))
    | _ => False) I h) fun us s1 ⟨vs, H1, I1, r1, q1⟩ => ?_
  obtain ⟨v0, rfl, hT, bs, hR, hQ⟩ : ∃ v0, vs = [v0] ∧ TabL H1 P0 lpos (X.env.qual ++ "<lambda>") ∧ ∃ bs, RowsA X.K v0 H1 bs ∧ ∀ H2, LamStep P0 lpos (X.env.qual ++ "<lambda>") H1 H2 → ∀ p, H2 p = none → Q (.ref p) (upd H2 p (.lst ((bs.mergeSort (dataLe false fun b => .str b.2)).map (·.1)))) := by
    match vs, q1 with
    | [v0], q1 => exact ⟨v0, rfl, q1⟩
  show wpAny _ _ (evalAll ((do let v ← eval (.Lambda params (.Subscript (.Name v p1) (.Constant (.int 0) j p2) p3) scope lpos) X.env; standAt pos; pure v) :: [])) _ _ s1
  refine wpAny_evalAll_cons (wpAny_bind (lam_make3 I1 TB hcode hT hdef (fun y hy e => absurd e (L.free y hy)) fun f c' pm ctv H2 s2 I2 st hf hc => wpAny_bind (wpAny_standAt (wpAny_pure (wpAny_evalAll_nil ?_)))))
  have hP : ∃ ps, H1 P0 = some (.tbl ps) := hT.imp fun _ z => z.1
  obtain ⟨a, rfl, hs, hrow⟩ := st.rows hP hR
  obtain rfl := Vals.ref1 r1
  obtain ⟨its, rv, hl, hz⟩ := I2.list hs
  rw [List.length_map] at hz
  have e1 : EachIs (RowH s2.heap) its bs := eachS rv fun b hb u hru => ⟨hru, by
    obtain ⟨t, xs, eb, ht, hx⟩ := hrow b hb
    obtain ⟨tis, rt, pt, _⟩ := I2.tuple ht
    obtain ⟨w, ew, rw'⟩ := rt.get hx
    obtain ⟨tk, rfl⟩ := rw'
    rw [eb] at hru
    exact ⟨t, tis.toArray, tk, hru, pt, by simpa using ew⟩⟩
  show wpAny _ _ (call (.builtin "sorted") [.ref a] [(Str.ofString "key", .ref f)]) _ _ s2
  refine sorted_key_data (s := s2) (b := false) (fun b : V × Str => PyData.str b.2) hl.isList e1 (AllAlike.of fun _ _ => by simp [alike]) (Sortable.others fun _ => ⟨(by intro z; cases z), fun xs z => by cases z⟩) hz (fun b hb => ?_) (ksk_s1 _ _) (fun _ => ksk_l1 _ _) (fun _ => ksk_t1 _ _)
    (fun u b hR' hb h tk kp => lam_turn I2 L hdp hf hc (hbind _ _ _ _ _ _) hdv hR' kp) fun out ep h' tk kp hfr he' ho eo => ?_
  · have : (PyData.str b.2).depth = 0 := by simp [PyData.depth]
    rw [this]
    omega
  · have hlen : ((bs.mergeSort (dataLe false fun b => PyData.str b.2)).map (·.1)).length ≤ sizeLine := by rw [List.length_map, List.length_mergeSort]; exact hz
    exact ⟨.ref _, upd H2 (s2.heap.objs.size + 1) (.lst ((bs.mergeSort (dataLe false fun b => PyData.str b.2)).map (·.1))), I2.laid (t' := tk) kp (Nat.le_succ _) ⟨hlen, out, ep, valsS (fun _ _ z => z.1) eo, he'⟩, rfl, hQ H2 st _ (I2.hok.fresh (Nat.le_succ _))⟩
end
/-! ### lifted -/
def headK : D → PyData
  | .tup (.str p :: _) => .str p
  | _ => .none
def lSortLam (le : LE) : LE := fun ρ M P PX => le ρ M (fun x M1 => ∃ ds : List D, (x = .dat (.lst ds) ∨ ∃ n, x = .obj n ∧ M1[n]? = some (.lst (ds.map DV.dat))) ∧ (∀ d ∈ ds, ∃ p r, d = .tup (.str p :: r)) ∧ P (.dat (.lst (ds.mergeSort (dataLe false headK)))) M1) PX
section
variable {C : Cn} {α : List Addr} {H H1 : Hp} {M : Mem} {P0 : Addr} {lp : Pos} {q : Str}
theorem LamStep.step (h0 : P0 ∈ C.T) (r : RS C α M H) (t : LamStep P0 lp q H H1) : Step C α H α H1 := by
  obtain ⟨ps', e', _⟩ := t.tab
  refine ⟨⟨[], by simp, by simp⟩, fun b o h _ nt => t.keep b o (fun z => nt (by rw [z]; exact h0)) h, fun b o h => ?_⟩
  by_cases z : b = P0
  · exact ⟨_, by rw [z]; exact e'⟩
  · exact ⟨o, t.keep b o z h⟩
theorem LamStep.rs (hm : (P0, lp, q) ∈ C.T.qs) (hu : ∀ p ∈ C.T.qs, p.1 = P0 → p.2 = (lp, q)) (r : RS C α M H) (t : LamStep P0 lp q H H1) : RS C α M H1 := by
  have h0 : P0 ∈ C.T := C.T.sub _ hm
  have s := t.step h0 r
  obtain ⟨ps, e, _⟩ := r.tb P0 h0
  obtain ⟨ps', e', ht, hc'⟩ := t.tab
  refine ⟨⟨r.hr.len, fun n a o h1 h2 => ?_⟩, r.nd, fun P hP => ?_, fun z hz => ?_, fun p hp => ?_⟩
  · have q := r.hr.get n a o h1 h2
    have ne : a ≠ P0 := fun z => r.noT h1 h2 (by rw [z]; exact h0)
    obtain ⟨u, eu⟩ := q.some
    exact q.step s (by rw [eu, t.keep a u ne eu])
  · by_cases z : P = P0
    · subst z; exact ⟨ps', e', ht⟩
    · obtain ⟨qs, h1, h2⟩ := r.tb P hP
      exact ⟨qs, t.keep _ _ z h1, h2⟩
  · obtain ⟨o, h⟩ := r.zd z hz
    exact s.dom z o h
  · by_cases z : p.1 = P0
    · intro ps1 h cv hc
      rw [z, e'] at h
      cases h
      have ez := hu p hp z
      rw [ez] at hc ⊢
      obtain ⟨c, e1, e2, e3⟩ := hc' cv hc
      refine ⟨c, e1, fun hz => ?_, e2⟩
      rcases e3 with e3 | ⟨ps0, h0', hc0⟩
      · obtain ⟨o, h⟩ := r.zd c hz
        rw [e3] at h; cases h
      · obtain ⟨c1, e4, e5, _⟩ := r.tq _ hm ps0 h0' _ hc0
        cases e4
        exact e5 hz
    · refine (r.tq p hp).keep (r.tabAt hp) (fun b o h y => t.keep b o ?_ h) fun _ _ _ z => z
      rcases y with y | ⟨q, rfl, _⟩
      · rw [y]; exact z
      · exact fun z => r.codeNotT h (by rw [z]; exact h0)
end
theorem lo_sortLam {C : Cn} {W : WX} {P0 : Addr} {lp : Pos} {q : Str} {te : TE} {le : LE} (hm : (P0, lp, q) ∈ C.T.qs) (hu : ∀ p ∈ C.T.qs, p.1 = P0 → p.2 = (lp, q)) (he : LoE C W te le) : LoE C W (tSortLam C.K P0 lp q te) (lSortLam le) := fun ρ M P PX h Z σ H α Q vs rs kt wk =>
  he.bind h vs rs wk fun v H1 α1 x M1 s1 r1 q1 h1 vs1 wk1 => by
    obtain ⟨ds, hx, hd, p⟩ := h1
    obtain ⟨ps, e0, ht0⟩ := r1.tb P0 (C.T.sub _ hm)
    refine ⟨⟨ps, e0, ht0, fun cv hc => ?_⟩, ?_⟩
    · obtain ⟨c, e1, _, e2⟩ := r1.tq _ hm ps e0 cv hc
      exact ⟨c, e1, e2⟩
    have go : ∀ a ws, v = .ref a → SqL C.K H1 a ws → VDs C.K ((C.wz Z).N α1) H1 ws ds → ∃ bs, RowsA C.K v H1 bs ∧ ∀ H2, LamStep P0 lp q H1 H2 → ∀ p, H2 p = none → Q (.ref p) (upd H2 p (.lst ((bs.mergeSort (dataLe false fun b => .str b.2)).map (·.1)))) := by
      rintro a ws rfl hs hds
      obtain ⟨ts, rfl, rfl, ht⟩ := hds.zip
      let hk : V × D → V × Str := fun t => (t.1, match t.2 with | .tup (.str p :: _) => p | _ => "")
      refine ⟨ts.map hk, ⟨a, rfl, by rw [List.map_map]; exact hs, fun b hb => ?_⟩, fun H2 st => ?_⟩
      · obtain ⟨t, h, rfl⟩ := List.mem_map.mp hb
        obtain ⟨tv, td⟩ := t
        obtain ⟨p0, r0, e⟩ := hd td (List.mem_map.mpr ⟨_, h, rfl⟩)
        have e : td = .tup (.str p0 :: r0) := e
        subst e
        have h9 := ht _ h
        obtain ⟨b, xs, e, hst, hvs⟩ := VD.tup_inv h9
        have e : tv = .ref b := e
        subst e
        cases hvs with
        | cons h10 _ => cases h10; exact ⟨b, _, rfl, hst.sq, rfl⟩
      · have s2 : Step (C.wz Z) α1 H1 α1 H2 := st.step (C := C.wz Z) (C.T.sub _ hm) r1
        have r2 : RS (C.wz Z) α1 M1 H2 := st.rs (C := C.wz Z) hm hu r1
        have m2 : (ts.map (·.2)).mergeSort (dataLe false headK) = (ts.mergeSort (dataLe false fun t => headK t.2)).map (·.2) := (List.map_mergeSort (r := dataLe false fun t : V × D => headK t.2) (s := dataLe false headK) (f := fun t : V × D => t.2) (l := ts) (fun a _ b _ => rfl)).symm
        have m1 : ((ts.map hk).mergeSort (dataLe false fun b => .str b.2)) = (ts.mergeSort (dataLe false fun t => headK t.2)).map hk := (List.map_mergeSort (r := dataLe false fun t : V × D => headK t.2) (s := dataLe false fun b : V × Str => .str b.2) (f := hk) (l := ts) (fun a ha b hb => by
          obtain ⟨p1, r1, e1⟩ := hd a.2 (List.mem_map.mpr ⟨_, ha, rfl⟩)
          obtain ⟨p2, r2, e2⟩ := hd b.2 (List.mem_map.mpr ⟨_, hb, rfl⟩)
          obtain ⟨a1, a2⟩ := a
          obtain ⟨b1, b2⟩ := b
          have e1 : a2 = _ := e1
          have e2 : b2 = _ := e2
          subst e1 e2
          rfl)).symm
        rw [m1, List.map_map]
        rw [m2] at p
        refine new_lst r2 (kt.step (s1.trans s2)) (ds := (ts.mergeSort (dataLe false fun t => headK t.2)).map (·.2)) ?_ p
        exact (VDs.unzip fun t h => ht t ((List.mergeSort_perm _ _).mem_iff.mp h)).mv s2.mv
    rcases hx with rfl | ⟨n, rfl, hn⟩
    · obtain ⟨a, ws, rfl, hs, hds⟩ := VD.lst_inv q1
      exact go a ws rfl hs.sq hds
    · obtain ⟨a, ws, rfl, hs, hds⟩ := seq_of r1 q1 hn
      exact go a ws rfl hs hds
section
variable {X : Cx} {C : Cn} {W : WX} {c P0 : Addr} {q : Str} {e : Expr} {te : TE} {le : LE} {scope : Scope} {v : Str} {params : Arguments} {j : Nat} {p lpos kpos pos p1 p2 p3 : Pos} {k : Nat}
theorem lp_sortLam_k0 (hK : X.K = C.K) (hr : Room k X.A) (hu : X.A.units + 64 < cLine) (hg : Gl X "sorted") (hm : X.mg "sorted" = none) (TB : LamX.TabB X.base X.mg c P0) (hcode : X.env.code = .ref c) (hq : X.env.qual ++ "<lambda>" = q) (hT : (P0, lpos, q) ∈ C.T.qs) (hT2 : ∀ p ∈ C.T.qs, p.1 = P0 → p.2 = (lpos, q)) (L : Lam1 scope v)
    (he : LPE X C W e te le) (hdef : defaultsOf params X.env = ([], []) := by rfl)
    (hbind : ∀ (q : Str) (cl : List (Str × Addr)) (pm cv ctv u : Value), bindArgs (PySem.W.kla_fn "<lambda>" q params (.Subscript (.Name v p1) (.Constant (.int 0) j p2) p3) scope cl pm cv ctv) ⟨[u], []⟩ = pure [(v, u)] := by intro _ _ _ _ _ _; rfl)
    (hdv : (v == ("__debug__" : Str)) = false := by decide)
    (hst : starEach [e] X.env = (false, eval e X.env) :: starEach [] X.env := by rfl) :
    LPE X C W (.Call (.Name "sorted" p) [e] [⟨some "key", .Lambda params (.Subscript (.Name v p1) (.Constant (.int 0) j p2) p3) scope lpos, kpos⟩] pos) (tSortLam X.K P0 lpos q te) (lSortLam le) := by
  subst hq
  exact ⟨pe_sortLam hu hr.depth hg hm TB hcode L he.pe hdef hbind hdv hst, by rw [hK]; exact lo_sortLam hT hT2 he.lo⟩
theorem lp_sortLam (hK : X.K = C.K) (hr : Room k X.A) (hu : X.A.units + 64 < cLine) (hg : Gl X "sorted") (hm : X.mg "sorted" = none) (TB : LamX.TabB X.base X.mg c P0) (hcode : X.env.code = .ref c) (hq : X.env.qual ++ "<lambda>" = q) (hT : (P0, lpos, q) ∈ C.T.qs) (hT2 : ∀ p ∈ C.T.qs, p.1 = P0 → p.2 = (lpos, q)) (L : Lam1 scope v)
    (he : LPE X C W e te le) (hdef : defaultsOf params X.env = ([], []) := by rfl)
    (hbind : ∀ (q : Str) (cl : List (Str × Addr)) (pm cv ctv u : Value), bindArgs (PySem.W.kla_fn "<lambda>" q params (.Subscript (.Name v p1) (.Constant (.int 0) j p2) p3) scope cl pm cv ctv) ⟨[u], []⟩ = pure [(v, u)] := by intro _ _ _ _ _ _; rfl)
    (hdv : (v == ("__debug__" : Str)) = false := by decide)
    (hst : starEach [e] X.env = (false, eval e X.env) :: starEach [] X.env := by rfl) :
    LPE X C W (.Call (.Name "sorted" p) [e] [⟨some "key", .Lambda params (.Subscript (.Name v p1) (.Constant (.int 0) j p2) p3) scope lpos, kpos⟩] pos) (tSortLam C.K P0 lpos q te) (lSortLam le) := by
  rw [← hK]
  apply lp_sortLam_k0 <;> assumption
end
theorem s_sortLam {le : LE} {ρ : Rho} {M : Mem} {P : PD} {PX : PXn} (h : le ρ M (fun x M1 => ∃ ds : List D, (x = .dat (.lst ds) ∨ ∃ n, x = .obj n ∧ M1[n]? = some (.lst (ds.map DV.dat))) ∧ (∀ d ∈ ds, ∃ p r, d = .tup (.str p :: r)) ∧ P (.dat (.lst (ds.mergeSort (dataLe false headK)))) M1) PX) : lSortLam le ρ M P PX := h
section
variable {X : Cx} {C : Cn} {W : WX} {tg e e2 : Expr} {ta : TA} {la : LA} {p pos : Pos}
theorem lpi_range2 (h : LPA X C W [e, e2] ta la) (hg : Gl X "range") (hm : X.mg "range" = none) (hs : starEach [e, e2] X.env = [(false, eval e X.env), (false, eval e2 X.env)] := by rfl) (hs2 : starEach [e2] X.env = [(false, eval e2 X.env)] := by rfl) : LPI X C W tg (.Call (.Name "range" p) [e, e2] [] pos) (iRng2 ta) (lwRng2 la) := ⟨pi_range2 hg hm h.pa hs hs2,
  fun ρ M P PX g Z σ H α R vs rs wk kt => h.lo.bind g vs rs wk fun v H1 α1 x M1 s1 r1 q1 h1 vs1 wk1 => by
    obtain ⟨i, j, rfl, hb, p⟩ := h1
    cases q1 with
    | cons a t =>
      cases t with
      | cons b t =>
        cases t
        cases a
        cases b
        exact ⟨i, j, rfl, hb, kt _ H1 α1 _ _ M1 s1 r1 (fun Z' H'' m => ItOk.range i (j - i).toNat) trivial p⟩⟩
end
end L3

/-! f-strings; int of a text; pop at a place; split into a list that is changed -/
namespace L3
open PySem L2
section
variable {X : Cx} {C : Cn} {W : WX} {e v1 v2 : Expr} {es rest : List Expr} {te : TE} {le : LE} {ts : List TE} {ls : List LE} {pos : Pos}
/-- {x}: a text, an int -/
def lFmt (le : LE) : LE := fun ρ M P PX => le ρ M (fun x M1 => (∃ y : Str, x = .str y ∧ y.length ≤ sizeLine ∧ P (.str y) M1) ∨ ∃ i : Int, x = .int i ∧ i.natAbs.log2 < 1920 ∧ P (.str (toString i)) M1) PX
theorem lp_fmt (h : LPE X C W e te le) : LPE X C W (.FormattedValue e (-1) none pos) (tFmt te) (lFmt le) := ⟨pe_fmt h.pe, fun ρ M P PX g Z σ H α Q vs rs kt wk =>
  h.lo.bind g vs rs wk fun v H1 α1 x M1 s1 r1 q1 h1 vs1 wk1 => by
    rcases h1 with ⟨y, rfl, hz, p⟩ | ⟨i, rfl, hz, p⟩
    · cases q1
      exact .inl ⟨y, rfl, hz, (kt.step s1).now r1 (d := .str y) (.str _) p⟩
    · cases q1
      exact .inr ⟨i, rfl, hz, (kt.step s1).now r1 (d := .str (toString i)) (.str _) p⟩⟩
/-- the parts one behind the other -/
def lJs : List LE → Str → Rho → Mem → (Str → Mem → Prop) → PXn → Prop
  | [], acc, _, M, Q, _ => Q acc M
  | l :: ls, acc, ρ, M, Q, PX => l ρ M (fun x M1 => ∃ y : Str, x = .str y ∧ (acc ++ y).length ≤ sizeLine ∧ lJs ls (acc ++ y) ρ M1 Q PX) PX
structure LPJ (X : Cx) (C : Cn) (W : WX) (es : List Expr) (ts : List TE) (ls : List LE) : Prop where
  pj : PJ X es ts
  lo : ∀ (acc : Str) (ρ : Rho) (M : Mem) (Q : Str → Mem → Prop) (PX : PXn), lJs ls acc ρ M Q PX → ∀ (Z : List Addr) (σ : L2.St) (H : Hp) (α : List Addr) (R : Str → Hp → Prop), VS (C.wz Z) α H σ ρ → RS (C.wz Z) α M H →
    (∀ out H' α' M', Step (C.wz Z) α H α' H' → RS (C.wz Z) α' M' H' → Q out M' → R out H') → Wk (C.wz Z) α H W σ PX → tJs ts acc σ H R
theorem lpj_nil : LPJ X C W [] [] [] := ⟨.nil, fun acc ρ M Q PX h Z σ H α R vs rs k wk => k acc H α M .refl rs h⟩
theorem lpj_cons (h : LPE X C W e te le) (t : LPJ X C W es ts ls) : LPJ X C W (e :: es) (te :: ts) (le :: ls) := ⟨.cons h.pe t.pj, fun acc ρ M Q PX g Z σ H α R vs rs k wk =>
  h.lo.bind g vs rs wk fun v H1 α1 x M1 s1 r1 q1 h1 vs1 wk1 => by
    obtain ⟨y, rfl, hz, p⟩ := h1
    cases q1
    exact ⟨y, rfl, hz, t.lo _ ρ M1 Q PX p Z σ H1 α1 R vs1 r1 (fun out H' α' M' s r q => k out H' α' M' (s1.trans s) r q) wk1⟩⟩
def lFs (ls : List LE) : LE := fun ρ M P PX => lJs ls Str.empty ρ M (fun out M1 => P (.str out) M1) PX
theorem lp_fs (h : LPJ X C W (v1 :: v2 :: rest) ts ls) : LPE X C W (.JoinedStr (v1 :: v2 :: rest) pos) (fun σ H Q => tJs ts Str.empty σ H fun out H1 => Q (.str out) H1) (lFs ls) := ⟨pe_joined h.pj, fun ρ M P PX g Z σ H α Q vs rs kt wk =>
  h.lo Str.empty ρ M _ PX g Z σ H α _ vs rs (fun out H' α' M' s r q => (kt.step s).now r (d := .str out) (.str _) q) wk⟩
theorem lp_fs1 (h : LPE X C W e te le) : LPE X C W (.JoinedStr [e] pos) te le := ⟨pe_joined1 h.pe, h.lo⟩
end
section
variable {C : Cn}
def vIntS : List DV → Mem → PD → Prop := fun xs M P => ∃ a n, xs = [.str a] ∧ PySem.intText? a = some n ∧ a.length ≤ 640 ∧ P (.int n) M
theorem ll_intS : LoL C (fun xs H Q => ∃ a n, xs = [V.str a] ∧ PySem.intText? a = some n ∧ a.length ≤ 640 ∧ Q (.int n) H) vIntS := fun xs M P ⟨a, n, e, h1, h2, p⟩ Z α H vs Q r q k => by
  subst e
  obtain ⟨w, rfl, qw⟩ := one_inv q
  cases qw
  exact ⟨a, n, rfl, h1, h2, k.now (d := .int n) r (.int _) p⟩
def vIntA : List DV → Mem → PD → Prop := fun xs M P => vInt1 xs M P ∨ vIntS xs M P
theorem call_intA {X : Cx} : CallR X (.type "int") (fun xs H Q => ((∃ i, xs = [.int i] ∧ Q (.int i) H) ∨ ∃ k, xs = [.bl k] ∧ Q (.int (if k then 1 else 0)) H) ∨ ∃ a n, xs = [V.str a] ∧ PySem.intText? a = some n ∧ a.length ≤ 640 ∧ Q (.int n) H) := call_int1.or call_int_str
theorem ll_intA : LoL C (fun xs H Q => ((∃ i, xs = [.int i] ∧ Q (.int i) H) ∨ ∃ k, xs = [.bl k] ∧ Q (.int (if k then 1 else 0)) H) ∨ ∃ a n, xs = [V.str a] ∧ PySem.intText? a = some n ∧ a.length ≤ 640 ∧ Q (.int n) H) vIntA := ll_or ll_int1 ll_intS
def vSplitM : DV → List DV → Mem → PD → Prop := fun x xs M P => ∃ a b, x = .str a ∧ xs = [.str b] ∧ (b.length == 0) = false ∧ a.length + 2 ≤ sizeLine ∧ P (.obj M.length) (M ++ [.lst (((Txt.split a b).map D.str).map DV.dat)])
theorem lm_splitM : LoM C (fun x xs H Q => ∃ a b, x = .str a ∧ xs = [.str b] ∧ (b.length == 0) = false ∧ a.length + 2 ≤ sizeLine ∧ rNewStrs (Txt.split a b) H Q) vSplitM := fun x xs M P ⟨a, b, e1, e2, h1, h2, p⟩ Z α H v vs Q r q qs k => by
  subst e1 e2
  obtain ⟨w, rfl, qw⟩ := one_inv qs
  cases q; cases qw
  exact ⟨a, b, rfl, rfl, h1, h2, new_obj r k (VDs.map_str _) p⟩
theorem VRs.erase {α : List Addr} {H : Hp} : ∀ {xs : List V} {ds : List DV} (n : Nat), VRs C α H xs ds → VRs C α H (xs.eraseIdx n) (ds.eraseIdx n)
  | _, _, _, .nil => .nil
  | _, _, 0, .cons _ b => b
  | _, _, n + 1, .cons a b => .cons a (VRs.erase n b)
def vPopAt : DV → List DV → Mem → PD → Prop := fun x xs M P => ∃ n ys i k y, x = .obj n ∧ xs = [.int i] ∧ M[n]? = some (.lst ys) ∧ -(2 ^ 63) ≤ i ∧ i < 2 ^ 63 ∧ seqIndex? i ys.length = some k ∧ ys[k]? = some y ∧ P y (M.set n (.lst (ys.eraseIdx k)))
theorem lm_popAt : LoM C rPopAt vPopAt := fun x xs M P ⟨n, ys, i, j, y, e1, e2, hm, h0, h1, hj, hy, p⟩ Z α H v vs Q r q qs k => by
  subst e1 e2
  obtain ⟨w, rfl, qw⟩ := one_inv qs
  cases qw
  obtain ⟨a, ea, rfl⟩ := q
  obtain ⟨zs, eh, hd⟩ := r.hr.get n a _ ea hm
  have st : Step (C.wz Z) α H α (upd H a (.lst (zs.eraseIdx j))) := put_step ea
  obtain ⟨u, hu, ru⟩ := hd.at hy
  obtain ⟨r4, s4⟩ := r.put (mo := .lst (ys.eraseIdx j)) ea ⟨_, upd_same, VRs.erase j (VRs.step hd st)⟩ (r.noT ea hm)
  exact ⟨a, zs, i, j, u, rfl, rfl, eh, h0, h1, by rw [VRs.length hd]; exact hj, hu, k _ _ α y _ s4 r4 (ru.step s4) p⟩
end
section
variable {ρ : Rho} {M : Mem} {P : PD} {PX : PXn} {le : LE} {ls : List LE} {acc : Str} {Q : Str → Mem → Prop}
theorem s_fs (h : lJs ls Str.empty ρ M (fun out M1 => P (.str out) M1) PX) : lFs ls ρ M P PX := h
theorem s_jsNil (h : Q acc M) : lJs [] acc ρ M Q PX := h
theorem s_jsCons {l : LE} (h : l ρ M (fun x M1 => ∃ y : Str, x = .str y ∧ (acc ++ y).length ≤ sizeLine ∧ lJs ls (acc ++ y) ρ M1 Q PX) PX) : lJs (l :: ls) acc ρ M Q PX := h
theorem s_fmt (h : le ρ M (fun x M1 => (∃ y : Str, x = .str y ∧ y.length ≤ sizeLine ∧ P (.str y) M1) ∨ ∃ i : Int, x = .int i ∧ i.natAbs.log2 < 1920 ∧ P (.str (toString i)) M1) PX) : lFmt le ρ M P PX := h
theorem s_intAi {j : Int} (h : P (.int j) M) : vIntA [.dat (.int j)] M P := .inl (s_int1 h)
theorem s_intAb {b : Bool} (h : P (.int (if b then 1 else 0)) M) : vIntA [.dat (.bl b)] M P := .inl (s_int1b h)
theorem s_intAs {a : Str} {n : Int} (h1 : PySem.intText? a = some n) (h2 : a.length ≤ 640) (h : P (.int n) M) : vIntA [.dat (.str a)] M P := .inr ⟨a, n, rfl, h1, h2, h⟩
theorem s_splitM {a b : Str} (h1 : (b.length == 0) = false) (h2 : a.length + 2 ≤ sizeLine) (h : P (.obj M.length) (M ++ [.lst (((Txt.split a b).map D.str).map DV.dat)])) : vSplitM (.dat (.str a)) [.dat (.str b)] M P := ⟨a, b, rfl, rfl, h1, h2, h⟩
theorem s_popAt {n k : Nat} {ys : List DV} {i : Int} {y : DV} (hM : M[n]? = some (.lst ys)) (h0 : -(2 ^ 63) ≤ i) (h1 : i < 2 ^ 63) (hk : seqIndex? i ys.length = some k) (hy : ys[k]? = some y) (h : P y (M.set n (.lst (ys.eraseIdx k)))) : vPopAt (.obj n) [.dat (.int i)] M P := ⟨n, ys, i, k, y, rfl, rfl, hM, h0, h1, hk, hy, h⟩
end
end L3

/-! methods that raise; for over enumerate(list); max of two -/
namespace L2
open PySem PySem.Spec PyProof.Rows
section
variable {X : Cx} {CX : CXT} {k : Nat} {f C : Addr} {fd : FuncData} {ps : List Str} {sp : Sp} {E : St → XK} {m : Str} {pos apos : Pos} {e o : Expr} {es : List Expr} {ta : TE} {t : TA}
def tMethX (C : Addr) (m : Str) (sp : Sp) (E : St → XK) (ta : TE) (t : TA) : TE := fun σ H Q => ta σ H fun x H1 => ∃ a dx fs, x = .ref a ∧ H1 a = some (.ins C dx fs) ∧ fs.lookup m = none ∧
  t σ H1 fun vs H2 => sp (x :: vs) H2 Q (E σ)
theorem pe_methX {pl : Sem Bool} (he : PE X o ta) (c : Cls X.K C) (hm : Meth X.K C m f) (F : FnOk X.prog X.w X.K X.mg X.base CX k f fd ps sp) (hr : Room k X.A) (hb : Binds X.K fd ps []) (hx : ∀ σ, PassesAt CX X σ (E σ)) (ha : PA X (e :: es) t)
    (hst : starEach (e :: es) X.env = (false, eval e X.env) :: starEach es X.env := by rfl) (hpl : (backTo pos (starEach es X.env)).any (·.1) = false := by rfl)
    (ht : eval (.Call (.Attribute o m apos) (e :: es) [] pos) X.env = (do
      let ov ← eval o X.env
      standAt apos.atName
      let (f, first) ← holding [ov] (getMethod ov m pl)
      callWith pos f first (backTo pos (starEach (e :: es) X.env)) (backToKw pos (keywordEach [] X.env))) := by rfl) :
    PE X (.Call (.Attribute o m apos) (e :: es) [] pos) (tMethX C m sp E ta t) := by
  refine ⟨fun pins s σ H Q I h => ?_⟩
  refine PySem.W.methodCall_KW (pl := pl) (thn (he.run pins s σ H _ I h) fun u s1 ⟨x, H1, I1, rx, a, dx, fs, ex, ea, l, q⟩ => ?_) ht
  subst ex
  obtain rfl : u = Value.ref a := rx
  refine getmeth_ok I1 ea c hm l ?_
  refine PySem.W.callWith_K (first := [.ref a]) (h₀ := X.base) I.ok.mod.kin hm.kp (thn (ha.run pos pins s1 σ H1 _ I1 q) fun us s2 ⟨vs, H2, I2, r, q2⟩ => ⟨I2.kIn, ?_⟩) hst hpl
  exact run_fnS (us := .ref a :: us) (vs := .ref a :: vs) F hr hb (hx σ) I2 (.cons rfl r) q2
theorem pe_methX0 {pl : Sem Bool} (he : PE X o ta) (c : Cls X.K C) (hm : Meth X.K C m f) (F : FnOk X.prog X.w X.K X.mg X.base CX k f fd ps sp) (hr : Room k X.A) (hb : Binds X.K fd ps []) (hx : ∀ σ, PassesAt CX X σ (E σ))
    (ht : eval (.Call (.Attribute o m apos) [] [] pos) X.env = (do
      let ov ← eval o X.env
      standAt apos.atName
      let (f, first) ← holding [ov] (getMethod ov m pl)
      callWith pos f first (backTo pos (starEach [] X.env)) (backToKw pos (keywordEach [] X.env))) := by rfl) :
    PE X (.Call (.Attribute o m apos) [] [] pos) (tMethX C m sp E ta tNil) := by
  refine ⟨fun pins s σ H Q I h => ?_⟩
  refine PySem.W.methodCall_KW (pl := pl) (thn (he.run pins s σ H _ I h) fun u s1 ⟨x, H1, I1, rx, a, dx, fs, ex, ea, l, q⟩ => ?_) ht
  subst ex
  obtain rfl : u = Value.ref a := rx
  refine getmeth_ok I1 ea c hm l ?_
  exact PySem.W.callWith_K0 (first := [.ref a]) I1.kIn hm.kp (run_fnS (us := [.ref a]) (vs := [.ref a]) F hr hb (hx σ) I1 (.cons rfl .nil) q)
end
end L2
namespace L3
open PySem L2
/-- o.m(..) of a known instance of the class at D; it may raise -/
def lMethX (D : Addr) (m : Str) (lsp : LSp) (lo : LE) (la : LA) : LE := fun ρ M P PX => lo ρ M (fun x M1 => ∃ n fs, x = .obj n ∧ M1[n]? = some (.ins D fs) ∧ fs.lookup m = none ∧ la ρ M1 (fun ds M2 => CallAt lsp (.obj n :: ds) M2 P PX) PX) PX
section
variable {X : Cx} {C : Cn} {W : WX} {CX : CXT} {k : Nat} {f D : Addr} {fd : FuncData} {ps : List Str} {lsp : LSp} {x m : Str} {p pos apos : Pos} {e o : Expr} {es : List Expr} {ta : TA} {la : LA} {to : TE} {lo : LE}
theorem lo_methX (ho : LoE C W to lo) (ha : LoA C W ta la) : LoE C W (tMethX D m (low C.K C.T lsp) (WE W) to ta) (lMethX D m lsp lo la) := fun ρ M P PX h Z σ H α Q vs rs kt wk =>
  ho.bind h vs rs wk fun v H1 α1 x M1 s1 r1 q1 h1 vs1 wk1 => by
    obtain ⟨n, fs, rfl, hn, hl, h1⟩ := h1
    obtain ⟨a, ea, rfl⟩ := q1
    obtain ⟨dx, gs, eh, kv⟩ := r1.hr.get n a _ ea hn
    refine ⟨a, dx, gs, rfl, eh, kv.lookup_none hl, ha.bind h1 vs1 r1 wk1 fun us H2 α2 ds M2 s2 r2 q2 h2 vs2 wk2 => ?_⟩
    exact call_low (C := C.wz Z) h2 r2 (.cons (VR.step (d := .obj n) ⟨a, ea, rfl⟩ s2) q2) (kt.step (s1.trans s2)) fun cls d H3 α3 M3 x s3 r3 q3 p3 => wk2 cls d H3 α3 M3 x s3 r3 q3 p3
theorem lp_methX_k0 {pl : Sem Bool} (he : LPE X C W o to lo) (c : Cls X.K D) (hm : Meth X.K D m f) (F : FnOk X.prog X.w X.K X.mg X.base (L2N.CX X.prog X.w) k f fd ps (low X.K C.T lsp)) (hK : X.K = C.K) (tk : Takes X W) (hr : Room k X.A) (hb : Binds X.K fd ps []) (ha : LPA X C W (e :: es) ta la)
    (hst : starEach (e :: es) X.env = (false, eval e X.env) :: starEach es X.env := by rfl) (hpl : (backTo pos (starEach es X.env)).any (·.1) = false := by rfl)
    (ht : eval (.Call (.Attribute o m apos) (e :: es) [] pos) X.env = (do
      let ov ← eval o X.env
      standAt apos.atName
      let (f, first) ← holding [ov] (getMethod ov m pl)
      callWith pos f first (backTo pos (starEach (e :: es) X.env)) (backToKw pos (keywordEach [] X.env))) := by rfl) :
    LPE X C W (.Call (.Attribute o m apos) (e :: es) [] pos) (tMethX D m (low X.K C.T lsp) (WE W) to ta) (lMethX D m lsp lo la) := ⟨pe_methX he.pe c hm F hr hb (fun σ => passAt tk σ) ha.pa hst hpl ht, by rw [hK]; exact lo_methX he.lo ha.lo⟩
theorem lp_methX {pl : Sem Bool} (he : LPE X C W o to lo) (c : Cls X.K D) (hm : Meth X.K D m f) (F : FnOk X.prog X.w X.K X.mg X.base (L2N.CX X.prog X.w) k f fd ps (low X.K C.T lsp)) (hK : X.K = C.K) (tk : Takes X W) (hr : Room k X.A) (hb : Binds X.K fd ps []) (ha : LPA X C W (e :: es) ta la)
    (hst : starEach (e :: es) X.env = (false, eval e X.env) :: starEach es X.env := by rfl) (hpl : (backTo pos (starEach es X.env)).any (·.1) = false := by rfl)
    (ht : eval (.Call (.Attribute o m apos) (e :: es) [] pos) X.env = (do
      let ov ← eval o X.env
      standAt apos.atName
      let (f, first) ← holding [ov] (getMethod ov m pl)
      callWith pos f first (backTo pos (starEach (e :: es) X.env)) (backToKw pos (keywordEach [] X.env))) := by rfl) :
    LPE X C W (.Call (.Attribute o m apos) (e :: es) [] pos) (tMethX D m (low C.K C.T lsp) (WE W) to ta) (lMethX D m lsp lo la) := by
  rw [← hK]
  apply lp_methX_k0 <;> assumption
theorem lp_methX0_k0 {pl : Sem Bool} (he : LPE X C W o to lo) (c : Cls X.K D) (hm : Meth X.K D m f) (F : FnOk X.prog X.w X.K X.mg X.base (L2N.CX X.prog X.w) k f fd ps (low X.K C.T lsp)) (hK : X.K = C.K) (tk : Takes X W) (hr : Room k X.A) (hb : Binds X.K fd ps [])
    (ht : eval (.Call (.Attribute o m apos) [] [] pos) X.env = (do
      let ov ← eval o X.env
      standAt apos.atName
      let (f, first) ← holding [ov] (getMethod ov m pl)
      callWith pos f first (backTo pos (starEach [] X.env)) (backToKw pos (keywordEach [] X.env))) := by rfl) :
    LPE X C W (.Call (.Attribute o m apos) [] [] pos) (tMethX D m (low X.K C.T lsp) (WE W) to tNil) (lMethX D m lsp lo lNil) := ⟨pe_methX0 he.pe c hm F hr hb (fun σ => passAt tk σ) ht, by rw [hK]; exact lo_methX he.lo (lpa_nil (X := X)).lo⟩
theorem lp_methX0 {pl : Sem Bool} (he : LPE X C W o to lo) (c : Cls X.K D) (hm : Meth X.K D m f) (F : FnOk X.prog X.w X.K X.mg X.base (L2N.CX X.prog X.w) k f fd ps (low X.K C.T lsp)) (hK : X.K = C.K) (tk : Takes X W) (hr : Room k X.A) (hb : Binds X.K fd ps [])
    (ht : eval (.Call (.Attribute o m apos) [] [] pos) X.env = (do
      let ov ← eval o X.env
      standAt apos.atName
      let (f, first) ← holding [ov] (getMethod ov m pl)
      callWith pos f first (backTo pos (starEach [] X.env)) (backToKw pos (keywordEach [] X.env))) := by rfl) : LPE X C W (.Call (.Attribute o m apos) [] [] pos) (tMethX D m (low C.K C.T lsp) (WE W) to tNil) (lMethX D m lsp lo lNil) := by
  rw [← hK]
  apply lp_methX0_k0 <;> assumption
end
/-! for (i, x) in enumerate(list) -/
def enumD (ds : List D) : List DV := ds.mapIdx fun i d => .dat (.tup [.int (i : Nat), d])
theorem enumD_len (ds : List D) : (enumD ds).length = ds.length := by unfold enumD; simp
theorem enumD_at {ds : List D} {i : Nat} {d : DV} (h : (enumD ds)[i]? = some d) : ∃ e, ds[i]? = some e ∧ d = .dat (.tup [.int (i : Nat), e]) := by
  unfold enumD at h
  rw [List.getElem?_mapIdx] at h
  cases q : ds[i]? with
  | none => rw [q] at h; cases h
  | some e => rw [q] at h; cases h; exact ⟨e, rfl, rfl⟩
def lwEnum (la : LA) : LW := fun ρ M P PX => la ρ M (fun xs M1 => (∃ n ds, xs = [.obj n] ∧ M1[n]? = some (.lst (ds.map DV.dat)) ∧ P (enumD ds) (fun M => M[n]? = some (.lst (ds.map DV.dat))) M1) ∨ ∃ ds, xs = [.dat (.lst ds)] ∧ P (enumD ds) (fun _ => True) M1) PX
section
variable {C : Cn} {α α1 : List Addr} {H H1 : Hp} {M : Mem}
theorem ItOk.enumL {a : Addr} {xs : List V} {ds : List D} (hs : SLi C.K (C.N α1) H1 a xs) (hd : VDs C.K (C.N α1) H1 xs ds) : ItOk C α1 H1 (Ite C.K a) (enumD ds) fun _ => True := by
  refine ⟨fun i α2 H2 M2 d s r _ h => ?_, fun α2 H2 M2 s r _ => ⟨xs, (s.mv.sl hs).sq, by rw [hd.length, enumD_len]; exact Nat.le_refl _⟩⟩
  obtain ⟨e, he, rfl⟩ := enumD_at h
  obtain ⟨x, h1, h2⟩ := (hd.mv s.mv).get he
  refine ⟨⟨xs, x, (s.mv.sl hs).sq, h1⟩, fun v H' ⟨T, y, ev, hT, e', hy⟩ => ?_⟩
  subst ev e'
  have := hy xs (s.mv.sl hs).sq
  rw [h1] at this
  cases this
  obtain ⟨r4, s4⟩ := r.new1 (o := .tup [.int (i : Nat), x]) hT
  exact ⟨r4, s4, .tup (.inl ⟨.inl upd_same, r.fresh hT⟩) (.cons (.int _) (.cons (h2.mv s4.mv) .nil))⟩
theorem ItOk.enumO {a : Addr} {n : Nat} {ds : List D} (ha : α1[n]? = some a) : ItOk C α1 H1 (Ite C.K a) (enumD ds) fun M => M[n]? = some (.lst (ds.map DV.dat)) := by
  have at_ : ∀ {α2 : List Addr} {H2 : Hp}, Pre C α1 H1 α2 H2 → α2[n]? = some a := fun {α2 H2} s => by
    obtain ⟨β, e⟩ := s.ext
    rw [e, List.getElem?_append_left (List.getElem?_eq_some_iff.mp ha).1]
    exact ha
  refine ⟨fun i α2 H2 M2 d s r ok h => ?_, fun α2 H2 M2 s r ok => ?_⟩
  · obtain ⟨xs, e, q⟩ := r.hr.get n a _ (at_ s) ok
    obtain ⟨d0, hd0, rfl⟩ := enumD_at h
    obtain ⟨x, h1, h2⟩ := q.at (i := i) (d := .dat d0) (by rw [List.getElem?_map, hd0]; rfl)
    refine ⟨⟨xs, x, SqL.of e, h1⟩, fun v H' ⟨T, y, ev, hT, e', hy⟩ => ?_⟩
    subst ev e'
    have := hy xs (SqL.of e)
    rw [h1] at this
    cases this
    obtain ⟨r4, s4⟩ := r.new1 (o := .tup [.int (i : Nat), x]) hT
    exact ⟨r4, s4, .tup (.inl ⟨.inl upd_same, r.fresh hT⟩) (.cons (.int _) (.cons (h2.step s4) .nil))⟩
  · obtain ⟨xs, e, q⟩ := r.hr.get n a _ (at_ s) ok
    exact ⟨xs, SqL.of e, by rw [VRs.length q, List.length_map, enumD_len]; exact Nat.le_refl _⟩
end
section
variable {X : Cx} {C : Cn} {W : WX} {e : Expr} {ta : TA} {la : LA} {p pos tpos : Pos} {elts : List Expr} {kk : Nat}
theorem lpi_enum_k0 (h : LPA X C W [e] ta la) (hK : X.K = C.K) (hg : Gl X "enumerate") (hm : X.mg "enumerate" = none) (hs : starEach [e] X.env = [(false, eval e X.env)] := by rfl) : LPI X C W (.Tuple elts kk tpos) (.Call (.Name "enumerate" p) [e] [] pos) (iEnum X.K ta) (lwEnum la) := ⟨pi_enum hg hm h.pa hs, by
  rw [hK]
  exact fun ρ M P PX g Z σ H α R vs rs wk kt => h.lo.bind g vs rs wk fun v H1 α1 x M1 s1 r1 q1 h1 vs1 wk1 => by
    rcases h1 with ⟨n, ds, rfl, hM, p⟩ | ⟨ds, rfl, p⟩
    · obtain ⟨w, rfl, qw⟩ := one_inv q1
      obtain ⟨a, ea, rfl⟩ := qw
      obtain ⟨ys, eh, q⟩ := r1.hr.get n a _ ea hM
      exact ⟨a, ys, rfl, SqL.of eh, kt _ H1 α1 _ _ M1 s1 r1 (fun Z' H'' m => ItOk.enumO (C := C.wz Z') ea) hM p⟩
    · obtain ⟨w, rfl, qw⟩ := one_inv q1
      obtain ⟨a, xs, rfl, hs, hd⟩ := VD.lst_inv qw
      exact ⟨a, xs, rfl, hs.sq, kt _ H1 α1 _ _ M1 s1 r1 (fun Z' H'' m => ItOk.enumL (C := C.wz Z') (m.sl hs) (hd.mv m)) trivial p⟩⟩
theorem lpi_enum (h : LPA X C W [e] ta la) (hK : X.K = C.K) (hg : Gl X "enumerate") (hm : X.mg "enumerate" = none) (hs : starEach [e] X.env = [(false, eval e X.env)] := by rfl) : LPI X C W (.Tuple elts kk tpos) (.Call (.Name "enumerate" p) [e] [] pos) (iEnum C.K ta) (lwEnum la) := by
  rw [← hK]
  apply lpi_enum_k0 <;> assumption
end
/-! max(i, j) -/
section
variable {C : Cn} {ρ : Rho} {M : Mem} {P : PD} {PX : PXn}
def vMax2 : List DV → Mem → PD → Prop := fun xs M P => ∃ i j, xs = [.int i, .int j] ∧ P (.int (if j > i then j else i)) M
theorem ll_max2 : LoL C (fun xs H Q => ∃ i j, xs = [.int i, .int j] ∧ Q (.int (if j > i then j else i)) H) vMax2 := fun xs M P ⟨i, j, e, p⟩ Z α H vs Q r q k => by
  subst e
  obtain ⟨v, w, rfl, q1, q2⟩ : ∃ v w, vs = [v, w] ∧ VR (C.wz Z) α H v (.int i) ∧ VR (C.wz Z) α H w (.int j) := by
    cases q with
    | cons a t => cases t with
      | cons b t => cases t; exact ⟨_, _, rfl, a, b⟩
  cases q1; cases q2
  exact ⟨i, j, rfl, k.now (d := .int _) r (.int _) p⟩
theorem s_max2 {i j : Int} (h : P (.int (if j > i then j else i)) M) : vMax2 [.dat (.int i), .dat (.int j)] M P := ⟨i, j, rfl, h⟩
theorem s_methX {D : Addr} {mn : Str} {lsp : LSp} {lo : LE} {as : LA} (h : lo ρ M (fun x M1 => ∃ n fs, x = .obj n ∧ M1[n]? = some (.ins D fs) ∧ fs.lookup mn = none ∧ as ρ M1 (fun ds M2 => CallAt lsp (.obj n :: ds) M2 P PX) PX) PX) : lMethX D mn lsp lo as ρ M P PX := h
theorem s_wEnumO {la : LA} {R : List DV → (Mem → Prop) → Mem → Prop} (h : la ρ M (fun xs M1 => (∃ n ds, xs = [.obj n] ∧ M1[n]? = some (.lst (ds.map DV.dat)) ∧ R (enumD ds) (fun M => M[n]? = some (.lst (ds.map DV.dat))) M1) ∨ ∃ ds, xs = [.dat (.lst ds)] ∧ R (enumD ds) (fun _ => True) M1) PX) : lwEnum la ρ M R PX := h
theorem s_exEnO {n : Nat} {ds : List D} {R : List DV → (Mem → Prop) → Mem → Prop} (hM : M[n]? = some (.lst (ds.map DV.dat))) (h : R (enumD ds) (fun M => M[n]? = some (.lst (ds.map DV.dat))) M) : (∃ n' ds, [DV.obj n] = [.obj n'] ∧ M[n']? = some (.lst (ds.map DV.dat)) ∧ R (enumD ds) (fun M => M[n']? = some (.lst (ds.map DV.dat))) M) ∨ ∃ ds, [DV.obj n] = [.dat (.lst ds)] ∧ R (enumD ds) (fun _ => True) M := .inl ⟨n, ds, rfl, hM, h⟩
theorem s_exEnL {ds : List D} {R : List DV → (Mem → Prop) → Mem → Prop} (h : R (enumD ds) (fun _ => True) M) : (∃ n' ds', [DV.dat (.lst ds)] = [.obj n'] ∧ M[n']? = some (.lst (ds'.map DV.dat)) ∧ R (enumD ds') (fun M => M[n']? = some (.lst (ds'.map DV.dat))) M) ∨ ∃ ds', [DV.dat (.lst ds)] = [.dat (.lst ds')] ∧ R (enumD ds') (fun _ => True) M := .inr ⟨ds, rfl, h⟩
end
end L3

/-! methods of texts without arguments: upper -/
namespace L3
open PySem L2
def lM0 (lr : DV → List DV → Mem → PD → Prop) (lo : LE) : LE := fun ρ M P PX => lo ρ M (fun x M1 => (∃ a : Str, x = .str a) ∧ lr x [] M1 P) PX
section
variable {X : Cx} {C : Cn} {W : WX} {o : Expr} {to : TE} {lo : LE} {id : String} {name : Str} {apos pos : Pos} {r : V → List V → Hp → VK → Prop} {lr : DV → List DV → Mem → PD → Prop}
theorem lp_m0 (slot : Slot "str" name id) (ty : typeOf (.builtin id) = pure (.type "method_descriptor")) (rule : MtR X id r) (hl : LoM C r lr) (ho : LPE X C W o to lo)
    (hbase : attributeBase o name X.env (eval o X.env) = eval o X.env := by rfl) (hline : (apos.endLine == pos.line) = true := by rfl) : LPE X C W (.Call (.Attribute o name apos) [] [] pos) (tM0 r to) (lM0 lr lo) :=
  ⟨pe_m0 slot ty rule ho.pe hbase hline, fun ρ M P PX h Z σ H α Q vs rs k wk => ho.lo.bind h vs rs wk fun v H1 α1 x M1 s1 r1 q1 h1 vs1 wk1 => by
    obtain ⟨⟨a, rfl⟩, h1⟩ := h1
    have hv : v = .str a := by cases q1; rfl
    exact ⟨⟨a, hv⟩, hl _ _ _ _ h1 Z α1 H1 v [] Q r1 q1 .nil (k.step s1)⟩⟩
def vUpper : DV → List DV → Mem → PD → Prop := fun x xs M P => ∃ a, x = .str a ∧ xs = [] ∧ a.length ≤ 5592405 ∧ P (.str (Txt.upper a)) M
theorem lm_upper : LoM C (fun x xs H Q => ∃ a, x = .str a ∧ xs = [] ∧ a.length ≤ 5592405 ∧ Q (.str (Txt.upper a)) H) vUpper := fun x xs M P ⟨a, e1, e2, h, p⟩ Z α H v vs Q r q qs k => by
  subst e1 e2
  cases qs
  cases q
  exact ⟨a, rfl, rfl, h, k.now (d := .str _) r (.str _) p⟩
end
section
variable {ρ : Rho} {M : Mem} {P : PD} {PX : PXn} {lo : LE} {lr : DV → List DV → Mem → PD → Prop}
theorem s_m0 (h : lo ρ M (fun x M1 => (∃ a : Str, x = .str a) ∧ lr x [] M1 P) PX) : lM0 lr lo ρ M P PX := h
theorem s_exm0 {a : Str} {Q : Prop} (h : Q) : (∃ b : Str, DV.dat (.str a) = .str b) ∧ Q := ⟨⟨a, rfl⟩, h⟩
end
/-! upper of ASCII -/
theorem mapIdx_const {α β : Type} (g : α → β) : ∀ l : List α, l.mapIdx (fun _ c => g c) = l.map g
  | [] => rfl
  | a :: l => by rw [List.mapIdx_cons, List.map_cons, mapIdx_const g l]
theorem upper_cs (x : Str) : (Txt.upper x).cps.toList = x.cps.toList.flatMap Unicode.upperOf := by
  unfold Txt.upper placed
  show ((x.cps.mapIdx fun _ c => (Unicode.upperOf c).toArray).flatten).toList = _
  rw [Array.toList_flatten, Array.toList_mapIdx, mapIdx_const (fun c => (Unicode.upperOf c).toArray), List.map_map, List.flatMap_def]
  rfl
theorem up_ascii : ∀ c, c < 128 → (Unicode.upperOf c).length = 1 ∧ ∀ d ∈ Unicode.upperOf c, d < 128 := by decide +kernel
theorem upper_ascii {x : Str} (h : ∀ c ∈ x.cps.toList, c < 128) : (∀ c ∈ (Txt.upper x).cps.toList, c < 128) ∧ (Txt.upper x).cps.toList.length = x.cps.toList.length := by
  rw [upper_cs]
  generalize x.cps.toList = l at h
  induction l with
  | nil => exact ⟨by simp, rfl⟩
  | cons c l ih =>
    obtain ⟨h1, h2⟩ := ih fun d hd => h d (List.mem_cons_of_mem _ hd)
    obtain ⟨h3, h4⟩ := up_ascii c (h c List.mem_cons_self)
    rw [List.flatMap_cons]
    refine ⟨fun d hd => (List.mem_append.mp hd).elim (h4 d) (h1 d), ?_⟩
    rw [List.length_append, h2, h3, List.length_cons]
    omega
end L3

/-! try with any number of except clauses, each with a name or without -/
namespace L3
open PySem L2 PySem.Spec PyProof.Rows NdefX
abbrev Clause := Value × Option Nat × (Addr → Value → Option Addr → TS)
/-- what a clause's suite is given -/
def clauseD (D : Ends) : Option Nat → Ends
  | some i => { nx := fun σ' H' => D.nx (σ'.set i none) H', rt := D.rt, bk := fun σ' H' => D.bk (σ'.set i none) H', ct := fun σ' H' => D.ct (σ'.set i none) H' }
  | none => D
def clauseS (a : Addr) (σ : L2.St) : Option Nat → L2.St
  | some i => σ.set i (some (.ref a))
  | none => σ
def wAll (K : PySem.W.Frag) (Wout : WX) (D : Ends) : List Clause → WX
  | [] => Wout
  | (c, oi, ts) :: r => fun cls d σ H => ∃ b, PySem.W.exmOne K cls c = some b ∧ (b = true → ∀ a, H a = none → ts a cls d (clauseD D oi) (clauseS a σ oi) H) ∧ (b = false → wAll K Wout D r cls d σ H)
inductive HdsAll (X : Cx) : List ExceptHandler → List Clause → Prop
  | nil : HdsAll X [] []
  | named {x n : Str} {i : Nat} {c : Value} {ts : Addr → Value → Option Addr → TS} {b₀ : Stmt} {suite : List Stmt} {np pos' : Pos} {hds : List ExceptHandler} {l : List Clause} (hi : X.N[i]? = some n) (hln : X.env.kindOf n = some .local) (hc : Names X x c)
      (hsu : ∀ (a : Addr) (oe : Obj) (cls : Value) (d : Option Addr) (pn : List (Addr × Obj)), Zc cls d oe → (∃ vs, oe.data = .fields vs) → PSs (X.suite a ((a, oe) :: pn)) (b₀ :: suite) (ts a cls d)) (r : HdsAll X hds l) :
      HdsAll X (.ExceptHandler (some (.Name x np)) (some n) (b₀ :: suite) pos' :: hds) ((c, some i, ts) :: l)
  | bare {x : Str} {c : Value} {ts : Addr → Value → Option Addr → TS} {b₀ : Stmt} {suite : List Stmt} {np pos' : Pos} {hds : List ExceptHandler} {l : List Clause} (hc : Names X x c)
      (hsu : ∀ (a : Addr) (oe : Obj) (cls : Value) (d : Option Addr) (pn : List (Addr × Obj)), Zc cls d oe → (∃ vs, oe.data = .fields vs) → PSs (X.suite a ((a, oe) :: pn)) (b₀ :: suite) (ts a cls d)) (r : HdsAll X hds l) :
      HdsAll X (.ExceptHandler (some (.Name x np)) none (b₀ :: suite) pos' :: hds) ((c, none, ts) :: l)
section
variable {X : Cx} {body : List Stmt} {h₀ : ExceptHandler} {hds : List ExceptHandler} {l : List Clause} {pos : Pos} {tb : WX → TS} {Wout : WX}
theorem ps_try_all (hs : X.stack = X.env :: X.outer) (hf : X.env.frame = some X.env.locals) (hN : X.N.Nodup) (tk : Takes X Wout)
    (hb : ∀ (W : WX) (pn : List (Addr × Obj)) (xe : Value → Shared → Prop), Takes (X.tr pn xe) W → PassesOwn (model X.prog X.w) X.A X.env xe → PSs (X.tr pn xe) body (tb W))
    (hh : HdsAll X (h₀ :: hds) l) : PS X (.Try body (h₀ :: hds) [] [] pos) (fun D σ H => tb (wAll X.K Wout D l) D σ H) := ⟨fun pins s σ H D I h => by
  refine wpAny_Try_except (wpAny_mono ((hb (wAll X.K Wout D l) (X.pn ++ pins) _ (fun u s' xx => ?_) PassesOwn.looking).run [] s σ H D (I.toTry _) h) (fun f s2 hsp => ?_) fun e s2 he => he)
  · obtain ⟨a, B, sI, pins', σ', H', cls, d, rfl, J', nb, up, sky, na, os, ag, w⟩ := xx
    have hfr : X.A.frames = some (X.env :: X.outer) := by rw [I.ok.frames, hs]
    refine Sky.land Zc.steady hfr hf (by rw [← hs]; exact sky) fun h3 fl3 up3 => ?_
    have L3' : Lies X pins a cls d σ' H' B sI s' h3 := ⟨J'.ofTry I.ok, nb, up.trans up3, os, ag, na, fl3⟩
    have go : ∀ {hds' : List ExceptHandler} {l' : List Clause}, HdsAll X hds' l' → wAll X.K Wout D l' cls d σ' H' →
        wpAny (model X.prog X.w) X.A (handleBy (.ref a) X.env hds') (SP X pins D) X.xe { s' with heap := h3 } := by
      intro hds' l' hk
      induction hk with
      | nil =>
        intro w
        refine wpAny_handleBy_nil ?_
        obtain ⟨k1, k2, k3, oe, vs, T, oT, tsv, he, hz, hd, h1, hr⟩ := id fl3
        unfold PySem.passOn
        refine wpAny_bind (wpAny_field he hd h1 ?_)
        rw [if_neg (show ¬ ((Value.ref T == Value.none) = true) from by simp)]
        have go : wpAny (model X.prog X.w) X.A (setFlight (.ref a) X.env.frame) (fun _ s4 => wpAny (model X.prog X.w) X.A (throw (.ref a) : Sem Flow) (SP X pins D) X.xe s4) X.xe { s' with heap := h3 } := by
          rw [hf]
          exact HandSPX.setFlight_upZ fl3 fun h4 hh4 up4 => wpAny_throw (tk _ _ ⟨a, B, sI, pins, σ', H', cls, d, rfl, L3'.inv, nb, L3'.up.trans up4, .inr (.inr (by rw [hs]; exact hh4)), na, os, ag, w⟩)
        first | exact wpAny_bind (wpAny_pure (wpAny_bind go)) | exact wpAny_bind go
      | @named x n i c ts b₀ suite np pos' hds2 l2 hi hln hc hsu r ih =>
        intro w
        obtain ⟨b, hb1, hyes, hno⟩ := w
        refine wpAny_handleBy_cons (codeAny_handlers_test (L3'.name hf hc ((L3'.asks hb1).here ?_))) (by intro q; cases q)
        cases b with
        | true =>
          refine codeAny_handlers_suite_as (HandSPX.lands_againZ fl3 fun h4 fl4 up4 => ?_)
          have L4 : Lies X pins a cls d σ' H' B sI s' h4 := ⟨L3'.inv, nb, L3'.up.trans up4, os, ag, na, fl4⟩
          obtain ⟨oe, hz, hd, _, S4, _⟩ := L4.suite hf
          refine store_ok (X := X.suite a ((a, oe) :: (X.pn ++ pins))) (v := .ref a) S4 hN hi (.inl hln) rfl (fun s5 S5 => ?_) (.inr hln)
          refine wpAny_mono ((hsu a oe cls d (X.pn ++ pins) hz hd).run [] s5 _ H' _ S5 (hyes rfl a na)) (fun f s6 hsp => ?_) fun _ _ z => False.elim z
          have fin : ∀ {σ6 : L2.St} {H6 : Hp} {Q : Shared → Prop}, Inv (X.suite a ((a, oe) :: (X.pn ++ pins))) [] σ6 H6 s6 → (∀ s7, Inv X pins (σ6.set i none) H6 s7 → Q s7) → wpAny (model X.prog X.w) X.A (do bindName X.env n .none; unbindBehindTheSuite X.env n pos') (fun _ s7 => Q s7) X.xe s6 :=
            fun {σ6 H6 Q} S6 hq => gone_ok (S6.unsuite I.ok) hN hi hln hq
          cases f with
          | ret u =>
            obtain ⟨v, σ6, H6, S6, r6, q6⟩ := hsp
            exact fin S6 fun s7 J7 => ⟨v, _, _, J7, r6, q6⟩
          | _ =>
            obtain ⟨σ6, H6, S6, q6⟩ := hsp
            exact fin S6 fun s7 J7 => ⟨_, _, J7, q6⟩
        | false =>
          show wpAny _ X.A (handleBy (.ref a) X.env hds2) _ _ _
          exact ih (hno rfl)
      | @bare x c ts b₀ suite np pos' hds2 l2 hc hsu r ih =>
        intro w
        obtain ⟨b, hb1, hyes, hno⟩ := w
        refine wpAny_handleBy_cons (codeAny_handlers_test (L3'.name hf hc ((L3'.asks hb1).here ?_))) (by intro q; cases q)
        cases b with
        | true =>
          refine codeAny_handlers_suite (HandSPX.lands_againZ fl3 fun h4 fl4 up4 => ?_)
          have L4 : Lies X pins a cls d σ' H' B sI s' h4 := ⟨L3'.inv, nb, L3'.up.trans up4, os, ag, na, fl4⟩
          obtain ⟨oe, hz, hd, _, S4, _⟩ := L4.suite hf
          refine wpAny_mono ((hsu a oe cls d (X.pn ++ pins) hz hd).run [] _ _ H' _ S4 (hyes rfl a na)) (fun f s6 hsp => ?_) fun _ _ z => False.elim z
          cases f with
          | ret u =>
            obtain ⟨v, σ6, H6, S6, r6, q6⟩ := hsp
            exact ⟨v, _, _, S6.unsuite I.ok, r6, q6⟩
          | _ =>
            obtain ⟨σ6, H6, S6, q6⟩ := hsp
            exact ⟨_, _, S6.unsuite I.ok, q6⟩
        | false =>
          show wpAny _ X.A (handleBy (.ref a) X.env hds2) _ _ _
          exact ih (hno rfl)
    exact go hh w
  · cases f with
    | next =>
      obtain ⟨σ', H', J', q⟩ := hsp
      exact wpAny_execs_nil ⟨σ', H', J'.ofTry I.ok, q⟩
    | ret u =>
      obtain ⟨v, σ', H', J', r, q⟩ := hsp
      exact ⟨v, σ', H', J'.ofTry I.ok, r, q⟩
    | _ =>
      obtain ⟨σ', H', J', q⟩ := hsp
      exact ⟨σ', H', J'.ofTry I.ok, q⟩⟩
end
/-! .. lifted -/
abbrev LClause := List (Addr × Bool) × Option Nat × (Addr → Value → Option Addr → LS)
def exAll (L : LEnds) : List LClause → LX → Rho → Mem → Prop
  | [] => L.ex
  | (tab, oi, ls) :: r => fun x ρ M => ∃ b, (x.cls, b) ∈ tab ∧
    (b = true → ∀ a d, match oi with
      | some i => ls a (.ref x.cls) d { nx := fun ρ2 M2 => L.nx (ρ2.set i none) M2, rt := L.rt, bk := fun ρ2 M2 => L.bk (ρ2.set i none) M2, ct := fun ρ2 M2 => L.ct (ρ2.set i none) M2 } (ρ.set i (some (excD a x d))) M
      | none => ls a (.ref x.cls) d { nx := L.nx, rt := L.rt, bk := L.bk, ct := L.ct } ρ M) ∧
    (b = false → exAll L r x ρ M)
def lTryAll (t : List LClause) (lb : LS) : LS := fun L ρ M => lb { L with ex := exAll L t } ρ M
inductive LHds (X : Cx) (C : Cn) : List ExceptHandler → List Clause → List LClause → Prop
  | nil : LHds X C [] [] []
  | named {x n : Str} {i : Nat} {Cl : Addr} {tab : List (Addr × Bool)} {ts : Addr → Value → Option Addr → TS} {ls : Addr → Value → Option Addr → LS} {b₀ : Stmt} {suite : List Stmt} {np pos' : Pos} {hds : List ExceptHandler} {l : List Clause} {t : List LClause} (hi : X.N[i]? = some n) (hln : X.env.kindOf n = some .local) (hc : Names X x (.ref Cl))
      (htab : ∀ p ∈ tab, PySem.W.exmOne X.K (.ref p.1) (.ref Cl) = some p.2)
      (hsu : ∀ (a : Addr) (oe : Obj) (cls : Value) (d : Option Addr) (pn : List (Addr × Obj)), Zc cls d oe → (∃ vs, oe.data = .fields vs) → LPSs (X.suite a ((a, oe) :: pn)) C W0 (b₀ :: suite) (ts a cls d) (ls a cls d)) (r : LHds X C hds l t) :
      LHds X C (.ExceptHandler (some (.Name x np)) (some n) (b₀ :: suite) pos' :: hds) ((.ref Cl, some i, ts) :: l) ((tab, some i, ls) :: t)
  | bare {x : Str} {Cl : Addr} {tab : List (Addr × Bool)} {ts : Addr → Value → Option Addr → TS} {ls : Addr → Value → Option Addr → LS} {b₀ : Stmt} {suite : List Stmt} {np pos' : Pos} {hds : List ExceptHandler} {l : List Clause} {t : List LClause} (hc : Names X x (.ref Cl))
      (htab : ∀ p ∈ tab, PySem.W.exmOne X.K (.ref p.1) (.ref Cl) = some p.2)
      (hsu : ∀ (a : Addr) (oe : Obj) (cls : Value) (d : Option Addr) (pn : List (Addr × Obj)), Zc cls d oe → (∃ vs, oe.data = .fields vs) → LPSs (X.suite a ((a, oe) :: pn)) C W0 (b₀ :: suite) (ts a cls d) (ls a cls d)) (r : LHds X C hds l t) :
      LHds X C (.ExceptHandler (some (.Name x np)) none (b₀ :: suite) pos' :: hds) ((.ref Cl, none, ts) :: l) ((tab, none, ls) :: t)
theorem LHds.hds {X : Cx} {C : Cn} {hs : List ExceptHandler} {l : List Clause} {t : List LClause} (h : LHds X C hs l t) : HdsAll X hs l := by
  induction h with
  | nil => exact .nil
  | named hi hln hc _ hsu _ ih => exact .named hi hln hc (fun a oe cls d pn z f => (hsu a oe cls d pn z f).ps) ih
  | bare hc _ hsu _ ih => exact .bare hc (fun a oe cls d pn z f => (hsu a oe cls d pn z f).ps) ih
section
variable {X : Cx} {C : Cn} {Wout : WX} {body : List Stmt} {h₀ : ExceptHandler} {hds : List ExceptHandler} {l : List Clause} {t : List LClause} {pos : Pos} {tb : WX → TS} {lb : LS}
theorem lps_tryAll (hs : X.stack = X.env :: X.outer) (hf : X.env.frame = some X.env.locals) (hN : X.N.Nodup) (tk : Takes X Wout) (hK : X.K = C.K)
    (hb : ∀ (W : WX) (pn : List (Addr × Obj)) (xe : Value → Shared → Prop) (ex : List Addr), Takes { X with pn := pn, xe := xe, ex := ex } W → PassesOwn (model X.prog X.w) X.A X.env xe → LPSs { X with pn := pn, xe := xe, ex := ex } C W body (tb W) lb)
    (h : LHds X C (h₀ :: hds) l t) : LPS X C Wout (.Try body (h₀ :: hds) [] [] pos) (fun D σ H => tb (wAll X.K Wout D l) D σ H) (lTryAll t lb) := by
  refine ⟨ps_try_all hs hf hN tk (fun W pn xe t p => (hb W pn xe X.ex t p).ps) h.hds, fun L ρ M hh Z D σ H α vs r d => ?_⟩
  have q := (hb (wAll X.K Wout D l) [] (fun _ _ => False) [X.env.locals] (takes_noOk fun ok => (ok.exf _ (List.mem_singleton.mpr rfl)).1 rfl) PassesOwn.never).lo
  refine q _ ρ M hh Z D σ H α vs r ⟨d.nx, d.rt, d.bk, d.ct, fun cls dd σ1 H1 α1 ρ1 M1 y s1 vs1 r1 q1 g => ?_⟩
  have ec := q1.1
  subst ec
  have go : ∀ {hds' : List ExceptHandler} {l' : List Clause} {t' : List LClause}, LHds X C hds' l' t' → exAll L t' y ρ1 M1 → wAll X.K Wout D l' (.ref y.cls) dd σ1 H1 := by
    intro hds' l' t' hk
    induction hk with
    | nil => exact fun g => d.ex _ _ σ1 H1 α1 ρ1 M1 y s1 vs1 r1 q1 g
    | @named x n i Cl tab ts ls b₀ suite np pos' hds l t hi hln hc htab hsu rr ih =>
      rintro ⟨b, hm, hy, hn⟩
      refine ⟨b, htab _ hm, fun e a na => ?_, fun e => ih (hn e)⟩
      refine (hsu a { cls := .ref y.cls, dict := dd, data := .fields #[.none, .none, .none] } _ dd [] ⟨rfl, rfl, fun vs e => by cases e; rfl⟩ ⟨_, rfl⟩).lo _ _ M1 (hy e a dd) Z _ _ H1 α1 (vs1.set i (q1.val a)) r1 ⟨fun σ2 H2 α2 ρ2 M2 s2 vs2 r2 p2 => d.nx _ H2 α2 _ M2 (s1.trans s2) (vs2.clr i) r2 p2, fun v H2 α2 z M2 s2 r2 q2 p2 => d.rt v H2 α2 z M2 (s1.trans s2) r2 q2 p2,
        fun σ2 H2 α2 ρ2 M2 s2 vs2 r2 p2 => d.bk _ H2 α2 _ M2 (s1.trans s2) (vs2.clr i) r2 p2, fun σ2 H2 α2 ρ2 M2 s2 vs2 r2 p2 => d.ct _ H2 α2 _ M2 (s1.trans s2) (vs2.clr i) r2 p2, fun _ _ _ _ _ _ _ _ _ _ _ _ h => h.elim⟩
    | @bare x Cl tab ts ls b₀ suite np pos' hds l t hc htab hsu rr ih =>
      rintro ⟨b, hm, hy, hn⟩
      refine ⟨b, htab _ hm, fun e a na => ?_, fun e => ih (hn e)⟩
      refine (hsu a { cls := .ref y.cls, dict := dd, data := .fields #[.none, .none, .none] } _ dd [] ⟨rfl, rfl, fun vs e => by cases e; rfl⟩ ⟨_, rfl⟩).lo _ _ M1 (hy e a dd) Z _ _ H1 α1 vs1 r1 ⟨fun σ2 H2 α2 ρ2 M2 s2 vs2 r2 p2 => d.nx _ H2 α2 _ M2 (s1.trans s2) vs2 r2 p2, fun v H2 α2 z M2 s2 r2 q2 p2 => d.rt v H2 α2 z M2 (s1.trans s2) r2 q2 p2,
        fun σ2 H2 α2 ρ2 M2 s2 vs2 r2 p2 => d.bk _ H2 α2 _ M2 (s1.trans s2) vs2 r2 p2, fun σ2 H2 α2 ρ2 M2 s2 vs2 r2 p2 => d.ct _ H2 α2 _ M2 (s1.trans s2) vs2 r2 p2, fun _ _ _ _ _ _ _ _ _ _ _ _ h => h.elim⟩
  exact go h g
end
theorem s_tryAll {t : List LClause} {lb : LS} {L : LEnds} {ρ : Rho} {M : Mem} (h : lb { L with ex := exAll L t } ρ M) : lTryAll t lb L ρ M := h
end L3

/-! an own exception whose __init__ says super().__init__(str(p)), for ints; list.remove, count, index; sorted of ints -/
namespace L3
open PySem L2 PySem.Spec PyProof.Rows NdefX L2H
def spII (C : Addr) (f : Str) : Sp := fun vs H Q _ => ∃ (a : Addr) (i : Int), vs = [.ref a, .int i] ∧ i.natAbs.log2 < 1920 ∧ H a = some (exo a C none) ∧
  ∀ (dx : Addr) (H2 : Hp), H dx = none → dx ≠ a → H2 = upd (upd H dx (exd dx [(f, .int i)])) a (exo a C (some dx)) → Q .non H2
def lRaiseI (Cl : Addr) (f : Str) (la : LA) : LS := fun L ρ M => la ρ M (fun ds M1 => ∃ i : Int, ds = [.int i] ∧ i.natAbs.log2 < 1920 ∧ L.ex ⟨Cl, [(f, .int i)]⟩ ρ M1) (L.px ρ)
section
variable {P : Program} {w : World} {K : PySem.W.Frag} {mg : Str → Option Value} {base : Heap} {st : Stmt} {x qual p : Str} {Cl f : Addr} {fd : FuncData} {k : Nat} {ar : Arg} {p0 p1 p2 p3 p4 q1 q2 q3 q4 q5 r0 r1 : Pos}
theorem Ex1.okI (E : Ex1 P K mg st x qual p Cl f fd) (G : ExC K mg x Cl) (S : NScope ["self", p, "__class__"] ["self", p] ["__class__"] (defScope st)) (hsup : mg "super" = none) (hstr : mg "str" = none) (hks : (defScope st).names.lookup ("super" : Str) = some .globalImplicit) (hkstr : (defScope st).names.lookup ("str" : Str) = some .globalImplicit)
    (hp : ((defArgs st).posonlyargs ++ (defArgs st).args).head? = some ar) (har : ar.arg = "self") (hd : (p == ("__debug__" : Str)) = false) (hd2 : (p == ("__classdict__" : Str)) = false)
    (hb : defBody st = [.Expr (.Call (.Attribute (.Call (.Name "super" p0) [] [] p1) "__init__" p2) [.Call (.Name "str" r0) [.Name p q1] [] r1] [] p3) p4, .Assign [.Attribute (.Name "self" q2) p q3] (.Name p q4) q5])
    {pl : Env → Sem Bool} (hev : ∀ env : Env, eval (.Call (.Attribute (.Call (.Name "super" p0) [] [] p1) "__init__" p2) [.Call (.Name "str" r0) [.Name p q1] [] r1] [] p3) env = (do
      let ov ← attributeBase (.Call (.Name "super" p0) [] [] p1) "__init__" env (eval (.Call (.Name "super" p0) [] [] p1) env)
      standAt p2.atName
      let (f, first) ← holding [ov] (getMethod ov "__init__" (pl env))
      callWith p3 f first (backTo p3 (starEach [.Call (.Name "str" r0) [.Name p q1] [] r1] env)) [])) :
    FnOk P w K mg base CX0 (k + 1) f fd ["self", p] (spII Cl p) := by
  obtain ⟨oc, dV, kV, doc, pm, ct, od, an, osl, cc, c, rfl, lk, hcd, SC⟩ := E.ex
  refine fn_super (F := ⟨"__init__", qual, defArgs st, defBody st, defScope st, [(("__class__" : Str), cc)], c⟩) (ps := [p]) lk hcd S rfl SC hp har hks hsup G.T hb (fun vs H Q E h => ?_) (fun A outer s H vs Q Ex hr h => ?_) hev (fun _ _ _ => by show ((defScope st).kind == .module && _) = false; rw [S.kind]; rfl) (fun _ _ => rfl) (fun _ => rfl) (fun _ => rfl)
  · obtain ⟨a, i, rfl, _⟩ := h
    rfl
  · obtain ⟨a, i, rfl, hlog, ea, h⟩ := h
    have l0 : (defScope st).names.lookup ("self" : Str) = some .local := S.par _ (by simp)
    have l1 : (defScope st).names.lookup p = some .local := S.par _ (by simp)
    refine ⟨_, _, a, _, rfl, ea, pa_cons (pe_callTy call_str_int hkstr hstr (by decide +kernel) (pa_cons (pv 1 rfl (.inl l1) hd hd2) pa_nil rfl)) pa_nil rfl, pss_one (ps_ost (pv 0 rfl (.inl l0) (by decide) (by decide)) (pv 1 rfl (.inl l1) hd hd2) rfl), ?_⟩
    refine ⟨_, rfl, i, rfl, hlog, by show 1 ≤ 1000; decide, ea, ?_⟩
    refine ⟨_, rfl, .ref a, rfl, a, Cl, rfl, G.T, E.hno, .inl ⟨ea, fun dx nd ne => h dx _ nd ne rfl⟩⟩
end
section
variable {C : Cn} {W : WX} {ta : TA} {la : LA} {Cl : Addr} {f : Str}
theorem lo_raiseI (ha : LoA C W ta la) : LoS C W (fun _ σ H => tMkO Cl (spII Cl f) [] ta σ H fun cls d H' => W cls d σ H') (lRaiseI Cl f la) := fun L ρ M h Z D σ H α vs r d =>
  ha.bind h vs r (d.wk vs) fun us H1 α1 ds M1 s1 r1 q1 h1 vs1 wk1 => by
    obtain ⟨i, rfl, hlog, p⟩ := h1
    obtain ⟨u, rfl, qu⟩ := one_inv q1
    cases qu
    refine ⟨by show 1 ≤ _; decide, fun a na => ⟨a, i, rfl, hlog, upd_same, fun dx H2 hdx ne e2 => ?_⟩⟩
    subst e2
    have nd1 : H1 dx = none := by rw [upd_ne ne] at hdx; exact hdx
    refine ⟨rfl, dx, [(f, .int i)], upd_same, by rw [upd_ne ne, upd_same], nd1, ?_⟩
    have eH : upd (L2.del (upd (upd (upd H1 a (exo a Cl none)) dx (exd dx [(f, .int i)])) a (exo a Cl (some dx))) a) dx (.xd [(f, .int i)]) = upd H1 dx (.xd [(f, .int i)]) := by
      funext b
      by_cases hb : b = dx
      · subst hb; rw [upd_same, upd_same]
      · rw [upd_ne hb, upd_ne hb]
        by_cases hba : b = a
        · subst hba; rw [L2.del_same]; exact na.symm
        · rw [L2.del_ne hba, upd_ne hba, upd_ne hb, upd_ne hba]
    rw [eH]
    obtain ⟨r2, s2⟩ := r1.new1 (o := .xd [(f, .int i)]) nd1
    refine d.ex _ _ σ _ α1 ρ M1 ⟨Cl, [(f, .int i)]⟩ (s1.trans s2) (vs1.step s2) r2 ⟨rfl, .inr ⟨dx, _, rfl, upd_same, r1.fresh nd1, ?_⟩⟩ p
    exact .cons ⟨rfl, .int i⟩ .nil
end
structure OexMI (X : Cx) (Cl fI : Addr) (fd : FuncData) (ps : List Str) (f : Str) (k : Nat) : Prop where
  T : OexC X.K Cl
  iC : PySem.W.findIn X.K (.ref Cl) "__init__" = some (some (.ref fI))
  tI : PySem.W.typeIn X.K (.ref fI) = some (.type "function")
  F : FnOk X.prog X.w X.K X.mg X.base CX0 k fI fd ps (spII Cl f)
  B : Binds X.K fd ps []
section
variable {X : Cx} {C : Cn} {W : WX} {ta : TA} {la : LA} {Cl fI : Addr} {fd : FuncData} {ps : List Str} {f : Str} {k : Nat} {x : Str} {e : Expr} {es : List Expr} {p pos pos2 : Pos}
theorem lps_raiseI (hc : X.calm = true) (tk : Takes X W) (M : OexMI X Cl fI fd ps f k) (hr : Room (k + 1) X.A) (hg : Gl X x) (hm : X.mg x = some (.ref Cl)) (ha : LPA X C W (e :: es) ta la)
    (hdb : (x == ("__debug__" : Str)) = false := by decide) (he : starEach (e :: es) X.env = (false, eval e X.env) :: starEach es X.env := by rfl) (hpl : (backTo pos (starEach es X.env)).any (·.1) = false := by rfl) :
    LPS X C W (.Raise (some (.Call (.Name x p) (e :: es) [] pos)) none pos2) (fun _ σ H => tMkO Cl (spII Cl f) [] ta σ H fun cls d H' => W cls d σ H') (lRaiseI Cl f la) :=
  ⟨ps_raise hc tk (pmk_oex M.T M.iC M.tI M.F hr M.B .nil pass0 hg hm ha.pa hdb he hpl), lo_raiseI ha.lo⟩
end
section
variable {st : Stmt} {x qual p : Str} {Cl f : Addr} {fd : FuncData} {ar : Arg} {p0 p1 p2 p3 p4 q1 q2 q3 q4 q5 r0 r1 : Pos}
theorem Ex1.mI {X : Cx} (E : Ex1 X.prog X.K X.mg st x qual p Cl f fd) (G : ExC X.K X.mg x Cl) (S : NScope ["self", p, "__class__"] ["self", p] ["__class__"] (defScope st)) (hsup : X.mg "super" = none) (hstr : X.mg "str" = none) (hks : (defScope st).names.lookup ("super" : Str) = some .globalImplicit) (hkstr : (defScope st).names.lookup ("str" : Str) = some .globalImplicit)
    (hp : ((defArgs st).posonlyargs ++ (defArgs st).args).head? = some ar) (har : ar.arg = "self") (hd : (p == ("__debug__" : Str)) = false) (hd2 : (p == ("__classdict__" : Str)) = false)
    (hb : defBody st = [.Expr (.Call (.Attribute (.Call (.Name "super" p0) [] [] p1) "__init__" p2) [.Call (.Name "str" r0) [.Name p q1] [] r1] [] p3) p4, .Assign [.Attribute (.Name "self" q2) p q3] (.Name p q4) q5])
    {pl : Env → Sem Bool} (hev : ∀ env : Env, eval (.Call (.Attribute (.Call (.Name "super" p0) [] [] p1) "__init__" p2) [.Call (.Name "str" r0) [.Name p q1] [] r1] [] p3) env = (do
      let ov ← attributeBase (.Call (.Name "super" p0) [] [] p1) "__init__" env (eval (.Call (.Name "super" p0) [] [] p1) env)
      standAt p2.atName
      let (f, first) ← holding [ov] (getMethod ov "__init__" (pl env))
      callWith p3 f first (backTo p3 (starEach [.Call (.Name "str" r0) [.Name p q1] [] r1] env)) [])) : OexMI X Cl f fd ["self", p] p 1 :=
  ⟨G.T, E.iC, E.tI, E.okI (k := 0) G S hsup hstr hks hkstr hp har hd hd2 hb hev, E.B⟩
end
/-! lists of ints and of texts -/
section
variable {C : Cn} {α : List Addr} {H : Hp}
theorem vrs_ints : ∀ {zs : List V} {ns : List Int}, VRs C α H zs ((ns.map D.int).map DV.dat) → zs = ns.map V.int
  | _, [], .nil => rfl
  | _, n :: ns, .cons a b => by
    have h := vrs_ints (ns := ns) b
    subst h
    have a : VR C α H _ (.dat (.int n)) := a
    cases a
    rfl
theorem vrs_strs : ∀ {zs : List V} {ns : List Str}, VRs C α H zs ((ns.map D.str).map DV.dat) → zs = ns.map V.str
  | _, [], .nil => rfl
  | _, n :: ns, .cons a b => by
    have h := vrs_strs (ns := ns) b
    subst h
    have a : VR C α H _ (.dat (.str n)) := a
    cases a
    rfl
theorem mem_ints {M : Mem} {n : Nat} {ns : List Int} (r : RS C α M H) {a : Addr} (ea : α[n]? = some a) (hM : M[n]? = some (.lst ((ns.map D.int).map DV.dat))) : H a = some (.lst (ns.map V.int)) := by
  obtain ⟨zs, eh, hd⟩ := r.hr.get n a _ ea hM
  rw [vrs_ints hd] at eh
  exact eh
def vRemove : DV → List DV → Mem → PD → Prop := fun x xs M P => ∃ (n : Nat) (ns : List Int) (k : Int) (j : Nat), x = .obj n ∧ xs = [.int k] ∧ M[n]? = some (.lst ((ns.map D.int).map DV.dat)) ∧ ns[j]? = some k ∧ (∀ m : Nat, m < j → ns[m]? ≠ some k) ∧ P .non (M.set n (.lst (((ns.eraseIdx j).map D.int).map DV.dat)))
theorem ints_vrs {ns : List Int} : VRs C α H (ns.map V.int) ((ns.map D.int).map DV.dat) := by
  induction ns with
  | nil => exact .nil
  | cons n ns ih => exact .cons (.int n) ih
theorem lm_remove : LoM C rRemI vRemove := fun x xs M P ⟨n, ns, k, j, e1, e2, hm, hj, hno, p⟩ Z α H v vs Q r q qs kk => by
  subst e1 e2
  obtain ⟨w, rfl, qw⟩ := one_inv qs
  cases qw
  obtain ⟨a, ea, rfl⟩ := q
  have eh := mem_ints r ea hm
  obtain ⟨r4, s4⟩ := r.put (mo := .lst (((ns.eraseIdx j).map D.int).map DV.dat)) ea ⟨_, upd_same, ints_vrs⟩ (r.noT ea hm)
  exact ⟨a, ns, k, j, rfl, rfl, eh, hj, hno, kk _ _ α .non _ s4 r4 .non p⟩
def vCntI : DV → List DV → Mem → PD → Prop := fun x xs M P => ∃ (n : Nat) (ns : List Int) (k : Int), x = .obj n ∧ xs = [.int k] ∧ M[n]? = some (.lst ((ns.map D.int).map DV.dat)) ∧ P (.int ((ns.count k : Nat) : Int)) M
theorem lm_cntI : LoM C (rCntI C.K) vCntI := fun x xs M P ⟨n, ns, k, e1, e2, hm, p⟩ Z α H v vs Q r q qs kk => by
  subst e1 e2
  obtain ⟨w, rfl, qw⟩ := one_inv qs
  cases qw
  obtain ⟨a, ea, rfl⟩ := q
  exact ⟨a, ns, k, rfl, rfl, SqL.of (mem_ints r ea hm), kk.now (d := .int _) r (.int _) p⟩
def vIdxS : DV → List DV → Mem → PD → Prop := fun x xs M P => ∃ (n : Nat) (l : List Str) (p : Str) (j : Nat), x = .obj n ∧ xs = [.str p] ∧ M[n]? = some (.lst ((l.map D.str).map DV.dat)) ∧ l[j]? = some p ∧ (∀ m : Nat, m < j → l[m]? ≠ some p) ∧ P (.int ((j : Nat) : Int)) M
theorem lm_idxS : LoM C (rIndex C.K) vIdxS := fun x xs M P ⟨n, l, p, j, e1, e2, hm, hj, hno, pp⟩ Z α H v vs Q r q qs kk => by
  subst e1 e2
  obtain ⟨w, rfl, qw⟩ := one_inv qs
  cases qw
  obtain ⟨a, ea, rfl⟩ := q
  obtain ⟨zs, eh, hd⟩ := r.hr.get n a _ ea hm
  rw [vrs_strs hd] at eh
  refine ⟨a, l.map V.str, .str p, j, .str p, rfl, rfl, SqL.of eh, rfl, ?_, by rw [List.getElem?_map, hj]; rfl, by show (p == p) = true; simp, fun m z hm' hz => ?_, kk.now (d := .int _) r (.int _) pp⟩
  · rw [List.all_map, List.all_eq_true]
    exact fun _ _ => rfl
  · rw [List.getElem?_map] at hz
    cases hl : l[m]? with
    | none => rw [hl] at hz; cases hz
    | some s =>
      rw [hl] at hz
      cases hz
      have := hno m hm'
      rw [hl] at this
      show (s == p) = false
      rw [beq_eq_false_iff_ne]
      exact fun e => this (by rw [e])
end
/-! sorted of ints -/
def rSortDI : List V → Hp → VK → Prop := fun xs H Q => ∃ (a : Addr) (kvs : List (Key × V)) (ks : List Int), xs = [.ref a] ∧ Rd H a (.dK kvs) ∧ kvs.map (·.1) = ks.map Sum.inl ∧ ks.length < 64 ∧
    ∀ (ys : List Int) (p : Addr), ys.Perm ks → ys.Pairwise (· ≤ ·) → H p = none → Q (.ref p) (upd H p (.lst (ys.map V.int)))
def rSortJ (K : PySem.W.Frag) : List V → Hp → VK → Prop := fun vs H Q => rSortDI vs H Q ∨ rSortedI K vs H Q
theorem call_sortJ {X : Cx} (hc : X.calm = true) : CallR X (.builtin "sorted") (rSortJ X.K) := by
  intro pins s σ H vs us Q I r h
  rcases h with h | h
  · exact call_sortedDI hc pins s σ H vs us Q I r h
  · exact cr_sortedI pins s σ H vs us Q I r h
theorem vds_ints {K : PySem.W.Frag} {N : Addr → Prop} {H : Hp} : ∀ ns : List Int, VDs K N H (ns.map V.int) (ns.map D.int)
  | [] => .nil
  | n :: ns => .cons (.int n) (vds_ints ns)
theorem kvr_keys {C : Cn} {α : List Addr} {H : Hp} : ∀ {ps : List (Key × V)} {kvs : List (Key × DV)}, KVR C α H ps kvs → ps.map (·.1) = kvs.map (·.1)
  | _, _, .nil => rfl
  | _, _, .cons ⟨e, _⟩ t => by
    rw [List.map_cons, List.map_cons, kvr_keys t]
    congr 1
def vSortJ : List DV → Mem → PD → Prop := fun xs M P => (∃ (n : Nat) (kvs : List (Key × DV)) (ks : List Int), xs = [.obj n] ∧ M[n]? = some (.dK kvs) ∧ kvs.map (·.1) = ks.map Sum.inl ∧ ks.length < 64 ∧ ∀ ys : List Int, ys.Perm ks → ys.Pairwise (· ≤ ·) → P (.dat (.lst (ys.map D.int))) M) ∨
  ∃ (n : Nat) (ks : List Int), xs = [.obj n] ∧ M[n]? = some (.lst ((ks.map D.int).map DV.dat)) ∧ ∀ ys : List Int, ys.Perm ks → ys.Pairwise (· ≤ ·) → P (.dat (.lst (ys.map D.int))) M
theorem ll_sortJ {C : Cn} : LoL C (rSortJ C.K) vSortJ := fun xs M P g Z α H vs Q r q k => by
  rcases g with ⟨n, kvs, ks, rfl, hM, hk, hl, p⟩ | ⟨n, ks, rfl, hM, p⟩
  · obtain ⟨w, rfl, qw⟩ := one_inv q
    obtain ⟨a, ea, rfl⟩ := qw
    obtain ⟨ps, eh, kv⟩ := r.hr.get n a _ ea hM
    refine .inl ⟨a, ps, ks, rfl, .inl eh, by rw [kvr_keys kv]; exact hk, hl, fun ys p0 h1 h2 hp => ?_⟩
    obtain ⟨r4, s4⟩ := r.new1 (o := .lst (ys.map V.int)) hp
    exact k _ _ α (.dat (.lst (ys.map D.int))) M s4 r4 (.lst (.inl ⟨.inl upd_same, r.fresh hp⟩) (vds_ints _)) (p ys h1 h2)
  · obtain ⟨w, rfl, qw⟩ := one_inv q
    obtain ⟨a, ea, rfl⟩ := qw
    refine .inr ⟨a, ks, rfl, SqL.of (mem_ints r ea hM), fun ys p0 h1 h2 hp => ?_⟩
    obtain ⟨r4, s4⟩ := r.new1 (o := .lst (ys.map V.int)) hp
    exact k _ _ α (.dat (.lst (ys.map D.int))) M s4 r4 (.lst (.inl ⟨.inl upd_same, r.fresh hp⟩) (vds_ints _)) (p ys h1 h2)
section
variable {ρ : Rho} {M : Mem} {P : PD} {PX : PXn} {L : LEnds}
theorem s_raiseI {Cl : Addr} {f : Str} {la : LA} (h : la ρ M (fun ds M1 => ∃ i : Int, ds = [.int i] ∧ i.natAbs.log2 < 1920 ∧ L.ex ⟨Cl, [(f, .int i)]⟩ ρ M1) (L.px ρ)) : lRaiseI Cl f la L ρ M := h
end
end L3

namespace L3
open PySem L2
section
variable {ρ : Rho} {M : Mem} {P : PD} {PX : PXn}
theorem s_dget2 {lo li lz : LE} (h : lo ρ M (fun x M1 => ∃ n kvs, x = .obj n ∧ M1[n]? = some (.dK kvs) ∧ li ρ M1 (fun y M2 => lz ρ M2 (fun z M3 => ∃ k kvs2, M3[n]? = some (.dK kvs2) ∧ y = .dat (keyD k) ∧ P ((valD kvs2 k).getD z) M3) PX) PX) PX) : lDGet2 lo li lz ρ M P PX := h
theorem s_lc {lw : LW} {g : LG} {tt : LT} {te : LE} {vs : List Nat} {ρ : Rho} {M : Mem} {P : PD} {PX : PXn} (h : lw ρ M (fun items okM M1 => ∃ I : Nat → List D → Mem → Prop, I 0 [] M1 ∧ (∀ i acc M, I i acc M → okM M) ∧
  (∀ i x acc M, items[i]? = some x → I i acc M → g x (wipeL ρ vs) M fun ρ2 M2 => tt ρ2 M2 (fun b M3 => if b = true then te ρ2 M3 (fun y M4 => acc.length < sizeLine ∧ ∃ d, y = .dat d ∧ DropM M1.length (I (i + 1) (acc ++ [d])) M4) noX else DropM M1.length (I (i + 1) acc) M3) noX) ∧
  ∀ acc M, I items.length acc M → P (.dat (.lst acc)) M) PX) : lLc lw g tt te vs ρ M P PX := h
theorem itemG {ι : Type} {xs : List ι} {g : ι → D} {i : Nat} {x : DV} (h : ((xs.map g).map DV.dat)[i]? = some x) : ∃ y, xs[i]? = some y ∧ x = .dat (g y) ∧ y ∈ xs := by
  rw [List.map_map, List.getElem?_map] at h
  cases he : xs[i]? with
  | none => rw [he] at h; cases h
  | some y => rw [he] at h; cases h; exact ⟨y, rfl, rfl, List.mem_of_getElem? he⟩
theorem take_snocG {ι : Type} {xs : List ι} {i : Nat} {x : ι} (h : xs[i]? = some x) : xs.take (i + 1) = xs.take i ++ [x] := by
  rw [List.take_add_one, h]; rfl
/-- a comprehension over data that draws nothing -/
theorem lcG {ι : Type} {lg : LG} {lt : LT} {te : LE} {vs : List Nat} {xs : List ι} {okM : Mem → Prop} (g : ι → D) (p : ι → Bool) (f : ι → D) (hok : okM M) (hl : xs.length ≤ sizeLine)
    (he : ∀ x ∈ xs, ∀ (RT : PD) (RF : Mem → Prop), (p x = true → RT (.dat (f x)) M) → (p x = false → RF M) → lg (.dat (g x)) (wipeL ρ vs) M fun ρ2 M2 => lt ρ2 M2 (fun b M3 => if b = true then te ρ2 M3 RT noX else RF M3) noX)
    (h : P (.dat (.lst ((xs.filter p).map f))) M) :
    ∃ I : Nat → List D → Mem → Prop, I 0 [] M ∧ (∀ i acc M, I i acc M → okM M) ∧
      (∀ i x acc M', ((xs.map g).map DV.dat)[i]? = some x → I i acc M' → lg x (wipeL ρ vs) M' fun ρ2 M2 => lt ρ2 M2 (fun b M3 => if b = true then te ρ2 M3 (fun y M4 => acc.length < sizeLine ∧ ∃ d, y = .dat d ∧ DropM M.length (I (i + 1) (acc ++ [d])) M4) noX else DropM M.length (I (i + 1) acc) M3) noX) ∧
      ∀ acc M', I ((xs.map g).map DV.dat).length acc M' → P (.dat (.lst acc)) M' := by
  refine ⟨fun i acc M' => M' = M ∧ acc = ((xs.take i).filter p).map f, ⟨rfl, by simp⟩, fun i acc M' h => h.1 ▸ hok, ?_, ?_⟩
  · rintro i x acc M' hx ⟨rfl, rfl⟩
    obtain ⟨y, hx2, rfl, hm⟩ := itemG hx
    have hi : i < xs.length := (List.getElem?_eq_some_iff.mp hx2).1
    have e : ((xs.take (i + 1)).filter p).map f = ((xs.take i).filter p).map f ++ (if p y = true then [f y] else []) := by
      rw [take_snocG hx2, List.filter_append, List.map_append]
      congr 1
      cases hq : p y <;> simp [hq]
    refine he y hm _ _ (fun hp => ⟨?_, _, rfl, .inl ⟨rfl, by rw [e, if_pos hp]⟩⟩) (fun hp => .inl ⟨rfl, by rw [e, hp]; simp⟩)
    have h1 := List.length_filter_le p (xs.take i)
    have h2 : (xs.take i).length ≤ i := by rw [List.length_take]; omega
    rw [List.length_map]
    omega
  · rintro acc M' ⟨rfl, rfl⟩
    rw [List.length_map, List.length_map, List.take_length]
    exact h
theorem s_lcGL {ι : Type} {lg : LG} {lt : LT} {te : LE} {vs : List Nat} {le : LE} (xs : List ι) (g : ι → D) (p : ι → Bool) (f : ι → D) (hl : xs.length ≤ sizeLine) (hs : ∀ R : PD, R (.dat (.lst (xs.map g))) M → le ρ M R PX)
    (he : ∀ x ∈ xs, ∀ (RT : PD) (RF : Mem → Prop), (p x = true → RT (.dat (f x)) M) → (p x = false → RF M) → lg (.dat (g x)) (wipeL ρ vs) M fun ρ2 M2 => lt ρ2 M2 (fun b M3 => if b = true then te ρ2 M3 RT noX else RF M3) noX)
    (h : P (.dat (.lst ((xs.filter p).map f))) M) : lLc (lwAny le) lg lt te vs ρ M P PX := hs _ (lcG g p f trivial hl he h)
theorem s_lcGT {ι : Type} {lg : LG} {lt : LT} {te : LE} {vs : List Nat} {le : LE} (xs : List ι) (g : ι → D) (p : ι → Bool) (f : ι → D) (hl : xs.length ≤ sizeLine) (hs : ∀ R : PD, R (.dat (.tup (xs.map g))) M → le ρ M R PX)
    (he : ∀ x ∈ xs, ∀ (RT : PD) (RF : Mem → Prop), (p x = true → RT (.dat (f x)) M) → (p x = false → RF M) → lg (.dat (g x)) (wipeL ρ vs) M fun ρ2 M2 => lt ρ2 M2 (fun b M3 => if b = true then te ρ2 M3 RT noX else RF M3) noX)
    (h : P (.dat (.lst ((xs.filter p).map f))) M) : lLc (lwAny le) lg lt te vs ρ M P PX := hs _ (lcG g p f trivial hl he h)
theorem s_lcGO {ι : Type} {lg : LG} {lt : LT} {te : LE} {vs : List Nat} {le : LE} {n : Nat} (xs : List ι) (g : ι → D) (p : ι → Bool) (f : ι → D) (hM : M[n]? = some (.lst ((xs.map g).map DV.dat))) (hl : xs.length ≤ sizeLine) (hs : ∀ R : PD, R (.obj n) M → le ρ M R PX)
    (he : ∀ x ∈ xs, ∀ (RT : PD) (RF : Mem → Prop), (p x = true → RT (.dat (f x)) M) → (p x = false → RF M) → lg (.dat (g x)) (wipeL ρ vs) M fun ρ2 M2 => lt ρ2 M2 (fun b M3 => if b = true then te ρ2 M3 RT noX else RF M3) noX)
    (h : P (.dat (.lst ((xs.filter p).map f))) M) : lLc (lwAny le) lg lt te vs ρ M P PX := hs _ ⟨_, hM, lcG g p f hM hl he h⟩
end
theorem rangeD_atL {lo : Int} {n i : Nat} {x : DV} (h : (rangeD lo n)[i]? = some x) : i < n ∧ x = .int (lo + (i : Nat)) := by
  unfold rangeD at h
  rw [List.getElem?_map] at h
  by_cases hi : i < n
  · rw [List.getElem?_range hi] at h
    cases h
    exact ⟨hi, rfl⟩
  · rw [List.getElem?_eq_none (by simp; omega)] at h
    cases h
theorem okV_ints {xs : List Int} {n : Nat} (h : xs.length ≤ 1000000) : okV (n + 2) (.tup (xs.map D.int)) := by
  refine ⟨by rw [List.length_map]; exact h, fun d hd => ?_⟩
  obtain ⟨a, _, rfl⟩ := List.mem_map.mp hd
  trivial
end L3

namespace L3
open PySem L2
/-! a part of a memory that is a canonical memory, renamed -/
structure AtF (f : List Nat) (M cM : Mem) : Prop where
  nd : f.Nodup
  ok : cM.all (okMO f.length) = true
  eq : f.map (fun i => M[i]?) = cM.map fun o => some (renMO f 0 o)
theorem renDV_ind {f : List Nat} {m m' : Nat} {d : DV} (h : okDV f.length d = true) : renDV f m d = renDV f m' d := by
  cases d with
  | dat d => rfl
  | obj k =>
    have h : k < f.length := of_decide_eq_true h
    show DV.obj (ren f m k) = DV.obj (ren f m' k)
    unfold ren
    rw [if_pos h, if_pos h]
theorem renMO_congr {f g : List Nat} {m m' k : Nat} {o : MO} (h : okMO k o = true) (e : ∀ d, okDV k d = true → renDV f m d = renDV g m' d) : renMO f m o = renMO g m' o := by
  cases o with
  | lst xs =>
    have h := List.all_eq_true.mp h
    show MO.lst (xs.map _) = MO.lst (xs.map _)
    rw [List.map_congr_left fun x hx => e x (h x hx)]
  | dK kvs =>
    have h := List.all_eq_true.mp h
    show MO.dK (kvs.map _) = MO.dK (kvs.map _)
    rw [List.map_congr_left fun x hx => by rw [e x.2 (h x hx)]]
  | lk t kvs =>
    have h := List.all_eq_true.mp h
    show MO.lk t (kvs.map _) = MO.lk t (kvs.map _)
    rw [List.map_congr_left fun x hx => by rw [e x.2 (h x hx)]]
  | ins C fs =>
    have h := List.all_eq_true.mp h
    show MO.ins C (fs.map _) = MO.ins C (fs.map _)
    rw [List.map_congr_left fun x hx => by rw [e x.2 (h x hx)]]
theorem renMO_ind {f : List Nat} {m m' : Nat} {o : MO} (h : okMO f.length o = true) : renMO f m o = renMO f m' o := renMO_congr h fun d hd => renDV_ind hd
theorem okDV_mono {k k' : Nat} {d : DV} (h : okDV k d = true) (hk : k ≤ k') : okDV k' d = true := by
  cases d with
  | dat d => rfl
  | obj n => exact decide_eq_true (Nat.lt_of_lt_of_le (of_decide_eq_true h) hk)
theorem okMO_mono {k k' : Nat} {o : MO} (h : okMO k o = true) (hk : k ≤ k') : okMO k' o = true := by
  cases o <;> exact List.all_eq_true.mpr fun x hx => okDV_mono (List.all_eq_true.mp h x hx) hk
section
variable {f : List Nat} {M M' N cM cM' : Mem}
theorem AtF.len (h : AtF f M cM) : f.length = cM.length := by
  have := congrArg List.length h.eq
  simpa using this
theorem AtF.okat (h : AtF f M cM) {j : Nat} {o : MO} (e : cM[j]? = some o) : okMO f.length o = true := List.all_eq_true.mp h.ok o (List.mem_of_getElem? e)
theorem AtF.get (h : AtF f M cM) {j i : Nat} {o : MO} (hj : f[j]? = some i) (ho : cM[j]? = some o) : M[i]? = some (renMO f 0 o) := by
  have := congrArg (fun l => l[j]?) h.eq
  simp only [List.getElem?_map, hj, ho, Option.map_some, Option.some.injEq] at this
  exact this
theorem AtF.of (nd : f.Nodup) (hl : f.length = cM.length) (ok : cM.all (okMO f.length) = true) (h : ∀ (j i : Nat) (o : MO), f[j]? = some i → cM[j]? = some o → M[i]? = some (renMO f 0 o)) : AtF f M cM := by
  refine ⟨nd, ok, List.ext_getElem? fun j => ?_⟩
  rw [List.getElem?_map, List.getElem?_map]
  cases e : f[j]? with
  | none =>
    have := List.getElem?_eq_none_iff.mp e
    rw [List.getElem?_eq_none (by omega)]
    rfl
  | some i =>
    have hj := (List.getElem?_eq_some_iff.mp e).1
    have e2 : cM[j]? = some cM[j] := List.getElem?_eq_getElem (by omega)
    rw [e2]
    show some (M[i]?) = some (some _)
    rw [h j i _ e e2]
theorem AtF.lt (h : AtF f M cM) {i : Nat} (hi : i ∈ f) : i < M.length := by
  obtain ⟨j, hj, e⟩ := List.getElem_of_mem hi
  have hl := h.len
  have := h.get (j := j) (i := i) (o := cM[j]) (by rw [List.getElem?_eq_getElem hj, e]) (List.getElem?_eq_getElem (by omega))
  exact (List.getElem?_eq_some_iff.mp this).1
theorem AtF.frame (h : AtF f M cM) (e : ∀ i ∈ f, M'[i]? = M[i]?) : AtF f M' cM := .of h.nd h.len h.ok fun j i o hj ho => by
  rw [e i (List.mem_of_getElem? hj)]
  exact h.get hj ho
theorem AtF.set (h : AtF f M cM) {n : Nat} {o : MO} (hn : n ∉ f) : AtF f (M.set n o) cM := h.frame fun i hi => List.getElem?_set_ne fun e => hn (by rw [e]; exact hi)
theorem AtF.app (h : AtF f M cM) : AtF f (M ++ N) cM := h.frame fun i hi => List.getElem?_append_left (h.lt hi)
/-- a change within -/
theorem AtF.put (h : AtF f M cM) {j i : Nat} {o : MO} (hj : f[j]? = some i) (ho : okMO f.length o = true) : AtF f (M.set i (renMO f 0 o)) (cM.set j o) := by
  refine .of h.nd (by rw [List.length_set]; exact h.len) (List.all_eq_true.mpr fun x hx => ?_) fun k n p hk hp => ?_
  · rcases List.mem_or_eq_of_mem_set hx with z | rfl
    · exact List.all_eq_true.mp h.ok x z
    · exact ho
  · by_cases e : k = j
    · subst e
      rw [hj] at hk; cases hk
      have hk := (List.getElem?_eq_some_iff.mp hj).1
      have hl := h.len
      rw [List.getElem?_set_self (by omega)] at hp
      cases hp
      exact List.getElem?_set_self (h.lt (List.mem_of_getElem? hj))
    · rw [List.getElem?_set_ne (Ne.symm e)] at hp
      rw [List.getElem?_set_ne]
      · exact h.get hk hp
      · intro z
        subst z
        obtain ⟨h1, e1⟩ := List.getElem?_eq_some_iff.mp hj
        obtain ⟨h2, e2⟩ := List.getElem?_eq_some_iff.mp hk
        exact e ((List.getElem_inj h.nd).mp (e2.trans e1.symm))
/-- where new objects go -/
def extF (f : List Nat) (m k : Nat) : List Nat := f ++ List.range' m (k - f.length)
theorem extF_same {m k : Nat} (h : k = f.length) : extF f m k = f := by
  subst h
  unfold extF
  rw [Nat.sub_self]
  exact List.append_nil f
theorem extF_len {m k : Nat} (h : f.length ≤ k) : (extF f m k).length = k := by
  unfold extF
  rw [List.length_append, List.length_range']
  omega
theorem extF_at {m k j : Nat} (hj : j < k) (h : f.length ≤ k) : (extF f m k)[j]? = some (ren f m j) := by
  unfold extF ren
  by_cases e : j < f.length
  · rw [List.getElem?_append_left e, if_pos e, List.getD_eq_getElem?_getD, List.getElem?_eq_getElem e]
    rfl
  · rw [List.getElem?_append_right (by omega), if_neg e, List.getElem?_range' (by omega), Nat.one_mul]
theorem ren_ext {m m' k n : Nat} (h : f.length ≤ k) (hn : n < k) : ren (extF f m k) m' n = ren f m n := by
  have hl := extF_len (m := m) h
  have := extF_at (m := m) hn h
  conv => lhs; unfold ren
  rw [if_pos (by omega), List.getD_eq_getElem?_getD, this]
  rfl
theorem renDV_ext {m m' k : Nat} {d : DV} (h : f.length ≤ k) (hd : okDV k d = true) : renDV (extF f m k) m' d = renDV f m d := by
  cases d with
  | dat d => rfl
  | obj n => show DV.obj _ = DV.obj _; rw [ren_ext h (of_decide_eq_true hd)]
theorem renMO_ext {m m' k : Nat} {o : MO} (h : f.length ≤ k) (hd : okMO k o = true) : renMO (extF f m k) m' o = renMO f m o := renMO_congr hd fun d hd => renDV_ext h hd
theorem merge_len : (merge f M cM').length = M.length + (cM'.length - f.length) := by
  unfold merge
  rw [List.length_append, putAll_length, List.length_map, List.length_drop]
theorem merge_get {i : Nat} (h : i ∉ f) (hi : i < M.length) : (merge f M cM')[i]? = M[i]? := by
  unfold merge
  rw [List.getElem?_append_left (by rw [putAll_length]; exact hi), putAll_not _ _ _ _ h]
theorem AtF.merge (h : AtF f M cM) (hl : f.length ≤ cM'.length) (hok : cM'.all (okMO cM'.length) = true) : AtF (extF f M.length cM'.length) (merge f M cM') cM' := by
  refine .of ?_ (extF_len hl) (by rw [extF_len hl]; exact hok) fun j i o hj ho => ?_
  · unfold extF
    rw [List.nodup_append]
    refine ⟨h.nd, List.nodup_range', fun a ha b hb e => ?_⟩
    have := h.lt ha
    have := (List.mem_range'_1.mp hb).1
    omega
  · have hjl := (List.getElem?_eq_some_iff.mp ho).1
    rw [extF_at hjl hl] at hj
    cases hj
    have hoo : okMO cM'.length o = true := List.all_eq_true.mp hok o (List.mem_of_getElem? ho)
    rw [renMO_ext hl hoo]
    unfold L3.merge
    by_cases e : j < f.length
    · have hfj : f[j]? = some (ren f M.length j) := by
        unfold ren
        rw [if_pos e, List.getD_eq_getElem?_getD, List.getElem?_eq_getElem e]
        rfl
      have hlt := h.lt (List.mem_of_getElem? hfj)
      rw [List.getElem?_append_left (by rw [putAll_length]; exact hlt)]
      refine putAll_at _ _ _ _ j _ h.nd hfj ?_ hlt
      rw [List.getElem?_map, List.getElem?_take, if_pos e, ho]
      rfl
    · have er : ren f M.length j = M.length + (j - f.length) := by unfold ren; rw [if_neg e]
      rw [er, List.getElem?_append_right (by rw [putAll_length]; omega), putAll_length, List.getElem?_map, List.getElem?_drop, show f.length + (M.length + (j - f.length) - M.length) = j by omega, ho]
      rfl
/-- .. when nothing is new -/
theorem AtF.mergeS (h : AtF f M cM) (hl : cM'.length = f.length) (hok : cM'.all (okMO f.length) = true) : AtF f (L3.merge f M cM') cM' := by
  have := h.merge (cM' := cM') (by omega) (by rw [hl]; exact hok)
  rw [extF_same hl] at this
  exact this
theorem AtF.mergeI (h : AtF f M cM) : L3.merge f M cM = M := by
  have hl := h.len
  refine List.ext_getElem? fun i => ?_
  by_cases hi : i < M.length
  · by_cases hf : i ∈ f
    · obtain ⟨j, hj, e⟩ := List.getElem_of_mem hf
      have e1 : f[j]? = some i := by rw [List.getElem?_eq_getElem hj, e]
      have e2 : cM[j]? = some cM[j] := List.getElem?_eq_getElem (by omega)
      rw [(h.mergeS hl.symm h.ok).get e1 e2, h.get e1 e2]
    · exact merge_get hf hi
  · rw [List.getElem?_eq_none (by rw [merge_len]; omega), List.getElem?_eq_none (by omega)]
theorem call_at {lsp : LSp} {xs cds : List DV} {P : PD} {PX : PXn} (h : AtF f M cM) (hd : cds.all (okDV f.length) = true) (hx : xs = cds.map (renDV f 0)) (k : lsp cds cM (fun d M' => P (renDV f M.length d) (L3.merge f M M')) (fun x M' => PX x (L3.merge f M M'))) : CallAt lsp xs M P PX := by
  refine .inr ⟨f, cds, cM, h.nd, hd, ?_, h.ok, ?_, k⟩
  · rw [hx]
    exact List.map_congr_left fun d hm => renDV_ind (List.all_eq_true.mp hd d hm)
  · rw [h.eq]
    exact List.map_congr_left fun o hm => by rw [renMO_ind (List.all_eq_true.mp h.ok o hm)]
theorem AtF.refl (ok : M.all (okMO M.length) = true) : AtF (List.range M.length) M M := by
  have er : ∀ k, k < M.length → ren (List.range M.length) 0 k = k := fun k hk => by
    unfold ren
    rw [if_pos (by rw [List.length_range]; exact hk), List.getD_eq_getElem?_getD, List.getElem?_range hk]
    rfl
  refine .of List.nodup_range List.length_range (by rw [List.length_range]; exact ok) fun j i o hj ho => ?_
  have hjl := (List.getElem?_eq_some_iff.mp ho).1
  rw [List.getElem?_range hjl] at hj
  cases hj
  rw [ho]
  congr 1
  have hoo : okMO M.length o = true := List.all_eq_true.mp ok o (List.mem_of_getElem? ho)
  have ed : ∀ d, okDV M.length d = true → renDV (List.range M.length) 0 d = d := fun d hd => by
    cases d with
    | dat d => rfl
    | obj k => show DV.obj _ = DV.obj _; rw [er k (of_decide_eq_true hd)]
  cases o with
  | lst xs => show _ = MO.lst (xs.map _); rw [List.map_congr_left (fun x hx => ed x (List.all_eq_true.mp hoo x hx)), List.map_id']
  | dK kvs =>
    show _ = MO.dK (kvs.map fun p => (p.1, renDV _ 0 p.2))
    rw [List.map_congr_left (g := id) (fun x hx => by rw [ed x.2 (List.all_eq_true.mp hoo x hx)]; rfl), List.map_id]
  | lk t kvs =>
    show _ = MO.lk t (kvs.map fun p => (p.1, renDV _ 0 p.2))
    rw [List.map_congr_left (g := id) (fun x hx => by rw [ed x.2 (List.all_eq_true.mp hoo x hx)]; rfl), List.map_id]
  | ins C fs =>
    show _ = MO.ins C (fs.map fun p => (p.1, renDV _ 0 p.2))
    rw [List.map_congr_left (g := id) (fun x hx => by rw [ed x.2 (List.all_eq_true.mp hoo x hx)]; rfl), List.map_id]
end
end L3

namespace L3
open PySem L2
/-! count of equal flat values in a list -/
def rCntF (K : PySem.W.Frag) : V → List V → Hp → VK → Prop := fun x xs H Q => ∃ (p : Addr) (ys : List V) (y : V), x = .ref p ∧ xs = [y] ∧ SqL K H p ys ∧ flatV y = true ∧ ys.all flatV = true ∧ Q (.int (ys.countP (fun z => eqV z y) : Nat)) H
theorem countU {y : V} : ∀ {its : List Value} {ys : List V}, Vals ys its → ys.all flatV = true → its.countP (eqU y) = ys.countP fun z => eqV z y
  | _, _, .nil, _ => rfl
  | _, _, .cons r t, h => by
    rw [List.all_cons, Bool.and_eq_true] at h
    rw [List.countP_cons, List.countP_cons, countU t h.2, eqU_of r h.1]
theorem mt_lcountF {X : Cx} : MtR X "list.count" (rCntF X.K) := by
  intro pins s σ H x xs v us Q I rx rxs h
  obtain ⟨p, ys, y, rfl, rfl, hs, fy, fys, q⟩ := h
  cases rx
  cases rxs with
  | cons ry rt =>
    rename_i uy ut
    cases rt
    obtain ⟨its, rv, ⟨⟨cls, dd, data, sl⟩, n, ho, hc, hdn, hd⟩, hlen⟩ := I.list hs
    simp only at hc hd
    subst hc hd
    refine call_meets PySem.F.slot_list_count ⟨_, ho, rfl⟩ PySem.F.entry_list_count (PySem.F.args_list_count_2 _ _)
      (SeqAt.list_countAt p its.toArray n dd sl uy (eqU y)) ⟨ho, fun u' hu' => mem_eqAt ry fy rv fys u' (by simpa using hu'), ?_⟩
    refine ⟨.int (ys.countP (fun z => eqV z y) : Nat), H, I.tok _, ⟨s.toks, ?_⟩, q⟩
    show Value.int ((its.toArray.toList.countP (eqU y) : Nat) : Int) s.toks = _
    rw [show its.toArray.toList = its by simp, countU rv fys]
def vCntS : DV → List DV → Mem → PD → Prop := fun x xs M P => ∃ (n : Nat) (l : List Str) (k : Str), x = .obj n ∧ xs = [.str k] ∧ M[n]? = some (.lst ((l.map D.str).map DV.dat)) ∧ P (.int ((l.count k : Nat) : Int)) M
theorem count_strs (k : Str) : ∀ l : List Str, (l.map V.str).countP (fun z => eqV z (V.str k)) = l.count k
  | [] => rfl
  | a :: l => by
    rw [List.map_cons, List.countP_cons, List.count_cons, count_strs k l]
    rfl
theorem lm_cntS {C : Cn} : LoM C (rCntF C.K) vCntS := fun x xs M P ⟨n, l, k, e1, e2, hm, p⟩ Z α H v vs Q r q qs kk => by
  subst e1 e2
  obtain ⟨w, rfl, qw⟩ := one_inv qs
  cases qw
  obtain ⟨a, ea, rfl⟩ := q
  obtain ⟨zs, eh, hd⟩ := r.hr.get n a _ ea hm
  rw [vrs_strs hd] at eh
  refine ⟨a, l.map V.str, .str k, rfl, rfl, SqL.of eh, rfl, by rw [List.all_map, List.all_eq_true]; exact fun _ _ => rfl, ?_⟩
  rw [count_strs]
  exact kk.now (d := .int _) r (.int _) p
/-! d.setdefault(k, v) -/
def lDSetd (ld ly lz : LE) : LE := fun ρ M P PX => ld ρ M (fun x M1 => ∃ n kvs, x = .obj n ∧ M1[n]? = some (.dK kvs) ∧ ly ρ M1 (fun y M2 => lz ρ M2 (fun z M3 => ∃ k kvs2, M3[n]? = some (.dK kvs2) ∧ y = .dat (keyD k) ∧ kvs2.length < sizeLine ∧
  (∀ v, valD kvs2 k = some v → P v M3) ∧ (valD kvs2 k = none → P z (M3.set n (.dK (putD kvs2 k z))))) PX) PX) PX
theorem lp_dsetd {X : Cx} {C : Cn} {W : WX} {o e f : Expr} {td ty tz : TE} {ld ly lz : LE} {apos cpos : Pos} (ho : LPE X C W o td ld) (he : LPE X C W e ty ly) (hf : LPE X C W f tz lz) (m : M2 X o "setdefault" apos e f cpos) : LPE X C W (.Call (.Attribute o "setdefault" apos) [e, f] [] cpos) (tDSetd td ty tz) (lDSetd ld ly lz) := ⟨pe_dsetd ho.pe he.pe hf.pe m, fun ρ M P PX h Z σ H α Q vs rs k wk =>
  ho.lo.bind h vs rs wk fun v H1 α1 x M1 s1 r1 q1 h1 vs1 wk1 => by
    obtain ⟨n, kvs, rfl, hM, h1⟩ := h1
    obtain ⟨a, ea, rfl⟩ := _root_.id q1
    obtain ⟨ps, eh, kv⟩ := r1.hr.get n a _ ea hM
    refine ⟨a, rfl, .inl ⟨ps, .inl eh⟩, he.lo.bind h1 vs1 r1 wk1 fun u H2 α2 y M2 s2 r2 q2 h2 vs2 wk2 => hf.lo.bind h2 vs2 r2 wk2 fun u3 H3 α3 z M3 s3 r3 q3 h3 vs3 wk3 => ?_⟩
    obtain ⟨ky, kvs2, hM2, rfl, hl, p1, p2⟩ := h3
    obtain ⟨a', ea', e'⟩ := q1.step (s2.trans s3)
    cases e'
    have ey := keyD_of (VR.step q2 s3)
    subst ey
    obtain ⟨ps2, eh2, kv2⟩ := r3.hr.get n a _ ea' hM2
    have hlen := kv2.length
    refine ⟨ps2, ky, eh2, rfl, by omega, fun v hv => ?_, fun hv => ?_⟩
    · rcases KVR.val (k := ky) kv2 with ⟨h3, h4⟩ | ⟨v3, d3, h3, h4, h5⟩
      · rw [h3] at hv; cases hv
      · rw [h3] at hv; cases hv
        exact (k.step ((s1.trans s2).trans s3)).now r3 h5 (p1 d3 h4)
    · rcases KVR.val (k := ky) kv2 with ⟨h3, h4⟩ | ⟨v3, d3, h3, h4, h5⟩
      · have st : Step (C.wz Z) α3 H3 α3 (upd H3 a (.dK (putK ps2 ky u3))) := put_step ea'
        obtain ⟨r4, s4⟩ := r3.put (mo := .dK (putD kvs2 ky z)) ea' ⟨_, upd_same, KVR.put (q3.step st) (KVR.step kv2 st)⟩ (r3.noT ea' hM2)
        exact (k.step (((s1.trans s2).trans s3).trans s4)).now r4 (q3.step s4) (p2 h4)
      · rw [h3] at hv; cases hv⟩
/-! {k: v, ..} -/
def lPairs : List (LE × LE) → Rho → Mem → (List (DV × DV) → Mem → Prop) → PXn → Prop
  | [], _, M, P, _ => P [] M
  | (lk, lv) :: r, ρ, M, P, PX => lk ρ M (fun x M1 => lv ρ M1 (fun y M2 => lPairs r ρ M2 (fun ps M3 => P ((x, y) :: ps) M3) PX) PX) PX
def PVR (C : Cn) (α : List Addr) (H : Hp) : List (V × V) → List (DV × DV) → Prop := Paired fun p q => VR C α H p.1 q.1 ∧ VR C α H p.2 q.2
structure LPPs (X : Cx) (C : Cn) (W : WX) (pos : Pos) (keys : List (Option Expr)) (values : List Expr) (trs : List (TE × TE)) (lrs : List (LE × LE)) : Prop where
  pp : PPs X pos keys values trs
  lo : ∀ ρ M P PX, lPairs lrs ρ M P PX → ∀ Z σ H α (Q : List (V × V) → Hp → Prop), VS (C.wz Z) α H σ ρ → RS (C.wz Z) α M H → (∀ vs H' α' ds M', Step (C.wz Z) α H α' H' → RS (C.wz Z) α' M' H' → PVR (C.wz Z) α' H' vs ds → P ds M' → Q vs H') → Wk (C.wz Z) α H W σ PX → tPairs trs σ H Q
theorem lpps_nil {X : Cx} {C : Cn} {W : WX} {pos : Pos} : LPPs X C W pos [] [] [] [] := ⟨pps_nil, fun ρ M P PX h Z σ H α Q vs rs k wk => k [] H α [] M Step.refl rs .nil h⟩
theorem lpps_cons {X : Cx} {C : Cn} {W : WX} {pos : Pos} {k v : Expr} {ks : List (Option Expr)} {vs : List Expr} {tk tv : TE} {lk lv : LE} {trs : List (TE × TE)} {lrs : List (LE × LE)} (hk : LPE X C W k tk lk) (hv : LPE X C W v tv lv) (hr : LPPs X C W pos ks vs trs lrs) :
    LPPs X C W pos (some k :: ks) (v :: vs) ((tk, tv) :: trs) ((lk, lv) :: lrs) := ⟨pps_cons hk.pe hv.pe hr.pp, fun ρ M P PX h Z σ H α Q vs rs kk wk =>
  hk.lo.bind h vs rs wk fun u1 H1 α1 x M1 s1 r1 q1 h1 vs1 wk1 => hv.lo.bind h1 vs1 r1 wk1 fun u2 H2 α2 y M2 s2 r2 q2 h2 vs2 wk2 =>
    hr.lo ρ M2 _ PX h2 Z σ H2 α2 _ vs2 r2 (fun us H3 α3 ds M3 s3 r3 q3 p3 => kk _ H3 α3 _ M3 ((s1.trans s2).trans s3) r3 (.cons ⟨q1.step (s2.trans s3), q2.step s3⟩ q3) p3) wk2⟩
def mergeD (kvs more : List (Key × DV)) : List (Key × DV) := more.foldl (fun acc kv => putD acc kv.1 kv.2) kvs
def lDisp (lrs : List (LE × LE)) : LE := fun ρ M P PX => lPairs lrs ρ (M ++ [.dK []]) (fun ps M2 => M2[M.length]? = some (.dK []) ∧ ∃ kvs : List (Key × DV), ps = kvs.map (fun kv => (DV.dat (keyD kv.1), kv.2)) ∧ kvs.length ≤ 15 ∧ P (.obj M.length) (M2.set M.length (.dK (mergeD [] kvs)))) PX
theorem pvr_keys {C : Cn} {α : List Addr} {H : Hp} : ∀ {kvs : List (Key × DV)} {vs : List (V × V)}, PVR C α H vs (kvs.map fun kv => (DV.dat (keyD kv.1), kv.2)) → ∃ ps : List (Key × V), vs = ps.map (fun kv => (kV kv.1, kv.2)) ∧ KVR C α H ps kvs
  | [], _, .nil => ⟨[], rfl, .nil⟩
  | (k, d) :: kvs, (v1, v2) :: _, .cons r t => by
    obtain ⟨ps, e, q⟩ := pvr_keys (kvs := kvs) t
    have ek := keyD_of r.1
    have ek : v1 = kV k := ek
    subst ek e
    exact ⟨(k, v2) :: ps, rfl, .cons ⟨rfl, r.2⟩ q⟩
theorem kvr_merge {C : Cn} {α : List Addr} {H : Hp} : ∀ {ps : List (Key × V)} {kvs : List (Key × DV)} {ps0 : List (Key × V)} {kvs0 : List (Key × DV)}, KVR C α H ps0 kvs0 → KVR C α H ps kvs → KVR C α H (mergeK ps0 ps) (mergeD kvs0 kvs)
  | _, _, _, _, h0, .nil => h0
  | (k, v) :: ps, (k', d) :: kvs, _, _, h0, .cons r t => by
    have e : k = k' := r.1
    subst e
    exact kvr_merge (ps := ps) (kvs := kvs) (KVR.put (k := k) r.2 h0) t
theorem lp_disp {X : Cx} {C : Cn} {W : WX} {pos : Pos} {keys : List (Option Expr)} {values : List Expr} {trs : List (TE × TE)} {lrs : List (LE × LE)} (h : LPPs X C W pos keys values trs lrs) (hall : keys.all (·.isSome) = true) (hl : keys.length = values.length) (h0 : keys ≠ [])
    (h15 : keys.length ≤ 15) : LPE X C W (.Dict keys values pos) (tDisp trs) (lDisp lrs) := ⟨pe_disp h.pp hall hl h0 h15, fun ρ M P PX g Z σ H α Q vs rs k wk => fun p hp => by
  obtain ⟨r1, s1⟩ := rs.newM (o := .dK []) (mo := .dK []) hp ⟨[], upd_same, .nil⟩
  have ea : (α ++ [p])[M.length]? = some p := by rw [← rs.hr.len]; simp
  refine h.lo ρ _ _ PX g Z σ _ _ _ (vs.step s1) r1 (fun us H2 α2 ds M2 s2 r2 q2 h2 => ?_) (wk.step s1)
  obtain ⟨hM, kvs, rfl, hk, p2⟩ := h2
  have ea2 : α2[M.length]? = some p := by
    obtain ⟨β, e, _⟩ := s2.ext
    rw [e, List.getElem?_append_left (List.getElem?_eq_some_iff.mp ea).1]
    exact ea
  obtain ⟨ps0, eh, kv0⟩ := r2.hr.get _ p _ ea2 hM
  cases kv0
  obtain ⟨ps, rfl, kv⟩ := pvr_keys q2
  have hlen := kv.length
  refine ⟨eh, ps, rfl, by omega, ?_⟩
  have st : Step (C.wz Z) α2 H2 α2 (upd H2 p (.dK (mergeK [] ps))) := put_step ea2
  obtain ⟨r4, s4⟩ := r2.put (o := .dK (mergeK [] ps)) (mo := .dK (mergeD [] kvs)) ea2 ⟨_, upd_same, kvr_merge .nil (KVR.step kv st)⟩ (r2.noT ea2 hM)
  exact k _ _ _ (.obj M.length) _ ((s1.trans s2).trans s4) r4 ⟨p, ea2, rfl⟩ p2⟩
/-! a statement under a lock; a walk over a dict's keys -/
abbrev lockE (L : LEnds) (n : Nat) (t : Obj × List (Key × V)) (kvs : List (Key × DV)) : LEnds :=
  { nx := fun ρ M => M[n]? = some (.lk t kvs) ∧ L.nx ρ (M.set n (.dK kvs)), rt := fun d M => M[n]? = some (.lk t kvs) ∧ L.rt d (M.set n (.dK kvs)), bk := fun ρ M => M[n]? = some (.lk t kvs) ∧ L.bk ρ (M.set n (.dK kvs)), ct := fun ρ M => M[n]? = some (.lk t kvs) ∧ L.ct ρ (M.set n (.dK kvs)), ex := L.ex }
def lLock (l : LS) : LS := fun L ρ M => ∃ n kvs, M[n]? = some (.dK kvs) ∧ ∀ t, l (lockE L n t kvs) ρ (M.set n (.lk t kvs))
theorem lps_lock {X : Cx} {C : Cn} {W : WX} {st : Stmt} {ts : TS} {l : LS} (h : LPS X C W st ts l) : LPS X C W st (tLock ts) (lLock l) := ⟨ps_lock h.ps, fun L ρ M g Z D σ H α vs r d => by
  obtain ⟨n, kvs, hM, g⟩ := g
  obtain ⟨a, ea, mr⟩ := r.hr.at hM
  obtain ⟨ps, eh, kv⟩ := mr
  refine ⟨a, .dK ps, eh, trivial, fun od => ?_⟩
  have st0 : Step (C.wz Z) α H α (upd H a (.frz od (.dK ps))) := put_step ea
  obtain ⟨r1, s1⟩ := r.put (o := .frz od (.dK ps)) (mo := .lk (od, ps) kvs) ea ⟨upd_same, KVR.step kv st0⟩ (r.noT ea hM)
  have back : ∀ {H' : Hp} {α' : List Addr} {M' : Mem}, Step (C.wz Z) α (upd H a (.frz od (.dK ps))) α' H' → RS (C.wz Z) α' M' H' → M'[n]? = some (.lk (od, ps) kvs) → H' a = some (.frz od (.dK ps)) ∧ RS (C.wz Z) α' (M'.set n (.dK kvs)) (upd H' a (.dK ps)) ∧ Step (C.wz Z) α' H' α' (upd H' a (.dK ps)) := fun {H' α' M'} s2 r2 hM2 => by
    have ea2 : α'[n]? = some a := by
      obtain ⟨β, e, _⟩ := s2.ext
      rw [e, List.getElem?_append_left (List.getElem?_eq_some_iff.mp ea).1]
      exact ea
    obtain ⟨e2, kv2⟩ := r2.hr.get n a _ ea2 hM2
    have st2 : Step (C.wz Z) α' H' α' (upd H' a (.dK ps)) := put_step ea2
    exact ⟨e2, r2.put (mo := .dK kvs) ea2 ⟨ps, upd_same, KVR.step kv2 st2⟩ (r2.noT ea2 hM2)⟩
  refine h.lo _ ρ _ (g (od, ps)) Z _ σ _ α (vs.step s1) r1 ⟨fun σ2 H2 α2 ρ2 M2 s2 vs2 r2 p => ?_, fun v H2 α2 x M2 s2 r2 q2 p => ?_, fun σ2 H2 α2 ρ2 M2 s2 vs2 r2 p => ?_, fun σ2 H2 α2 ρ2 M2 s2 vs2 r2 p => ?_, fun c dd σ2 H2 α2 ρ2 M2 x s2 vs2 r2 q2 p => ?_⟩
  · obtain ⟨e, r3, s3⟩ := back s2 r2 p.1
    exact ⟨e, d.nx _ _ α2 ρ2 _ ((s1.trans s2).trans s3) (vs2.step s3) r3 p.2⟩
  · obtain ⟨e, r3, s3⟩ := back s2 r2 p.1
    exact ⟨e, d.rt _ _ α2 x _ ((s1.trans s2).trans s3) r3 (q2.step s3) p.2⟩
  · obtain ⟨e, r3, s3⟩ := back s2 r2 p.1
    exact ⟨e, d.bk _ _ α2 ρ2 _ ((s1.trans s2).trans s3) (vs2.step s3) r3 p.2⟩
  · obtain ⟨e, r3, s3⟩ := back s2 r2 p.1
    exact ⟨e, d.ct _ _ α2 ρ2 _ ((s1.trans s2).trans s3) (vs2.step s3) r3 p.2⟩
  · exact d.ex c dd σ2 H2 α2 ρ2 M2 x (s1.trans s2) vs2 r2 q2 p⟩
def keysD (kvs : List (Key × DV)) : List DV := kvs.map fun kv => .dat (keyD kv.1)
theorem kvr_key {C : Cn} {α : List Addr} {H : Hp} : ∀ {ps : List (Key × V)} {kvs : List (Key × DV)} {i : Nat} {kv : Key × DV} {k : Key} {w : V}, KVR C α H ps kvs → kvs[i]? = some kv → ps[i]? = some (k, w) → k = kv.1
  | _, _, _, _, _, _, .nil, h, _ => by cases h
  | _, _, 0, _, _, _, .cons r _, h, g => by cases h; cases g; exact r.1
  | _, _, i + 1, _, _, _, .cons _ t, h, g => kvr_key (i := i) t h g
theorem ItOk.keys {C : Cn} {α1 : List Addr} {H1 : Hp} {a : Addr} {n : Nat} {t : Obj × List (Key × V)} {kvs : List (Key × DV)} (ha : α1[n]? = some a) (hl : t.2.length = kvs.length) : ItOk C α1 H1 (Itk a t.1 t.2) (keysD kvs) fun M => M[n]? = some (.lk t kvs) := by
  have at_ : ∀ {α2 : List Addr} {H2 : Hp}, Pre C α1 H1 α2 H2 → α2[n]? = some a := fun {α2 H2} s => by
    obtain ⟨β, e⟩ := s.ext
    rw [e, List.getElem?_append_left (List.getElem?_eq_some_iff.mp ha).1]
    exact ha
  refine ⟨fun i α2 H2 M2 d s r ok h => ?_, fun α2 H2 M2 s r ok => ?_⟩
  · obtain ⟨e, q⟩ := r.hr.get n a _ (at_ s) ok
    unfold keysD at h
    rw [List.getElem?_map] at h
    cases hk : kvs[i]? with
    | none => rw [hk] at h; cases h
    | some kv =>
      rw [hk] at h
      cases h
      have hi := (List.getElem?_eq_some_iff.mp hk).1
      refine ⟨⟨e, by omega⟩, fun v H' ⟨e', k, w, hw, ev⟩ => ?_⟩
      subst e' ev
      refine ⟨r, Step.refl, ?_⟩
      have : k = kv.1 := kvr_key q hk hw
      subst this
      obtain ⟨k, w2⟩ := kv
      cases k with
      | inl i => exact .int i
      | inr x => exact .str x
  · obtain ⟨e, q⟩ := r.hr.get n a _ (at_ s) ok
    refine ⟨e, ?_⟩
    unfold keysD
    rw [List.length_map]
    omega
def lwKeys (le : LE) : LW := fun ρ M P PX => le ρ M (fun x M1 => ∃ n t kvs, x = .obj n ∧ M1[n]? = some (.lk t kvs) ∧ P (keysD kvs) (fun M => M[n]? = some (.lk t kvs)) M1) PX
theorem lpi_keys {X : Cx} {C : Cn} {W : WX} {tg iter : Expr} {te : TE} {le : LE} (h : LPE X C W iter te le) : LPI X C W tg iter (iKeys te) (lwKeys le) := ⟨pi_keys h.pe, fun ρ M P PX g Z σ H α R vs rs wk kt => h.lo.bind g vs rs wk fun v H1 α1 x M1 s1 r1 q1 h1 vs1 wk1 => by
  obtain ⟨n, t, kvs, rfl, hM, p⟩ := h1
  obtain ⟨a, ea, rfl⟩ := q1
  obtain ⟨e, q⟩ := r1.hr.get n a _ ea hM
  have hl := q.length
  exact ⟨a, t.1, rfl, .inl ⟨t.2, e, kt _ _ α1 _ _ _ s1 r1 (fun Z' H'' mv => ItOk.keys ea hl) hM p⟩⟩⟩
section
variable {ρ : Rho} {M : Mem} {P : PD} {PX : PXn}
theorem s_dsetd {ld ly lz : LE} (h : ld ρ M (fun x M1 => ∃ n kvs, x = .obj n ∧ M1[n]? = some (.dK kvs) ∧ ly ρ M1 (fun y M2 => lz ρ M2 (fun z M3 => ∃ k kvs2, M3[n]? = some (.dK kvs2) ∧ y = .dat (keyD k) ∧ kvs2.length < sizeLine ∧
  (∀ v, valD kvs2 k = some v → P v M3) ∧ (valD kvs2 k = none → P z (M3.set n (.dK (putD kvs2 k z))))) PX) PX) PX) : lDSetd ld ly lz ρ M P PX := h
theorem s_disp {lrs : List (LE × LE)} (h : lPairs lrs ρ (M ++ [.dK []]) (fun ps M2 => M2[M.length]? = some (.dK []) ∧ ∃ kvs : List (Key × DV), ps = kvs.map (fun kv => (DV.dat (keyD kv.1), kv.2)) ∧ kvs.length ≤ 15 ∧ P (.obj M.length) (M2.set M.length (.dK (mergeD [] kvs)))) PX) : lDisp lrs ρ M P PX := h
theorem s_prNil {R : List (DV × DV) → Mem → Prop} (h : R [] M) : lPairs [] ρ M R PX := h
theorem s_prCons {lk lv : LE} {lrs : List (LE × LE)} {R : List (DV × DV) → Mem → Prop} (h : lk ρ M (fun x M1 => lv ρ M1 (fun y M2 => lPairs lrs ρ M2 (fun ps M3 => R ((x, y) :: ps) M3) PX) PX) PX) : lPairs ((lk, lv) :: lrs) ρ M R PX := h
theorem s_nnF {A B : Prop} (h : B) : if (if true = true then !true else true) = true then A else B := h
theorem s_nnT {A B : Prop} (h : A) : if (if true = true then !false else false) = true then A else B := h
theorem s_fnT {A B : Prop} (h : A) : if (if false = true then !true else true) = true then A else B := h
theorem s_fnF {A B : Prop} (h : B) : if (if false = true then !false else false) = true then A else B := h
end
end L3

namespace L3
open PySem L2
/-! what a memory has: cells, by their places -/
abbrev Cells := List (Nat × MO)
structure Has (M : Mem) (c : Cells) : Prop where
  nd : (c.map (·.1)).Nodup
  at' : ∀ p ∈ c, M[p.1]? = some p.2
/-- an update of c to c' that leaves all else -/
def Upd (M : Mem) (c : Cells) (M' : Mem) (c' : Cells) : Prop := ∀ F : Cells, Has M (c ++ F) → Has M' (c' ++ F)
abbrev HasP (M : Mem) (cs : List Cells) : Prop := Has M cs.flatten
section
variable {M M' M'' N : Mem} {c c' c'' d F : Cells} {n : Nat} {o o' : MO} {cs : List Cells}
theorem Has.perm (h : Has M c) (p : c.Perm c') : Has M c' := ⟨(p.map _).nodup_iff.mp h.nd, fun q hq => h.at' q (p.mem_iff.mpr hq)⟩
theorem Has.mem (h : Has M c) (m : (n, o) ∈ c) : M[n]? = some o := h.at' _ m
theorem Has.lt (h : Has M c) (m : (n, o) ∈ c) : n < M.length := (List.getElem?_eq_some_iff.mp (h.mem m)).1
theorem Has.left (h : Has M (c ++ d)) : Has M c := ⟨(List.nodup_append.mp (by rw [← List.map_append]; exact h.nd)).1, fun p hp => h.at' p (List.mem_append_left _ hp)⟩
theorem Has.right (h : Has M (c ++ d)) : Has M d := (h.perm List.perm_append_comm).left
theorem Upd.refl : Upd M c M c := fun _ h => h
theorem Upd.trans (a : Upd M c M' c') (b : Upd M' c' M'' c'') : Upd M c M'' c'' := fun F h => b F (a F h)
theorem Upd.frame (a : Upd M c M' c') : Upd M (c ++ d) M' (c' ++ d) := fun F h => by
  rw [List.append_assoc] at h ⊢
  exact a _ h
theorem Upd.perm (a : Upd M c M' c') (p : d.Perm c) (q : c'.Perm c'') : Upd M d M' c'' := fun F h => (a F (h.perm (p.append_right F))).perm (q.append_right F)
theorem Upd.frameL (a : Upd M c M' c') : Upd M (d ++ c) M' (d ++ c') := a.frame.perm List.perm_append_comm List.perm_append_comm
theorem Upd.has (a : Upd M c M' c') (h : Has M c) : Has M' c' := by
  have := a [] (by rw [List.append_nil]; exact h)
  rw [List.append_nil] at this
  exact this
theorem upd_set : Upd M [(n, o)] (M.set n o') [(n, o')] := fun F h => by
  have hn := h.lt (n := n) (o := o) (by simp)
  refine ⟨h.nd, fun p hp => ?_⟩
  rcases List.mem_cons.mp hp with e | e
  · subst e; exact List.getElem?_set_self hn
  · have nd : n ∉ F.map (·.1) := (List.nodup_cons.mp h.nd).1
    rw [List.getElem?_set_ne (fun z => nd (by rw [z]; exact List.mem_map_of_mem e))]
    exact h.at' p (List.mem_cons_of_mem _ e)
theorem upd_app (N : Mem) : Upd M c (M ++ N) c := fun F h => ⟨h.nd, fun p hp => by
  rw [List.getElem?_append_left (List.getElem?_eq_some_iff.mp (h.at' p hp)).1]
  exact h.at' p hp⟩
theorem upd_new : Upd M c (M ++ [o]) ((M.length, o) :: c) := fun F h => by
  refine ⟨?_, fun p hp => ?_⟩
  · show (M.length :: (c ++ F).map (·.1)).Nodup
    refine List.nodup_cons.mpr ⟨fun z => ?_, h.nd⟩
    obtain ⟨p, hp, e⟩ := List.mem_map.mp z
    have := (List.getElem?_eq_some_iff.mp (h.at' p hp)).1
    omega
  · rcases List.mem_cons.mp hp with e | e
    · subst e; simp
    · exact (upd_app [o] F h).at' p e
theorem Has.set (h : Has M ((n, o) :: F)) : Has (M.set n o') ((n, o') :: F) := upd_set F h
theorem Has.new (h : Has M c) : Has (M ++ [o]) ((M.length, o) :: c) := upd_new.has h
theorem Has.app (h : Has M c) (N : Mem) : Has (M ++ N) c := (upd_app N).has h
theorem upd_at {c : Cells} {j : Nat} (hj : c[j]? = some (n, o)) : Upd M c (M.set n o') (c.set j (n, o')) := fun F h => by
  have hp : c.Perm ((n, o) :: c.eraseIdx j) ∧ ∀ q, (q :: c.eraseIdx j).Perm (c.set j q) := by
    clear h
    induction c generalizing j with
    | nil => cases hj
    | cons a c ih =>
      cases j with
      | zero => cases hj; exact ⟨List.Perm.refl _, fun _ => List.Perm.refl _⟩
      | succ j =>
        obtain ⟨h1, h2⟩ := ih (j := j) (by simpa using hj)
        exact ⟨(h1.cons a).trans (List.Perm.swap _ _ _), fun q => (List.Perm.swap _ _ _).trans ((h2 q).cons a)⟩
  have h1 : Has M ((n, o) :: (c.eraseIdx j ++ F)) := h.perm (hp.1.append_right F)
  exact (Has.set (o' := o') h1).perm ((hp.2 (n, o')).append_right F)
/-! parts in a row -/
theorem flat_set {k : Nat} (hk : cs[k]? = some c) : cs.flatten.Perm (c ++ (cs.eraseIdx k).flatten) ∧ ∀ c', (c' ++ (cs.eraseIdx k).flatten).Perm (cs.set k c').flatten := by
  induction cs generalizing k with
  | nil => cases hk
  | cons a cs ih =>
    cases k with
    | zero =>
      cases hk
      exact ⟨List.Perm.refl _, fun _ => List.Perm.refl _⟩
    | succ k =>
      obtain ⟨h1, h2⟩ := ih (k := k) (by simpa using hk)
      refine ⟨?_, fun c' => ?_⟩
      · show (a ++ cs.flatten).Perm (c ++ (a ++ (cs.eraseIdx k).flatten))
        refine (h1.append_left a).trans ?_
        rw [← List.append_assoc, ← List.append_assoc]
        exact List.perm_append_comm.append_right _
      · show (c' ++ (a ++ (cs.eraseIdx k).flatten)).Perm (a ++ (cs.set k c').flatten)
        refine List.Perm.trans ?_ ((h2 c').append_left a)
        rw [← List.append_assoc, ← List.append_assoc]
        exact List.perm_append_comm.append_right _
theorem HasP.upd (h : HasP M cs) (k : Nat) (hk : cs[k]? = some c) (u : Upd M c M' c') : HasP M' (cs.set k c') := by
  obtain ⟨h1, h2⟩ := flat_set hk
  exact (u _ (h.perm h1)).perm (h2 c')
theorem HasP.part (h : HasP M cs) (k : Nat) (hk : cs[k]? = some c) : Has M c := (h.perm (flat_set hk).1).left
theorem HasP.get (h : HasP M cs) (k : Nat) (hk : cs[k]? = some c) (m : (n, o) ∈ c) : M[n]? = some o := (h.part k hk).mem m
theorem HasP.cell (h : HasP M cs) (k : Nat) (hk : cs[k]? = some [(n, o)]) : M[n]? = some o := h.get k hk (by simp)
theorem HasP.set (h : HasP M cs) (k : Nat) (hk : cs[k]? = some [(n, o)]) : HasP (M.set n o') (cs.set k [(n, o')]) := h.upd k hk upd_set
theorem HasP.snoc (h : HasP M cs) : HasP (M ++ [o]) (cs ++ [[(M.length, o)]]) := by
  show Has _ (cs ++ [[(M.length, o)]]).flatten
  rw [List.flatten_append]
  exact (Has.new h).perm (by
    show ([(M.length, o)] ++ cs.flatten).Perm (cs.flatten ++ ([(M.length, o)] ++ []))
    rw [List.append_nil]
    exact List.perm_append_comm)
theorem flat_perm {cs ds : List Cells} (p : cs.Perm ds) : cs.flatten.Perm ds.flatten := by
  induction p with
  | nil => exact List.Perm.refl _
  | cons x _ ih => exact ih.append_left x
  | swap x y l =>
    show (y ++ (x ++ l.flatten)).Perm (x ++ (y ++ l.flatten))
    rw [← List.append_assoc, ← List.append_assoc]
    exact List.perm_append_comm.append_right _
  | trans _ _ h1 h2 => exact h1.trans h2
theorem perm_idx (ks : List Nat) (cs : List Cells) (p : ks.Perm (List.range cs.length)) : cs.Perm (ks.map fun k => cs.getD k []) := by
  refine List.Perm.trans (List.Perm.of_eq ?_) (p.map fun k => cs.getD k []).symm
  refine List.ext_getElem? fun i => ?_
  rw [List.getElem?_map]
  by_cases hi : i < cs.length
  · rw [List.getElem?_range hi, Option.map_some, List.getD_eq_getElem?_getD, List.getElem?_eq_getElem hi]; rfl
  · rw [List.getElem?_eq_none (by omega), List.getElem?_eq_none (by simp; omega)]; rfl
theorem HasP.order (h : HasP M cs) (ks : List Nat) (p : ks.Perm (List.range cs.length)) : HasP M (ks.map fun k => cs.getD k []) := Has.perm h (flat_perm (perm_idx ks cs p))
/-! a canonical memory, as cells -/
def cells (f : List Nat) (cM : Mem) : Cells := f.zip (cM.map (renMO f 0))
variable {f : List Nat} {cM cM' : Mem}
theorem cells_fst (hl : f.length = cM.length) : (cells f cM).map (·.1) = f := by
  unfold cells
  rw [List.map_fst_zip (by rw [List.length_map]; omega)]
theorem cells_mem {j : Nat} (hj : f[j]? = some n) (ho : cM[j]? = some o) : (n, renMO f 0 o) ∈ cells f cM := by
  unfold cells
  refine List.mem_of_getElem? (i := j) ?_
  rw [List.getElem?_zip_eq_some]
  exact ⟨hj, by rw [List.getElem?_map, ho]; rfl⟩
theorem Has.atF (h : Has M (cells f cM)) (hl : f.length = cM.length) (ok : cM.all (okMO f.length) = true) : AtF f M cM := by
  refine .of (by rw [← cells_fst hl]; exact h.nd) hl ok fun j i o hj ho => h.mem (cells_mem hj ho)
theorem cells_mem' {p : Nat × MO} (h : p ∈ cells f cM) : ∃ (j : Nat) (o : MO), f[j]? = some p.1 ∧ cM[j]? = some o ∧ p.2 = renMO f 0 o := by
  obtain ⟨j, hj, e⟩ := List.getElem_of_mem h
  have e2 : (cells f cM)[j]? = some p := by rw [List.getElem?_eq_getElem hj, e]
  unfold cells at e2
  rw [List.getElem?_zip_eq_some, List.getElem?_map] at e2
  obtain ⟨h1, h2⟩ := e2
  cases q : cM[j]? with
  | none => rw [q] at h2; cases h2
  | some o => rw [q] at h2; exact ⟨j, o, h1, q, (Option.some.inj h2).symm⟩
theorem AtF.has (h : AtF f M cM) : Has M (cells f cM) := ⟨by rw [cells_fst h.len]; exact h.nd, fun p hp => by
  obtain ⟨j, o, h1, h2, e⟩ := cells_mem' hp
  rw [e]
  exact h.get h1 h2⟩
theorem upd_merge (hl : f.length = cM.length) (ok : cM.all (okMO cM.length) = true) (hl' : cM.length ≤ cM'.length) (ok' : cM'.all (okMO cM'.length) = true) : Upd M (cells f cM) (merge f M cM') (cells (extF f M.length cM'.length) cM') := fun F h => by
  have a := h.left.atF hl (by rw [hl]; exact ok)
  have b := (a.merge (by omega) ok').has
  refine ⟨?_, fun p hp => ?_⟩
  · rw [List.map_append, cells_fst (extF_len (by omega)), List.nodup_append]
    have nd := h.nd
    rw [List.map_append, cells_fst hl, List.nodup_append] at nd
    refine ⟨(a.merge (by omega) ok').nd, nd.2.1, fun x hx y hy e => ?_⟩
    subst e
    unfold extF at hx
    rcases List.mem_append.mp hx with hx | hx
    · exact nd.2.2 x hx x hy rfl
    · obtain ⟨q, hq, e⟩ := List.mem_map.mp hy
      have := (List.getElem?_eq_some_iff.mp (h.right.at' q hq)).1
      have := (List.mem_range'_1.mp hx).1
      omega
  · rcases List.mem_append.mp hp with hp | hp
    · exact b.at' p hp
    · have hM := h.right.at' p hp
      rw [merge_get (fun z => ?_) (List.getElem?_eq_some_iff.mp hM).1]
      · exact hM
      · have nd := h.nd
        rw [List.map_append, cells_fst hl, List.nodup_append] at nd
        exact nd.2.2 p.1 z p.1 (List.mem_map_of_mem hp) rfl
theorem extF_0 {m k : Nat} (h : 0 < f.length) : (extF f m k)[0]? = f[0]? := by
  unfold extF
  rw [List.getElem?_append_left h]
end
end L3

/-! comprehensions that give a known list, a known dict; len({e for ..}); a + b as a known list -/
namespace L3
open PySem PySem.Spec L2 PyProof.Rows
section
variable {C : Cn} {Z : List Addr} {α α' : List Addr} {H H' : Hp} {M : Mem} {D : Addr}
theorem VRs.pre (p : Pre C α H α' H') : ∀ {vs : List V} {ds : List DV}, VRs C α H vs ds → VRs C α' H' vs ds
  | _, _, .nil => .nil
  | _, _, .cons r t => .cons (r.pre p) (VRs.pre p t)
theorem KVR.pre {κ : Type} (p : Pre C α H α' H') : ∀ {vs : List (κ × V)} {ds : List (κ × DV)}, KVR C α H vs ds → KVR C α' H' vs ds
  | _, _, .nil => .nil
  | _, _, .cons r t => .cons ⟨r.1, r.2.pre p⟩ (KVR.pre p t)
theorem MR.pre {a : Addr} {o : MO} (p : Pre C α H α' H') (e : H' a = H a) (r : MR C α H a o) : MR C α' H' a o := by
  cases o with
  | lst ds => obtain ⟨xs, h, q⟩ := r; exact ⟨xs, by rw [e]; exact h, q.pre p⟩
  | dK ds => obtain ⟨xs, h, q⟩ := r; exact ⟨xs, by rw [e]; exact h, KVR.pre p q⟩
  | lk t ds => exact ⟨by rw [e]; exact r.1, KVR.pre p r.2⟩
  | ins D ds => obtain ⟨dx, xs, h, q⟩ := r; exact ⟨dx, xs, by rw [e]; exact h, KVR.pre p q⟩
/-- an object of others becomes a known one -/
theorem adoptP : Pre (C.wz (D :: Z)) α H (α ++ [D]) H := ⟨⟨[D], rfl⟩, ⟨fun _ _ h _ => h, fun b o h n z => n (by
  rcases z with z | z
  · rcases List.mem_append.mp z with z | z
    · exact .inl z
    · exact .inr (.inr (by rw [List.mem_singleton.mp z]; exact List.mem_cons_self))
  · exact .inr z)⟩⟩
theorem adoptM : Mv ((C.wz (D :: Z)).N α) H ((C.wz Z).N α) H := ⟨fun _ _ h _ => h, fun b o h n z => n (z.imp id fun z => z.imp id fun z => List.mem_cons_of_mem _ z)⟩
theorem MR.adopt {a : Addr} {o : MO} (r : MR (C.wz (D :: Z)) α H a o) : MR (C.wz Z) (α ++ [D]) H a o := (r.pre adoptP rfl).chg adoptM rfl
theorem RS.adopt {mo : MO} (r : RS (C.wz (D :: Z)) α M H) (na : D ∉ α) (hm : MR (C.wz (D :: Z)) α H D mo) : RS (C.wz Z) (α ++ [D]) (M ++ [mo]) H := by
  refine ⟨⟨by rw [List.length_append, List.length_append, r.hr.len]; rfl, fun n a u h1 h2 => ?_⟩, ?_, r.tb, fun z hz => r.zd z (List.mem_cons_of_mem _ hz), fun p hp => (r.tq p hp).keep (r.tabAt hp) (fun b o h _ => h) fun b q _ z z' => z (List.mem_cons_of_mem _ z')⟩
  · by_cases hn : n < α.length
    · rw [List.getElem?_append_left hn] at h1
      rw [List.getElem?_append_left (by rw [← r.hr.len]; exact hn)] at h2
      exact (r.hr.get n a u h1 h2).adopt
    · have e : n = α.length := by
        have := (List.getElem?_eq_some_iff.mp h1).1
        rw [List.length_append, List.length_singleton] at this
        omega
      subst e
      rw [List.getElem?_append_right (Nat.le_refl _), Nat.sub_self] at h1
      rw [List.getElem?_append_right (by rw [r.hr.len]; exact Nat.le_refl _), r.hr.len, Nat.sub_self] at h2
      cases h1; cases h2
      exact hm.adopt
  · rw [List.nodup_append]
    exact ⟨r.nd, by simp, fun a ha b hb e => by
      have : b = D := by simpa using hb
      exact na (by rw [← this, ← e]; exact ha)⟩
end
/-- memory, fewer objects; what was gathered stands -/
def DropL (k : Nat) (I : List DV → Mem → Prop) (acc : List DV) (M : Mem) : Prop := I acc M ∨ ∃ n, k ≤ n ∧ (M.take n).all (okMO n) = true ∧ acc.all (okDV n) = true ∧ I acc (M.take n)
def DropK (k : Nat) (I : List (Key × DV) → Mem → Prop) (acc : List (Key × DV)) (M : Mem) : Prop := I acc M ∨ ∃ n, k ≤ n ∧ (M.take n).all (okMO n) = true ∧ (acc.all fun p => okDV n p.2) = true ∧ I acc (M.take n)
/-- [e for x in ..]: a known list -/
def lLcM (lw : LW) (g : LG) (tt : LT) (te : LE) (vs : List Nat) : LE := fun ρ M P PX => lw ρ M (fun items okM M1 => ∃ I : Nat → List DV → Mem → Prop, I 0 [] M1 ∧ (∀ i acc M, I i acc M → okM M) ∧
  (∀ i x acc M, items[i]? = some x → I i acc M → g x (wipeL ρ vs) M fun ρ2 M2 => tt ρ2 M2 (fun b M3 => if b = true then te ρ2 M3 (fun y M4 => acc.length < sizeLine ∧ DropL M1.length (I (i + 1)) (acc ++ [y]) M4) noX else DropL M1.length (I (i + 1)) acc M3) noX) ∧
  ∀ acc M, I items.length acc M → P (.obj M.length) (M ++ [.lst acc])) PX
/-- {k: v for x in ..}: a known dict -/
def lDc (lw : LW) (g : LG) (tt : LT) (tk tv : LE) (vs : List Nat) : LE := fun ρ M P PX => lw ρ M (fun items okM M1 => ∃ I : Nat → List (Key × DV) → Mem → Prop, I 0 [] M1 ∧ (∀ i acc M, I i acc M → okM M) ∧
  (∀ i x acc M, items[i]? = some x → I i acc M → g x (wipeL ρ vs) M fun ρ2 M2 => tt ρ2 M2 (fun b M3 => if b = true then tk ρ2 M3 (fun y M4 => tv ρ2 M4 (fun z M5 => acc.length < sizeLine ∧ ∃ k, y = .dat (keyD k) ∧ DropK M1.length (I (i + 1)) (putD acc k z) M5) noX) noX else DropK M1.length (I (i + 1)) acc M3) noX) ∧
  ∀ acc M, I items.length acc M → P (.obj M.length) (M ++ [.dK acc])) PX
/-- len({e for x in ..}), e a text -/
def lLnS (lw : LW) (g : LG) (tt : LT) (te : LE) (vs : List Nat) : LE := fun ρ M P PX => lw ρ M (fun items okM M1 => ∃ I : Nat → List Str → Mem → Prop, I 0 [] M1 ∧ (∀ i acc M, I i acc M → okM M) ∧
  (∀ i x acc M, items[i]? = some x → I i acc M → g x (wipeL ρ vs) M fun ρ2 M2 => tt ρ2 M2 (fun b M3 => if b = true then te ρ2 M3 (fun y M4 => acc.length + 1 < scanBound ∧ ∃ k, y = .str k ∧ DropM M1.length (I (i + 1) (insT k acc)) M4) noX else DropM M1.length (I (i + 1) acc) M3) noX) ∧
  ∀ acc M, I items.length acc M → acc.length < scanBound ∧ P (.int (acc.length : Nat)) M) PX
theorem lo_lcM {C : Cn} {W : WX} {wi : TI} {lw : LW} {g : TG} {lg : LG} {tt : TT} {lt : LT} {te : TE} {le : LE} {ns : List Nat} (hi : LoW C W wi lw) (hg : LoG C g lg) (hw : Wm g ns) (ht : LoT C W0 tt lt) (he : LoE C W0 te le) :
    LoE C W (tLc wi g tt te ns) (lLcM lw lg lt le ns) := fun ρ M P PX h Z σ H α Q vs rs kt wk => by
  refine hi _ _ _ _ h Z σ H α _ vs rs wk fun J H1 α1 items okM M1 s1 r1 it ok1 h1 => fun D hD => ?_
  obtain ⟨I, i0, iok, turn, done⟩ := h1
  have nD := r1.fresh hD
  have naD : D ∉ α1 := fun z => nD (.inl z)
  have ntD : D ∉ C.T := fun z => nD (.inr (.inl z))
  have nzD : D ∉ Z := fun z => nD (.inr (.inr z))
  have m1 : Mv ((C.wz Z).N α1) H1 ((C.wz (D :: Z)).N α1) (upd H1 D (.lst [])) := ⟨fun b o h _ => by rw [upd_ne (ne_of_none h hD)]; exact h, fun b o h n z => by
    rcases z with z | z | z
    · exact n (.inl z)
    · exact n (.inr (.inl z))
    · rcases List.mem_cons.mp z with z | z
      · exact ne_of_none h hD z
      · exact n (.inr (.inr z))⟩
  have r1' : RS (C.wz (D :: Z)) α1 M1 (upd H1 D (.lst [])) := r1.chg m1 (fun a ha => upd_ne fun e => naD (by rw [← e]; exact ha)) (fun Q hQ => upd_ne fun e => ntD (by rw [← e]; exact hQ)) fun z hz => by
    by_cases e : z = D
    · subst e; exact ⟨_, upd_same⟩
    · obtain ⟨u, h⟩ := r1.zd z ((List.mem_cons.mp hz).resolve_left e)
      exact ⟨u, by rw [upd_ne e]; exact h⟩
  have it' := it (D :: Z) _ m1
  have vs1 : VS (C.wz (D :: Z)) α1 (upd H1 D (.lst [])) (wipe σ ns) (wipeL ρ ns) := wipe_vs ((vs.step s1).chg m1) ns
  refine ⟨fun i m H' => m = items.length - i ∧ i ≤ items.length ∧ ∃ α' M' xs acc, Pre (C.wz (D :: Z)) α1 (upd H1 D (.lst [])) α' H' ∧ Step (C.wz Z) α1 H1 α' H' ∧ RS (C.wz (D :: Z)) α' M' H' ∧ H' D = some (.lst xs) ∧ VRs (C.wz (D :: Z)) α' H' xs acc ∧ D ∉ α' ∧ I i acc M',
    ⟨_, rfl, Nat.zero_le _, α1, M1, [], [], ⟨⟨[], by simp⟩, .refl⟩, Step.refl.own hD, r1', upd_same, .nil, naD, i0⟩, ?_⟩
  rintro i m H' ⟨rfl, hi', α', M', xs, acc, pre', s', r', hx, hd, na', p⟩
  by_cases hlt : i < items.length
  · obtain ⟨go, yld⟩ := it'.go i α' H' M' _ pre' r' (iok i acc M' p) (List.getElem?_eq_getElem hlt)
    refine .inr ⟨go, fun H2 => ∃ α2 M2 xs acc, Pre (C.wz (D :: Z)) α1 (upd H1 D (.lst [])) α2 H2 ∧ Step (C.wz Z) α1 H1 α2 H2 ∧ RS (C.wz (D :: Z)) α2 M2 H2 ∧ H2 D = some (.lst xs) ∧ VRs (C.wz (D :: Z)) α2 H2 xs acc ∧ D ∉ α2 ∧ I (i + 1) acc M2, fun H2 q => ⟨items.length - (i + 1), by omega, rfl, hlt, q⟩, fun x H2 y => ?_⟩
    obtain ⟨r2, s2, q2⟩ := yld x H2 y
    have p2 := pre'.trans s2.pre
    have fin : ∀ α5 M5 H5 xs5 acc5, Pre (C.wz (D :: Z)) α1 (upd H1 D (.lst [])) α5 H5 → Step (C.wz Z) α1 H1 α5 H5 → RS (C.wz (D :: Z)) α5 M5 H5 → H5 D = some (.lst xs5) → VRs (C.wz (D :: Z)) α5 H5 xs5 acc5 → D ∉ α5 → DropL M1.length (I (i + 1)) acc5 M5 →
        ∃ α2 M2 xs acc, Pre (C.wz (D :: Z)) α1 (upd H1 D (.lst [])) α2 H5 ∧ Step (C.wz Z) α1 H1 α2 H5 ∧ RS (C.wz (D :: Z)) α2 M2 H5 ∧ H5 D = some (.lst xs) ∧ VRs (C.wz (D :: Z)) α2 H5 xs acc ∧ D ∉ α2 ∧ I (i + 1) acc M2 := fun α5 M5 H5 xs5 acc5 pt st r5 h5 d5 na5 q5 => by
      rcases q5 with q5 | ⟨n, hn, hM, hA, q5⟩
      · exact ⟨α5, M5, xs5, acc5, pt, st, r5, h5, d5, na5, q5⟩
      · rw [← r1.hr.len] at hn
        refine ⟨α5.take n, M5.take n, xs5, acc5, ⟨?_, pt.mv.trans Mv.take⟩, st.drop hn, r5.drop hM, h5, VRs.drop d5 hA, fun z => na5 (List.mem_of_mem_take z), q5⟩
        obtain ⟨β, e⟩ := pt.ext
        exact ⟨β.take (n - α1.length), by rw [e, List.take_append, List.take_of_length_le hn]⟩
    have na_ : ∀ {α5 H5}, Step (C.wz (D :: Z)) α' H' α5 H5 → D ∉ α5 := fun {α5 H5} s5 z => by
      obtain ⟨β, e, fr⟩ := s5.ext
      rw [e] at z
      rcases List.mem_append.mp z with z | z
      · exact na' z
      · have := fr D z; rw [hx] at this; cases this
    have sz : ∀ {α5 H5}, Step (C.wz (D :: Z)) α' H' α5 H5 → Step (C.wz Z) α1 H1 α5 H5 := fun s5 => s'.trans ⟨s5.ext, s5.keep, s5.dom⟩
    refine hw.mono _ _ _ _ _ (fun σ3 H3 z => ⟨z.1.trans (wipe_idem fun _ h => h), z.2⟩) (hw.wg _ _ _ _ ?_)
    refine hg _ _ M' _ (turn i _ acc M' (List.getElem?_eq_getElem hlt) p) x (D :: Z) (wipe σ ns) H2 α' _ q2 (vs1.pre p2) r2 fun σ3 H3 α3 ρ3 M3 s3 vs3 r3 p3 => ?_
    have s23 := s2.trans s3
    refine ht.bind p3 vs3 r3 XR.any fun b H4 α4 M4 s4 r4 h4 vs4 wk4 => ?_
    have s24 := s23.trans s4
    have hD4 : H4 D = some (.lst xs) := s24.keep D _ hx na' ntD
    cases b with
    | false => exact fin α4 M4 H4 xs acc (pre'.trans s24.pre) (sz s24) r4 hD4 (VRs.step hd s24) (na_ s24) h4
    | true =>
      refine he.bind h4 vs4 r4 XR.any fun v H5 α5 y M5 s5 r5 q5 h5 vs5 wk5 => ?_
      obtain ⟨hz, h5⟩ := h5
      have s25 := s24.trans s5
      have hD5 : H5 D = some (.lst xs) := s25.keep D _ hx na' ntD
      refine ⟨xs, hD5, by rw [VRs.length hd]; exact hz, ?_⟩
      have mo : Mv ((C.wz (D :: Z)).N α5) H5 ((C.wz (D :: Z)).N α5) (upd H5 D (.lst (xs ++ [v]))) := mv_own (.inr (.inr List.mem_cons_self))
      have pp := pre'.trans s25.pre
      exact fin α5 M5 _ (xs ++ [v]) (acc ++ [y]) ⟨pp.ext, pp.mv.trans mo⟩ ((sz s25).own hD) (r5.own (na_ s25) ntD) upd_same (VRs.chg mo (VRs.append (VRs.step hd s25) (.cons q5 .nil))) (na_ s25) h5
  · have e : i = items.length := by omega
    subst e
    refine .inl ⟨it'.stop α' H' M' pre' r' (iok _ acc M' p), ?_⟩
    have sA : Step (C.wz Z) α1 H1 (α' ++ [D]) H' := by
      obtain ⟨β, e, fr⟩ := s'.ext
      exact ⟨⟨β ++ [D], by rw [e, List.append_assoc], fun b hb => (List.mem_append.mp hb).elim (fr b) fun hb => by rw [List.mem_singleton.mp hb]; exact hD⟩, s'.keep, s'.dom⟩
    refine kt _ H' (α' ++ [D]) (.obj M'.length) _ (s1.trans sA) (r'.adopt (mo := .lst acc) na' ⟨xs, hx, hd⟩) ⟨D, by rw [← r'.hr.len]; simp, rfl⟩ (done acc M' p)
theorem lo_dc {C : Cn} {W : WX} {wi : TI} {lw : LW} {g : TG} {lg : LG} {tt : TT} {lt : LT} {tk tv : TE} {lk lv : LE} {ns : List Nat} (hi : LoW C W wi lw) (hg : LoG C g lg) (hw : Wm g ns) (ht : LoT C W0 tt lt) (hk : LoE C W0 tk lk) (hv : LoE C W0 tv lv) :
    LoE C W (tDc wi g tt tk tv ns) (lDc lw lg lt lk lv ns) := fun ρ M P PX h Z σ H α Q vs rs kt wk => by
  refine hi _ _ _ _ h Z σ H α _ vs rs wk fun J H1 α1 items okM M1 s1 r1 it ok1 h1 => fun D hD => ?_
  obtain ⟨I, i0, iok, turn, done⟩ := h1
  have nD := r1.fresh hD
  have naD : D ∉ α1 := fun z => nD (.inl z)
  have ntD : D ∉ C.T := fun z => nD (.inr (.inl z))
  have nzD : D ∉ Z := fun z => nD (.inr (.inr z))
  have m1 : Mv ((C.wz Z).N α1) H1 ((C.wz (D :: Z)).N α1) (upd H1 D (.dK [])) := ⟨fun b o h _ => by rw [upd_ne (ne_of_none h hD)]; exact h, fun b o h n z => by
    rcases z with z | z | z
    · exact n (.inl z)
    · exact n (.inr (.inl z))
    · rcases List.mem_cons.mp z with z | z
      · exact ne_of_none h hD z
      · exact n (.inr (.inr z))⟩
  have r1' : RS (C.wz (D :: Z)) α1 M1 (upd H1 D (.dK [])) := r1.chg m1 (fun a ha => upd_ne fun e => naD (by rw [← e]; exact ha)) (fun Q hQ => upd_ne fun e => ntD (by rw [← e]; exact hQ)) fun z hz => by
    by_cases e : z = D
    · subst e; exact ⟨_, upd_same⟩
    · obtain ⟨u, h⟩ := r1.zd z ((List.mem_cons.mp hz).resolve_left e)
      exact ⟨u, by rw [upd_ne e]; exact h⟩
  have it' := it (D :: Z) _ m1
  have vs1 : VS (C.wz (D :: Z)) α1 (upd H1 D (.dK [])) (wipe σ ns) (wipeL ρ ns) := wipe_vs ((vs.step s1).chg m1) ns
  refine ⟨fun i m H' => m = items.length - i ∧ i ≤ items.length ∧ ∃ α' M' xs acc, Pre (C.wz (D :: Z)) α1 (upd H1 D (.dK [])) α' H' ∧ Step (C.wz Z) α1 H1 α' H' ∧ RS (C.wz (D :: Z)) α' M' H' ∧ H' D = some (.dK xs) ∧ KVR (C.wz (D :: Z)) α' H' xs acc ∧ D ∉ α' ∧ I i acc M',
    ⟨_, rfl, Nat.zero_le _, α1, M1, [], [], ⟨⟨[], by simp⟩, .refl⟩, Step.refl.own hD, r1', upd_same, .nil, naD, i0⟩, ?_⟩
  rintro i m H' ⟨rfl, hi', α', M', xs, acc, pre', s', r', hx, hd, na', p⟩
  by_cases hlt : i < items.length
  · obtain ⟨go, yld⟩ := it'.go i α' H' M' _ pre' r' (iok i acc M' p) (List.getElem?_eq_getElem hlt)
    refine .inr ⟨go, fun H2 => ∃ α2 M2 xs acc, Pre (C.wz (D :: Z)) α1 (upd H1 D (.dK [])) α2 H2 ∧ Step (C.wz Z) α1 H1 α2 H2 ∧ RS (C.wz (D :: Z)) α2 M2 H2 ∧ H2 D = some (.dK xs) ∧ KVR (C.wz (D :: Z)) α2 H2 xs acc ∧ D ∉ α2 ∧ I (i + 1) acc M2, fun H2 q => ⟨items.length - (i + 1), by omega, rfl, hlt, q⟩, fun x H2 y => ?_⟩
    obtain ⟨r2, s2, q2⟩ := yld x H2 y
    have p2 := pre'.trans s2.pre
    have fin : ∀ α5 M5 H5 xs5 acc5, Pre (C.wz (D :: Z)) α1 (upd H1 D (.dK [])) α5 H5 → Step (C.wz Z) α1 H1 α5 H5 → RS (C.wz (D :: Z)) α5 M5 H5 → H5 D = some (.dK xs5) → KVR (C.wz (D :: Z)) α5 H5 xs5 acc5 → D ∉ α5 → DropK M1.length (I (i + 1)) acc5 M5 →
        ∃ α2 M2 xs acc, Pre (C.wz (D :: Z)) α1 (upd H1 D (.dK [])) α2 H5 ∧ Step (C.wz Z) α1 H1 α2 H5 ∧ RS (C.wz (D :: Z)) α2 M2 H5 ∧ H5 D = some (.dK xs) ∧ KVR (C.wz (D :: Z)) α2 H5 xs acc ∧ D ∉ α2 ∧ I (i + 1) acc M2 := fun α5 M5 H5 xs5 acc5 pt st r5 h5 d5 na5 q5 => by
      rcases q5 with q5 | ⟨n, hn, hM, hA, q5⟩
      · exact ⟨α5, M5, xs5, acc5, pt, st, r5, h5, d5, na5, q5⟩
      · rw [← r1.hr.len] at hn
        refine ⟨α5.take n, M5.take n, xs5, acc5, ⟨?_, pt.mv.trans Mv.take⟩, st.drop hn, r5.drop hM, h5, KVR.drop d5 hA, fun z => na5 (List.mem_of_mem_take z), q5⟩
        obtain ⟨β, e⟩ := pt.ext
        exact ⟨β.take (n - α1.length), by rw [e, List.take_append, List.take_of_length_le hn]⟩
    have na_ : ∀ {α5 H5}, Step (C.wz (D :: Z)) α' H' α5 H5 → D ∉ α5 := fun {α5 H5} s5 z => by
      obtain ⟨β, e, fr⟩ := s5.ext
      rw [e] at z
      rcases List.mem_append.mp z with z | z
      · exact na' z
      · have := fr D z; rw [hx] at this; cases this
    have sz : ∀ {α5 H5}, Step (C.wz (D :: Z)) α' H' α5 H5 → Step (C.wz Z) α1 H1 α5 H5 := fun s5 => s'.trans ⟨s5.ext, s5.keep, s5.dom⟩
    refine hw.mono _ _ _ _ _ (fun σ3 H3 z => ⟨z.1.trans (wipe_idem fun _ h => h), z.2⟩) (hw.wg _ _ _ _ ?_)
    refine hg _ _ M' _ (turn i _ acc M' (List.getElem?_eq_getElem hlt) p) x (D :: Z) (wipe σ ns) H2 α' _ q2 (vs1.pre p2) r2 fun σ3 H3 α3 ρ3 M3 s3 vs3 r3 p3 => ?_
    have s23 := s2.trans s3
    refine ht.bind p3 vs3 r3 XR.any fun b H4 α4 M4 s4 r4 h4 vs4 wk4 => ?_
    have s24 := s23.trans s4
    have hD4 : H4 D = some (.dK xs) := s24.keep D _ hx na' ntD
    cases b with
    | false => exact fin α4 M4 H4 xs acc (pre'.trans s24.pre) (sz s24) r4 hD4 (KVR.step hd s24) (na_ s24) h4
    | true =>
      refine hk.bind h4 vs4 r4 XR.any fun u H6 α6 z6 M6 s6 r6 q6 h6 vs6 wk6 => ?_
      refine hv.bind h6 vs6 r6 XR.any fun v H5 α5 y M5 s5 r5 q5 h5 vs5 wk5 => ?_
      obtain ⟨hz, k, rfl, h5⟩ := h5
      have s25 := (s24.trans s6).trans s5
      have hD5 : H5 D = some (.dK xs) := s25.keep D _ hx na' ntD
      refine ⟨xs, k, keyD_of q6, hD5, by rw [KVR.length hd]; exact hz, ?_⟩
      have mo : Mv ((C.wz (D :: Z)).N α5) H5 ((C.wz (D :: Z)).N α5) (upd H5 D (.dK (putK xs k v))) := mv_own (.inr (.inr List.mem_cons_self))
      have pp := pre'.trans s25.pre
      exact fin α5 M5 _ (putK xs k v) (putD acc k y) ⟨pp.ext, pp.mv.trans mo⟩ ((sz s25).own hD) (r5.own (na_ s25) ntD) upd_same (KVR.chg mo (KVR.put q5 (KVR.step hd s25))) (na_ s25) h5
  · have e : i = items.length := by omega
    subst e
    refine .inl ⟨it'.stop α' H' M' pre' r' (iok _ acc M' p), ?_⟩
    have sA : Step (C.wz Z) α1 H1 (α' ++ [D]) H' := by
      obtain ⟨β, e, fr⟩ := s'.ext
      exact ⟨⟨β ++ [D], by rw [e, List.append_assoc], fun b hb => (List.mem_append.mp hb).elim (fr b) fun hb => by rw [List.mem_singleton.mp hb]; exact hD⟩, s'.keep, s'.dom⟩
    refine kt _ H' (α' ++ [D]) (.obj M'.length) _ (s1.trans sA) (r'.adopt (mo := .dK acc) na' ⟨xs, hx, hd⟩) ⟨D, by rw [← r'.hr.len]; simp, rfl⟩ (done acc M' p)
/-- len of a set of texts -/
def rLenX (P : Program) (w : World) : List V → Hp → VK → Prop := fun vs H Q => ∃ (a : Addr) (l : List Str), vs = [V.ref a] ∧ H a = some (TxO P w a l) ∧ l.length < scanBound ∧ Q (.int (l.length : Nat)) H
theorem cr_lenX {X : Cx} : CallR X (.builtin "len") (rLenX X.prog X.w) := by
  intro pins s σ H vs us Q I r h
  obtain ⟨a, l, rfl, ha, hb, q⟩ := h
  rw [Vals.ref1 r]
  obtain ⟨⟨es, ep, t⟩, ho, F, hr, hl, pk⟩ := txO_get I ha
  have hsz : es.size = l.length := F.sz
  have hs := fits_of_scanBound hb
  have line : (sizeLine : Nat) = 16777216 := sizeLine_eq
  refine call_len_set ho ⟨rfl, rfl, rfl⟩ rfl F.fit (by show ((es.size : Nat) : Int) < _; omega) ?_
  exact ⟨.int (l.length : Nat), H, I.tok _, ⟨_, by rw [hsz]⟩, q⟩
theorem lo_lnS {C : Cn} {W : WX} {Pg : Program} {w : World} {wi : TI} {lw : LW} {g : TG} {lg : LG} {tt : TT} {lt : LT} {te : TE} {le : LE} {ns : List Nat} (hi : LoW C W wi lw) (hg : LoG C g lg) (hw : Wm g ns) (ht : LoT C W0 tt lt) (he : LoE C W0 te le) :
    LoE C W (tCB (rLenX Pg w) (tCons (tSx Pg w wi g tt te ns) tNil)) (lLnS lw lg lt le ns) := fun ρ M P PX h Z σ H α Q vs rs kt wk => by
  refine hi _ _ _ _ h Z σ H α _ vs rs wk fun J H1 α1 items okM M1 s1 r1 it ok1 h1 => fun D hD => ?_
  obtain ⟨I, i0, iok, turn, done⟩ := h1
  have nD := r1.fresh hD
  have naD : D ∉ α1 := fun z => nD (.inl z)
  have ntD : D ∉ C.T := fun z => nD (.inr (.inl z))
  have m1 : Mv ((C.wz Z).N α1) H1 ((C.wz (D :: Z)).N α1) (upd H1 D (TxO Pg w D [])) := ⟨fun b o h _ => by rw [upd_ne (ne_of_none h hD)]; exact h, fun b o h n z => by
    rcases z with z | z | z
    · exact n (.inl z)
    · exact n (.inr (.inl z))
    · rcases List.mem_cons.mp z with z | z
      · exact ne_of_none h hD z
      · exact n (.inr (.inr z))⟩
  have r1' : RS (C.wz (D :: Z)) α1 M1 (upd H1 D (TxO Pg w D [])) := r1.chg m1 (fun a ha => upd_ne fun e => naD (by rw [← e]; exact ha)) (fun Q hQ => upd_ne fun e => ntD (by rw [← e]; exact hQ)) fun z hz => by
    by_cases e : z = D
    · subst e; exact ⟨_, upd_same⟩
    · obtain ⟨u, h⟩ := r1.zd z ((List.mem_cons.mp hz).resolve_left e)
      exact ⟨u, by rw [upd_ne e]; exact h⟩
  have it' := it (D :: Z) _ m1
  have vs1 : VS (C.wz (D :: Z)) α1 (upd H1 D (TxO Pg w D [])) (wipe σ ns) (wipeL ρ ns) := wipe_vs ((vs.step s1).chg m1) ns
  refine ⟨fun i m H' => m = items.length - i ∧ i ≤ items.length ∧ ∃ α' M' acc, Pre (C.wz (D :: Z)) α1 (upd H1 D (TxO Pg w D [])) α' H' ∧ Step (C.wz Z) α1 H1 α' H' ∧ RS (C.wz (D :: Z)) α' M' H' ∧ H' D = some (TxO Pg w D acc) ∧ D ∉ α' ∧ I i acc M',
    ⟨_, rfl, Nat.zero_le _, α1, M1, [], ⟨⟨[], by simp⟩, .refl⟩, Step.refl.own hD, r1', upd_same, naD, i0⟩, ?_⟩
  rintro i m H' ⟨rfl, hi', α', M', acc, pre', s', r', hx, na', p⟩
  by_cases hlt : i < items.length
  · obtain ⟨go, yld⟩ := it'.go i α' H' M' _ pre' r' (iok i acc M' p) (List.getElem?_eq_getElem hlt)
    refine .inr ⟨go, fun H2 => ∃ α2 M2 acc, Pre (C.wz (D :: Z)) α1 (upd H1 D (TxO Pg w D [])) α2 H2 ∧ Step (C.wz Z) α1 H1 α2 H2 ∧ RS (C.wz (D :: Z)) α2 M2 H2 ∧ H2 D = some (TxO Pg w D acc) ∧ D ∉ α2 ∧ I (i + 1) acc M2, fun H2 q => ⟨items.length - (i + 1), by omega, rfl, hlt, q⟩, fun x H2 y => ?_⟩
    obtain ⟨r2, s2, q2⟩ := yld x H2 y
    have p2 := pre'.trans s2.pre
    have fin : ∀ α5 M5 H5 acc5, Pre (C.wz (D :: Z)) α1 (upd H1 D (TxO Pg w D [])) α5 H5 → Step (C.wz Z) α1 H1 α5 H5 → RS (C.wz (D :: Z)) α5 M5 H5 → H5 D = some (TxO Pg w D acc5) → D ∉ α5 → DropM M1.length (I (i + 1) acc5) M5 →
        ∃ α2 M2 acc, Pre (C.wz (D :: Z)) α1 (upd H1 D (TxO Pg w D [])) α2 H5 ∧ Step (C.wz Z) α1 H1 α2 H5 ∧ RS (C.wz (D :: Z)) α2 M2 H5 ∧ H5 D = some (TxO Pg w D acc) ∧ D ∉ α2 ∧ I (i + 1) acc M2 := fun α5 M5 H5 acc5 pt st r5 h5 na5 q5 => by
      rcases q5 with q5 | ⟨n, hn, hM, q5⟩
      · exact ⟨α5, M5, acc5, pt, st, r5, h5, na5, q5⟩
      · rw [← r1.hr.len] at hn
        refine ⟨α5.take n, M5.take n, acc5, ⟨?_, pt.mv.trans Mv.take⟩, st.drop hn, r5.drop hM, h5, fun z => na5 (List.mem_of_mem_take z), q5⟩
        obtain ⟨β, e⟩ := pt.ext
        exact ⟨β.take (n - α1.length), by rw [e, List.take_append, List.take_of_length_le hn]⟩
    have na_ : ∀ {α5 H5}, Step (C.wz (D :: Z)) α' H' α5 H5 → D ∉ α5 := fun {α5 H5} s5 z => by
      obtain ⟨β, e, fr⟩ := s5.ext
      rw [e] at z
      rcases List.mem_append.mp z with z | z
      · exact na' z
      · have := fr D z; rw [hx] at this; cases this
    have sz : ∀ {α5 H5}, Step (C.wz (D :: Z)) α' H' α5 H5 → Step (C.wz Z) α1 H1 α5 H5 := fun s5 => s'.trans ⟨s5.ext, s5.keep, s5.dom⟩
    refine hw.mono _ _ _ _ _ (fun σ3 H3 z => ⟨z.1.trans (wipe_idem fun _ h => h), z.2⟩) (hw.wg _ _ _ _ ?_)
    refine hg _ _ M' _ (turn i _ acc M' (List.getElem?_eq_getElem hlt) p) x (D :: Z) (wipe σ ns) H2 α' _ q2 (vs1.pre p2) r2 fun σ3 H3 α3 ρ3 M3 s3 vs3 r3 p3 => ?_
    have s23 := s2.trans s3
    refine ht.bind p3 vs3 r3 XR.any fun b H4 α4 M4 s4 r4 h4 vs4 wk4 => ?_
    have s24 := s23.trans s4
    have hD4 : H4 D = some (TxO Pg w D acc) := s24.keep D _ hx na' ntD
    cases b with
    | false => exact fin α4 M4 H4 acc (pre'.trans s24.pre) (sz s24) r4 hD4 (na_ s24) h4
    | true =>
      refine he.bind h4 vs4 r4 XR.any fun v H5 α5 y M5 s5 r5 q5 h5 vs5 wk5 => ?_
      obtain ⟨hz, k, rfl, h5⟩ := h5
      have ev : v = .str k := by cases q5; rfl
      have s25 := s24.trans s5
      have hD5 : H5 D = some (TxO Pg w D acc) := s25.keep D _ hx na' ntD
      refine ⟨k, acc, ev, hD5, hz, ?_⟩
      have mo : Mv ((C.wz (D :: Z)).N α5) H5 ((C.wz (D :: Z)).N α5) (upd H5 D (TxO Pg w D (insT k acc))) := mv_own (.inr (.inr List.mem_cons_self))
      have pp := pre'.trans s25.pre
      exact fin α5 M5 _ (insT k acc) ⟨pp.ext, pp.mv.trans mo⟩ ((sz s25).own hD) (r5.own (na_ s25) ntD) upd_same (na_ s25) h5
  · have e : i = items.length := by omega
    subst e
    refine .inl ⟨it'.stop α' H' M' pre' r' (iok _ acc M' p), ?_⟩
    have mw : Mv ((C.wz (D :: Z)).N α') H' ((C.wz Z).N α') H' := ⟨fun _ _ h _ => h, fun b o h n z => n (z.imp id fun z => z.imp id fun z => List.mem_cons_of_mem _ z)⟩
    have rZ : RS (C.wz Z) α' M' H' := r'.chg mw (fun _ _ => rfl) (fun _ _ => rfl) fun z hz => r'.zd z (List.mem_cons_of_mem _ hz)
    obtain ⟨hb, fin⟩ := done acc M' p
    exact ⟨D, acc, rfl, hx, hb, kt _ H' α' (.int (acc.length : Nat)) M' (s1.trans s') rZ (.int _) fin⟩
section
variable {X : Cx} {C : Cn} {W : WX} {elt kx vx tg iter c : Expr} {ifs : List Expr} {scope : Scope} {own : List (Str × Nat)} {cpos np pos spos py : Pos} {wi : TI} {lw : LW} {g : TG} {lg : LG} {tt : TT} {lt : LT} {te tk tv : TE} {le lk lv : LE} {i : Nat} {y : Str}
theorem lp_lcM (hc : X.calm = true) (hN : X.N.Nodup) (hi : LPI X C W tg iter wi lw) (ok : BlkOk X.N X.env.scope scope own) (hw : Wm g (own.map (·.2)))
    (hg : ∀ (s : Shared) (H : Hp) (c : Addr) (cl : List (Str × Addr)) (fp : List Addr), LPG (X.blk s H scope (compEnvC scope cl c X.env) fp) C tg g lg) (ht : ∀ (s : Shared) (H : Hp) (c : Addr) (cl : List (Str × Addr)) (fp : List Addr), LPTs (X.blk s H scope (compEnvC scope cl c X.env) fp) C W0 ifs tt lt)
    (he : ∀ (s : Shared) (H : Hp) (c : Addr) (cl : List (Str × Addr)) (fp : List Addr), LPE (X.blk s H scope (compEnvC scope cl c X.env) fp) C W0 elt te le) (hs : ∀ x, foldedSetIterable iter X.env x = pure x := by intro _; rfl) :
    LPE X C W (.ListComp elt [⟨tg, iter, ifs, 0⟩] scope pos) (tLc wi g tt te (own.map (·.2))) (lLcM lw lg lt le (own.map (·.2))) :=
  ⟨pe_lc hc hN hi.pi ok (fun s H c cl fp => (hg s H c cl fp).pg) (fun s H c cl fp => (ht s H c cl fp).pt) (fun s H c cl fp => (he s H c cl fp).pe) hs,
   lo_lcM hi.lo (hg ({} : Shared) (fun _ => none) 0 [] []).lo hw (ht ({} : Shared) (fun _ => none) 0 [] []).lo (he ({} : Shared) (fun _ => none) 0 [] []).lo⟩
theorem lps_setLcM (hc : X.calm = true) (hN : X.N.Nodup) (hy : X.N[i]? = some y) (hyl : X.env.scope.names.lookup y = some .local)
    (hsw : swapsWith (.ListComp elt [⟨tg, iter, ifs, 0⟩] scope pos) (some (.Name y py)) spos.line X.env = pure true) (hi : LPI X C W tg iter wi lw) (ok : BlkOk X.N X.env.scope scope own) (hw : Wm g (own.map (·.2)))
    (hg : ∀ (s : Shared) (H : Hp) (c : Addr) (cl : List (Str × Addr)) (fp : List Addr), LPG (X.blk s H scope (compEnvC scope cl c X.env) fp) C tg g lg) (ht : ∀ (s : Shared) (H : Hp) (c : Addr) (cl : List (Str × Addr)) (fp : List Addr), LPTs (X.blk s H scope (compEnvC scope cl c X.env) fp) C W0 ifs tt lt)
    (he : ∀ (s : Shared) (H : Hp) (c : Addr) (cl : List (Str × Addr)) (fp : List Addr), LPE (X.blk s H scope (compEnvC scope cl c X.env) fp) C W0 elt te le) (hs : ∀ x, foldedSetIterable iter X.env x = pure x := by intro _; rfl) :
    LPS X C W (.Assign [.Name y py] (.ListComp elt [⟨tg, iter, ifs, 0⟩] scope pos) spos) (tAsg (tLc wi g tt te (own.map (·.2))) (gName i)) (lSet i (lLcM lw lg lt le (own.map (·.2)))) :=
  ⟨ps_setLc hc hN hy hyl hsw hi.pi ok (fun s H c cl fp => (hg s H c cl fp).pg) (fun s H c cl fp => (ht s H c cl fp).pt) (fun s H c cl fp => (he s H c cl fp).pe) hs,
   lo_set (lo_lcM hi.lo (hg ({} : Shared) (fun _ => none) 0 [] []).lo hw (ht ({} : Shared) (fun _ => none) 0 [] []).lo (he ({} : Shared) (fun _ => none) 0 [] []).lo)⟩
theorem lp_dc (hc : X.calm = true) (hN : X.N.Nodup) (hi : LPI X C W tg iter wi lw) (ok : BlkOk X.N X.env.scope scope own) (hw : Wm g (own.map (·.2)))
    (hg : ∀ (s : Shared) (H : Hp) (c : Addr) (cl : List (Str × Addr)) (fp : List Addr), LPG (X.blk s H scope (compEnvC scope cl c X.env) fp) C tg g lg) (ht : ∀ (s : Shared) (H : Hp) (c : Addr) (cl : List (Str × Addr)) (fp : List Addr), LPTs (X.blk s H scope (compEnvC scope cl c X.env) fp) C W0 ifs tt lt)
    (hk : ∀ (s : Shared) (H : Hp) (c : Addr) (cl : List (Str × Addr)) (fp : List Addr), LPE (X.blk s H scope (compEnvC scope cl c X.env) fp) C W0 kx tk lk) (hv : ∀ (s : Shared) (H : Hp) (c : Addr) (cl : List (Str × Addr)) (fp : List Addr), LPE (X.blk s H scope (compEnvC scope cl c X.env) fp) C W0 vx tv lv) (hs : ∀ x, foldedSetIterable iter X.env x = pure x := by intro _; rfl) :
    LPE X C W (.DictComp kx vx [⟨tg, iter, ifs, 0⟩] scope pos) (tDc wi g tt tk tv (own.map (·.2))) (lDc lw lg lt lk lv (own.map (·.2))) :=
  ⟨pe_dc hc hN hi.pi ok (fun s H c cl fp => (hg s H c cl fp).pg) (fun s H c cl fp => (ht s H c cl fp).pt) (fun s H c cl fp => (hk s H c cl fp).pe) (fun s H c cl fp => (hv s H c cl fp).pe) hs,
   lo_dc hi.lo (hg ({} : Shared) (fun _ => none) 0 [] []).lo hw (ht ({} : Shared) (fun _ => none) 0 [] []).lo (hk ({} : Shared) (fun _ => none) 0 [] []).lo (hv ({} : Shared) (fun _ => none) 0 [] []).lo⟩
theorem lp_lnS (hc : X.calm = true) (hN : X.N.Nodup) (hgl : Gl X "len") (hm : X.mg "len" = none) (hv : bootBuiltins "len" = some (.builtin "len")) (hi : LPI X C W tg iter wi lw) (ok : BlkOk X.N X.env.scope scope own) (hw : Wm g (own.map (·.2)))
    (hg : ∀ (s : Shared) (H : Hp) (c : Addr) (cl : List (Str × Addr)) (fp : List Addr), LPG (X.blk s H scope (compEnvC scope cl c X.env) fp) C tg g lg) (ht : ∀ (s : Shared) (H : Hp) (c : Addr) (cl : List (Str × Addr)) (fp : List Addr), LPTs (X.blk s H scope (compEnvC scope cl c X.env) fp) C W0 ifs tt lt)
    (he : ∀ (s : Shared) (H : Hp) (c : Addr) (cl : List (Str × Addr)) (fp : List Addr), LPE (X.blk s H scope (compEnvC scope cl c X.env) fp) C W0 elt te le) (hs : ∀ x, foldedSetIterable iter X.env x = pure x := by intro _; rfl) :
    LPE X C W (.Call (.Name "len" np) [.SetComp elt [⟨tg, iter, ifs, 0⟩] scope pos] [] cpos) (tCB (rLenX X.prog X.w) (tCons (tSx X.prog X.w wi g tt te (own.map (·.2))) tNil)) (lLnS lw lg lt le (own.map (·.2))) :=
  ⟨pe_callB cr_lenX hgl hm hv (pa_cons (pe_sx hc hN hi.pi ok (fun s H c cl fp => (hg s H c cl fp).pg) (fun s H c cl fp => (ht s H c cl fp).pt) (fun s H c cl fp => (he s H c cl fp).pe) hs) pa_nil) (by decide) (by decide) rfl rfl,
   lo_lnS hi.lo (hg ({} : Shared) (fun _ => none) 0 [] []).lo hw (ht ({} : Shared) (fun _ => none) 0 [] []).lo (he ({} : Shared) (fun _ => none) 0 [] []).lo⟩
end
/-- a value that is a list of data -/
def LV (M : Mem) (x : DV) (ds : List D) : Prop := x = .dat (.lst ds) ∨ ∃ n, x = .obj n ∧ M[n]? = some (.lst (ds.map DV.dat))
section
variable {C : Cn}
theorem LV.seq {Z : List Addr} {α : List Addr} {H : Hp} {M : Mem} {x : DV} {v : V} {a : List D} (h : LV M x a) (r : RS (C.wz Z) α M H) (q : VR (C.wz Z) α H v x) : ∃ p xs, v = .ref p ∧ SqL C.K H p xs ∧ VDs C.K ((C.wz Z).N α) H xs a := by
  rcases h with rfl | ⟨n, rfl, h⟩
  · obtain ⟨p, xs, e, hs, hd⟩ := VD.lst_inv q
    exact ⟨p, xs, e, hs.sq, hd⟩
  · exact seq_of r q h
theorem dats_VRs {α : List Addr} {H : Hp} : ∀ {xs : List V} {ds : List D}, VDs C.K (C.N α) H xs ds → VRs C α H xs (ds.map DV.dat)
  | _, _, .nil => .nil
  | _, _, .cons h hs => .cons h (dats_VRs hs)
/-- a + b, a known list -/
def vAddM : DV → DV → Mem → PD → Prop := fun x y M P => ∃ a b : List D, LV M x a ∧ LV M y b ∧ a.length + b.length ≤ sizeLine ∧ P (.obj M.length) (M ++ [.lst ((a ++ b).map DV.dat)])
theorem l2_addM : Lo2 C (rAddA C.K) vAddM := fun x y M P ⟨a, b, h1, h2, hl, p⟩ Z α H v u Q r q1 q2 k => by
  obtain ⟨p1, xs, rfl, s1, d1⟩ := h1.seq r q1
  obtain ⟨p2, ys, rfl, s2, d2⟩ := h2.seq r q2
  refine .inr (.inr (.inl ⟨p1, p2, xs, ys, rfl, rfl, s1, s2, by rw [d1.length, d2.length]; exact hl, fun p0 hp => ?_⟩))
  have st : Step (C.wz Z) α H (α ++ [p0]) (upd H p0 (.lst (xs ++ ys))) := ⟨⟨[p0], rfl, by simpa using hp⟩, fun b u h _ _ => by rw [upd_ne (ne_of_none h hp)]; exact h, fun b u h => ⟨u, by rw [upd_ne (ne_of_none h hp)]; exact h⟩⟩
  obtain ⟨r2, s2⟩ := r.newM (o := .lst (xs ++ ys)) (mo := .lst ((a ++ b).map DV.dat)) hp ⟨_, upd_same, VRs.step (dats_VRs (C := C.wz Z) (d1.append d2)) st⟩
  exact k _ _ _ (.obj M.length) _ s2 r2 ⟨p0, by rw [← r.hr.len]; simp, rfl⟩ p
end
end L3

/-! isinstance of known lists and dicts; sorted of anything; == and != of lists; extend -/
namespace L3
open PySem L2
section
variable {C : Cn}
def moN : MO → String
  | .lst _ => "list" | .dK _ => "dict" | _ => ""
def vIsiA : List DV → Mem → PD → Prop := fun xs M P => vIsi xs M P ∨ (∃ d, xs = [.dat d, .dat (.ty "dict")] ∧ (tyN d == "") = false ∧ P (.bl false) M) ∨
  ∃ n o t, xs = [.obj n, .dat (.ty t)] ∧ (t = "int" ∨ t = "str" ∨ t = "bool" ∨ t = "tuple" ∨ t = "list" ∨ t = "dict") ∧ M[n]? = some o ∧ (moN o == "") = false ∧ P (.bl (moN o == t)) M
theorem kit_tab2 : ∀ t ∈ ["NoneType", "bool", "int", "str", "tuple", "list"], kitB t "dict" = some false := by decide +kernel
theorem kit_tab3 : ∀ t ∈ ["list", "dict"], ∀ n ∈ ["int", "str", "bool", "tuple", "list", "dict"], kitB t n = some (t == n) := by decide +kernel
theorem ll_isiA : LoL C (rIsi C.K) vIsiA := fun xs M P g Z α H vs Q r q k => by
  rcases g with g | ⟨d, rfl, ht, p⟩ | ⟨n, o, t, rfl, ht, hM, ho, p⟩
  · exact ll_isi xs M P g Z α H vs Q r q k
  · obtain ⟨v, w, rfl, q1, q2⟩ := two_inv q
    cases q2
    refine ⟨v, .ty "dict", .type (tyN d), .type "dict", false, rfl, .ty _, tyX_of q1 ht, kit_ty ?_, k.now (d := .bl _) r (.bl _) p⟩
    exact kit_tab2 _ (by cases d <;> first | (cases ht; done) | simp [tyN])
  · obtain ⟨v, w, rfl, q1, q2⟩ := two_inv q
    cases q2
    obtain ⟨a, ea, rfl⟩ := q1
    have m := r.hr.get n a _ ea hM
    refine ⟨.ref a, .ty t, .type (moN o), .type t, moN o == t, rfl, .ty _, ?_, kit_ty ?_, k.now (d := .bl _) r (.bl _) p⟩
    · cases o with
      | lst xs => obtain ⟨zs, eh, _⟩ := m; exact .base (.lst eh)
      | dK kvs => obtain ⟨zs, eh, _⟩ := m; exact .base (.dK eh)
      | _ => cases ho
    · exact kit_tab3 _ (by cases o <;> first | (cases ho; done) | simp [moN]) _ (by simpa using ht)
/-- sorted -/
def rSortAJ (K : PySem.W.Frag) : List V → Hp → VK → Prop := fun xs H Q => rSortA K xs H Q ∨ rSortJ K xs H Q
theorem call_sortAJ {X : Cx} (hc : X.calm = true) (hu : X.A.units + 64 < cLine) : CallR X (.builtin "sorted") (rSortAJ X.K) := CallR.or (call_sortA hc hu) (call_sortJ hc)
def vSortL : List DV → Mem → PD → Prop := fun xs M P => ∃ ks : List Int, xs = [.dat (.lst (ks.map D.int))] ∧ ∀ ys : List Int, ys.Perm ks → ys.Pairwise (· ≤ ·) → P (.dat (.lst (ys.map D.int))) M
theorem vds_intsI {K : PySem.W.Frag} {N : Addr → Prop} {H : Hp} : ∀ {zs : List V} {ns : List Int}, VDs K N H zs (ns.map D.int) → zs = ns.map V.int
  | _, [], .nil => rfl
  | _, n :: ns, .cons (.int _) h => by rw [vds_intsI h]; rfl
theorem ll_sortL : LoL C (rSortJ C.K) vSortL := fun xs M P ⟨ks, e, p⟩ Z α H vs Q r q k => by
  subst e
  obtain ⟨w, rfl, qw⟩ := one_inv q
  obtain ⟨a, zs, rfl, hs, hd⟩ := VD.lst_inv qw
  have e := vds_intsI hd
  subst e
  refine .inr ⟨a, ks, rfl, hs.sq, fun ys p0 h1 h2 hp => ?_⟩
  obtain ⟨r4, s4⟩ := r.new1 (o := .lst (ys.map V.int)) hp
  exact k _ _ α (.dat (.lst (ys.map D.int))) M s4 r4 (.lst (.inl ⟨.inl upd_same, r.fresh hp⟩) (vds_ints _)) (p ys h1 h2)
def vSortAJ : List DV → Mem → PD → Prop := fun xs M P => vSortA xs M P ∨ vSortJ xs M P ∨ vSortL xs M P
theorem ll_sortAJ : LoL C (rSortAJ C.K) vSortAJ := fun xs M P g Z α H vs Q r q k => by
  rcases g with g | g | g
  · exact .inl (ll_sortA xs M P g Z α H vs Q r q k)
  · exact .inr (ll_sortJ xs M P g Z α H vs Q r q k)
  · exact .inr (ll_sortL xs M P g Z α H vs Q r q k)
/-- == and != of lists, known or not -/
def vEqL (neg : Bool) : DV → DV → Mem → PD → Prop := fun x y M P => vEq neg x y M P ∨ ∃ ds es : List D, LV M x ds ∧ LV M y es ∧ okD (.lst ds) = true ∧ okD (.lst es) = true ∧ P (.bl (if neg then !eqD (.lst ds) (.lst es) else eqD (.lst ds) (.lst es))) M
theorem LV.dp {Z : List Addr} {α : List Addr} {H : Hp} {M : Mem} {x : DV} {v : V} {a : List D} (h : LV M x a) (ok : okD (.lst a) = true) (r : RS (C.wz Z) α M H) (q : VR (C.wz Z) α H v x) : Dp C.K H v (pyD (.lst a)) ∧ SeqAt.shaped (pyD (.lst a)) = true := by
  unfold okD at ok
  rw [Bool.and_eq_true] at ok
  obtain ⟨p, xs, rfl, hs, hd⟩ := h.seq r q
  have h3 : pureDs a = true := by have := ok.1; unfold pureD at this; exact this
  exact ⟨.lst hs (VDs.dp h3 hd), ok.2⟩
theorem l2_eqL : Lo2 C (rEqA C.K) (vEqL false) := fun x y M P g Z α H v u Q r q1 q2 k => by
  rcases g with g | ⟨ds, es, l1, l2, h1, h2, p⟩
  · exact l2_eq _ _ M P g Z α H v u Q r q1 q2 k
  · obtain ⟨d1, s1⟩ := l1.dp h1 r q1
    obtain ⟨d2, s2⟩ := l2.dp h2 r q2
    exact .inr ⟨pyD (.lst ds), pyD (.lst es), d1, d2, s1, s2, k.now (d := .bl _) r (.bl _) p⟩
theorem l2_neL : Lo2 C (rNeA C.K) (vEqL true) := fun x y M P g Z α H v u Q r q1 q2 k => by
  rcases g with g | ⟨ds, es, l1, l2, h1, h2, p⟩
  · exact l2_ne _ _ M P g Z α H v u Q r q1 q2 k
  · obtain ⟨d1, s1⟩ := l1.dp h1 r q1
    obtain ⟨d2, s2⟩ := l2.dp h2 r q2
    exact .inr ⟨pyD (.lst ds), pyD (.lst es), d1, d2, s1, s2, k.now (d := .bl _) r (.bl _) p⟩
/-- xs.extend(ys), both known -/
def vExtend : DV → List DV → Mem → PD → Prop := fun x xs M P => ∃ n m ys zs, x = .obj n ∧ xs = [.obj m] ∧ M[n]? = some (.lst ys) ∧ M[m]? = some (.lst zs) ∧ ys.length + zs.length ≤ sizeLine ∧ P .non (M.set n (.lst (ys ++ zs)))
theorem lm_extend : LoM C rExtend vExtend := fun x xs M P ⟨n, m, ys, zs, e1, e2, hn, hm, hl, p⟩ Z α H v vs Q r q qs k => by
  subst e1 e2
  obtain ⟨v1, rfl, q1⟩ := one_inv qs
  obtain ⟨a, ea, rfl⟩ := q
  obtain ⟨b, eb, rfl⟩ := q1
  obtain ⟨us, eu, hu⟩ := r.hr.get n a _ ea hn
  obtain ⟨ws, ew, hw⟩ := r.hr.get m b _ eb hm
  have st : Step (C.wz Z) α H α (upd H a (.lst (us ++ ws))) := put_step ea
  obtain ⟨r4, s4⟩ := r.put (mo := .lst (ys ++ zs)) ea ⟨_, upd_same, VRs.append (VRs.step hu st) (VRs.step hw st)⟩ (r.noT ea hn)
  exact ⟨a, b, us, ws, rfl, rfl, eu, ew, by rw [VRs.length hu, VRs.length hw]; exact hl, k _ _ α .non _ s4 r4 .non p⟩
end
section
variable {M : Mem} {P : PD}
theorem s_extend {n m : Nat} {ys zs : List DV} (hn : M[n]? = some (.lst ys)) (hm : M[m]? = some (.lst zs)) (hl : ys.length + zs.length ≤ sizeLine) (h : P .non (M.set n (.lst (ys ++ zs)))) : vExtend (.obj n) [.obj m] M P := ⟨n, m, ys, zs, rfl, rfl, hn, hm, hl, h⟩
theorem s_isiD {d : D} {t : String} (ht : t = "int" ∨ t = "str" ∨ t = "bool" ∨ t = "tuple" ∨ t = "list") (hd : (tyN d == "") = false) (h : P (.bl (isiD d t)) M) : vIsiA [.dat d, .dat (.ty t)] M P := .inl ⟨d, t, rfl, ht, hd, h⟩
theorem s_isiAT {e : D} {n : String} (hn : n = "int" ∨ n = "str" ∨ n = "bool" ∨ n = "tuple" ∨ n = "list") (ht : (tyN e == "") = false) (hb : isiD e n = true) (h : P (.bl true) M) : vIsiA [.dat e, .dat (.ty n)] M P := .inl ⟨e, n, rfl, hn, ht, by rw [hb]; exact h⟩
theorem s_isiAF {e : D} {n : String} (hn : n = "int" ∨ n = "str" ∨ n = "bool" ∨ n = "tuple" ∨ n = "list") (ht : (tyN e == "") = false) (hb : isiD e n = false) (h : P (.bl false) M) : vIsiA [.dat e, .dat (.ty n)] M P := .inl ⟨e, n, rfl, hn, ht, by rw [hb]; exact h⟩
theorem s_isiDd {d : D} (hd : (tyN d == "") = false) (h : P (.bl false) M) : vIsiA [.dat d, .dat (.ty "dict")] M P := .inr (.inl ⟨d, rfl, hd, h⟩)
theorem s_isiO {n : Nat} {o : MO} {t : String} (hM : M[n]? = some o) (ht : t = "int" ∨ t = "str" ∨ t = "bool" ∨ t = "tuple" ∨ t = "list" ∨ t = "dict") (ho : (moN o == "") = false) (h : P (.bl (moN o == t)) M) : vIsiA [.obj n, .dat (.ty t)] M P := .inr (.inr ⟨n, o, t, rfl, ht, hM, ho, h⟩)
theorem s_addM {x y : DV} {a b : List D} (h1 : LV M x a) (h2 : LV M y b) (hl : a.length + b.length ≤ sizeLine) (h : P (.obj M.length) (M ++ [.lst ((a ++ b).map DV.dat)])) : vAddM x y M P := ⟨a, b, h1, h2, hl, h⟩
theorem s_eqL {neg : Bool} {x y : DV} {ds es : List D} (h1 : LV M x ds) (h2 : LV M y es) (o1 : okD (.lst ds) = true) (o2 : okD (.lst es) = true) (h : P (.bl (if neg then !eqD (.lst ds) (.lst es) else eqD (.lst ds) (.lst es))) M) : vEqL neg x y M P := .inr ⟨ds, es, h1, h2, o1, o2, h⟩
end
/-! xs.remove(a text) -/
section
open PySem.Spec PyProof.Rows
def eqs (k : Str) (v : Value) : Bool := match v with
  | .str n _ => decide (n = k)
  | _ => false
theorem eqs_gives {k : Str} {t : Tok} : ∀ {us : List Value} {ns : List Str}, StrsAre us ns → ∀ y ∈ us, MeetsSeq.EqGives y (.str k t) (eqs k y)
  | _, _, .nil => fun y hy => by cases hy
  | _, _, .cons n t' h => fun y hy => by
    rcases List.mem_cons.mp hy with e | e
    · rw [e]
      exact fun _ _ _ _ _ _ h => wpAny_eqBool_str h
    · exact eqs_gives h y e
theorem erase_mapS : ∀ (l : List Str) (j : Nat), (l.map V.str).eraseIdx j = (l.eraseIdx j).map V.str
  | [], j => by simp
  | a :: r, 0 => by simp
  | a :: r, j + 1 => by
    have ih := erase_mapS r j
    simp [ih]
def rRemS : V → List V → Hp → VK → Prop := fun x xs H Q => ∃ (l : Addr) (ns : List Str) (k : Str) (j : Nat), x = .ref l ∧ xs = [.str k] ∧ H l = some (.lst (ns.map V.str)) ∧ ns[j]? = some k ∧ (∀ m : Nat, m < j → ns[m]? ≠ some k) ∧ Q .non (upd H l (.lst ((ns.eraseIdx j).map V.str)))
theorem mt_removeS {X : Cx} : MtM X "list.remove" rRemS := by
  intro pins s σ H x xs v us Q I rx rxs h
  obtain ⟨l, ns, k, j, rfl, rfl, hH, hj, hno, q⟩ := h
  cases rx
  obtain ⟨u, rfl, ru⟩ := rxs.one
  obtain ⟨t, rfl⟩ := ru
  obtain ⟨z, its, n, r, hl, e⟩ := I.lstM hH
  have hi := strs_of_vals r
  rw [List.length_map] at hl z
  have hjn : j < ns.length := (List.getElem?_eq_some_iff.mp hj).1
  have hjl : j < its.toArray.size := by rw [List.size_toArray]; omega
  refine call_meets PySem.F.slot_list_remove ⟨_, e, rfl⟩ PySem.F.entry_list_remove (PySem.F.args_list_remove_2 _ _)
    (MeetsSeq.list_remove l its.toArray n (.str k t) (eqs k) (fun y hy => eqs_gives hi y (by simpa using hy)) j hjl ?_ ?_ (by rw [List.size_toArray]; omega)) ⟨e, ?_⟩
  · obtain ⟨tj, hjt⟩ := hi.get j k hj
    obtain ⟨h1, h2⟩ := List.getElem?_eq_some_iff.mp hjt
    have e1 : its.toArray[j] = .str k tj := by simpa using h2
    rw [e1]
    exact decide_eq_true rfl
  · intro m hm hmj
    have hmn : m < ns.length := by omega
    obtain ⟨tm, hmt⟩ := hi.get m _ (List.getElem?_eq_getElem hmn)
    obtain ⟨h1, h2⟩ := List.getElem?_eq_some_iff.mp hmt
    have e1 : its.toArray[m] = .str ns[m] tm := by simpa using h2
    rw [e1]
    refine decide_eq_false fun e2 => hno m hmj ?_
    rw [List.getElem?_eq_getElem hmn, e2]
  · have rr := r.eraseIdx j
    rw [erase_mapS] at rr
    refine ⟨.non, _, I.lset (its' := its.eraseIdx j) (t' := s.toks) hH e ?_ rr ?_, rfl, q⟩
    · show its.toArray.eraseIdxIfInBounds j = (its.eraseIdx j).toArray
      rw [List.eraseIdxIfInBounds_toArray]
    · have z2 := len_erase ns j
      rw [List.length_map]
      omega
variable {C : Cn}
theorem strs_vrs {α : List Addr} {H : Hp} {ns : List Str} : VRs C α H (ns.map V.str) ((ns.map D.str).map DV.dat) := by
  induction ns with
  | nil => exact .nil
  | cons n ns ih => exact .cons (.str n) ih
def vRemS : DV → List DV → Mem → PD → Prop := fun x xs M P => ∃ (n : Nat) (ns : List Str) (k : Str) (j : Nat), x = .obj n ∧ xs = [.str k] ∧ M[n]? = some (.lst ((ns.map D.str).map DV.dat)) ∧ ns[j]? = some k ∧ (∀ m : Nat, m < j → ns[m]? ≠ some k) ∧ P .non (M.set n (.lst (((ns.eraseIdx j).map D.str).map DV.dat)))
theorem lm_removeS : LoM C rRemS vRemS := fun x xs M P ⟨n, ns, k, j, e1, e2, hm, hj, hno, p⟩ Z α H v vs Q r q qs kk => by
  subst e1 e2
  obtain ⟨w, rfl, qw⟩ := one_inv qs
  cases qw
  obtain ⟨a, ea, rfl⟩ := q
  obtain ⟨zs, eh, hd⟩ := r.hr.get n a _ ea hm
  rw [vrs_strs hd] at eh
  obtain ⟨r4, s4⟩ := r.put (mo := .lst (((ns.eraseIdx j).map D.str).map DV.dat)) ea ⟨_, upd_same, strs_vrs⟩ (r.noT ea hm)
  exact ⟨a, ns, k, j, rfl, rfl, eh, hj, hno, kk _ _ α .non _ s4 r4 .non p⟩
theorem idx_at {α : Type} [BEq α] [LawfulBEq α] {l : List α} {t : α} (h : t ∈ l) : l[l.idxOf t]? = some t ∧ ∀ m : Nat, m < l.idxOf t → l[m]? ≠ some t := by
  have hl : l.idxOf t < l.length := List.idxOf_lt_length_of_mem h
  refine ⟨by rw [List.getElem?_eq_getElem hl, List.getElem_idxOf], ?_⟩
  clear hl
  induction l with
  | nil => cases h
  | cons a l ih =>
    intro m hm
    rw [List.idxOf_cons] at hm
    by_cases e : a = t
    · subst e
      simp at hm
    · rw [show (a == t) = false from beq_eq_false_iff_ne.mpr e] at hm
      have hm : m < l.idxOf t + 1 := hm
      cases m with
      | zero =>
        intro z
        simp at z
        exact e z
      | succ m =>
        have ht : t ∈ l := by
          rcases List.mem_cons.mp h with z | z
          · exact absurd z.symm e
          · exact z
        simpa using ih ht m (by omega)
theorem erase_at {α : Type} [BEq α] [LawfulBEq α] {l : List α} {t : α} (h : t ∈ l) : l.eraseIdx (l.idxOf t) = l.erase t := by
  induction l with
  | nil => cases h
  | cons a l ih =>
    rw [List.idxOf_cons, List.erase_cons]
    by_cases e : a = t
    · subst e; simp
    · have ht : t ∈ l := by
        rcases List.mem_cons.mp h with z | z
        · exact absurd z.symm e
        · exact z
      rw [show (a == t) = false from beq_eq_false_iff_ne.mpr e]
      show (a :: l).eraseIdx (l.idxOf t + 1) = _
      rw [List.eraseIdx_cons_succ, ih ht]
      rfl
theorem s_remS {n : Nat} {l : List Str} {t : Str} {M : Mem} {P : PD} (hM : M[n]? = some (.lst ((l.map D.str).map DV.dat))) (h : t ∈ l) (k : P .non (M.set n (.lst (((l.erase t).map D.str).map DV.dat)))) : vRemS (.obj n) [.dat (.str t)] M P := by
  obtain ⟨h1, h2⟩ := idx_at h
  exact ⟨n, l, t, l.idxOf t, rfl, rfl, hM, h1, h2, by rw [erase_at h]; exact k⟩
theorem s_idxS {n : Nat} {l : List Str} {t : Str} {M : Mem} {P : PD} (hM : M[n]? = some (.lst ((l.map D.str).map DV.dat))) (h : t ∈ l) (k : P (.int ((l.idxOf t : Nat) : Int)) M) : vIdxS (.obj n) [.dat (.str t)] M P := by
  obtain ⟨h1, h2⟩ := idx_at h
  exact ⟨n, l, t, l.idxOf t, rfl, rfl, hM, h1, h2, k⟩
end
/-! len({f x for x in xs if p x}), which draws nothing -/
section
variable {ρ : Rho} {M : Mem} {P : PD} {PX : PXn}
theorem lnsG {ι : Type} {lg : LG} {lt : LT} {te : LE} {vs : List Nat} {xs : List ι} {okM : Mem → Prop} (g : ι → D) (p : ι → Bool) (f : ι → Str) (hok : okM M) (hl : xs.length + 1 < scanBound)
    (he : ∀ x ∈ xs, ∀ (RT : PD) (RF : Mem → Prop), (p x = true → RT (.str (f x)) M) → (p x = false → RF M) → lg (.dat (g x)) (wipeL ρ vs) M fun ρ2 M2 => lt ρ2 M2 (fun b M3 => if b = true then te ρ2 M3 RT noX else RF M3) noX)
    (h : ∀ l : List Str, l.Nodup → (∀ y, y ∈ l ↔ ∃ x ∈ xs, p x = true ∧ f x = y) → P (.int (l.length : Nat)) M) :
    ∃ I : Nat → List Str → Mem → Prop, I 0 [] M ∧ (∀ i acc M, I i acc M → okM M) ∧
      (∀ i x acc M', ((xs.map g).map DV.dat)[i]? = some x → I i acc M' → lg x (wipeL ρ vs) M' fun ρ2 M2 => lt ρ2 M2 (fun b M3 => if b = true then te ρ2 M3 (fun y M4 => acc.length + 1 < scanBound ∧ ∃ k, y = .str k ∧ DropM M.length (I (i + 1) (insT k acc)) M4) noX else DropM M.length (I (i + 1) acc) M3) noX) ∧
      ∀ acc M', I ((xs.map g).map DV.dat).length acc M' → acc.length < scanBound ∧ P (.int (acc.length : Nat)) M' := by
  refine ⟨fun i acc M' => M' = M ∧ acc.Nodup ∧ acc.length ≤ i ∧ ∀ y, y ∈ acc ↔ ∃ x ∈ xs.take i, p x = true ∧ f x = y, ⟨rfl, .nil, Nat.le_refl _, by simp⟩, fun i acc M' h => h.1 ▸ hok, ?_, ?_⟩
  · rintro i x acc M' hx ⟨rfl, nd, hlen, hm⟩
    obtain ⟨y, hx2, rfl, hmem⟩ := itemG hx
    have hi : i < xs.length := (List.getElem?_eq_some_iff.mp hx2).1
    refine he y hmem _ _ (fun hp => ⟨by omega, _, rfl, .inl ⟨rfl, insT_nodup _ nd, Nat.le_trans (insT_len _ _) (by omega), fun z => ?_⟩⟩) (fun hp => .inl ⟨rfl, nd, by omega, fun z => ?_⟩)
    · rw [insT_mem, hm, take_snocG hx2]
      constructor
      · rintro (rfl | ⟨x, h1, h2⟩)
        · exact ⟨y, List.mem_append_right _ (List.mem_singleton.mpr rfl), hp, rfl⟩
        · exact ⟨x, List.mem_append_left _ h1, h2⟩
      · rintro ⟨x, h1, h2, h3⟩
        rcases List.mem_append.mp h1 with h1 | h1
        · exact .inr ⟨x, h1, h2, h3⟩
        · rw [List.mem_singleton.mp h1] at h3; exact .inl h3.symm
    · rw [hm, take_snocG hx2]
      constructor
      · rintro ⟨x, h1, h2⟩
        exact ⟨x, List.mem_append_left _ h1, h2⟩
      · rintro ⟨x, h1, h2, h3⟩
        rcases List.mem_append.mp h1 with h1 | h1
        · exact ⟨x, h1, h2, h3⟩
        · rw [List.mem_singleton.mp h1, hp] at h2; cases h2
  · rintro acc M' ⟨rfl, nd, hlen, hm⟩
    rw [List.length_map, List.length_map] at hlen hm
    rw [List.take_length] at hm
    exact ⟨by omega, h acc nd hm⟩
theorem s_lnSL {ι : Type} {lg : LG} {lt : LT} {te : LE} {vs : List Nat} {le : LE} (xs : List ι) (g : ι → D) (p : ι → Bool) (f : ι → Str) (hl : xs.length + 1 < scanBound) (hs : ∀ R : PD, R (.dat (.lst (xs.map g))) M → le ρ M R PX)
    (he : ∀ x ∈ xs, ∀ (RT : PD) (RF : Mem → Prop), (p x = true → RT (.str (f x)) M) → (p x = false → RF M) → lg (.dat (g x)) (wipeL ρ vs) M fun ρ2 M2 => lt ρ2 M2 (fun b M3 => if b = true then te ρ2 M3 RT noX else RF M3) noX)
    (h : ∀ l : List Str, l.Nodup → (∀ y, y ∈ l ↔ ∃ x ∈ xs, p x = true ∧ f x = y) → P (.int (l.length : Nat)) M) : lLnS (lwAny le) lg lt te vs ρ M P PX := hs _ (lnsG g p f trivial hl he h)
end
section
variable {C : Cn}
/-- list(xs), a known list -/
def vLstMA : List DV → Mem → PD → Prop := fun xs M P => ∃ (x : DV) (ds : List D), xs = [x] ∧ (LV M x ds ∨ x = .dat (.tup ds)) ∧ P (.obj M.length) (M ++ [.lst (ds.map DV.dat)])
theorem ll_lstMA : LoL C (fun xs H Q => ∃ p ys, xs = [.ref p] ∧ (SqL C.K H p ys ∨ SqT C.K H p ys) ∧ ∀ l, H l = none → Q (.ref l) (upd H l (.lst ys))) vLstMA := fun xs M P ⟨x, ds, e, h, p⟩ Z α H vs Q r q k => by
  subst e
  obtain ⟨v, rfl, q0⟩ := one_inv q
  have key : ∀ ys, VDs C.K ((C.wz Z).N α) H ys ds → ∀ l, H l = none → Q (.ref l) (upd H l (.lst ys)) := fun ys hd p0 hp => by
    have st : Step (C.wz Z) α H (α ++ [p0]) (upd H p0 (.lst ys)) := ⟨⟨[p0], rfl, by simpa using hp⟩, fun b u h _ _ => by rw [upd_ne (ne_of_none h hp)]; exact h, fun b u h => ⟨u, by rw [upd_ne (ne_of_none h hp)]; exact h⟩⟩
    obtain ⟨r2, s2⟩ := r.newM (o := .lst ys) (mo := .lst (ds.map DV.dat)) hp ⟨_, upd_same, VRs.step (dats_VRs (C := C.wz Z) hd) st⟩
    exact k _ _ _ (.obj M.length) _ s2 r2 ⟨p0, by rw [← r.hr.len]; simp, rfl⟩ p
  rcases h with h | rfl
  · obtain ⟨a, xs, rfl, hs, hd⟩ := h.seq r q0
    exact ⟨a, xs, rfl, .inl hs, key xs hd⟩
  · obtain ⟨a, xs, rfl, hs, hd⟩ := VD.tup_inv q0
    exact ⟨a, xs, rfl, .inr hs.sq, key xs hd⟩
end
end L3

/-! xs.pop(); min of a list of texts; a walk over a dict that stays locked -/
namespace L3
open PySem L2 PySem.Spec PyProof.Rows
section
variable {X : Cx} {C : Cn} {W : WX} {o : Expr} {to : TE} {lo : LE} {T id : String} {name : Str} {apos cpos : Pos} {r : V → List V → Hp → VK → Prop} {lr : DV → List DV → Mem → PD → Prop}
theorem lp_bm0 (pa : PlainAttrs T) (slot : Slot T name id) (hty : typeOf (.builtin id) = pure (.type "method_descriptor")) (hm : MtR X id r) (hl : LoM C r lr) (hK : X.K = C.K) (ho : LPE X C W o to lo)
    (hbase : attributeBase o name X.env (eval o X.env) = eval o X.env := by rfl) (hline : (apos.endLine == cpos.line) = true := by rfl) : LPE X C W (.Call (.Attribute o name apos) [] [] cpos) (tBM0 C.K T r to) (lBM0 T lr lo) := by
  rw [← hK]
  exact ⟨pe_bm0 pa slot hty hm ho.pe hbase hline, by rw [hK]; exact lo_bm0 hl ho.lo⟩
def vPop : DV → List DV → Mem → PD → Prop := fun x xs M P => ∃ n ys y, x = .obj n ∧ xs = [] ∧ M[n]? = some (.lst (ys ++ [y])) ∧ P y (M.set n (.lst ys))
theorem VRs.dropLast {α : List Addr} {H : Hp} : ∀ {ys : List DV} {zs : List V} {y : DV}, VRs C α H zs (ys ++ [y]) → VRs C α H zs.dropLast ys
  | [], _, _, .cons _ .nil => .nil
  | y :: ys, _ :: [], _, .cons _ t => by cases ys <;> cases t
  | y :: ys, _ :: w :: ws, _, .cons r t => .cons r (VRs.dropLast t)
theorem lm_pop : LoM C rPop vPop := fun x xs M P ⟨n, ys, y, e1, e2, hm, p⟩ Z α H v vs Q r q qs k => by
  subst e1 e2
  cases qs
  obtain ⟨a, ea, rfl⟩ := q
  obtain ⟨zs, eh, hd⟩ := r.hr.get n a _ ea hm
  have hlen := VRs.length hd
  obtain ⟨u, hu, ru⟩ := hd.at (i := ys.length) (d := y) (by simp)
  have st : Step (C.wz Z) α H α (upd H a (.lst zs.dropLast)) := put_step ea
  obtain ⟨r4, s4⟩ := r.put (mo := .lst ys) ea ⟨_, upd_same, VRs.dropLast (VRs.step hd st)⟩ (r.noT ea hm)
  exact ⟨a, zs, u, rfl, rfl, eh, by rw [hlen, List.length_append]; exact hu, k _ _ α y _ s4 r4 (ru.step s4) p⟩
theorem s_bm0 {ρ : Rho} {M : Mem} {P : PD} {PX : PXn} (h : lo ρ M (fun x M1 => tyD T x M1 ∧ lr x [] M1 P) PX) : lBM0 T lr lo ρ M P PX := h
theorem s_pop {M : Mem} {P : PD} {n : Nat} {ys : List DV} {y : DV} (hM : M[n]? = some (.lst (ys ++ [y]))) (h : P y (M.set n (.lst ys))) : vPop (.obj n) [] M P := ⟨n, ys, y, rfl, rfl, hM, h⟩
end
/-! min -/
section
theorem CmpOf.strs_lt {prog : Program} {w : World} {A : Around} {P : Nat → Value → Prop} (val : Nat → Str) (hval : ∀ i v, P i v → ∃ t, v = .str (val i) t) :
    CmpOf prog w A .Lt P (fun i j => decide ((val i).cps.toList < (val j).cps.toList)) := fun i j vi vj s Q E hi hj h => by
  obtain ⟨t, rfl⟩ := hval i vi hi
  obtain ⟨u, rfl⟩ := hval j vj hj
  exact richCompare_gives (op := .Lt) (typeIs_str s _ t) (typeIs_str s _ u) PySem.F.slot_str_lt PySem.F.entry_str_lt (PySem.F.args_str_lt_2 _ _) (gives_str_lt _ _ t u) (fun x => nomatch x) h
theorem argBest_strs (num : Nat → List Nat) : ∀ k, argBest (fun i j => decide (num i < num j)) k ≤ k ∧ ∀ j, j ≤ k → ¬ num j < num (argBest (fun i j => decide (num i < num j)) k)
  | 0 => ⟨Nat.le_refl _, fun j hj => by
      have : j = 0 := by omega
      subst this
      exact List.lt_irrefl _⟩
  | k + 1 => by
    obtain ⟨h1, h2⟩ := argBest_strs num k
    simp only [argBest]
    by_cases hc : num (k + 1) < num (argBest (fun i j => decide (num i < num j)) k)
    · rw [if_pos (by simpa using hc)]
      refine ⟨Nat.le_refl _, fun j hj => ?_⟩
      rcases Nat.lt_or_ge j (k + 1) with hlt | hge
      · intro z
        exact h2 j (by omega) (List.lt_trans z hc)
      · have : j = k + 1 := by omega
        subst this
        exact List.lt_irrefl _
    · rw [if_neg (by simpa using hc)]
      refine ⟨by omega, fun j hj => ?_⟩
      rcases Nat.lt_or_ge j (k + 1) with hlt | hge
      · exact h2 j (by omega)
      · have : j = k + 1 := by omega
        subst this
        exact hc
theorem strs_at : ∀ {its : List Value} {ys : List Str} {i : Nat} {v : Value}, StrsAre its ys → its[i]? = some v → ∃ t, v = .str (ys.getD i "") t
  | _, _, _, _, .nil, h => by simp at h
  | _, _, 0, _, .cons y t _, h => by simp at h; exact ⟨t, h.symm⟩
  | _, _, i + 1, v, .cons y t r, h => by
    obtain ⟨u, e⟩ := strs_at (i := i) (v := v) r (by simpa using h)
    exact ⟨u, by rw [e]; simp⟩
theorem strs_len : ∀ {its : List Value} {ys : List Str}, StrsAre its ys → its.length = ys.length
  | _, _, .nil => rfl
  | _, _, .cons _ _ r => by simp [strs_len r]
section
variable {prog : Program} {w : World} {A : Around} {E : Value → Shared → Prop} {s : Shared} {l : Addr} {its : List Value} {ys : List Str}
theorem min_strsRaw {Q : Value → Shared → Prop} (hh : A.handled = none) (hl : s.heap.IsList l its.toArray) (hi : StrsAre its ys) (hne : 0 < ys.length)
    (h : ∀ h' tk m t', (∀ b o, s.heap.get? b = some o → h'.get? b = some o) → m ∈ ys → (∀ y ∈ ys, ¬ y.cps.toList < m.cps.toList) → Q (.str m t') { s with heap := h', toks := tk }) : wpAny (model prog w) A (call (.builtin "min") [.ref l]) Q E s := by
  refine call_min_walk (iter_anyList hl fun s₂ e st hfp hlI => ?_)
  subst e
  have hlen := strs_len hi
  refine ⟨_, _, _, _, _, _, _, rfl, Walks.list (A := A.in1) hh _ l hlI its.toArray, st, hfp, by simp; omega, CmpOf.strs_lt (fun i => ys.getD i "") (fun i v hv => strs_at hi (by simpa using hv)), fun v h' tk hP hk => ?_⟩
  obtain ⟨h1, h2⟩ := argBest_strs (fun i => (ys.getD i "").cps.toList) (ys.length - 1)
  have hP : its[argBest (fun i j => decide ((ys.getD i "").cps.toList < (ys.getD j "").cps.toList)) (ys.length - 1)]? = some v := by
    have := hP
    rw [List.size_toArray, hlen] at this
    simpa using this
  obtain ⟨t, rfl⟩ := strs_at hi hP
  refine h h' tk _ t (PySem.old_kept hk) ?_ fun y hy => ?_
  · rw [List.getD_eq_getElem?_getD, List.getElem?_eq_getElem (by omega)]
    exact List.getElem_mem _
  · obtain ⟨j, hj⟩ := List.mem_iff_getElem?.mp hy
    have hj2 := (List.getElem?_eq_some_iff.mp hj).1
    have := h2 j (by omega)
    rw [List.getD_eq_getElem?_getD, hj] at this
    exact this
end
def rMinS (K : PySem.W.Frag) : List V → Hp → VK → Prop := fun vs H Q => ∃ (a : Addr) (ys : List Str), vs = [V.ref a] ∧ SqL K H a (ys.map V.str) ∧ 0 < ys.length ∧ ∀ m, m ∈ ys → (∀ y, y ∈ ys → ¬ y.cps.toList < m.cps.toList) → Q (.str m) H
theorem call_minS {X : Cx} (hc : X.calm = true) : CallR X (.builtin "min") (rMinS X.K) := by
  intro pins s σ H vs us Q I r h
  obtain ⟨a, ns, rfl, hs, hne, q⟩ := h
  obtain ⟨its, rv, hl, _⟩ := I.list hs
  rw [Vals.ref1 r]
  exact min_strsRaw (I.ok.hd hc) hl.isList rv.strs hne fun h' tk m t' hk h1 h2 => ⟨.str _, H, I.kept hk, ⟨_, rfl⟩, q m h1 h2⟩
variable {C : Cn}
def vMinS : List DV → Mem → PD → Prop := fun xs M P => ∃ (x : DV) (ys : List Str), xs = [x] ∧ LV M x (ys.map D.str) ∧ 0 < ys.length ∧ ∀ m, m ∈ ys → (∀ y, y ∈ ys → ¬ y.cps.toList < m.cps.toList) → P (.dat (.str m)) M
theorem ll_minS : LoL C (rMinS C.K) vMinS := fun xs M P ⟨x, ys, e, hx, hne, p⟩ Z α H vs Q r q k => by
  subst e
  obtain ⟨w, rfl, qw⟩ := one_inv q
  obtain ⟨a, zs, rfl, hs, hd⟩ := hx.seq r qw
  have e := VDs.of_str hd
  subst e
  exact ⟨a, ys, rfl, hs, hne, fun m h1 h2 => k.now (d := .str m) r (.str _) (p m h1 h2)⟩
theorem s_minS {M : Mem} {P : PD} {x : DV} {ys : List Str} (hx : LV M x (ys.map D.str)) (hne : 0 < ys.length) (h : ∀ m, m ∈ ys → (∀ y, y ∈ ys → ¬ y.cps.toList < m.cps.toList) → P (.dat (.str m)) M) : vMinS [x] M P := ⟨x, ys, rfl, hx, hne, h⟩
end
/-! a walk over a dict's keys; the dict stays locked -/
section
def iKeysL (td : TE) : TI := fun σ H R => td σ H fun x H1 => ∃ d kvs, x = .ref d ∧ H1 d = some (.dK kvs) ∧ ∀ o, R (Itk d o kvs) (upd H1 d (.frz o (.dK kvs)))
theorem pi_keysL {X : Cx} {tg e : Expr} {td : TE} (he : PE X e td) : PI X tg e (iKeysL td) := by
  refine ⟨fun pins s σ H R I h => ?_⟩
  refine thn (he.run pins s σ H _ I h) fun u s1 ⟨x, H1, I1, rx, d, kvs, ex, hd, q⟩ => ?_
  subst ex
  obtain rfl : u = Value.ref d := rx
  obtain ⟨od, I2⟩ := I1.lock hd trivial
  have hd2 : upd H1 d (.frz od (.dK kvs)) d = some (.frz od (.dK kvs)) := upd_same
  obtain ⟨hs, hgd, hx, es, ep, vs, hdt, hsz, kv, hm⟩ := I2.frzK hd2
  refine iter_keys hs hgd hx hdt (pi_one (tk := s1.toks) I2 _ (turn_keys _ hdt) ⟨_, Heap.get?_push_size _ rfl, rfl, ?_⟩ (q od))
  rw [hsz] <;> rfl
def lwKeysL (le : LE) : LW := fun ρ M P PX => le ρ M (fun x M1 => ∃ n kvs, x = .obj n ∧ M1[n]? = some (.dK kvs) ∧ ∀ t, P (keysD kvs) (fun M => M[n]? = some (.lk t kvs)) (M1.set n (.lk t kvs))) PX
theorem lpi_keysL {X : Cx} {C : Cn} {W : WX} {tg iter : Expr} {te : TE} {le : LE} (h : LPE X C W iter te le) : LPI X C W tg iter (iKeysL te) (lwKeysL le) := ⟨pi_keysL h.pe, fun ρ M P PX g Z σ H α R vs rs wk kt => h.lo.bind g vs rs wk fun v H1 α1 x M1 s1 r1 q1 h1 vs1 wk1 => by
  obtain ⟨n, kvs, rfl, hM, p⟩ := h1
  obtain ⟨a, ea, rfl⟩ := q1
  obtain ⟨ps, eh, kv⟩ := r1.hr.get n a _ ea hM
  have hl := kv.length
  refine ⟨a, ps, rfl, eh, fun od => ?_⟩
  have st0 : Step (C.wz Z) α1 H1 α1 (upd H1 a (.frz od (.dK ps))) := put_step ea
  obtain ⟨r2, s2⟩ := r1.put (o := .frz od (.dK ps)) (mo := .lk (od, ps) kvs) ea ⟨upd_same, KVR.step kv st0⟩ (r1.noT ea hM)
  have hM2 : (M1.set n (.lk (od, ps) kvs))[n]? = some (.lk (od, ps) kvs) := by
    rw [List.getElem?_set_self (List.getElem?_eq_some_iff.mp hM).1]
  exact kt _ _ α1 _ _ _ (s1.trans s2) r2 (fun Z' H'' mv => ItOk.keys (t := (od, ps)) ea hl) hM2 (p (od, ps))⟩
theorem s_wKeysL {le : LE} {ρ : Rho} {M : Mem} {R : List DV → (Mem → Prop) → Mem → Prop} {PX : PXn} (h : le ρ M (fun x M1 => ∃ n kvs, x = .obj n ∧ M1[n]? = some (.dK kvs) ∧ ∀ t, R (keysD kvs) (fun M => M[n]? = some (.lk t kvs)) (M1.set n (.lk t kvs))) PX) : lwKeysL le ρ M R PX := h
end
end L3

/-! steps and small facts that many bodies need -/
namespace L3
open PySem L2
section
variable {ρ : Rho} {M : Mem} {P : PD} {PX : PXn}
theorem s_lcM {lw : LW} {g : LG} {tt : LT} {te : LE} {vs : List Nat} (h : lw ρ M (fun items okM M1 => ∃ I : Nat → List DV → Mem → Prop, I 0 [] M1 ∧ (∀ i acc M, I i acc M → okM M) ∧
  (∀ i x acc M, items[i]? = some x → I i acc M → g x (wipeL ρ vs) M fun ρ2 M2 => tt ρ2 M2 (fun b M3 => if b = true then te ρ2 M3 (fun y M4 => acc.length < sizeLine ∧ DropL M1.length (I (i + 1)) (acc ++ [y]) M4) noX else DropL M1.length (I (i + 1)) acc M3) noX) ∧
  ∀ acc M, I items.length acc M → P (.obj M.length) (M ++ [.lst acc])) PX) : lLcM lw g tt te vs ρ M P PX := h
theorem s_ch {lr lr' : DV → DV → Mem → PD → Prop} {la lb lc : LE} (h : la ρ M (fun x M1 => lb ρ M1 (fun y M2 => lr x y M2 fun z M3 => ∃ k, z = .bl k ∧ (if k = true then lc ρ M3 (fun w M4 => lr' y w M4 P) PX else P (.bl false) M3)) PX) PX) : lChain lr lr' la lb lc ρ M P PX := h
theorem s_chT {lr lr' : DV → DV → Mem → PD → Prop} {la lb lc : LE} {P : Bool → Mem → Prop} (h : la ρ M (fun x M1 => lb ρ M1 (fun y M2 => lr x y M2 fun z M3 => ∃ k, z = .bl k ∧ (if k = true then lc ρ M3 (fun w M4 => lr' y w M4 fun u M5 => ∃ k, u = .bl k ∧ P k M5) PX else (∃ k, DV.bl false = .bl k ∧ P k M3))) PX) PX) : lChainT lr lr' la lb lc ρ M P PX := h
theorem s_ordS {gi : Int → Int → Bool} {gs : List Nat → List Nat → Bool} {a b : Str} {k : Bool} (e : gs a.cps.toList b.cps.toList = k) (h : P (.bl k) M) : vOrdr gi gs (.dat (.str a)) (.dat (.str b)) M P := by
  show P (.bl (gs a.cps.toList b.cps.toList)) M
  rw [e]
  exact h
theorem s_count {a b : Str} (h : P (.int (Txt.count a b)) M) : vCount (.dat (.str a)) [.dat (.str b)] M P := ⟨a, b, rfl, rfl, h⟩
theorem s_find {a b : Str} (h : P (.int (Txt.find a b)) M) : vFind (.dat (.str a)) [.dat (.str b)] M P := ⟨a, b, rfl, rfl, h⟩
theorem s_ends {a b : Str} (h : P (.bl (Txt.endswith a b)) M) : vEnds (.dat (.str a)) [.dat (.str b)] M P := ⟨a, b, rfl, rfl, h⟩
theorem s_split {a b : Str} (h1 : (b.length == 0) = false) (h2 : a.length + 2 ≤ sizeLine) (h : P (.dat (.lst ((Txt.split a b).map D.str))) M) : vSplit (.dat (.str a)) [.dat (.str b)] M P := ⟨a, b, rfl, rfl, h1, h2, h⟩
def wAnyK (R : List DV → (Mem → Prop) → Mem → Prop) (x : DV) (M1 : Mem) : Prop := match x with
  | .dat (.lst ds) => R (ds.map DV.dat) (fun _ => True) M1
  | .dat (.tup ds) => R (ds.map DV.dat) (fun _ => True) M1
  | .dat (.str z) => R (signsD z) (fun _ => True) M1
  | .obj n => ∃ xs, M1[n]? = some (.lst xs) ∧ R xs (fun M => M[n]? = some (.lst xs)) M1
  | _ => False
variable {le : LE} {R : List DV → (Mem → Prop) → Mem → Prop}
theorem s_wAnyG (h : le ρ M (fun x M1 => wAnyK R x M1) PX) : lwAny le ρ M R PX := h
theorem s_wkL {ds : List D} (h : R (ds.map DV.dat) (fun _ => True) M) : wAnyK R (.dat (.lst ds)) M := h
theorem s_wkT {ds : List D} (h : R (ds.map DV.dat) (fun _ => True) M) : wAnyK R (.dat (.tup ds)) M := h
theorem s_wkS {z : Str} (h : R (signsD z) (fun _ => True) M) : wAnyK R (.dat (.str z)) M := h
theorem s_wkO {n : Nat} {xs : List DV} (hM : M[n]? = some (.lst xs)) (h : R xs (fun M => M[n]? = some (.lst xs)) M) : wAnyK R (.obj n) M := ⟨xs, hM, h⟩
end
theorem take_snoc {α : Type} {xs : List α} {j : Nat} {a : α} (h : xs[j]? = some a) : xs.take (j + 1) = xs.take j ++ [a] := by rw [List.take_add_one, h]; rfl
theorem all_snoc {α : Type} {p : α → Prop} {xs : List α} {a : α} (h : ∀ x ∈ xs, p x) (ha : p a) : ∀ x ∈ xs ++ [a], p x := fun x hx => by
  rcases List.mem_append.mp hx with h1 | h1
  · exact h x h1
  · rw [List.mem_singleton.mp h1]; exact ha
theorem sum_le {xs : List Str} {m : Nat} (h : ∀ x ∈ xs, x.length ≤ m) : (xs.map (·.length)).sum ≤ xs.length * m := by
  induction xs with
  | nil => simp
  | cons a xs ih =>
    have h1 := h a List.mem_cons_self
    have h2 := ih fun x hx => h x (List.mem_cons_of_mem _ hx)
    rw [List.map_cons, List.sum_cons, List.length_cons, Nat.add_mul]
    omega
theorem at0 {α : Type} {x : α} {xs : List α} : atI (x :: xs) 0 = some x := atI_nat (j := 0) rfl
theorem cutD_from {β : Type} (xs : List β) (n : Nat) : cutD xs (some (n : Int)) none = xs.drop n := by
  unfold cutD
  rw [HT.sIx_nat, HT.sIx_none]
  by_cases h : n ≤ xs.length
  · rw [Nat.min_eq_left h, List.take_of_length_le (by rw [List.length_drop]; omega)]
  · rw [Nat.min_eq_right (by omega), List.drop_eq_nil_of_le (Nat.le_refl _), List.drop_eq_nil_of_le (by omega)]
    simp
theorem cutD_to {β : Type} (xs : List β) (n : Nat) : cutD xs none (some (n : Int)) = xs.take n := by
  unfold cutD
  rw [HT.sIx_nat, HT.sIx_none, List.drop_zero, Nat.sub_zero]
  by_cases h : n ≤ xs.length
  · rw [Nat.min_eq_left h]
  · rw [Nat.min_eq_right (by omega), List.take_of_length_le (Nat.le_refl _), List.take_of_length_le (by omega)]
theorem join_len (a : Str) : ∀ ys : List Str, (Txt.join a ys).length ≤ (ys.map (·.length)).sum + ys.length * a.length := fun ys => by
  show (PySem.Builtin.Str.glued a ys).length ≤ _
  rw [StrLaws.glued_eq_join]
  exact StrLaws.join_length_le a ys
theorem pickB {p : Str → Bool} {xs : List Str} {i : Int} (h0 : 0 ≤ i) (h1 : i < xs.length) (hx : xs.all p = true) : ∃ x, atI (xs.map D.str) i = some (.str x) ∧ p x = true := by
  obtain ⟨d, h, hm⟩ := atI_ex (xs := xs.map D.str) h0 (by rw [List.length_map]; exact h1)
  obtain ⟨x, hx', rfl⟩ := List.mem_map.mp hm
  exact ⟨x, h, List.all_eq_true.mp hx x hx'⟩
theorem pickI {p : Int → Bool} {xs : List Int} {i : Int} (h0 : 0 ≤ i) (h1 : i < xs.length) (hx : xs.all p = true) : ∃ x, atI (xs.map D.int) i = some (.int x) ∧ p x = true := by
  obtain ⟨d, h, hm⟩ := atI_ex (xs := xs.map D.int) h0 (by rw [List.length_map]; exact h1)
  obtain ⟨x, hx', rfl⟩ := List.mem_map.mp hm
  exact ⟨x, h, List.all_eq_true.mp hx x hx'⟩
end L3

/-! an own exception with two texts, whose __init__ says super().__init__(f"{p}: {q}") -/
namespace L3
open PySem L2 PySem.Spec PyProof.Rows NdefX L2H
structure Ex2 (P : Program) (K : PySem.W.Frag) (mg : Str → Option Value) (st : Stmt) (x qual p q : Str) (Cl f : Addr) (fd : FuncData) : Prop where
  ex : ∃ (oc dV kV doc pm ct : Value) (od an : Option Addr) (osl : Array (Option Value)) (cc c : Addr), fd = PySem.W.fnX "__init__" qual (defArgs st) (defBody st) (defScope st) [(("__class__" : Str), cc)] dV kV doc pm an (.ref c) ct ∧
    K.lookup f = some ⟨oc, od, .func fd, osl⟩ ∧ PySem.W.codeIn K (.ref c) qual = true ∧ SupC P K Cl cc c
  tI : PySem.W.typeIn K (.ref f) = some (.type "function")
  iC : PySem.W.findIn K (.ref Cl) "__init__" = some (some (.ref f))
  hno0 : PySem.W.findIn K (.ref Cl) p = some none
  hno1 : PySem.W.findIn K (.ref Cl) q = some none
  B : Binds K fd ["self", p, q] []
def sp2 (C : Addr) (f g : Str) : Sp := fun vs H Q _ => ∃ (a : Addr) (x y : Str), vs = [.ref a, .str x, .str y] ∧ x.length + y.length ≤ 100000 ∧ H a = some (exo a C none) ∧
  ∀ (dx : Addr) (H2 : Hp), H dx = none → dx ≠ a → H2 = upd (upd H dx (exd dx [(g, .str y), (f, .str x)])) a (exo a C (some dx)) → Q .non H2
def lRaise2 (Cl : Addr) (f g : Str) (la : LA) : LS := fun L ρ M => la ρ M (fun ds M1 => ∃ x y : Str, ds = [.dat (.str x), .dat (.str y)] ∧ x.length + y.length ≤ 100000 ∧ L.ex ⟨Cl, [(g, .str y), (f, .str x)]⟩ ρ M1) (L.px ρ)
section
variable {P : Program} {w : World} {K : PySem.W.Frag} {mg : Str → Option Value} {base : Heap} {st : Stmt} {x qual p q : Str} {Cl f : Addr} {fd : FuncData} {k : Nat} {ar : Arg} {p0 p1 p2 p3 p4 q1 q2 q3 q4 q5 q6 q7 q8 q9 r0 r1 r2 r3 r4 : Pos} {j : Nat}
theorem Ex2.ok (E : Ex2 P K mg st x qual p q Cl f fd) (G : ExC K mg x Cl) (S : NScope ["self", p, q, "__class__"] ["self", p, q] ["__class__"] (defScope st)) (hsup : mg "super" = none) (hks : (defScope st).names.lookup ("super" : Str) = some .globalImplicit)
    (hp : ((defArgs st).posonlyargs ++ (defArgs st).args).head? = some ar) (har : ar.arg = "self") (hd : (p == ("__debug__" : Str)) = false) (hd2 : (p == ("__classdict__" : Str)) = false) (he : (q == ("__debug__" : Str)) = false) (he2 : (q == ("__classdict__" : Str)) = false)
    (hb : defBody st = [.Expr (.Call (.Attribute (.Call (.Name "super" p0) [] [] p1) "__init__" p2) [.JoinedStr [.FormattedValue (.Name p q1) (-1) none r0, .Constant (.str ": ") j r1, .FormattedValue (.Name q r2) (-1) none r3] r4] [] p3) p4, .Assign [.Attribute (.Name "self" q2) p q3] (.Name p q4) q5, .Assign [.Attribute (.Name "self" q6) q q7] (.Name q q8) q9])
    {pl : Env → Sem Bool} (hev : ∀ env : Env, eval (.Call (.Attribute (.Call (.Name "super" p0) [] [] p1) "__init__" p2) [.JoinedStr [.FormattedValue (.Name p q1) (-1) none r0, .Constant (.str ": ") j r1, .FormattedValue (.Name q r2) (-1) none r3] r4] [] p3) env = (do
      let ov ← attributeBase (.Call (.Name "super" p0) [] [] p1) "__init__" env (eval (.Call (.Name "super" p0) [] [] p1) env)
      standAt p2.atName
      let (f, first) ← holding [ov] (getMethod ov "__init__" (pl env))
      callWith p3 f first (backTo p3 (starEach [.JoinedStr [.FormattedValue (.Name p q1) (-1) none r0, .Constant (.str ": ") j r1, .FormattedValue (.Name q r2) (-1) none r3] r4] env)) [])) :
    FnOk P w K mg base CX0 (k + 1) f fd ["self", p, q] (sp2 Cl p q) := by
  obtain ⟨oc, dV, kV, doc, pm, ct, od, an, osl, cc, c, rfl, lk, hcd, SC⟩ := E.ex
  refine fn_super (F := ⟨"__init__", qual, defArgs st, defBody st, defScope st, [(("__class__" : Str), cc)], c⟩) (ps := [p, q]) lk hcd S rfl SC hp har hks hsup G.T hb (fun vs H Q E h => ?_) (fun A outer s H vs Q Ex hr h => ?_) hev (fun _ _ _ => by show ((defScope st).kind == .module && _) = false; rw [S.kind]; rfl) (fun _ _ => rfl) (fun _ => rfl) (fun _ => rfl)
  · obtain ⟨a, x, y, rfl, _⟩ := h
    rfl
  · obtain ⟨a, x, y, rfl, hlog, ea, h⟩ := h
    have szn : (sizeLine : Nat) = 16777216 := sizeLine_eq
    have l0 : (defScope st).names.lookup ("self" : Str) = some .local := S.par _ (by simp)
    have l1 : (defScope st).names.lookup p = some .local := S.par _ (by simp)
    have l2 : (defScope st).names.lookup q = some .local := S.par _ (by simp)
    have e0 : (Str.empty ++ x).length = x.length := by rw [PySem.Str.empty_append]
    have e1 : (Str.empty ++ x ++ (": " : Str)).length = x.length + 2 := by rw [PySem.Str.empty_append, PySem.Str.length_append]; rfl
    have e2 : (Str.empty ++ x ++ (": " : Str) ++ y).length = x.length + 2 + y.length := by rw [PySem.Str.length_append, e1]
    refine ⟨_, _, a, _, rfl, ea, pa_cons (pe_joined (.cons (pe_fmt (pv 1 rfl (.inl l1) hd hd2)) (.cons pe_str (.cons (pe_fmt (pv 2 rfl (.inl l2) he he2)) .nil)))) pa_nil rfl, pss_cons (ps_ost (pv 0 rfl (.inl l0) (by decide) (by decide)) (pv 1 rfl (.inl l1) hd hd2) rfl) (pss_one (ps_ost (pv 0 rfl (.inl l0) (by decide) (by decide)) (pv 2 rfl (.inl l2) he he2) rfl)), ?_⟩
    refine ⟨_, rfl, .inl ⟨x, rfl, by rw [szn]; omega, x, rfl, by rw [e0, szn]; omega, _, rfl, by rw [e1, szn]; omega, _, rfl, .inl ⟨y, rfl, by rw [szn]; omega, y, rfl, by rw [e2, szn]; omega, by show 1 ≤ 1000; decide, ea, ?_⟩⟩⟩
    refine ⟨_, rfl, .ref a, rfl, a, Cl, rfl, G.T, E.hno0, .inl ⟨ea, fun dx nd ne => ?_⟩⟩
    refine ⟨_, rfl, .ref a, rfl, a, Cl, rfl, G.T, E.hno1, .inr ⟨dx, [(p, .str x)], upd_same, by rw [upd_ne ne, upd_same], by show 1 ≤ 900; decide, h dx _ nd ne ?_⟩⟩
    funext b
    by_cases h1 : b = dx
    · subst h1
      rw [upd_same, upd_ne ne, upd_same]
    · rw [upd_ne h1]
      by_cases h2 : b = a
      · subst h2; rw [upd_same, upd_same]
      · rw [upd_ne h2, upd_ne h2, upd_ne h1, upd_ne h1]
end
section
variable {C : Cn} {W : WX} {ta : TA} {la : LA} {Cl : Addr} {f g : Str}
theorem lo_raise2 (ha : LoA C W ta la) : LoS C W (fun _ σ H => tMkO Cl (sp2 Cl f g) [] ta σ H fun cls d H' => W cls d σ H') (lRaise2 Cl f g la) := fun L ρ M h Z D σ H α vs r d =>
  ha.bind h vs r (d.wk vs) fun us H1 α1 ds M1 s1 r1 q1 h1 vs1 wk1 => by
    obtain ⟨x, y, rfl, hlog, p⟩ := h1
    obtain ⟨u, v, rfl, qu, qv⟩ := two_inv q1
    cases qu
    cases qv
    refine ⟨by show 2 ≤ _; decide, fun a na => ⟨a, x, y, rfl, hlog, upd_same, fun dx H2 hdx ne e2 => ?_⟩⟩
    subst e2
    have nd1 : H1 dx = none := by rw [upd_ne ne] at hdx; exact hdx
    refine ⟨rfl, dx, [(g, .str y), (f, .str x)], upd_same, by rw [upd_ne ne, upd_same], nd1, ?_⟩
    have eH : upd (L2.del (upd (upd (upd H1 a (exo a Cl none)) dx (exd dx [(g, .str y), (f, .str x)])) a (exo a Cl (some dx))) a) dx (.xd [(g, .str y), (f, .str x)]) = upd H1 dx (.xd [(g, .str y), (f, .str x)]) := by
      funext b
      by_cases hb : b = dx
      · subst hb; rw [upd_same, upd_same]
      · rw [upd_ne hb, upd_ne hb]
        by_cases hba : b = a
        · subst hba; rw [L2.del_same]; exact na.symm
        · rw [L2.del_ne hba, upd_ne hba, upd_ne hb, upd_ne hba]
    rw [eH]
    obtain ⟨r2, s2⟩ := r1.new1 (o := .xd [(g, .str y), (f, .str x)]) nd1
    refine d.ex _ _ σ _ α1 ρ M1 ⟨Cl, [(g, .str y), (f, .str x)]⟩ (s1.trans s2) (vs1.step s2) r2 ⟨rfl, .inr ⟨dx, _, rfl, upd_same, r1.fresh nd1, ?_⟩⟩ p
    exact .cons ⟨rfl, .str y⟩ (.cons ⟨rfl, .str x⟩ .nil)
end
structure OexM2 (X : Cx) (Cl fI : Addr) (fd : FuncData) (ps : List Str) (f g : Str) (k : Nat) : Prop where
  T : OexC X.K Cl
  iC : PySem.W.findIn X.K (.ref Cl) "__init__" = some (some (.ref fI))
  tI : PySem.W.typeIn X.K (.ref fI) = some (.type "function")
  F : FnOk X.prog X.w X.K X.mg X.base CX0 k fI fd ps (sp2 Cl f g)
  B : Binds X.K fd ps []
section
variable {X : Cx} {C : Cn} {W : WX} {ta : TA} {la : LA} {Cl fI : Addr} {fd : FuncData} {ps : List Str} {f g : Str} {k : Nat} {x : Str} {e : Expr} {es : List Expr} {p pos pos2 : Pos}
theorem lps_raise2 (hc : X.calm = true) (tk : Takes X W) (M : OexM2 X Cl fI fd ps f g k) (hr : Room (k + 1) X.A) (hg : Gl X x) (hm : X.mg x = some (.ref Cl)) (ha : LPA X C W (e :: es) ta la)
    (hdb : (x == ("__debug__" : Str)) = false := by decide) (he : starEach (e :: es) X.env = (false, eval e X.env) :: starEach es X.env := by rfl) (hpl : (backTo pos (starEach es X.env)).any (·.1) = false := by rfl) :
    LPS X C W (.Raise (some (.Call (.Name x p) (e :: es) [] pos)) none pos2) (fun _ σ H => tMkO Cl (sp2 Cl f g) [] ta σ H fun cls d H' => W cls d σ H') (lRaise2 Cl f g la) :=
  ⟨ps_raise hc tk (pmk_oex M.T M.iC M.tI M.F hr M.B .nil pass0 hg hm ha.pa hdb he hpl), lo_raise2 ha.lo⟩
end
section
variable {st : Stmt} {x qual p q : Str} {Cl f : Addr} {fd : FuncData} {ar : Arg} {p0 p1 p2 p3 p4 q1 q2 q3 q4 q5 q6 q7 q8 q9 r0 r1 r2 r3 r4 : Pos} {j : Nat}
theorem Ex2.m {X : Cx} (E : Ex2 X.prog X.K X.mg st x qual p q Cl f fd) (G : ExC X.K X.mg x Cl) (S : NScope ["self", p, q, "__class__"] ["self", p, q] ["__class__"] (defScope st)) (hsup : X.mg "super" = none) (hks : (defScope st).names.lookup ("super" : Str) = some .globalImplicit)
    (hp : ((defArgs st).posonlyargs ++ (defArgs st).args).head? = some ar) (har : ar.arg = "self") (hd : (p == ("__debug__" : Str)) = false) (hd2 : (p == ("__classdict__" : Str)) = false) (he : (q == ("__debug__" : Str)) = false) (he2 : (q == ("__classdict__" : Str)) = false)
    (hb : defBody st = [.Expr (.Call (.Attribute (.Call (.Name "super" p0) [] [] p1) "__init__" p2) [.JoinedStr [.FormattedValue (.Name p q1) (-1) none r0, .Constant (.str ": ") j r1, .FormattedValue (.Name q r2) (-1) none r3] r4] [] p3) p4, .Assign [.Attribute (.Name "self" q2) p q3] (.Name p q4) q5, .Assign [.Attribute (.Name "self" q6) q q7] (.Name q q8) q9])
    {pl : Env → Sem Bool} (hev : ∀ env : Env, eval (.Call (.Attribute (.Call (.Name "super" p0) [] [] p1) "__init__" p2) [.JoinedStr [.FormattedValue (.Name p q1) (-1) none r0, .Constant (.str ": ") j r1, .FormattedValue (.Name q r2) (-1) none r3] r4] [] p3) env = (do
      let ov ← attributeBase (.Call (.Name "super" p0) [] [] p1) "__init__" env (eval (.Call (.Name "super" p0) [] [] p1) env)
      standAt p2.atName
      let (f, first) ← holding [ov] (getMethod ov "__init__" (pl env))
      callWith p3 f first (backTo p3 (starEach [.JoinedStr [.FormattedValue (.Name p q1) (-1) none r0, .Constant (.str ": ") j r1, .FormattedValue (.Name q r2) (-1) none r3] r4] env)) [])) : OexM2 X Cl f fd ["self", p, q] p q 1 :=
  ⟨G.T, E.iC, E.tI, E.ok (k := 0) G S hsup hks hp har hd hd2 he he2 hb hev, E.B⟩
end
section
variable {ρ : Rho} {M : Mem} {L : LEnds}
theorem s_raise2 {Cl : Addr} {f g : Str} {la : LA} (h : la ρ M (fun ds M1 => ∃ x y : Str, ds = [.dat (.str x), .dat (.str y)] ∧ x.length + y.length ≤ 100000 ∧ L.ex ⟨Cl, [(g, .str y), (f, .str x)]⟩ ρ M1) (L.px ρ)) : lRaise2 Cl f g la L ρ M := h
end
end L3

namespace L3
open PySem L2 PySem.Spec PyProof.Rows NdefX L2H
/-! defs called in an except suite that walk a range, and call such defs (with a level) -/
theorem hot_suite {X : Cx} {a : Addr} {oe : Obj} {cls : Value} {d : Option Addr} {pn : List (Addr × Obj)} (hz : Zc cls d oe) (hf : ∃ vs, oe.data = .fields vs) : HotC (X.suite a ((a, oe) :: pn)) := by
  obtain ⟨vs, hd⟩ := hf
  exact ⟨(a, oe), ⟨rfl, vs, hd, hz.2.2 vs hd⟩, List.mem_cons_self⟩
section
variable {P : Program} {w : World} {K : PySem.W.Frag} {mg : Str → Option Value} {base : Heap}
theorem okLH {x qual : Str} {st : Stmt} {f : Addr} {fd : FuncData} {N ps : List Str} {k : Nat} {T : Tb} {lsp : LSp} (F : Fun K x qual st f fd) (S : FnScope N ps (defScope st)) (len : ∀ ds M P PX, lsp ds M P PX → ds.length = ps.length)
    (hbody : ∀ (cdv : Value) (A : Around) (outer : List Env) (s : Shared) (H : Hp) (E : XK) (p : Addr × Obj), HotC (cxH CX0 P w K mg base N qual (defScope st) f cdv A outer s H E p).nox → RoomH k (A.deeper (PyProof.Rows.envOfC qual (defScope st) s.heap.objs.size f cdv)) →
      ∃ ts l, LPSs (cxH CX0 P w K mg base N qual (defScope st) f cdv A outer s H E p).nox ⟨K, T, []⟩ W0 (defBody st) ts l ∧ ∀ ds M Pd PX, lsp ds M Pd PX → l { nx := fun _ M' => DropD M.length Pd .non M', rt := DropD M.length Pd } (startL N ds) M) :
    FnH P w K mg base CX0 (k + 1) f fd ps (low K T lsp) := by
  obtain ⟨oc, od, kV, doc, pm, an, cdv, ct, osl, rfl, lk, hcd⟩ := F.ex
  refine fn_ofH lk hcd S (fun vs H Q E h => ?_) fun A outer s H vs Q E p hot hr h => ?_
  · obtain ⟨Z, α, ds, M, Pd, PX, _, r, h, _⟩ := h
    rw [VRs.length r]
    exact len _ _ _ _ h
  · obtain ⟨Z, α, ds, M, Pd, PX, rs, r, h, kt, _⟩ := h
    obtain ⟨ts, l, hp, hl⟩ := hbody cdv A outer s H E p ⟨p, ⟨hot.1, hot.2⟩, List.mem_singleton.mpr rfl⟩ hr
    exact ⟨ts, hp.ps.nox, hp.lo _ _ _ (hl ds M Pd PX h) Z { nx := fun _ H' => Q .non H', rt := Q } _ H α (start_vs r) rs (ends_top rs.hr.len kt W0 _ fun _ _ _ _ _ _ _ _ _ _ _ _ h => h)⟩
theorem FnH_mono {j k : Nat} {f : Addr} {fd : FuncData} {ps : List Str} {sp : Sp} (F : FnH P w K mg base CX0 j f fd ps sp) (h : j ≤ k) : FnH P w K mg base CX0 k f fd ps sp := ⟨F.len, fun A outer s H args us vs Q E p hr => F.run A outer s H args us vs Q E p (hr.mono h)⟩
theorem okh_false {k : Nat} {f : Addr} {fd : FuncData} {ps : List Str} {T : Tb} : FnH P w K mg base CX0 k f fd ps (low K T fun _ _ _ _ => False) := ⟨fun _ _ _ _ ⟨_, _, _, _, _, _, _, _, h, _⟩ => h.elim, fun _ _ _ _ _ _ _ _ _ _ _ _ _ _ _ _ ⟨_, _, _, _, _, _, _, _, h, _⟩ => h.elim⟩
end
section
variable {X : Cx} {C : Cn} {W : WX} {k : Nat} {f : Addr} {fd : FuncData} {ps : List Str} {lsp : LSp} {x : Str} {q pos pos2 : Pos} {e tg : Expr} {es : List Expr} {t : TA} {la : LA} {g : TG} {lg : LG} {tb : TS} {lb : LS} {body : List Stmt}
theorem lo_rng1 (h : LoA C W t la) : LoW C W (iRng1 t) (lwRng1 la) := fun ρ M P PX g Z σ H α R vs rs wk kt => h.bind g vs rs wk fun v H1 α1 x M1 s1 r1 q1 h1 vs1 wk1 => by
  obtain ⟨j, rfl, h2, h3, p⟩ := h1
  obtain ⟨v0, rfl, q0⟩ : ∃ v0, v = [v0] ∧ VR (C.wz Z) α1 H1 v0 (.int j) := by
    cases q1 with
    | cons a t => cases t; exact ⟨_, rfl, a⟩
  cases q0
  exact ⟨j, rfl, h2, h3, kt _ H1 α1 _ _ M1 s1 r1 (fun Z' H'' m => ItOk.range 0 j.toNat) trivial p⟩
theorem lo_callS (ha : LoA C W t la) : LoE C W (tCallS (low C.K C.T lsp) (fun _ => E0) t) (lCall lsp la) := fun ρ M P PX h Z σ H α Q vs rs kt wk =>
  ha.bind h vs rs wk fun us H1 α1 ds M1 s1 r1 q1 h1 vs1 wk1 => call_low (C := C.wz Z) h1 r1 q1 (kt.step s1) fun _ _ _ _ _ _ _ _ _ h => h.elim
theorem lp_callH_k0 (F : FnH X.prog X.w X.K X.mg X.base CX0 k f fd ps (low X.K C.T lsp)) (hK : X.K = C.K) (hr : RoomH k X.A) (hc : HotC X) (hg : Gl X x) (hm : X.mg x = some (.ref f)) (hk : PySem.W.keepIn X.K (.ref f) = true) (hb : Binds X.K fd ps [])
    (ha : LPA X C W (e :: es) t la) (hdb : (x == ("__debug__" : Str)) = false := by decide) (he : starEach (e :: es) X.env = (false, eval e X.env) :: starEach es X.env := by rfl) (hpl : (backTo pos (starEach es X.env)).any (·.1) = false := by rfl) :
    LPE X C W (.Call (.Name x q) (e :: es) [] pos) (tCallS (low X.K C.T lsp) (fun _ => E0) t) (lCall lsp la) := ⟨pe_callH F hr hc hg hm hk hb (fun σ pins H s e s2 I c => pass0 pins σ H s e s2 I c) ha.pa hdb he hpl, by rw [hK]; exact lo_callS ha.lo⟩
theorem lp_callH (F : FnH X.prog X.w X.K X.mg X.base CX0 k f fd ps (low X.K C.T lsp)) (hK : X.K = C.K) (hr : RoomH k X.A) (hc : HotC X) (hg : Gl X x) (hm : X.mg x = some (.ref f)) (hk : PySem.W.keepIn X.K (.ref f) = true) (hb : Binds X.K fd ps [])
    (ha : LPA X C W (e :: es) t la) (hdb : (x == ("__debug__" : Str)) = false := by decide) (he : starEach (e :: es) X.env = (false, eval e X.env) :: starEach es X.env := by rfl) (hpl : (backTo pos (starEach es X.env)).any (·.1) = false := by rfl) :
    LPE X C W (.Call (.Name x q) (e :: es) [] pos) (tCallS (low C.K C.T lsp) (fun _ => E0) t) (lCall lsp la) := by
  rw [← hK]
  apply lp_callH_k0 <;> assumption
theorem lps_forR (hp : PassesOwn (model X.prog X.w) X.A X.env X.xe) (hc : HotC X) (h : LPA X C W [e] t la) (hg : Gl X "range") (hm : X.mg "range" = none) (ht : LPG X C tg g lg) (hb : LPSs X C W body tb lb)
    (hs : starEach [e] X.env = [(false, eval e X.env)] := by rfl) (hfs : ∀ x, foldedSetIterable (.Call (.Name "range" q) [e] [] pos) X.env x = pure x := by intro _; rfl) : LPS X C W (.For tg (.Call (.Name "range" q) [e] [] pos) body [] pos2) (tFor (iRng1 t) g tb) (lFor (lwRng1 la) lg lb) :=
  ⟨ps_forH hp hc (pi_range1H hg hm h.pa hs) ht.pg hb.ps hfs, lo_for (lo_rng1 h.lo) ht.lo hb.lo⟩
end
end L3

namespace L3
open PySem L2
/-! count of texts in a list, known or not; sorted texts -/
def vCntA : DV → List DV → Mem → PD → Prop := fun x xs M P => ∃ (l : List Str) (k : Str), xs = [.str k] ∧ LV M x (l.map D.str) ∧ P (.int ((l.count k : Nat) : Int)) M
theorem lm_cntA {C : Cn} : LoM C (rCntF C.K) vCntA := fun x xs M P ⟨l, k, e2, hx, p⟩ Z α H v vs Q r q qs kk => by
  subst e2
  obtain ⟨w, rfl, qw⟩ := one_inv qs
  cases qw
  obtain ⟨a, zs, rfl, hs, hd⟩ := hx.seq r q
  have e := VDs.of_str hd
  subst e
  refine ⟨a, l.map V.str, .str k, rfl, rfl, hs, rfl, by rw [List.all_map, List.all_eq_true]; exact fun _ _ => rfl, ?_⟩
  rw [count_strs]
  exact kk.now (d := .int _) r (.int _) p
theorem s_cntA {x : DV} {l : List Str} {k : Str} {M : Mem} {P : PD} (hx : LV M x (l.map D.str)) (h : P (.int ((l.count k : Nat) : Int)) M) : vCntA x [.dat (.str k)] M P := ⟨l, k, rfl, hx, h⟩
def strLe (a b : Str) : Prop := ¬ b.cps.toList < a.cps.toList
theorem sortStr_le {a b : Str} (h : PySem.W.dataLe false (fun s : Str => pyD (.str s)) a b = true) : strLe a b := by
  have h : (!PySem.W.dataLt (.str b) (.str a)) = true := h
  rw [PySem.W.dataLt_str] at h
  simp only [Bool.not_eq_true', decide_eq_false_iff_not] at h
  exact h
theorem sortStr (l : List Str) : ∃ g : List Str, (l.map D.str).mergeSort (PySem.W.dataLe false pyD) = g.map D.str ∧ g.Perm l ∧ g.Pairwise strLe := by
  refine ⟨l.mergeSort (PySem.W.dataLe false fun s => pyD (.str s)), ?_, List.mergeSort_perm _ _, ?_⟩
  · exact (List.map_mergeSort (r := PySem.W.dataLe false fun s : Str => pyD (.str s)) (s := PySem.W.dataLe false pyD) (f := D.str) (l := l) (fun a _ b _ => rfl)).symm
  · exact List.Pairwise.imp (fun {a b} h => sortStr_le h) (PySem.W.sort_pairwise (le := PySem.W.dataLe false fun s : Str => pyD (.str s)) (PySem.W.sortLe_total _ _ _) l)
theorem s_sortStr {l : List Str} {M : Mem} {P : PD} (h : ∀ g : List Str, g.Perm l → g.Pairwise strLe → P (.dat (.lst (g.map D.str))) M) : vSortAJ [.dat (.lst (l.map D.str))] M P := by
  obtain ⟨g, e, hp, hw⟩ := sortStr l
  refine .inl (.inl (s_sortL (by rw [List.all_map, List.all_eq_true]; exact fun _ _ => rfl) ?_ ?_ (fun d hd => ?_) (by rw [e]; exact h g hp hw)))
  · rw [List.map_map]
    exact PySem.W.AllAlike.of fun a b => by simp [pyD, PySem.W.alike]
  · rw [List.map_map]
    exact PySem.W.Sortable.others fun a => ⟨(fun z => by cases z), fun xs z => by cases z⟩
  · obtain ⟨e, _, rfl⟩ := List.mem_map.mp hd
    simp [pyD, PyData.depth]
end L3

namespace L3
open PySem L2 PySem.Spec PyProof.Rows CwR
/-! a def's spine that gives out a token: e.replace('a', 'b') of written texts -/
structure LPET (X : Cx) (C : Cn) (W : WX) (e : Expr) (te : TE) (l : LE) : Prop where
  pe : PET X e te
  lo : LoE C W te l
structure LPAT (X : Cx) (C : Cn) (W : WX) (es : List Expr) (te : TA) (l : LA) : Prop where
  pa : PAT X es te
  lo : LoA C W te l
structure LPST (X : Cx) (C : Cn) (W : WX) (st : Stmt) (ts : TS) (l : LS) : Prop where
  ps : PST X st ts
  lo : LoS C W ts l
structure LPSsT (X : Cx) (C : Cn) (W : WX) (st : List Stmt) (ts : TS) (l : LS) : Prop where
  ps : PSsT X st ts
  lo : LoS C W ts l
def lReplC (lo : LE) (y z : Str) : LE := fun ρ M P PX => lo ρ M (fun v M1 => ∃ x : Str, v = .dat (.str x) ∧ x.length + (x.length + 1) * z.length ≤ 16777216 ∧ P (.dat (.str (Txt.replace x y z))) M1) PX
section
variable {X : Cx} {C : Cn} {W : WX} {e iter tg : Expr} {es : List Expr} {te : TE} {ta : TA} {le : LE} {la : LA} {st : Stmt} {rest body : List Stmt} {t u tb : TS} {l m lb : LS} {g : TG} {lg : LG} {pos apos c0 c1 : Pos} {y z : Str} {j k : Nat}
theorem lpet_of (h : LPE X C W e te le) : LPET X C W e te le := ⟨PET.of h.pe, h.lo⟩
theorem lpst_of (h : LPS X C W st t l) : LPST X C W st t l := ⟨PST.of h.ps, h.lo⟩
theorem lpsst_one (h : LPST X C W st t l) : LPSsT X C W [st] t l := ⟨psst_one h.ps, h.lo⟩
theorem lpsst_cons (h1 : LPST X C W st t l) (h2 : LPSsT X C W rest u m) : LPSsT X C W (st :: rest) (tSeq t u) (lSeq l m) := ⟨psst_cons h1.ps h2.ps, lo_seq h1.lo h2.lo⟩
theorem lpat_nil : LPAT X C W [] tNil lNil := ⟨pat_nil, (lpa_nil (X := X)).lo⟩
theorem lpat_cons (h : LPET X C W e te le) (hr : LPAT X C W es ta la) (hs : starEach (e :: es) X.env = (false, eval e X.env) :: starEach es X.env := by rfl) : LPAT X C W (e :: es) (tCons te ta) (lCons le la) := ⟨pat_cons h.pe hr.pa hs, lo_cons h.lo hr.lo⟩
theorem lo_lst (h : LoA C W ta la) : LoE C W (tLst ta) (lLst la) := fun ρ M P PX g Z σ H α Q vs rs k wk =>
  h.bind g vs rs wk fun us H1 α1 xs M1 s1 r1 q1 h1 vs1 wk1 => by
    obtain ⟨ds, rfl, hz, p⟩ := h1
    have q := VRs.data q1
    refine ⟨by rw [q.length]; exact hz, fun p0 hp => ?_⟩
    obtain ⟨r2, s2⟩ := r1.new1 (o := .lst us) hp
    exact k _ _ α1 (.dat (.lst ds)) M1 (s1.trans s2) r2 (.lst (.inl ⟨.inl upd_same, r1.fresh hp⟩) (q.mv s2.mv)) p
theorem lpet_lst (h : LPAT X C W es ta la) : LPET X C W (.List es pos) (tLst ta) (lLst la) := ⟨pet_lst h.pa, lo_lst h.lo⟩
theorem lo_replC (h : LoE C W te le) : LoE C W (tReplC te y z) (lReplC le y z) := fun ρ M P PX g Z σ H α Q vs r kt wk =>
  h.bind g vs r wk fun v H1 α1 x M1 s1 r1 q1 h1 vs1 wk1 => by
    obtain ⟨x0, rfl, hl, p⟩ := h1
    cases q1
    exact ⟨x0, rfl, hl, kt _ H1 α1 (.dat (.str _)) M1 s1 r1 (.str _) p⟩
theorem lpet_replC (ho : LPE X C W e te le) (hyz : (y == z) = false := by decide)
    (hst : starEach [.Constant (.str y) j c0, .Constant (.str z) k c1] X.env = [(false, eval (.Constant (.str y) j c0) X.env), (false, eval (.Constant (.str z) k c1) X.env)] := by rfl)
    (hbase : attributeBase e "replace" X.env (eval e X.env) = eval e X.env := by rfl) (hline : (apos.endLine == pos.line) = true := by rfl) :
    LPET X C W (.Call (.Attribute e "replace" apos) [.Constant (.str y) j c0, .Constant (.str z) k c1] [] pos) (tReplC te y z) (lReplC le y z) := ⟨pet_replC ho.pe hyz hst hbase hline, lo_replC ho.lo⟩
theorem lo_wseq (h : LoE C W te le) : LoW C W (iList C.K te) (lwSeq le) := fun ρ M P PX g Z σ H α R vs rs wk kt => h.bind g vs rs wk fun v H1 α1 x M1 s1 r1 q1 h1 vs1 wk1 => by
  obtain ⟨ds, rfl, p⟩ := h1
  obtain ⟨a, xs, rfl, hs, hd⟩ := VD.lst_inv q1
  exact ⟨a, rfl, ⟨xs, hs.sq⟩, kt _ H1 α1 _ _ M1 s1 r1 (fun Z' H'' m => ItOk.list (C := C.wz Z') (m.sl hs) (hd.mv m)) trivial p⟩
theorem lpst_forL_k0 (hp : PassesOwn (model X.prog X.w) X.A X.env X.xe) (hc : X.calm = true) (hK : X.K = C.K) (h : LPET X C W iter te le) (hg : LPG X C tg g lg) (hb : LPSs X C W body tb lb)
    (hs : ∀ x, foldedSetIterable iter X.env x = pure x := by intro _; rfl) : LPST X C W (.For tg iter body [] pos) (tFor (iList X.K te) g tb) (lFor (lwSeq le) lg lb) := ⟨pst_for hp hc (pit_list h.pe) hg.pg hb.ps hs, by rw [hK]; exact lo_for (lo_wseq h.lo) hg.lo hb.lo⟩
theorem lpst_forL (hp : PassesOwn (model X.prog X.w) X.A X.env X.xe) (hc : X.calm = true) (hK : X.K = C.K) (h : LPET X C W iter te le) (hg : LPG X C tg g lg) (hb : LPSs X C W body tb lb)
    (hs : ∀ x, foldedSetIterable iter X.env x = pure x := by intro _; rfl) : LPST X C W (.For tg iter body [] pos) (tFor (iList C.K te) g tb) (lFor (lwSeq le) lg lb) := by
  rw [← hK]
  apply lpst_forL_k0 <;> assumption
end
section
variable {P : Program} {w : World} {K : PySem.W.Frag} {mg : Str → Option Value} {base : Heap}
theorem okLT {x qual : Str} {st : Stmt} {f : Addr} {fd : FuncData} {N ps : List Str} {k : Nat} {T : Tb} {lsp : LSp} (F : Fun K x qual st f fd) (S : FnScope N ps (defScope st)) (hnc : ∀ y ∈ (defScope st).names, y.2 ≠ .cell) (hps : 1 ≤ ps.length) (len : ∀ ds M P PX, lsp ds M P PX → ds.length = ps.length)
    (hbody : ∀ (cdv : Value) (A : Around) (outer : List Env) (s : Shared) (H : Hp) (E : XK), Room k (A.deeper (PyProof.Rows.envOfC qual (defScope st) s.heap.objs.size f cdv)) →
      ∃ ts l, LPSsT (cxOf CX0 P w K mg base N qual (defScope st) f cdv A outer s H E) ⟨K, T, []⟩ W0 (defBody st) ts l ∧ ∀ ds M Pd PX, lsp ds M Pd PX → l { nx := fun _ M' => DropD M.length Pd .non M', rt := DropD M.length Pd } (startL N ds) M) :
    FnOk P w K mg base CX0 (k + 1) f fd ps (low K T lsp) := by
  obtain ⟨oc, od, kV, doc, pm, an, cdv, ct, osl, rfl, lk, hcd⟩ := F.ex
  refine fn_ofT lk hcd S hnc hps (fun vs H Q E h => ?_) (fun A outer s H vs Q E hr h => ?_)
  · obtain ⟨Z, α, ds, M, Pd, PX, _, r, h, _⟩ := h
    rw [VRs.length r]
    exact len _ _ _ _ h
  · obtain ⟨Z, α, ds, M, Pd, PX, rs, r, h, kt, _⟩ := h
    obtain ⟨ts, l, hp, hl⟩ := hbody cdv A outer s H E hr
    exact ⟨ts, hp.ps, hp.lo _ _ _ (hl ds M Pd PX h) Z _ _ H α (start_vs r) rs (ends_top rs.hr.len kt W0 _ fun _ _ _ _ _ _ _ _ _ _ _ _ h => h)⟩
end
section
variable {ρ : Rho} {M : Mem} {P : PD} {PX : PXn} {C : Cn}
theorem s_replC {lo : LE} {y z : Str} (h : lo ρ M (fun v M1 => ∃ x : Str, v = .dat (.str x) ∧ x.length + (x.length + 1) * z.length ≤ 16777216 ∧ P (.dat (.str (Txt.replace x y z))) M1) PX) : lReplC lo y z ρ M P PX := h
theorem s_wSeq {le : LE} {R : List DV → (Mem → Prop) → Mem → Prop} (h : le ρ M (fun x M1 => ∃ ds, x = .dat (.lst ds) ∧ R (ds.map DV.dat) (fun _ => True) M1) PX) : lwSeq le ρ M R PX := h
/-- x.index(a sign) -/
def vSIndex : DV → List DV → Mem → PD → Prop := fun x xs M P => ∃ (a b : Str) (i : Nat) (r : List Nat), x = .dat (.str a) ∧ xs = [.str b] ∧ PySem.Builtin.Str.occurrences a b 0 a.length 1 = i :: r ∧ P (.int (i : Nat)) M
theorem lm_sindex : LoM C (fun x xs H Q => ∃ a b i rest, x = .str a ∧ xs = [.str b] ∧ PySem.Builtin.Str.occurrences a b 0 a.length 1 = i :: rest ∧ Q (.int (i : Nat)) H) vSIndex := fun x xs M P ⟨a, b, i, r0, e1, e2, ho, p⟩ Z α H v vs Q r q qs k => by
  subst e1 e2
  obtain ⟨w, rfl, qw⟩ := one_inv qs
  cases q
  cases qw
  exact ⟨a, b, i, r0, rfl, rfl, ho, k.now (d := .int _) r (.int _) p⟩
theorem s_sindex {a : Str} {c : Nat} (h : c ∈ a.cps.toList) (p : ∀ i : Nat, a.cps.toList[i]? = some c → a.cps.toList.take i = headC c a.cps.toList → P (.dat (.int (i : Nat))) M) : vSIndex (.dat (.str a)) [.dat (.str (S [c]))] M P := by
  rcases occ1 a c 1 (Nat.le_refl _) with ⟨_, hn⟩ | ⟨j, r, ho, hm, ht, hj⟩
  · exact absurd h hn
  · exact ⟨a, S [c], j, r, rfl, rfl, ho, p j hj ht⟩
/-- min(i, j) -/
def vMin2 : List DV → Mem → PD → Prop := fun xs M P => ∃ i j, xs = [.int i, .int j] ∧ P (.int (if j < i then j else i)) M
theorem ll_min2 : LoL C (fun xs H Q => ∃ i j, xs = [.int i, .int j] ∧ Q (.int (if j < i then j else i)) H) vMin2 := fun xs M P ⟨i, j, e, p⟩ Z α H vs Q r q k => by
  subst e
  obtain ⟨v, w, rfl, q1, q2⟩ : ∃ v w, vs = [v, w] ∧ VR (C.wz Z) α H v (.int i) ∧ VR (C.wz Z) α H w (.int j) := by
    cases q with
    | cons a t => cases t with
      | cons b t => cases t; exact ⟨_, _, rfl, a, b⟩
  cases q1; cases q2
  exact ⟨i, j, rfl, k.now (d := .int _) r (.int _) p⟩
theorem s_min2 {i j : Int} (h : P (.int (if j < i then j else i)) M) : vMin2 [.dat (.int i), .dat (.int j)] M P := ⟨i, j, rfl, h⟩
end
/-! a, b = f(..), where f returns a list -/
section
variable {X : Cx} {C : Cn} {W : WX} {es : List Expr} {gs : TGs} {lgs : LGs} {pos : Pos}
def lgTupL (n : Nat) (t : LGs) : LG := fun v ρ M P => ∃ ds : List D, v = .dat (.lst ds) ∧ ds.length = n ∧ t (ds.map DV.dat) ρ M P
theorem lpg_tupL_k0 {k : Nat} {n : Nat} (hc : X.calm = true) (hK : X.K = C.K) (h : LPGs X C es gs lgs) (hn : (assignEach es X.env).length = n := by rfl) (hst : (assignEach es X.env).findIdx? (·.1) = none := by rfl) : LPG X C (.Tuple es k pos) (gLst X.K n gs) (lgTupL n lgs) :=
  ⟨pg_lst hc h.pg hn hst, fun x ρ M P g v Z σ H α Q q vs r kk => by
    obtain ⟨ds, rfl, hl, g⟩ := g
    obtain ⟨a, xs, rfl, hs, hd⟩ := VD.lst_inv q
    exact ⟨a, xs, rfl, by rw [hK]; exact hs.sq, by rw [hd.length]; exact hl, h.lo _ ρ M P g xs _ σ H α Q hd.rs vs r kk⟩⟩
theorem lpg_tupL {k : Nat} {n : Nat} (hc : X.calm = true) (hK : X.K = C.K) (h : LPGs X C es gs lgs) (hn : (assignEach es X.env).length = n := by rfl) (hst : (assignEach es X.env).findIdx? (·.1) = none := by rfl) : LPG X C (.Tuple es k pos) (gLst C.K n gs) (lgTupL n lgs) := by
  rw [← hK]
  apply lpg_tupL_k0 <;> assumption
theorem s_gTupL {n : Nat} {t : LGs} {ds : List D} {ρ : Rho} {M : Mem} {P : Rho → Mem → Prop} (hl : ds.length = n) (h : t (ds.map DV.dat) ρ M P) : lgTupL n t (.dat (.lst ds)) ρ M P := ⟨ds, rfl, hl, h⟩
end
end L3

namespace K34
open PySem L2 L3
def topS (i : Nat) : Stmt := PySem.Challenge.pw_truemill_k34_whole_links.main.body.getD i (.Pass ⟨0, 0, 0, 0⟩)
abbrev s_is_number : Stmt := topS 7
abbrev N_is_number : List Str := ["text", "letter"]
theorem sc_is_number : FnScope N_is_number ["text"] (defScope s_is_number) := ⟨rfl, rfl, rfl, by decide +kernel, rfl, by decide +kernel, by decide +kernel⟩
abbrev s_Link_init : Stmt := inClass (topS 8) 0
abbrev N_Link_init : List Str := ["self", "me", "other"]
theorem sc_Link_init : FnScope N_Link_init ["self", "me", "other"] (defScope s_Link_init) := ⟨rfl, rfl, rfl, by decide +kernel, rfl, by decide +kernel, by decide +kernel⟩
abbrev s_Link_packet : Stmt := inClass (topS 8) 1
abbrev N_Link_packet : List Str := ["self", "number", "body"]
theorem sc_Link_packet : FnScope N_Link_packet ["self", "number", "body"] (defScope s_Link_packet) := ⟨rfl, rfl, rfl, by decide +kernel, rfl, by decide +kernel, by decide +kernel⟩
abbrev s_Link_can_send : Stmt := inClass (topS 8) 2
abbrev N_Link_can_send : List Str := ["self"]
theorem sc_Link_can_send : FnScope N_Link_can_send ["self"] (defScope s_Link_can_send) := ⟨rfl, rfl, rfl, by decide +kernel, rfl, by decide +kernel, by decide +kernel⟩
abbrev s_Link_send : Stmt := inClass (topS 8) 3
abbrev N_Link_send : List Str := ["self", "body"]
theorem sc_Link_send : FnScope N_Link_send ["self", "body"] (defScope s_Link_send) := ⟨rfl, rfl, rfl, by decide +kernel, rfl, by decide +kernel, by decide +kernel⟩
abbrev s_Link_acknowledged : Stmt := inClass (topS 8) 4
abbrev N_Link_acknowledged : List Str := ["self"]
theorem sc_Link_acknowledged : FnScope N_Link_acknowledged ["self"] (defScope s_Link_acknowledged) := ⟨rfl, rfl, rfl, by decide +kernel, rfl, by decide +kernel, by decide +kernel⟩
abbrev s_Link_again : Stmt := inClass (topS 8) 5
abbrev N_Link_again : List Str := ["self", "first", "at", "body"]
theorem sc_Link_again : FnScope N_Link_again ["self"] (defScope s_Link_again) := ⟨rfl, rfl, rfl, by decide +kernel, rfl, by decide +kernel, by decide +kernel⟩
abbrev s_Link_word : Stmt := inClass (topS 8) 6
abbrev N_Link_word : List Str := ["self"]
theorem sc_Link_word : FnScope N_Link_word ["self"] (defScope s_Link_word) := ⟨rfl, rfl, rfl, by decide +kernel, rfl, by decide +kernel, by decide +kernel⟩
abbrev s_Link_state : Stmt := inClass (topS 8) 7
abbrev N_Link_state : List Str := ["self"]
theorem sc_Link_state : FnScope N_Link_state ["self"] (defScope s_Link_state) := ⟨rfl, rfl, rfl, by decide +kernel, rfl, by decide +kernel, by decide +kernel⟩
abbrev s_Link_take : Stmt := inClass (topS 8) 8
abbrev N_Link_take : List Str := ["self", "packet", "head", "newline", "body", "words", "number"]
theorem sc_Link_take : FnScope N_Link_take ["self", "packet"] (defScope s_Link_take) := ⟨rfl, rfl, rfl, by decide +kernel, rfl, by decide +kernel, by decide +kernel⟩
abbrev s_x_next : Stmt := topS 10
abbrev N_x_next : List Str := ["_law_state", "_law_script", "_law_many", "_law_answer", "_law_cell"]
theorem sc_x_next : FnScope N_x_next ["_law_state", "_law_script", "_law_many"] (defScope s_x_next) := ⟨rfl, rfl, rfl, by decide +kernel, rfl, by decide +kernel, by decide +kernel⟩
abbrev s_x_same : Stmt := topS 11
abbrev N_x_same : List Str := ["_law_actual", "_law_due", "_law_k"]
theorem sc_x_same : FnScope N_x_same ["_law_actual", "_law_due"] (defScope s_x_same) := ⟨rfl, rfl, rfl, by decide +kernel, rfl, by decide +kernel, by decide +kernel⟩
abbrev s_x_char : Stmt := topS 12
abbrev N_x_char : List Str := ["_law_number", "_law_chars"]
theorem sc_x_char : FnScope N_x_char ["_law_number"] (defScope s_x_char) := ⟨rfl, rfl, rfl, by decide +kernel, rfl, by decide +kernel, by decide +kernel⟩
abbrev s_x_words : Stmt := topS 13
abbrev N_x_words : List Str := ["_law_state", "_law_script", "_law_text", "_law_k", "_law_choice"]
theorem sc_x_words : FnScope N_x_words ["_law_state", "_law_script"] (defScope s_x_words) := ⟨rfl, rfl, rfl, by decide +kernel, rfl, by decide +kernel, by decide +kernel⟩
abbrev s_x_give : Stmt := topS 14
abbrev N_x_give : List Str := ["_law_link", "_law_packet", "_law_took", "_law_number", "_law_due", "_law_news", "_law_body"]
theorem sc_x_give : FnScope N_x_give ["_law_link", "_law_packet", "_law_took"] (defScope s_x_give) := ⟨rfl, rfl, rfl, by decide +kernel, rfl, by decide +kernel, by decide +kernel⟩
abbrev s_x_odd : Stmt := topS 15
abbrev N_x_odd : List Str := ["_law_link", "_law_packet", "_law_kept", "_law_odd_here"]
theorem sc_x_odd : FnScope N_x_odd ["_law_link", "_law_packet"] (defScope s_x_odd) := ⟨rfl, rfl, rfl, by decide +kernel, rfl, by decide +kernel, by decide +kernel⟩
abbrev s_x_send : Stmt := topS 16
abbrev N_x_send : List Str := ["_law_link", "_law_body", "_law_full", "_law_packet"]
theorem sc_x_send : FnScope N_x_send ["_law_link", "_law_body"] (defScope s_x_send) := ⟨rfl, rfl, rfl, by decide +kernel, rfl, by decide +kernel, by decide +kernel⟩
abbrev s_x_passed : Stmt := topS 17
abbrev N_x_passed : List Str := ["_law_ends", "_law_sent", "_law_took", "_law_rounds", "_law_turn", "_law_k", "_law_fine", "_law_packet", "_law_one"]
theorem sc_x_passed : FnScope N_x_passed ["_law_ends", "_law_sent", "_law_took", "_law_rounds"] (defScope s_x_passed) := ⟨rfl, rfl, rfl, by decide +kernel, rfl, by decide +kernel, by decide +kernel⟩
abbrev s_law : Stmt := topS 18
abbrev N_law : List Str := ["_law_script", "_law_state", "_law_ends", "_law_sent", "_law_took", "_law_bags", "_law_turn", "_law_k", "_law_choice", "_law_body", "_law_fine", "_law_packet", "_law_j"]
theorem sc_law : FnScope N_law ["_law_script"] (defScope s_law) := ⟨rfl, rfl, rfl, by decide +kernel, rfl, by decide +kernel, by decide +kernel⟩
structure Adr where
  Link : Addr
  NoCredit : Addr

def sp_x_next (A : Adr) : LSp := spDraw nextPre nextS
def sp_x_same (A : Adr) (n : Nat) : LSp := spSame n
def spF (R : List D → D → Prop) : LSp := fun ds M P PX => ∃ (as : List D) (r : D), ds = as.map DV.dat ∧ M = [] ∧ R as r ∧ P (.dat r) []
theorem call_F {R : List D → D → Prop} {xs : List DV} {as : List D} {r : D} {M : Mem} {P : PD} {PX : PXn} (hd : Dats xs as) (hr : R as r) (k : P (.dat r) M) : CallAt (spF R) xs M P PX := by
  refine .inr ⟨[], as.map DV.dat, [], List.nodup_nil, by simp [okDV], ?_, rfl, rfl, as, r, rfl, rfl, hr, ?_⟩
  · rw [hd.eq, List.map_map]; exact List.map_congr_left fun e _ => rfl
  · show P (.dat r) (merge [] M [])
    rw [merge_nil]
    exact k
theorem fin0 {P : PD} {d : D} {M : Mem} (h : P (.dat d) []) : DropD 0 P (.dat d) M := .inr ⟨0, Nat.le_refl _, rfl, rfl, h⟩
def noArgs (as : List D) : Prop := as = []
abbrev C95 : Str := (" !\"#$&'()*+,-./0123456789:;<=>?@ABCDEFGHIJKLMNOPQRSTUVWXYZ[\\]^_`" : Str) ++ ("abcdefghijklmnopqrstuvwxyz{|}~\n" : Str)
def okS (m : Nat) (_ : List D) (d : D) : Prop := ∃ x : Str, d = .str x ∧ x.length ≤ m ∧ PyData.strOk x = true
def sp_x_char (A : Adr) : LSp := spF fun as d => ∃ (i : Int) (c : Nat), as = [.int i] ∧ atI C95.cps.toList i = some c ∧ d = .str (S [c])
def sp_x_words (A : Adr) : LSp := spDraw noArgs (okS 24)
def okT (x : Str) : Prop := x.length ≤ 20000
def one (R : Str → D → Prop) : LSp := spF fun as d => ∃ a : Str, okT a ∧ as = [.str a] ∧ R a d
abbrev DIG : Str := "0123456789"
def isD (c : Nat) : Bool := decide (c ∈ DIG.cps.toList)
/-- a number from 0 to 9999 without leading zeros -/
def numOk (x : Str) : Bool := (decide (1 ≤ x.length) && decide (x.length ≤ 4)) && (x.cps.toList.all isD && (decide (x = ("0" : Str)) || decide (x.cps.toList.head? ≠ some 48)))
def nv (x : Str) : Int := (NumText.digitsVal x.cps.toList : Nat)
def sp_is_number (A : Adr) : LSp := one fun x d => d = .bl (numOk x)
def packF (me other : Str) (n a : Int) (b : Str) : Str := me ++ (" " : Str) ++ other ++ (" " : Str) ++ (toString n : Str) ++ (" " : Str) ++ (toString a : Str) ++ ("\n" : Str) ++ b
structure PackOk (me other : Str) (n a : Int) (b : Str) : Prop where
  m : me.length ≤ 100
  o : other.length ≤ 100
  n0 : 0 ≤ n
  n1 : n ≤ 100000
  a0 : 0 ≤ a
  a1 : a ≤ 100000
  b : b.length ≤ 10000
/-- one end -/
structure Lk where
  me : Str
  other : Str
  bs : List Str
  snt : Int
  tkn : Int
abbrev lkO (A : Adr) (s : Lk) (n : Nat) : MO := .ins A.Link [("me", .dat (.str s.me)), ("other", .dat (.str s.other)), ("bodies", .obj n), ("sent", .dat (.int s.snt)), ("taken", .dat (.int s.tkn))]
abbrev strsO (bs : List Str) : MO := .lst ((bs.map D.str).map DV.dat)
structure LkOk (s : Lk) : Prop where
  m : s.me.length ≤ 100
  o : s.other.length ≤ 100
  t0 : 0 ≤ s.tkn
  t1 : s.tkn ≤ 90000
  s0 : (s.bs.length : Int) ≤ s.snt
  s1 : s.snt ≤ 9000
  b : ∀ b ∈ s.bs, b.length ≤ 10000
  mo : PyData.strOk s.me = true
  oo : PyData.strOk s.other = true
def sp_Link_init (A : Adr) : LSp := fun ds M P PX => ∃ me other : Str, ds = [.obj 0, .dat (.str me), .dat (.str other)] ∧ M = [.ins A.Link []] ∧ P .non [lkO A ⟨me, other, [], 0, 0⟩ 1, strsO []]
/-- a def that is given an end -/
def spL (A : Adr) (Pre : Lk → List D → Prop) (Post : Lk → List D → D → Lk → Prop) (PostX : Lk → List D → LX → Prop) : LSp := fun ds M P PX => ∃ (s : Lk) (as : List D), ds = .obj 0 :: as.map DV.dat ∧ M = [lkO A s 1, strsO s.bs] ∧ LkOk s ∧ Pre s as ∧
  (∀ r s', Post s as r s' → P (.dat r) [lkO A s' 1, strsO s'.bs]) ∧ ∀ x, PostX s as x → PX x [lkO A s 1, strsO s.bs]
theorem ren_strs {f : List Nat} {m : Nat} {bs : List Str} : renMO f m (strsO bs) = strsO bs := by simp [renMO, renDV]
theorem call_L {A : Adr} {Pre : Lk → List D → Prop} {Post : Lk → List D → D → Lk → Prop} {PostX : Lk → List D → LX → Prop} {n n' : Nat} {s : Lk} {xs : List DV} {as : List D} {M : Mem} {P : PD} {PX : PXn} (hc : M[n]? = some (lkO A s n')) (hd : M[n']? = some (strsO s.bs)) (ne : n ≠ n') (hx : Dats xs as) (ok : LkOk s) (hp : Pre s as)
    (k : ∀ r s', Post s as r s' → P (.dat r) ((M.set n (lkO A s' n')).set n' (strsO s'.bs))) (kx : ∀ x, PostX s as x → PX x M) : CallAt (spL A Pre Post PostX) (.obj n :: xs) M P PX := by
  refine .inr ⟨[n, n'], .obj 0 :: as.map DV.dat, [lkO A s 1, strsO s.bs], by simp [ne], ?_, ?_, ?_, ?_, s, as, rfl, rfl, ok, hp, fun r s' hr => ?_, fun x h => ?_⟩
  · simp [okDV]
  · rw [hx.eq]
    show _ = renDV [n, n'] M.length (.obj 0) :: (as.map DV.dat).map (renDV [n, n'] M.length)
    rw [List.map_map]
    congr 1
  · simp [okMO, okDV]
  · show [M[n]?, M[n']?] = [some (renMO [n, n'] M.length (lkO A s 1)), some (renMO [n, n'] M.length (strsO s.bs))]
    rw [hc, hd, ren_strs]
    rfl
  · show P (.dat r) (merge [n, n'] M [lkO A s' 1, strsO s'.bs])
    have e : merge [n, n'] M [lkO A s' 1, strsO s'.bs] = (M.set n (lkO A s' n')).set n' (strsO s'.bs) := by
      have e1 : renMO [n, n'] M.length (lkO A s' 1) = lkO A s' n' := rfl
      show putAll [n, n'] [renMO [n, n'] M.length (lkO A s' 1), renMO [n, n'] M.length (strsO s'.bs)] M ++ [] = _
      rw [ren_strs, e1, List.append_nil]
      rfl
    rw [e]
    exact k r s' hr
  · show PX x (merge [n, n'] M [lkO A s 1, strsO s.bs])
    have e : merge [n, n'] M [lkO A s 1, strsO s.bs] = M := by
      have e1 : renMO [n, n'] M.length (lkO A s 1) = lkO A s n' := rfl
      show putAll [n, n'] [renMO [n, n'] M.length (lkO A s 1), renMO [n, n'] M.length (strsO s.bs)] M ++ [] = _
      rw [ren_strs, e1, List.append_nil]
      show (M.set n (lkO A s n')).set n' (strsO s.bs) = _
      rw [set_self hc, set_self hd]
    rw [e]
    exact kx x h
def noX1 : Lk → List D → LX → Prop := fun _ _ _ => False
def Lk.pack (s : Lk) (n : Int) (b : Str) : Str := packF s.me s.other n s.tkn b
def sp_Link_packet (A : Adr) : LSp := spL A (fun _ as => ∃ (n : Int) (b : Str), 0 ≤ n ∧ n ≤ 100000 ∧ b.length ≤ 10000 ∧ as = [.int n, .str b]) (fun s as r s' => ∃ (n : Int) (b : Str), as = [.int n, .str b] ∧ s' = s ∧ r = .str (s.pack n b)) noX1
def sp_Link_can_send (A : Adr) : LSp := spL A (fun _ as => as = []) (fun s _ r s' => s' = s ∧ r = .bl (decide (s.bs.length < 8))) noX1
def Lk.sent (s : Lk) (b : Str) : Lk := { s with bs := s.bs ++ [b], snt := s.snt + 1 }
def strA (as : List D) : Prop := ∃ b : Str, b.length ≤ 10000 ∧ as = [.str b]
def sp_Link_send (A : Adr) : LSp := spL A (fun s as => strA as ∧ s.snt < 9000) (fun s as r s' => s.bs.length < 8 ∧ ∃ b, as = [.str b] ∧ s' = s.sent b ∧ r = .str (s.pack (s.snt + 1) b)) fun s _ x => ¬ s.bs.length < 8 ∧ x = ⟨A.NoCredit, []⟩
def Lk.ack (s : Lk) : Int := s.snt - s.bs.length
def sp_Link_acknowledged (A : Adr) : LSp := spL A (fun _ as => as = []) (fun s _ r s' => s' = s ∧ r = .int s.ack) noX1
def Lk.packs (s : Lk) : List Str := s.bs.mapIdx fun i b => s.pack (s.ack + 1 + (i : Nat)) b
def sp_Link_again (A : Adr) : LSp := spL A (fun _ as => as = []) (fun s _ r s' => s' = s ∧ r = .tup (s.packs.map D.str)) noX1
def sp_Link_word (A : Adr) : LSp := spL A (fun _ as => as = []) (fun s _ r s' => s' = s ∧ r = .str (s.pack 0 "")) noX1
def sp_Link_state (A : Adr) : LSp := spL A (fun _ as => as = []) (fun s _ r s' => s' = s ∧ r = .tup [.int s.snt, .int s.ack, .int s.tkn]) noX1
/-- what a packet tells -/
def headF (p : Str) : Str := S (p.cps.toList.takeWhile fun c => decide (c ≠ 10))
def bodyF (p : Str) : Str := S ((p.cps.toList.dropWhile fun c => decide (c ≠ 10)).drop 1)
structure Told where
  d : D
  bs : List Str
  tkn : Int
def oddT (bs : List Str) (tkn : Int) : Told := ⟨.tup [.str "odd", .non], bs, tkn⟩
def newsN (bs : List Str) (tkn n : Int) (b : Str) : Told :=
  if n = 0 then ⟨.tup [.str "bare", .non], bs, tkn⟩ else if n ≤ tkn then ⟨.tup [.str "old", .non], bs, tkn⟩ else if tkn + 1 < n then ⟨.tup [.str "early", .non], bs, tkn⟩ else ⟨.tup [.str "new", .str b], bs, n⟩
def newsW (me other : Str) (bs : List Str) (snt tkn : Int) (b : Str) : List Str → Told
  | [w0, w1, w2, w3] => if (decide (w0 = other) && decide (w1 = me)) = true then (if (numOk w2 && numOk w3) = true then (if snt < nv w3 ∨ (nv w2 = 0 ∧ b ≠ "") then oddT bs tkn else newsN (bs.drop (nv w3 - (snt - bs.length)).toNat) tkn (nv w2) b) else oddT bs tkn) else oddT bs tkn
  | _ => oddT bs tkn
def takeF (me other : Str) (bs : List Str) (snt tkn : Int) (p : Str) : Told := if 10 ∈ p.cps.toList then newsW me other bs snt tkn (bodyF p) (Txt.split (headF p) " ") else oddT bs tkn
def sp_Link_take (A : Adr) : LSp := spL A (fun _ as => ∃ p : Str, (okT p ∧ PyData.strOk p = true) ∧ as = [.str p]) (fun s as r s' => ∃ p : Str, as = [.str p] ∧ r = (takeF s.me s.other s.bs s.snt s.tkn p).d ∧ s' = { s with bs := (takeF s.me s.other s.bs s.snt s.tkn p).bs, tkn := (takeF s.me s.other s.bs s.snt s.tkn p).tkn }) noX1
/-! the ends and what lies between them -/
/-- a packet of an end: n, t and the body -/
structure Pk (me other : Str) (S : List Str) (tk : Nat) (p : Str) : Prop where
  ex : ∃ (n t : Nat) (b : Str), p = packF me other (n : Int) (t : Int) b ∧ t ≤ tk ∧ ((n = 0 ∧ b = "") ∨ ∃ i, n = i + 1 ∧ S[i]? = some b)
def okB (b : Str) : Prop := b.length ≤ 100 ∧ PyData.strOk b = true
/-- from one end to the other: all that the one sent, all that the other took -/
structure Dir (a b : Lk) (S T : List Str) : Prop where
  snt : a.snt = (S.length : Nat)
  bl : a.bs.length ≤ S.length
  bs : a.bs = S.drop (S.length - a.bs.length)
  tkn : b.tkn = (T.length : Nat)
  tl : T.length ≤ S.length
  tt : T = S.take T.length
  ack : S.length - a.bs.length ≤ T.length
  b8 : a.bs.length ≤ 8
  ok : ∀ b ∈ S, okB b
  sl : S.length ≤ 120
/-- names of two ends -/
structure Nm (a b : Lk) : Prop where
  m : a.me = b.other
  o : a.other = b.me
  ab : (a.me = "a" ∧ a.other = "b") ∨ (a.me = "b" ∧ a.other = "a")
/-- the end after a packet with this t, and this number and body -/
def Lk.acked (s : Lk) (t : Int) : Lk := { s with bs := s.bs.drop (t - s.ack).toNat }
def sp_x_give (A : Adr) : LSp := fun ds M P PX => ∃ (a b : Lk) (S T S2 T2 : List Str) (n t : Nat) (x : Str), ds = [.obj 0, .dat (.str (packF a.me a.other (n : Int) (t : Int) x)), .obj 2] ∧ M = [lkO A b 1, strsO b.bs, strsO T] ∧ Nm a b ∧ Dir a b S T ∧ Dir b a S2 T2 ∧
  t ≤ T2.length ∧ ((n = 0 ∧ x = "") ∨ ∃ i, n = i + 1 ∧ S[i]? = some x) ∧
  ((n ≠ T.length + 1 → P (.dat (.bl true)) [lkO A (b.acked t) 1, strsO (b.acked t).bs, strsO T]) ∧ (n = T.length + 1 → P (.dat (.bl true)) [lkO A { b.acked t with tkn := (n : Int) } 1, strsO (b.acked t).bs, strsO (T ++ [x])]))
def sp_x_odd (A : Adr) : LSp := fun ds M P PX => ∃ (a b : Lk) (S T S2 T2 : List Str) (n t : Nat) (x : Str), ds = [.obj 0, .dat (.str (packF a.me a.other (n : Int) (t : Int) x))] ∧ M = [lkO A b 1, strsO b.bs] ∧ Nm a b ∧ Dir a b S T ∧ Dir b a S2 T2 ∧ n ≤ 120 ∧ t ≤ 120 ∧ okB x ∧ P (.dat (.bl true)) M
def sp_x_send (A : Adr) : LSp := fun ds M P PX => ∃ (s : Lk) (b : Str), ds = [.obj 0, .dat (.str b)] ∧ M = [lkO A s 1, strsO s.bs] ∧ LkOk s ∧ s.snt < 9000 ∧ s.bs.length ≤ 8 ∧ b.length ≤ 1000 ∧
  (s.bs.length < 8 → P (.dat (.lst [.bl true, .str (s.pack (s.snt + 1) b)])) [lkO A (s.sent b) 1, strsO (s.sent b).bs]) ∧ (¬ s.bs.length < 8 → P (.dat (.lst [.bl true, .non])) M)
/-- both ends -/
structure W2 where
  l0 : Lk
  l1 : Lk
  s0 : List Str
  s1 : List Str
  t0 : List Str
  t1 : List Str
structure Inv2 (w : W2) : Prop where
  n : Nm w.l0 w.l1
  d0 : Dir w.l0 w.l1 w.s0 w.t1
  d1 : Dir w.l1 w.l0 w.s1 w.t0
def m2 (A : Adr) (w : W2) : Mem := [lkO A w.l0 1, strsO w.l0.bs, lkO A w.l1 3, strsO w.l1.bs, .lst [.obj 0, .obj 2], strsO w.s0, strsO w.s1, .lst [.obj 5, .obj 6], strsO w.t0, strsO w.t1, .lst [.obj 8, .obj 9]]
def sp_x_passed (A : Adr) : LSp := fun ds M P PX => ∃ (w : W2) (r : Nat), ds = [.obj 4, .obj 7, .obj 10, .dat (.int r)] ∧ M = m2 A w ∧ Inv2 w ∧ w.s0.length + r ≤ 110 ∧ w.s1.length + r ≤ 110 ∧ ∀ w', Inv2 w' → P (.dat (.bl true)) (m2 A w')
def sp_law : LSp := fun ds M P PX => ∃ ns : List Int, ds = [.dat (.lst (ns.map D.int))] ∧ ns.length ≤ 63 ∧ M = [] ∧ P (.bl true) []
theorem start_law {ns : List Int} (h : ns.length ≤ 63) : sp_law [.dat (.lst (ns.map D.int))] [] (fun d _ => d = .bl true) fun _ _ => False := ⟨ns, rfl, h, rfl, rfl⟩

/-- is_number -/
def l_is_number (A : Adr) : LS :=
  (lSeq (lIfS (lOr (lNot (lChainT (vOrdr (fun i j => decide (i ≤ j)) fun a b => !decide (b < a)) (vOrdr (fun i j => decide (i ≤ j)) fun a b => !decide (b < a)) (lC (.int 1)) (lCB vLenA (lCons (lVar 0) lNil)) (lC (.int 4)))) (lNot (lTru (lAG false (lwAny (lVar 0)) (lgName 1) (lOp (vInA false) (lVar 1) (lC (.str "0123456789"))) [1]))))
    (lRet (lC (.bl false)))
    lNext)
    (lRet (lOrV (lOp (vEq false) (lVar 0) (lC (.str "0"))) (lOp (vEq true) (lOp vIxA (lVar 0) (lC (.int 0))) (lC (.str "0"))))))
/-- Link.__init__ -/
def l_Link_init (A : Adr) : LS :=
  (lSeq (lSetFld A.Link (lVar 0) (lVar 1) "me")
    (lSeq (lSetFld A.Link (lVar 0) (lVar 2) "other")
    (lSeq (lSetFld A.Link (lVar 0) (lLstM lNil) "bodies")
    (lSeq (lSetFld A.Link (lVar 0) (lC (.int 0)) "sent")
    (lSetFld A.Link (lVar 0) (lC (.int 0)) "taken")))))
/-- Link.packet -/
def l_Link_packet (A : Adr) : LS :=
  (lRet (lFs [(lFmt (lFldOf A.Link (lVar 0) "me")), (lC (.str " ")), (lFmt (lFldOf A.Link (lVar 0) "other")), (lC (.str " ")), (lFmt (lVar 1)), (lC (.str " ")), (lFmt (lFldOf A.Link (lVar 0) "taken")), (lC (.str "\n")), (lFmt (lVar 2))]))
/-- Link.can_send -/
def l_Link_can_send (A : Adr) : LS :=
  (lRet (lAndV (lOp (vOrdr (fun i j => decide (i < j)) fun a b => decide (a < b)) (lCB vLenA (lCons (lFldOf A.Link (lVar 0) "bodies") lNil)) (lC (.int 8))) (lOp (vOrdr (fun i j => decide (i < j)) fun a b => decide (a < b)) (lFldOf A.Link (lVar 0) "sent") (lC (.int 9999)))))
/-- Link.send -/
def l_Link_send (A : Adr) : LS :=
  (lSeq (lIfS (lNot (lTru (lMeth A.Link "can_send" (sp_Link_can_send A) (lVar 0) lNil)))
    (lRaise0 A.NoCredit)
    lNext)
    (lSeq (lSetFld A.Link (lVar 0) (lOp vAdd (lFldOf A.Link (lVar 0) "sent") (lC (.int 1))) "sent")
    (lSeq (lDrop (lBM "list" vAppend (lFldOf A.Link (lVar 0) "bodies") (lCons (lVar 1) lNil)))
    (lRet (lMeth A.Link "packet" (sp_Link_packet A) (lVar 0) (lCons (lFldOf A.Link (lVar 0) "sent") (lCons (lVar 1) lNil)))))))
/-- Link.acknowledged -/
def l_Link_acknowledged (A : Adr) : LS :=
  (lRet (lOp (vI0 fun i j => .int (i - j)) (lFldOf A.Link (lVar 0) "sent") (lCB vLenA (lCons (lFldOf A.Link (lVar 0) "bodies") lNil))))
/-- Link.again -/
def l_Link_again (A : Adr) : LS :=
  (lSeq (lSet 1 (lOp vAdd (lMeth A.Link "acknowledged" (sp_Link_acknowledged A) (lVar 0) lNil) (lC (.int 1))))
    (lRet (lCB vTupA (lCons (lLc (lwEnum (lCons (lFldOf A.Link (lVar 0) "bodies") lNil)) (lgTup 2 (lgCons (lgName 2) (lgCons (lgName 3) lgNil))) lYes (lMeth A.Link "packet" (sp_Link_packet A) (lVar 0) (lCons (lOp vAdd (lVar 1) (lVar 2)) (lCons (lVar 3) lNil))) [2, 3]) lNil))))
/-- Link.word -/
def l_Link_word (A : Adr) : LS :=
  (lRet (lMeth A.Link "packet" (sp_Link_packet A) (lVar 0) (lCons (lC (.int 0)) (lCons (lC (.str "")) lNil))))
/-- Link.state -/
def l_Link_state (A : Adr) : LS :=
  (lRet (lTup (lCons (lFldOf A.Link (lVar 0) "sent") (lCons (lMeth A.Link "acknowledged" (sp_Link_acknowledged A) (lVar 0) lNil) (lCons (lFldOf A.Link (lVar 0) "taken") lNil)))))
/-! Link.take -/
def l_Link_take_t11 (A : Adr) : LS :=
  (lRet (lTup (lCons (lC (.str "new")) (lCons (lVar 4) lNil))))
def l_Link_take_t10 (A : Adr) : LS :=
  (lSeq (lSetFld A.Link (lVar 0) (lVar 6) "taken")
    (l_Link_take_t11 A))
def l_Link_take_t9 (A : Adr) : LS :=
  (lSeq (lIfS (lTest (lOp (vOrdr (fun i j => decide (j < i)) fun a b => decide (b < a)) (lVar 6) (lOp vAdd (lFldOf A.Link (lVar 0) "taken") (lC (.int 1)))))
    (lRet (lTup (lCons (lC (.str "early")) (lCons (lC .non) lNil))))
    lNext)
    (l_Link_take_t10 A))
def l_Link_take_t8 (A : Adr) : LS :=
  (lSeq (lIfS (lTest (lOp (vOrdr (fun i j => decide (i ≤ j)) fun a b => !decide (b < a)) (lVar 6) (lFldOf A.Link (lVar 0) "taken")))
    (lRet (lTup (lCons (lC (.str "old")) (lCons (lC .non) lNil))))
    lNext)
    (l_Link_take_t9 A))
def l_Link_take_t7 (A : Adr) : LS :=
  (lSeq (lIfS (lTest (lOp (vEq false) (lVar 6) (lC (.int 0))))
    (lRet (lTup (lCons (lC (.str "bare")) (lCons (lC .non) lNil))))
    lNext)
    (l_Link_take_t8 A))
def l_Link_take_t6 (A : Adr) : LS :=
  (lSeq (lWhile (lTest (lOp (vOrdr (fun i j => decide (i < j)) fun a b => decide (a < b)) (lMeth A.Link "acknowledged" (sp_Link_acknowledged A) (lVar 0) lNil) (lCB vIntA (lCons (lOp vIxA (lVar 5) (lC (.int 3))) lNil))))
    (lDrop (lBM "list" vPopAt (lFldOf A.Link (lVar 0) "bodies") (lCons (lC (.int 0)) lNil))))
    (l_Link_take_t7 A))
def l_Link_take_t5 (A : Adr) : LS :=
  (lSeq (lIfS (lOr (lTest (lOp (vOrdr (fun i j => decide (j < i)) fun a b => decide (b < a)) (lCB vIntA (lCons (lOp vIxA (lVar 5) (lC (.int 3))) lNil)) (lFldOf A.Link (lVar 0) "sent"))) (lAnd (lTest (lOp (vEq false) (lVar 6) (lC (.int 0)))) (lTest (lOp (vEq true) (lVar 4) (lC (.str ""))))))
    (lRet (lTup (lCons (lC (.str "odd")) (lCons (lC .non) lNil))))
    lNext)
    (l_Link_take_t6 A))
def l_Link_take_t4 (A : Adr) : LS :=
  (lSeq (lSet 6 (lCB vIntA (lCons (lOp vIxA (lVar 5) (lC (.int 2))) lNil)))
    (l_Link_take_t5 A))
def l_Link_take_t3 (A : Adr) : LS :=
  (lSeq (lIfS (lOr (lNot (lTru (lCall (sp_is_number A) (lCons (lOp vIxA (lVar 5) (lC (.int 2))) lNil)))) (lNot (lTru (lCall (sp_is_number A) (lCons (lOp vIxA (lVar 5) (lC (.int 3))) lNil)))))
    (lRet (lTup (lCons (lC (.str "odd")) (lCons (lC .non) lNil))))
    lNext)
    (l_Link_take_t4 A))
def l_Link_take_t2 (A : Adr) : LS :=
  (lSeq (lIfS (lOr (lTest (lOp (vEq false) (lVar 3) (lC (.str "")))) (lOr (lTest (lOp (vEq true) (lCB vLenA (lCons (lVar 5) lNil)) (lC (.int 4)))) (lTest (lOp (vEq true) (lSl vSl (lVar 5) lNoPart (lPart (lC (.int 2)))) (lLst (lCons (lFldOf A.Link (lVar 0) "other") (lCons (lFldOf A.Link (lVar 0) "me") lNil)))))))
    (lRet (lTup (lCons (lC (.str "odd")) (lCons (lC .non) lNil))))
    lNext)
    (l_Link_take_t3 A))
def l_Link_take_t1 (A : Adr) : LS :=
  (lSeq (lSet 5 (lBM "str" vSplit (lVar 2) (lCons (lC (.str " ")) lNil)))
    (l_Link_take_t2 A))
def l_Link_take (A : Adr) : LS :=
  (lSeq (lAsg (lBM "str" vPartition (lVar 1) (lCons (lC (.str "\n")) lNil)) (lgTup 3 (lgCons (lgName 2) (lgCons (lgName 3) (lgCons (lgName 4) lgNil)))))
    (l_Link_take_t1 A))

/-- _law_next -/
def l_x_next (A : Adr) : LS :=
  (lSeq (lIfS (lTest (lOp (vOrdr (fun i j => decide (j < i)) fun a b => decide (b < a)) (lOp vIxA (lVar 0) (lC (.int 1))) (lC (.int 0))))
    (lSeq (lSet 3 (lOp (vI (fun _ j => j ≠ 0) fun i j => .int (i.fmod j)) (lCB vIntA (lCons (lOp vIxA (lVar 0) (lC (.int 1))) lNil)) (lVar 2)))
    (lSeq (lSetA (lVar 0) (lC (.int 1)) (lOp (vI CDivN fun i j => .int (i.fdiv j)) (lCB vIntA (lCons (lOp vIxA (lVar 0) (lC (.int 1))) lNil)) (lVar 2)))
    (lRet (lVar 3))))
    lNext)
    (lSeq (lSet 4 (lC (.int 0)))
    (lSeq (lIfS (lTest (lOp (vOrdr (fun i j => decide (i < j)) fun a b => decide (a < b)) (lOp vIxA (lVar 0) (lC (.int 0))) (lCB vLenA (lCons (lVar 1) lNil))))
    (lSet 4 (lCB vAbs (lCons (lCB vIntA (lCons (lOp vIxA (lVar 1) (lOp vIxA (lVar 0) (lC (.int 0)))) lNil)) lNil)))
    lNext)
    (lSeq (lSetA (lVar 0) (lC (.int 0)) (lOp vAdd (lOp vIxA (lVar 0) (lC (.int 0))) (lC (.int 1))))
    (lSeq (lIfS (lTest (lOp (vOrdr (fun i j => decide (j ≤ i)) fun a b => !decide (a < b)) (lVar 4) (lOp (vI CPow fun i j => .int (i ^ j.toNat)) (lC (.int 10)) (lC (.int 18)))))
    (lSeq (lSetA (lVar 0) (lC (.int 1)) (lOp (vI CDivN fun i j => .int (i.fdiv j)) (lVar 4) (lVar 2)))
    (lRet (lOp (vI (fun _ j => j ≠ 0) fun i j => .int (i.fmod j)) (lCB vIntA (lCons (lVar 4) lNil)) (lVar 2))))
    lNext)
    (lSeq (lSetA (lVar 0) (lC (.int 2)) (lOp (vI (fun _ j => j ≠ 0) fun i j => .int (i.fmod j)) (lCB vIntA (lCons (lOp vAdd (lOp vAdd (lOp vMul (lOp vIxA (lVar 0) (lC (.int 2))) (lC (.int 48271))) (lOp vMul (lVar 4) (lC (.int 69621)))) (lC (.int 12345))) lNil)) (lC (.int 2147483647))))
    (lRet (lOp (vI (fun _ j => j ≠ 0) fun i j => .int (i.fmod j)) (lCB vIntA (lCons (lOp vAdd (lOp (vI CDivN fun i j => .int (i.fdiv j)) (lOp vIxA (lVar 0) (lC (.int 2))) (lC (.int 7))) (lOp (vI CDivN fun i j => .int (i.fdiv j)) (lOp vMul (lOp vIxA (lVar 0) (lC (.int 2))) (lOp vIxA (lVar 0) (lC (.int 2)))) (lC (.int 65537)))) lNil)) (lVar 2)))))))))
/-- _law_same -/
def l_x_same (A : Adr) (n : Nat) : LS :=
  (lSeq (lIfS (lTest (lOp (vIsN false) (lVar 1) (lC .non)))
    (lRet (lOp (vIsN false) (lVar 0) (lC .non)))
    lNext)
    (lSeq (lIfS (lTru (lCB vIsiA (lCons (lVar 1) (lCons (lC (.ty "tuple")) lNil))))
    (lSeq (lIfS (lOr (lNot (lTru (lCB vIsiA (lCons (lVar 0) (lCons (lC (.ty "tuple")) lNil))))) (lTest (lOp (vEq true) (lCB vLenA (lCons (lVar 0) lNil)) (lCB vLenA (lCons (lVar 1) lNil)))))
    (lRet (lC (.bl false)))
    lNext)
    (lSeq (lFor (lwRng1 (lCons (lCB vLenA (lCons (lVar 1) lNil)) lNil)) (lgName 2)
    (lIfS (lNot (lTru (lCall (sp_x_same A n) (lCons (lOp vIxA (lVar 0) (lVar 2)) (lCons (lOp vIxA (lVar 1) (lVar 2)) lNil)))))
    (lRet (lC (.bl false)))
    lNext))
    (lRet (lC (.bl true)))))
    lNext)
    (lSeq (lIfS (lTru (lCB vIsiA (lCons (lVar 1) (lCons (lC (.ty "bool")) lNil))))
    (lRet (lAndV (lCB vIsiA (lCons (lVar 0) (lCons (lC (.ty "bool")) lNil))) (lOp (vEq false) (lVar 0) (lVar 1))))
    lNext)
    (lSeq (lIfS (lTru (lCB vIsiA (lCons (lVar 1) (lCons (lC (.ty "int")) lNil))))
    (lRet (lAndV (lCB vIsiA (lCons (lVar 0) (lCons (lC (.ty "int")) lNil))) (lAndV (lNotT (lCB vIsiA (lCons (lVar 0) (lCons (lC (.ty "bool")) lNil)))) (lOp (vEq false) (lVar 0) (lVar 1)))))
    lNext)
    (lRet (lAndV (lCB vIsiA (lCons (lVar 0) (lCons (lC (.ty "str")) lNil))) (lOp (vEq false) (lVar 0) (lVar 1))))))))
/-- _law_char -/
def l_x_char (A : Adr) : LS :=
  (lSeq (lSet 1 (lC (.str " !\"#$&'()*+,-./0123456789:;<=>?@ABCDEFGHIJKLMNOPQRSTUVWXYZ[\\]^_`")))
    (lSeq (lSet 1 (lOp vAdd (lVar 1) (lC (.str "abcdefghijklmnopqrstuvwxyz{|}~\n"))))
    (lRet (lOp vIxA (lVar 1) (lVar 0)))))
/-- _law_words -/
def l_x_words (A : Adr) : LS :=
  (lSeq (lSet 2 (lC (.str "")))
    (lSeq (lFor (lwRng1 (lCons (lCall (sp_x_next A) (lCons (lVar 0) (lCons (lVar 1) (lCons (lC (.int 7)) lNil)))) lNil)) (lgName 3)
    (lSeq (lSet 4 (lCall (sp_x_next A) (lCons (lVar 0) (lCons (lVar 1) (lCons (lC (.int 12)) lNil)))))
    (lIfS (lTest (lOp (vOrdr (fun i j => decide (i < j)) fun a b => decide (a < b)) (lVar 4) (lC (.int 6))))
    (lSet 2 (lOp vAdd (lVar 2) (lOp vIxA (lLst (lCons (lC (.str "a")) (lCons (lC (.str "b")) (lCons (lC (.str "ab")) (lCons (lC (.str "\n")) (lCons (lC (.str " ")) (lCons (lC (.str "one\n")) lNil))))))) (lVar 4))))
    (lSet 2 (lOp vAdd (lVar 2) (lCall (sp_x_char A) (lCons (lCall (sp_x_next A) (lCons (lVar 0) (lCons (lVar 1) (lCons (lC (.int 95)) lNil)))) lNil)))))))
    (lRet (lVar 2))))
/-! _law_give -/
def l_x_give_t5 (A : Adr) : LS :=
  (lRet (lAndV (lCB vIsiA (lCons (lVar 5) (lCons (lC (.ty "str")) lNil))) (lOp (vEq false) (lVar 5) (lVar 4))))
def l_x_give_t4 (A : Adr) : LS :=
  (lSeq (lIfS (lTest (lOp (vEq false) (lVar 5) (lC (.str "new"))))
    (lDrop (lBM "list" vAppend (lVar 2) (lCons (lVar 6) lNil)))
    lNext)
    (l_x_give_t5 A))
def l_x_give_t3 (A : Adr) : LS :=
  (lSeq (lAsg (lMeth A.Link "take" (sp_Link_take A) (lVar 0) (lCons (lVar 1) lNil)) (lgTup 2 (lgCons (lgName 5) (lgCons (lgName 6) lgNil))))
    (l_x_give_t4 A))
def l_x_give_t2 (A : Adr) : LS :=
  (lSeq (lIfS (lTest (lOp (vOrdr (fun i j => decide (j < i)) fun a b => decide (b < a)) (lVar 3) (lC (.int 0))))
    (lSet 4 (lOp vIxA (lLst (lCons (lC (.str "old")) (lCons (lC (.str "new")) (lCons (lC (.str "early")) lNil)))) (lCB vMin2 (lCons (lC (.int 2)) (lCons (lCB vMax2 (lCons (lC (.int 0)) (lCons (lOp (vI0 fun i j => .int (i - j)) (lVar 3) (lCB vLenA (lCons (lVar 2) lNil))) lNil))) lNil)))))
    lNext)
    (l_x_give_t3 A))
def l_x_give_t1 (A : Adr) : LS :=
  (lSeq (lSet 4 (lC (.str "bare")))
    (l_x_give_t2 A))
def l_x_give (A : Adr) : LS :=
  (lSeq (lSet 3 (lCB vIntA (lCons (lOp vIxA (lBM "str" vSplit (lSl vSl (lVar 1) lNoPart (lPart (lBM "str" vSIndex (lVar 1) (lCons (lC (.str "\n")) lNil)))) (lCons (lC (.str " ")) lNil)) (lC (.int 2))) lNil)))
    (l_x_give_t1 A))

/-- _law_odd -/
def l_x_odd (A : Adr) : LS :=
  (lSeq (lSet 2 (lTup (lCons (lMeth A.Link "state" (sp_Link_state A) (lVar 0) lNil) (lCons (lMeth A.Link "again" (sp_Link_again A) (lVar 0) lNil) lNil))))
    (lSeq (lFor (lwSeq (lLst (lCons (lOp vAdd (lC (.str "x")) (lVar 1)) (lCons (lSl vSl (lVar 1) (lPart (lBM "str" vSIndex (lVar 1) (lCons (lC (.str "\n")) lNil))) lNoPart) (lCons (lReplC (lVar 1) "\n" " ") (lCons (lReplC (lVar 1) " " "  ") lNil)))))) (lgName 3)
    (lIfS (lNot (lTru (lCall (sp_x_same A 4) (lCons (lMeth A.Link "take" (sp_Link_take A) (lVar 0) (lCons (lVar 3) lNil)) (lCons (lTup (lCons (lC (.str "odd")) (lCons (lC .non) lNil))) lNil)))))
    (lRet (lC (.bl false)))
    lNext))
    (lRet (lOp (vEq false) (lTup (lCons (lMeth A.Link "state" (sp_Link_state A) (lVar 0) lNil) (lCons (lMeth A.Link "again" (sp_Link_again A) (lVar 0) lNil) lNil))) (lVar 2)))))
/-- _law_send -/
def l_x_send (A : Adr) : LS :=
  (lSeq (lSet 2 (lOp (vEq false) (lCB vLenA (lCons (lMeth A.Link "again" (sp_Link_again A) (lVar 0) lNil) lNil)) (lC (.int 8))))
    (lSeq (lIfS (lOr (lTest (lOp (vOrdr (fun i j => decide (j < i)) fun a b => decide (b < a)) (lCB vLenA (lCons (lMeth A.Link "again" (sp_Link_again A) (lVar 0) lNil) lNil)) (lC (.int 8)))) (lTest (lOp (vEq false) (lMeth A.Link "can_send" (sp_Link_can_send A) (lVar 0) lNil) (lVar 2))))
    (lRet (lLst (lCons (lC (.bl false)) (lCons (lC .non) lNil))))
    lNext)
    (lSeq (lTryAll [([(A.NoCredit, true)], none, (fun xa xc xd => (lRet (lLst (lCons (lVar 2) (lCons (lC .non) lNil))))))]
    (lSet 3 (lMethX A.Link "send" (sp_Link_send A) (lVar 0) (lCons (lVar 1) lNil))))
    (lRet (lLst (lCons (lAndV (lNotT (lVar 2)) (lCB vIsiA (lCons (lVar 3) (lCons (lC (.ty "str")) lNil)))) (lCons (lVar 3) lNil)))))))
/-! _law_passed -/
def l_x_passed_t1 (A : Adr) : LS :=
  (lRet (lC (.bl true)))
def l_x_passed (A : Adr) : LS :=
  (lSeq (lFor (lwRng1 (lCons (lVar 3) lNil)) (lgName 4)
    (lFor (lwRng1 (lCons (lC (.int 2)) lNil)) (lgName 5)
    (lSeq (lAsg (lCall (sp_x_send A) (lCons (lOp vIxA (lVar 0) (lVar 5)) (lCons (lCB vStrI (lCons (lVar 4) lNil)) lNil))) (lgTupL 2 (lgCons (lgName 6) (lgCons (lgName 7) lgNil))))
    (lSeq (lIfS (lNot (lTru (lVar 6)))
    (lRet (lC (.bl false)))
    lNext)
    (lSeq (lIfS (lTest (lOp (vIsN true) (lVar 7) (lC .non)))
    (lDrop (lBM "list" vAppend (lOp vIxA (lVar 1) (lVar 5)) (lCons (lCB vStrI (lCons (lVar 4) lNil)) lNil)))
    lNext)
    (lFor (lwAny (lOp vAdd (lCB vLstMA (lCons (lMeth A.Link "again" (sp_Link_again A) (lOp vIxA (lVar 0) (lVar 5)) lNil) lNil)) (lLst (lCons (lMeth A.Link "word" (sp_Link_word A) (lOp vIxA (lVar 0) (lVar 5)) lNil) lNil)))) (lgName 8)
    (lIfS (lNot (lTru (lCall (sp_x_give A) (lCons (lOp vIxA (lVar 0) (lOp (vI0 fun i j => .int (i - j)) (lC (.int 1)) (lVar 5))) (lCons (lVar 8) (lCons (lOp vIxA (lVar 2) (lOp (vI0 fun i j => .int (i - j)) (lC (.int 1)) (lVar 5))) lNil))))))
    (lRet (lC (.bl false)))
    lNext)))))))
    (l_x_passed_t1 A))

/-! law -/
def l_law_b1_1 (A : Adr) : LS :=
  (lDrop (lBM "list" vAppend (lOp vIxA (lVar 5) (lVar 7)) (lCons (lVar 11) lNil)))
def l_law_b1_0 (A : Adr) : LS :=
  (lSeq (lDrop (lBM "list" vAppend (lOp vIxA (lVar 3) (lVar 7)) (lCons (lVar 9) lNil)))
    (l_law_b1_1 A))
def l_law_b2_3 (A : Adr) : LS :=
  (lIfS (lTest (lOp (vIsN true) (lVar 11) (lC .non)))
    (l_law_b1_0 A)
    lNext)
def l_law_b2_2 (A : Adr) : LS :=
  (lSeq (lIfS (lNot (lTru (lVar 10)))
    (lRet (lC (.bl false)))
    lNext)
    (l_law_b2_3 A))
def l_law_b2_1 (A : Adr) : LS :=
  (lSeq (lAsg (lCall (sp_x_send A) (lCons (lOp vIxA (lVar 2) (lVar 7)) (lCons (lVar 9) lNil))) (lgTupL 2 (lgCons (lgName 10) (lgCons (lgName 11) lgNil))))
    (l_law_b2_2 A))
def l_law_b2_0 (A : Adr) : LS :=
  (lSeq (lSet 9 (lCall (sp_x_words A) (lCons (lVar 1) (lCons (lVar 0) lNil))))
    (l_law_b2_1 A))
def l_law_b3_1 (A : Adr) : LS :=
  (lIfS (lOr (lNot (lTru (lCall (sp_x_give A) (lCons (lOp vIxA (lVar 2) (lOp (vI0 fun i j => .int (i - j)) (lC (.int 1)) (lVar 7))) (lCons (lVar 11) (lCons (lOp vIxA (lVar 4) (lOp (vI0 fun i j => .int (i - j)) (lC (.int 1)) (lVar 7))) lNil)))))) (lNot (lTru (lCall (sp_x_odd A) (lCons (lOp vIxA (lVar 2) (lOp (vI0 fun i j => .int (i - j)) (lC (.int 1)) (lVar 7))) (lCons (lVar 11) lNil))))))
    (lRet (lC (.bl false)))
    lNext)
def l_law_b3_0 (A : Adr) : LS :=
  (lSeq (lSet 11 (lOp vIxA (lOp vIxA (lVar 5) (lVar 7)) (lCall (sp_x_next A) (lCons (lVar 1) (lCons (lVar 0) (lCons (lCB vLenA (lCons (lOp vIxA (lVar 5) (lVar 7)) lNil)) lNil))))))
    (l_law_b3_1 A))
def l_law_b4_3 (A : Adr) : LS :=
  (lFor (lwRng1 (lCons (lC (.int 2)) lNil)) (lgName 12)
    (lIfS (lNot (lTru (lCall (sp_x_same A 4) (lCons (lCB vTupA (lCons (lOp vIxA (lVar 4) (lOp (vI0 fun i j => .int (i - j)) (lC (.int 1)) (lVar 12))) lNil)) (lCons (lCB vTupA (lCons (lSl vSl (lOp vIxA (lVar 3) (lVar 12)) lNoPart (lPart (lCB vLenA (lCons (lOp vIxA (lVar 4) (lOp (vI0 fun i j => .int (i - j)) (lC (.int 1)) (lVar 12))) lNil)))) lNil)) lNil)))))
    (lRet (lC (.bl false)))
    lNext))
def l_law_b4_2 (A : Adr) : LS :=
  (lSeq (lIfS (lOr (lTest (lOp (vEq false) (lVar 8) (lC (.int 0)))) (lTest (lOp (vEq false) (lVar 8) (lC (.int 1)))))
    (l_law_b2_0 A)
    (lIfS (lTest (lOp (vEq false) (lVar 8) (lC (.int 2))))
    (lDrop (lBM "list" vExtend (lOp vIxA (lVar 5) (lVar 7)) (lCons (lCB vLstMA (lCons (lMeth A.Link "again" (sp_Link_again A) (lOp vIxA (lVar 2) (lVar 7)) lNil) lNil)) lNil)))
    (lIfS (lTest (lOp (vEq false) (lVar 8) (lC (.int 3))))
    (lDrop (lBM "list" vAppend (lOp vIxA (lVar 5) (lVar 7)) (lCons (lMeth A.Link "word" (sp_Link_word A) (lOp vIxA (lVar 2) (lVar 7)) lNil) lNil)))
    (lIfS (lTest (lOp (vOrdr (fun i j => decide (j < i)) fun a b => decide (b < a)) (lCB vLenA (lCons (lOp vIxA (lVar 5) (lVar 7)) lNil)) (lC (.int 0))))
    (l_law_b3_0 A)
    lNext))))
    (l_law_b4_3 A))
def l_law_b4_1 (A : Adr) : LS :=
  (lSeq (lSet 8 (lCall (sp_x_next A) (lCons (lVar 1) (lCons (lVar 0) (lCons (lC (.int 6)) lNil)))))
    (l_law_b4_2 A))
def l_law_b4_0 (A : Adr) : LS :=
  (lSeq (lSet 7 (lCall (sp_x_next A) (lCons (lVar 1) (lCons (lVar 0) (lCons (lC (.int 2)) lNil)))))
    (l_law_b4_1 A))
def l_law_b5_1 (A : Adr) : LS :=
  (lIfS (lNot (lTru (lCall (sp_x_same A 4) (lCons (lMeth A.Link "state" (sp_Link_state A) (lOp vIxA (lVar 2) (lVar 7)) lNil) (lCons (lTup (lCons (lCB vLenA (lCons (lOp vIxA (lVar 3) (lVar 7)) lNil)) (lCons (lCB vLenA (lCons (lOp vIxA (lVar 3) (lVar 7)) lNil)) (lCons (lCB vLenA (lCons (lOp vIxA (lVar 3) (lOp (vI0 fun i j => .int (i - j)) (lC (.int 1)) (lVar 7))) lNil)) lNil)))) lNil)))))
    (lRet (lC (.bl false)))
    lNext)
def l_law_b5_0 (A : Adr) : LS :=
  (lSeq (lIfS (lNot (lTru (lCall (sp_x_same A 4) (lCons (lCB vTupA (lCons (lOp vIxA (lVar 4) (lOp (vI0 fun i j => .int (i - j)) (lC (.int 1)) (lVar 7))) lNil)) (lCons (lCB vTupA (lCons (lOp vIxA (lVar 3) (lVar 7)) lNil)) lNil)))))
    (lRet (lC (.bl false)))
    lNext)
    (l_law_b5_1 A))
def l_law_t9 (A : Adr) : LS :=
  (lRet (lC (.bl true)))
def l_law_t8 (A : Adr) : LS :=
  (lSeq (lFor (lwRng1 (lCons (lC (.int 2)) lNil)) (lgName 7)
    (l_law_b5_0 A))
    (l_law_t9 A))
def l_law_t7 (A : Adr) : LS :=
  (lSeq (lFor (lwRng1 (lCons (lC (.int 8)) lNil)) (lgName 6)
    (lFor (lwRng1 (lCons (lC (.int 2)) lNil)) (lgName 7)
    (lFor (lwAny (lOp vAdd (lCB vLstMA (lCons (lMeth A.Link "again" (sp_Link_again A) (lOp vIxA (lVar 2) (lVar 7)) lNil) lNil)) (lLst (lCons (lMeth A.Link "word" (sp_Link_word A) (lOp vIxA (lVar 2) (lVar 7)) lNil) lNil)))) (lgName 11)
    (lIfS (lNot (lTru (lCall (sp_x_give A) (lCons (lOp vIxA (lVar 2) (lOp (vI0 fun i j => .int (i - j)) (lC (.int 1)) (lVar 7))) (lCons (lVar 11) (lCons (lOp vIxA (lVar 4) (lOp (vI0 fun i j => .int (i - j)) (lC (.int 1)) (lVar 7))) lNil))))))
    (lRet (lC (.bl false)))
    lNext))))
    (l_law_t8 A))
def l_law_t6 (A : Adr) : LS :=
  (lSeq (lIfS (lAnd (lTest (lOp (vEq false) (lCall (sp_x_next A) (lCons (lVar 1) (lCons (lVar 0) (lCons (lC (.int 3)) lNil)))) (lC (.int 0)))) (lNot (lTru (lCall (sp_x_passed A) (lCons (lVar 2) (lCons (lVar 3) (lCons (lVar 4) (lCons (lC (.int 40)) lNil))))))))
    (lRet (lC (.bl false)))
    lNext)
    (l_law_t7 A))
def l_law_t5 (A : Adr) : LS :=
  (lSeq (lFor (lwRng1 (lCons (lCall (sp_x_next A) (lCons (lVar 1) (lCons (lVar 0) (lCons (lC (.int 61)) lNil)))) lNil)) (lgName 6)
    (l_law_b4_0 A))
    (l_law_t6 A))
def l_law_t4 (A : Adr) : LS :=
  (lSeq (lSet 5 (lLstM (lCons (lLstM lNil) (lCons (lLstM lNil) lNil))))
    (l_law_t5 A))
def l_law_t3 (A : Adr) : LS :=
  (lSeq (lSet 4 (lLstM (lCons (lLstM lNil) (lCons (lLstM lNil) lNil))))
    (l_law_t4 A))
def l_law_t2 (A : Adr) : LS :=
  (lSeq (lSet 3 (lLstM (lCons (lLstM lNil) (lCons (lLstM lNil) lNil))))
    (l_law_t3 A))
def l_law_t1 (A : Adr) : LS :=
  (lSeq (lSet 2 (lLstM (lCons (lMake A.Link (sp_Link_init A) (lCons (lC (.str "a")) (lCons (lC (.str "b")) lNil))) (lCons (lMake A.Link (sp_Link_init A) (lCons (lC (.str "b")) (lCons (lC (.str "a")) lNil))) lNil))))
    (l_law_t2 A))
def l_law (A : Adr) : LS :=
  (lSeq (lSet 1 (lLstM (lCons (lC (.int 0)) (lCons (lC (.int 0)) (lCons (lC (.int 1)) lNil)))))
    (l_law_t1 A))


end K34

namespace K34
open PySem L2 L3
local macro_rules
  | `(tactic| infer_instance) => `(tactic| first
    | with_reducible apply s_seq
    | ((with_reducible apply s_var); exact rfl)
    | with_reducible apply s_op
    | with_reducible apply s_c
    | with_reducible apply s_cons
    | with_reducible apply s_nil
    | with_reducible apply s_set
    | with_reducible apply s_ret
    | with_reducible apply s_ifS
    | with_reducible apply s_test'
    | with_reducible apply s_exbl
    | with_reducible apply s_tru
    | with_reducible apply s_trubl
    | with_reducible apply s_truint
    | with_reducible apply s_trulst
    | with_reducible apply s_trutup
    | with_reducible apply s_trunon
    | with_reducible apply s_itT
    | with_reducible apply s_itF
    | with_reducible apply s_itnF
    | with_reducible apply s_itnT
    | with_reducible apply s_next
    | with_reducible apply s_cB
    | with_reducible apply s_call
    | ((with_reducible apply s_ordI))
    | with_reducible apply s_addI
    | with_reducible apply s_I0
    | ((with_reducible apply s_isNT); exact rfl)
    | ((with_reducible apply s_isNF); exact rfl)
    | with_reducible apply s_isN
    | with_reducible apply s_lenL
    | with_reducible apply s_lenT
    | ((with_reducible apply s_ixL); exact rfl)
    | ((with_reducible apply s_ixT); exact rfl)
    | ((with_reducible apply s_ixO); exact rfl; exact rfl)
    | ((with_reducible apply s_lenO); exact rfl)
    | ((with_reducible apply s_lenD); exact rfl)
    | with_reducible apply s_int1
    | with_reducible apply s_int1b
    | with_reducible apply s_abs
    | with_reducible apply s_tupL
    | with_reducible apply s_tupT
    | ((with_reducible apply s_tupD); exact rfl)
    | ((with_reducible apply s_isiAT); decide; exact rfl; exact rfl)
    | ((with_reducible apply s_isiAF); decide; exact rfl; exact rfl)
    | ((with_reducible apply s_isiDd); exact rfl)
    | ((with_reducible apply s_isiT); decide; exact rfl; exact rfl)
    | ((with_reducible apply s_isiF); decide; exact rfl; exact rfl)
    | with_reducible apply s_eqST
    | with_reducible apply s_eqIT
    | with_reducible apply s_neIT
    | with_reducible apply s_eqBT
    | with_reducible apply s_eqI
    | with_reducible apply s_eqS
    | with_reducible apply s_eqB
    | with_reducible apply s_tup
    | with_reducible apply s_lst
    | ((with_reducible apply s_exds); (repeat (first | exact Dats.nil | apply Dats.cons)); exact Nat.le_of_ble_eq_true rfl)
    | with_reducible apply s_and
    | with_reducible apply s_or
    | with_reducible apply s_not
    | with_reducible apply s_andV
    | with_reducible apply s_orV
    | with_reducible apply s_notT
    | with_reducible apply s_if
    | with_reducible apply s_yes
    | with_reducible apply s_drop
    | with_reducible apply s_retN
    | with_reducible apply s_asg
    | with_reducible apply s_gName
    | ((with_reducible apply s_gTup); exact rfl)
    | ((with_reducible apply s_gTupL); exact rfl)
    | with_reducible apply s_gCons
    | with_reducible apply s_gConsM
    | with_reducible apply s_gNilM
    | with_reducible apply s_gNil
    | with_reducible apply s_break
    | with_reducible apply s_cont
    | with_reducible apply s_lstM
    | with_reducible apply s_meth
    | with_reducible apply s_make
    | with_reducible apply s_fld
    | ((with_reducible apply s_exfld); exact rfl; exact rfl)
    | with_reducible apply s_setFld
    | ((with_reducible apply s_exsetFld); exact rfl; exact Nat.le_of_ble_eq_true rfl)
    | with_reducible apply s_dnew
    | with_reducible apply s_dget1
    | ((with_reducible apply s_exdict); exact rfl)
    | with_reducible apply s_ddel
    | with_reducible apply s_setA
    | with_reducible apply s_sl
    | with_reducible apply s_noPart
    | with_reducible apply s_part
    | with_reducible apply s_exint
    | with_reducible apply s_slL
    | with_reducible apply s_bM
    | with_reducible apply s_for
    | with_reducible apply s_wRng1
    | ((with_reducible apply s_wAnyL); exact rfl)
    | ((with_reducible apply s_wAnyT); exact rfl)
    | with_reducible apply s_while
    | ((with_reducible apply s_tyO); exact rfl)
    | with_reducible apply s_tyS
    | with_reducible apply s_neg
    | ((with_reducible apply s_slS); assumption)
    | ((with_reducible apply s_lenS); assumption)
    | with_reducible apply s_find3
    | with_reducible apply s_wAnyC
    | with_reducible apply s_lstMT
    | with_reducible apply s_lstML
    | with_reducible apply s_lstT
    | with_reducible apply s_lstL
    | with_reducible apply s_aG
    | with_reducible apply s_un
    | with_reducible apply s_intAi
    | with_reducible apply s_intAb
    | with_reducible apply s_fs
    | with_reducible apply s_jsCons
    | with_reducible apply s_jsNil
    | with_reducible apply s_fmt
    | ((with_reducible apply s_exmeth); exact rfl; exact rfl)
    | with_reducible apply s_methX
    | with_reducible apply s_callX
    | with_reducible apply s_raise
    | with_reducible apply s_exR1
    | with_reducible apply s_raise2
    | with_reducible apply s_raiseI
    | with_reducible apply s_raise0
    | with_reducible apply s_tryAs
    | with_reducible apply s_tryAll
    | with_reducible apply s_dget2
    | with_reducible apply s_dsetd
    | with_reducible apply s_disp
    | with_reducible apply s_prCons
    | with_reducible apply s_prNil
    | with_reducible apply s_nnF
    | with_reducible apply s_nnT
    | with_reducible apply s_fnT
    | with_reducible apply s_fnF
    | ((with_reducible apply s_exfld); assumption; exact rfl)
    | ((with_reducible apply s_exmeth); assumption; exact rfl)
    | ((with_reducible apply s_exdict); assumption)
    | ((with_reducible apply s_lenO); assumption)
    | ((with_reducible apply s_lenD); assumption)
    | ((with_reducible apply s_tyO); assumption))

theorem len_x_next {A : Adr} {ds : List DV} {M : Mem} {P : PD} {PX : PXn} (h : sp_x_next A ds M P PX) : ds.length = (["_law_state", "_law_script", "_law_many"] : List Str).length := by
  obtain ⟨ns, as, o, rfl, _, _, _, ⟨m, rfl, _, _⟩, _⟩ := h
  rfl
theorem b_x_next {A : Adr} {ds : List DV} {M : Mem} {P : PD} {PX : PXn} (h : sp_x_next A ds M P PX) : l_x_next A { nx := fun _ M' => DropD M.length P .non M', rt := DropD M.length P } (startL N_x_next ds) M := by
  obtain ⟨ns, as, o, rfl, hns, rfl, ⟨i, p, g, rfl, hi, hp, hg, hg2⟩, ⟨m, rfl, hm, hm2⟩, k⟩ := h
  show l_x_next A _ [some (.obj 0), some (.dat (.lst (ns.map .int))), some (.dat (.int m)), none, none] _
  unfold l_x_next
  have fin : ∀ (q : Int) (o' : MO), Dr o' → 0 ≤ q → DropD 1 P (.dat (.int (q.fmod m))) [o'] := fun q o' ho hq => by
    obtain ⟨i', p', g', rfl, ho2⟩ := id ho
    exact dropAll (Nat.le_refl _) rfl rfl (k _ _ ⟨m, _, rfl, rfl, Int.fmod_nonneg hq (by omega), Int.fmod_lt_of_pos q hm⟩ ho)
  have cd : CDivN p m := ⟨by omega, by omega⟩
  repeat infer_instance
  refine s_ite (fun h1 => ?_) (fun h1 => ?_)
  · repeat infer_instance
    refine s_I (by omega) ?_
    repeat infer_instance
    refine s_I cd ?_
    repeat infer_instance
    refine .inl ⟨0, _, 1, 1, rfl, rfl, rfl, rfl, ?_⟩
    repeat infer_instance
    exact fin p _ ⟨i, p.fdiv m, g, rfl, hi, Int.fdiv_nonneg hp (by omega), hg, hg2⟩ hp
  · repeat infer_instance
    have rest : ∀ c : Int, 0 ≤ c → (lSeq (lSetA (lVar 0) (lC (.int 0)) (lOp vAdd (lOp vIxA (lVar 0) (lC (.int 0))) (lC (.int 1))))
    (lSeq (lIfS (lTest (lOp (vOrdr (fun i j => decide (j ≤ i)) fun a b => !decide (a < b)) (lVar 4) (lOp (vI CPow fun i j => .int (i ^ j.toNat)) (lC (.int 10)) (lC (.int 18)))))
    (lSeq (lSetA (lVar 0) (lC (.int 1)) (lOp (vI CDivN fun i j => .int (i.fdiv j)) (lVar 4) (lVar 2)))
    (lRet (lOp (vI (fun _ j => j ≠ 0) fun i j => .int (i.fmod j)) (lCB vIntA (lCons (lVar 4) lNil)) (lVar 2))))
    lNext)
    (lSeq (lSetA (lVar 0) (lC (.int 2)) (lOp (vI (fun _ j => j ≠ 0) fun i j => .int (i.fmod j)) (lCB vIntA (lCons (lOp vAdd (lOp vAdd (lOp vMul (lOp vIxA (lVar 0) (lC (.int 2))) (lC (.int 48271))) (lOp vMul (lVar 4) (lC (.int 69621)))) (lC (.int 12345))) lNil)) (lC (.int 2147483647))))
    (lRet (lOp (vI (fun _ j => j ≠ 0) fun i j => .int (i.fmod j)) (lCB vIntA (lCons (lOp vAdd (lOp (vI CDivN fun i j => .int (i.fdiv j)) (lOp vIxA (lVar 0) (lC (.int 2))) (lC (.int 7))) (lOp (vI CDivN fun i j => .int (i.fdiv j)) (lOp vMul (lOp vIxA (lVar 0) (lC (.int 2))) (lOp vIxA (lVar 0) (lC (.int 2)))) (lC (.int 65537)))) lNil)) (lVar 2)))))) { nx := fun _ M' => DropD 1 P .non M', rt := DropD 1 P } [some (.obj 0), some (.dat (.lst (ns.map .int))), some (.dat (.int m)), none, some (.dat (.int c))] [.lst [.int i, .int p, .int g]] := fun c hc => by
      repeat infer_instance
      refine .inl ⟨0, _, 0, 0, rfl, rfl, rfl, rfl, ?_⟩
      repeat infer_instance
      refine s_I ⟨by decide, by decide, by decide⟩ ?_
      repeat infer_instance
      refine s_ite (fun h2 => ?_) (fun h2 => ?_)
      · repeat infer_instance
        refine s_I ⟨by omega, by omega⟩ ?_
        repeat infer_instance
        refine .inl ⟨0, _, 1, 1, rfl, rfl, rfl, rfl, ?_⟩
        repeat infer_instance
        refine s_I (by omega) ?_
        exact fin c _ ⟨i + 1, c.fdiv m, g, rfl, by omega, Int.fdiv_nonneg hc (by omega), hg, hg2⟩ hc
      · repeat infer_instance
        refine s_mulI (.inr ⟨by decide, by decide⟩) ?_
        repeat infer_instance
        refine s_mulI (.inr ⟨by decide, by decide⟩) ?_
        repeat infer_instance
        refine s_I (by decide) ?_
        repeat infer_instance
        refine .inl ⟨0, _, 2, 2, rfl, rfl, rfl, rfl, ?_⟩
        have hn : 0 ≤ g * 48271 + c * 69621 + 12345 := by omega
        have h3 := Int.fmod_nonneg (b := 2147483647) hn (by decide)
        have h4 := Int.fmod_lt_of_pos (g * 48271 + c * 69621 + 12345) (b := 2147483647) (by decide)
        generalize (g * 48271 + c * 69621 + 12345).fmod 2147483647 = g' at h3 h4 ⊢
        repeat infer_instance
        refine s_I ⟨by decide, by decide⟩ ?_
        repeat infer_instance
        refine s_mulI (.inr ⟨by omega, by omega⟩) ?_
        repeat infer_instance
        refine s_I ⟨by decide, by decide⟩ ?_
        repeat infer_instance
        refine s_I (by omega) ?_
        exact fin _ _ ⟨i + 1, p, g', rfl, by omega, hp, h3, h4⟩ (Int.add_nonneg (Int.fdiv_nonneg h3 (by decide)) (Int.fdiv_nonneg (Int.mul_nonneg h3 h3) (by decide)))
    refine s_ite (fun h2 => ?_) (fun h2 => ?_)
    · obtain ⟨c, hc⟩ := atI_int (ns := ns) hi (by have := of_decide_eq_true h2; rw [List.length_map] at this; exact this)
      repeat infer_instance
      refine s_ixL hc ?_
      iterate 4 infer_instance
      exact rest (if c < 0 then -c else c) (by split <;> omega)
    · iterate 1 infer_instance
      exact rest 0 (by decide)
theorem app_len (x y : Str) : (x ++ y).length = x.length + y.length := by rw [len_cs, len_cs, len_cs, cs_app, List.length_append]
theorem finD {P : PD} {d : D} {o : MO} (ho : Dr o) (h : P (.dat d) [o]) : DropD 1 P (.dat d) [o] := by
  obtain ⟨i', p', g', rfl, ho2⟩ := id ho
  exact dropAll (Nat.le_refl _) rfl rfl h
theorem cut_to {z : Str} {n : Nat} : cutS z none (some (n : Int)) = S (z.cps.toList.take n) := by
  unfold cutS
  rw [HT.sIx_nat, HT.sIx_none, len_cs]
  apply cs_inj
  rw [cs_S, cs_S, List.drop_zero, Nat.sub_zero]
  generalize z.cps.toList = l
  by_cases h : n ≤ l.length
  · rw [Nat.min_eq_left h]
  · rw [Nat.min_eq_right (by omega), List.take_of_length_le (Nat.le_refl _), List.take_of_length_le (by omega)]
theorem sign_in {z : Str} {i : Nat} {x : DV} (h : (signsD z)[i]? = some x) : ∃ c, z.cps.toList[i]? = some c ∧ x = .str ⟨#[c]⟩ := by
  unfold signsD at h
  rw [List.getElem?_map] at h
  cases e : z.cps.toList[i]? with
  | none => rw [e] at h; cases h
  | some c => rw [e] at h; cases h; exact ⟨c, rfl, rfl⟩
theorem signs_len (z : Str) : (signsD z).length = z.cps.toList.length := by unfold signsD; rw [List.length_map]
theorem len_x_same {A : Adr} {n : Nat} {ds : List DV} {M : Mem} {P : PD} {PX : PXn} (h : sp_x_same A n ds M P PX) : ds.length = (["_law_actual", "_law_due"] : List Str).length := by
  cases n with
  | zero => exact h.elim
  | succ n =>
    obtain ⟨as, rfl, _, ⟨d, rfl, _⟩, _⟩ := h
    rfl
theorem b_x_same {A : Adr} {n : Nat} {ds : List DV} {M : Mem} {P : PD} {PX : PXn} (h : (sp_x_same A (n + 1)) ds M P PX) : l_x_same A n { nx := fun _ M' => DropD M.length P .non M', rt := DropD M.length P } (startL N_x_same ds) M := by
  obtain ⟨as, rfl, rfl, ⟨d, rfl, hd⟩, k⟩ := h
  show l_x_same A n _ [some (.dat d), some (.dat d), none] _
  have fin : DropD 0 P (.dat (.bl true)) [] := dropAll (Nat.le_refl _) rfl rfl (k _ rfl)
  unfold l_x_same
  cases d with
  | non => repeat infer_instance
           exact fin
  | bl b => repeat infer_instance
            exact fin
  | int i => repeat infer_instance
             exact fin
  | str x => repeat infer_instance
             exact fin
  | lst ds => exact hd.elim
  | ty => exact hd.elim
  | con => exact hd.elim
  | exc => exact hd.elim
  | tup ds =>
    obtain ⟨hl, hd⟩ := hd
    repeat infer_instance
    refine s_exrng (j := (ds.length : Nat)) (by omega) (by omega) ?_
    refine ⟨fun i ρ M => M = [] ∧ ∃ y, ρ = [some (.dat (.tup ds)), some (.dat (.tup ds)), y], ⟨rfl, none, rfl⟩, fun _ _ _ _ => trivial, ?_, ?_⟩
    · rintro i x ρ M hx ⟨rfl, y, rfl⟩
      obtain ⟨hi, rfl⟩ := rangeD_at hx
      have hi : i < ds.length := by simpa using hi
      repeat infer_instance
      refine s_ixT (atI_nat (List.getElem?_eq_getElem hi)) ?_
      repeat infer_instance
      refine s_ixT (atI_nat (List.getElem?_eq_getElem hi)) ?_
      repeat infer_instance
      refine call_same (hd _ (List.getElem_mem hi)) ?_
      repeat infer_instance
      exact .here ⟨rfl, _, rfl⟩
    · rintro ρ M ⟨rfl, y, rfl⟩
      repeat infer_instance
      exact fin
theorem len_noA {S : List D → D → Prop} {ds : List DV} {M : Mem} {P : PD} {PX : PXn} (h : spDraw noArgs S ds M P PX) : ds.length = 2 := by
  obtain ⟨ns, as, o, rfl, _, _, _, e, _⟩ := h
  cases (show as = [] from e)
  rfl
theorem len_x_char {A : Adr} {ds : List DV} {M : Mem} {P : PD} {PX : PXn} (h : sp_x_char A ds M P PX) : ds.length = (["_law_number"] : List Str).length := by
  obtain ⟨as, d, rfl, _, ⟨i, c, rfl, _⟩, _⟩ := h
  rfl
theorem b_x_char {A : Adr} {ds : List DV} {M : Mem} {P : PD} {PX : PXn} (h : sp_x_char A ds M P PX) : l_x_char A { nx := fun _ M' => DropD M.length P .non M', rt := DropD M.length P } (startL N_x_char ds) M := by
  obtain ⟨as, d, rfl, rfl, ⟨i, c, rfl, hc, rfl⟩, k⟩ := h
  show l_x_char A _ [some (.dat (.int i)), none] _
  unfold l_x_char
  repeat infer_instance
  refine s_addS (by decide) ?_
  repeat infer_instance
  refine s_ixS (by decide) hc ?_
  exact fin0 k

theorem ok_cs {x : Str} : PyData.strOk x = true ↔ ∀ c ∈ x.cps.toList, c < 1114112 := by
  unfold PyData.strOk
  rw [Array.all_eq_true_iff_forall_mem]
  simp
theorem ok_app {x y : Str} (hx : PyData.strOk x = true) (hy : PyData.strOk y = true) : PyData.strOk (x ++ y) = true := by
  rw [ok_cs] at hx hy ⊢
  intro c hc
  rw [cs_app] at hc
  exact (List.mem_append.mp hc).elim (hx c) (hy c)
theorem sign_ok {z : Str} {i : Int} (h0 : 0 ≤ i) (h1 : i < z.cps.toList.length) (hz : PyData.strOk z = true) : ∃ c, atI z.cps.toList i = some c ∧ PyData.strOk (S [c]) = true := by
  obtain ⟨c, hc, hm⟩ := atI_ex (xs := z.cps.toList) h0 h1
  refine ⟨c, hc, ?_⟩
  rw [ok_cs] at hz ⊢
  intro d hd
  rw [cs_S] at hd
  rw [List.mem_singleton.mp hd]
  exact hz c hm
theorem len_x_words {A : Adr} {ds : List DV} {M : Mem} {P : PD} {PX : PXn} (h : sp_x_words A ds M P PX) : ds.length = (["_law_state", "_law_script"] : List Str).length := len_noA h
theorem b_x_words {A : Adr} {ds : List DV} {M : Mem} {P : PD} {PX : PXn} (h : sp_x_words A ds M P PX) : l_x_words A { nx := fun _ M' => DropD M.length P .non M', rt := DropD M.length P } (startL N_x_words ds) M := by
  obtain ⟨ns, as, o, rfl, hns, rfl, ho, e, k⟩ := h
  cases (show as = [] from e)
  show l_x_words A _ [some (.obj 0), some (.dat (.lst (ns.map .int))), none, none, none] _
  unfold l_x_words
  repeat infer_instance
  refine call_next rfl ho hns (by decide) (by decide) fun r o1 hr0 hr1 ho1 => ?_
  repeat infer_instance
  refine s_exrng (by omega) (by omega) ?_
  refine ⟨fun i ρ M => ∃ (o : MO) (x : Str) (y3 y4 : Option DV), M = [o] ∧ Dr o ∧ (x.length ≤ 4 * i ∧ PyData.strOk x = true) ∧ ρ = [some (.obj 0), some (.dat (.lst (ns.map .int))), some (.dat (.str x)), y3, y4], ⟨o1, "", _, _, rfl, ho1, ⟨Nat.zero_le _, by decide +kernel⟩, rfl⟩, fun _ _ _ _ => trivial, ?_, ?_⟩
  · rintro i y ρ M hy ⟨o2, x, y3, y4, rfl, ho2, ⟨hx, hxo⟩, rfl⟩
    obtain ⟨hi, rfl⟩ := rangeD_at hy
    repeat infer_instance
    refine call_next rfl ho2 hns (by decide) (by decide) fun c o3 hc0 hc1 ho3 => ?_
    repeat infer_instance
    refine s_ite (fun h1 => ?_) (fun h1 => ?_)
    · have h1 := of_decide_eq_true h1
      repeat infer_instance
      obtain ⟨w, hw, hwl⟩ := pickB (p := fun x => decide (x.length ≤ 4) && PyData.strOk x) (xs := ["a", "b", "ab", "\n", " ", "one\n"]) hc0 h1 (by decide +kernel)
      rw [Bool.and_eq_true] at hwl
      obtain ⟨hwl, hwo⟩ := hwl
      have hwl := of_decide_eq_true hwl
      refine s_ixL hw ?_
      refine s_addS (by show _ ≤ 2 ^ 24; omega) ?_
      exact .here ⟨o3, x ++ w, _, _, rfl, ho3, ⟨by rw [app_len]; omega, ok_app hxo hwo⟩, rfl⟩
    · repeat infer_instance
      refine call_next rfl ho3 hns (by decide) (by decide) fun u o4 hu0 hu1 ho4 => ?_
      repeat infer_instance
      obtain ⟨d, hd, hdo⟩ := sign_ok (z := C95) hu0 (by rw [show C95.cps.toList.length = 95 by decide +kernel]; exact hu1) (by decide +kernel)
      refine call_F (.cons .nil) ⟨u, d, rfl, hd, rfl⟩ ?_
      have c1 : (S [d]).length = 1 := rfl
      refine s_addS (by rw [c1]; show _ ≤ 2 ^ 24; omega) ?_
      exact .here ⟨o4, x ++ S [d], _, _, rfl, ho4, ⟨by rw [app_len, c1]; omega, ok_app hxo hdo⟩, rfl⟩
  · rintro ρ M ⟨o2, x, y3, y4, rfl, ho2, ⟨hx, hxo⟩, rfl⟩
    rw [show (rangeD 0 r.toNat).length = r.toNat by simp [rangeD]] at hx
    repeat infer_instance
    exact finD ho2 (k _ _ ⟨x, rfl, by omega, hxo⟩ ho2)

theorem okT.z {x : Str} (h : okT x) : x.length ≤ sizeLine := Nat.le_trans h (by decide)
theorem len_one {R : Str → D → Prop} {ds : List DV} {M : Mem} {P : PD} {PX : PXn} (h : one R ds M P PX) : ds.length = 1 := by
  obtain ⟨as, d, rfl, _, ⟨a, _, rfl, _⟩, _⟩ := h
  rfl
theorem lit0 : ("0" : Str) = S [48] := by decide +kernel
theorem S_inj1 {c d : Nat} : (S [c] = S [d]) ↔ c = d := by
  constructor
  · intro h
    have := congrArg (fun z : Str => z.cps.toList) h
    simpa using this
  · rintro rfl; rfl
theorem all_signs {x : Str} {q : Nat → Bool} (h : ∀ i, i < (signsD x).length → (match x.cps.toList[i]? with | some c => q c | none => true) ≠ false) : x.cps.toList.all q = true := by
  rw [List.all_eq_true]
  intro c hm
  obtain ⟨i, hi⟩ := List.mem_iff_getElem?.mp hm
  have h4 := h i (by rw [signs_len]; exact (List.getElem?_eq_some_iff.mp hi).1)
  rw [hi] at h4
  have h4 : ¬ q c = false := h4
  simpa using h4
theorem not_signs {x : Str} {q : Nat → Bool} {i : Nat} (h : (match x.cps.toList[i]? with | some c => q c | none => true) = false) : x.cps.toList.all q = false := by
  rw [List.all_eq_false]
  cases he : x.cps.toList[i]? with
  | none => rw [he] at h; cases h
  | some c =>
    rw [he] at h
    have hc : q c = false := h
    exact ⟨c, List.mem_of_getElem? he, by rw [hc]; decide⟩
theorem lc_core {ι : Type} {lg : LG} {lt : LT} {te : LE} {vs : List Nat} {ρ : Rho} {M : Mem} {P : PD} {xs : List ι} {okM : Mem → Prop} (g : ι → D) (p : ι → Bool) (f : ι → D) (hok : okM M) (hl : xs.length ≤ sizeLine)
    (he : ∀ x ∈ xs, ∀ (RT : PD) (RF : Mem → Prop), (p x = true → RT (.dat (f x)) M) → (p x = false → RF M) → lg (.dat (g x)) (wipeL ρ vs) M fun ρ2 M2 => lt ρ2 M2 (fun b M3 => if b = true then te ρ2 M3 RT noX else RF M3) noX)
    (h : P (.dat (.lst ((xs.filter p).map f))) M) :
    ∃ I : Nat → List D → Mem → Prop, I 0 [] M ∧ (∀ i acc M, I i acc M → okM M) ∧
      (∀ i x acc M', ((xs.map g).map DV.dat)[i]? = some x → I i acc M' → lg x (wipeL ρ vs) M' fun ρ2 M2 => lt ρ2 M2 (fun b M3 => if b = true then te ρ2 M3 (fun y M4 => acc.length < sizeLine ∧ ∃ d, y = .dat d ∧ DropM M.length (I (i + 1) (acc ++ [d])) M4) noX else DropM M.length (I (i + 1) acc) M3) noX) ∧
      ∀ acc M', I ((xs.map g).map DV.dat).length acc M' → P (.dat (.lst acc)) M' := by
  refine ⟨fun i acc M' => M' = M ∧ acc = ((xs.take i).filter p).map f, ⟨rfl, by simp⟩, fun i acc M' h => h.1 ▸ hok, ?_, ?_⟩
  · rintro i x acc M' hx ⟨rfl, rfl⟩
    obtain ⟨d, hd, rfl, _, _⟩ := map_at hx
    rw [List.getElem?_map] at hd
    cases hx2 : xs[i]? with
    | none => rw [hx2] at hd; cases hd
    | some y =>
      rw [hx2] at hd
      cases hd
      have hi : i < xs.length := (List.getElem?_eq_some_iff.mp hx2).1
      have e : ((xs.take (i + 1)).filter p).map f = ((xs.take i).filter p).map f ++ (if p y = true then [f y] else []) := by
        rw [take_snoc hx2, List.filter_append, List.map_append]
        congr 1
        cases hq : p y <;> simp [hq]
      refine he y (List.mem_of_getElem? hx2) _ _ (fun hp => ⟨?_, _, rfl, .inl ⟨rfl, by rw [e, if_pos hp]⟩⟩) (fun hp => .inl ⟨rfl, by rw [e, hp]; simp⟩)
      have h1 := List.length_filter_le p (xs.take i)
      have h2 : (xs.take i).length ≤ i := by rw [List.length_take]; omega
      rw [List.length_map]
      omega
  · rintro acc M' ⟨rfl, rfl⟩
    rw [List.length_map, List.length_map, List.take_length]
    exact h
theorem s_lcL {ι : Type} {lg : LG} {lt : LT} {te : LE} {vs : List Nat} {ρ : Rho} {M : Mem} {P : PD} {PX : PXn} {le : LE} (xs : List ι) (g : ι → D) (p : ι → Bool) (f : ι → D) (hl : xs.length ≤ sizeLine) (hs : ∀ R : PD, R (.dat (.lst (xs.map g))) M → le ρ M R PX)
    (he : ∀ x ∈ xs, ∀ (RT : PD) (RF : Mem → Prop), (p x = true → RT (.dat (f x)) M) → (p x = false → RF M) → lg (.dat (g x)) (wipeL ρ vs) M fun ρ2 M2 => lt ρ2 M2 (fun b M3 => if b = true then te ρ2 M3 RT noX else RF M3) noX)
    (h : P (.dat (.lst ((xs.filter p).map f))) M) : lLc (lwAny le) lg lt te vs ρ M P PX := hs _ (lc_core g p f trivial hl he h)
theorem s_lcT {ι : Type} {lg : LG} {lt : LT} {te : LE} {vs : List Nat} {ρ : Rho} {M : Mem} {P : PD} {PX : PXn} {le : LE} (xs : List ι) (g : ι → D) (p : ι → Bool) (f : ι → D) (hl : xs.length ≤ sizeLine) (hs : ∀ R : PD, R (.dat (.tup (xs.map g))) M → le ρ M R PX)
    (he : ∀ x ∈ xs, ∀ (RT : PD) (RF : Mem → Prop), (p x = true → RT (.dat (f x)) M) → (p x = false → RF M) → lg (.dat (g x)) (wipeL ρ vs) M fun ρ2 M2 => lt ρ2 M2 (fun b M3 => if b = true then te ρ2 M3 RT noX else RF M3) noX)
    (h : P (.dat (.lst ((xs.filter p).map f))) M) : lLc (lwAny le) lg lt te vs ρ M P PX := hs _ (lc_core g p f trivial hl he h)
theorem item_at {ι : Type} {xs : List ι} {g : ι → D} {i : Nat} {x : DV} (h : ((xs.map g).map DV.dat)[i]? = some x) : ∃ y, xs[i]? = some y ∧ x = .dat (g y) ∧ y ∈ xs := by
  obtain ⟨d, hd, rfl, _, _⟩ := map_at h
  rw [List.getElem?_map] at hd
  cases he : xs[i]? with
  | none => rw [he] at hd; cases hd
  | some e =>
    rw [he] at hd
    cases hd
    exact ⟨e, rfl, rfl, List.mem_of_getElem? he⟩
def lcAt (lg : LG) (lt : LT) (te : LE) (vs : List Nat) (ρ : Rho) (P : PD) (items : List DV) (okM : Mem → Prop) (M1 : Mem) : Prop := ∃ I : Nat → List D → Mem → Prop, I 0 [] M1 ∧ (∀ i acc M, I i acc M → okM M) ∧
  (∀ i x acc M, items[i]? = some x → I i acc M → lg x (wipeL ρ vs) M fun ρ2 M2 => lt ρ2 M2 (fun b M3 => if b = true then te ρ2 M3 (fun y M4 => acc.length < sizeLine ∧ ∃ d, y = .dat d ∧ DropM M1.length (I (i + 1) (acc ++ [d])) M4) noX else DropM M1.length (I (i + 1) acc) M3) noX) ∧
  ∀ acc M, I items.length acc M → P (.dat (.lst acc)) M
theorem s_lcU {lg : LG} {lt : LT} {te le : LE} {vs : List Nat} {ρ : Rho} {M : Mem} {P : PD} {PX : PXn} (h : le ρ M (fun x M1 => match x with
  | .dat (.lst ds) => lcAt lg lt te vs ρ P (ds.map DV.dat) (fun _ => True) M1
  | .dat (.tup ds) => lcAt lg lt te vs ρ P (ds.map DV.dat) (fun _ => True) M1
  | .dat (.str z) => lcAt lg lt te vs ρ P (signsD z) (fun _ => True) M1
  | .obj n => ∃ xs, M1[n]? = some (.lst xs) ∧ lcAt lg lt te vs ρ P xs (fun M => M[n]? = some (.lst xs)) M1
  | _ => False) PX) : lLc (lwAny le) lg lt te vs ρ M P PX := h
theorem lc_str {lg : LG} {lt : LT} {te : LE} {vs : List Nat} {ρ : Rho} {M : Mem} {P : PD} {okM : Mem → Prop} (x : Str) (p : Nat → Bool) (f : Nat → D) (hok : okM M) (hl : x.length ≤ sizeLine)
    (he : ∀ c ∈ x.cps.toList, ∀ (RT : PD) (RF : Mem → Prop), (p c = true → RT (.dat (f c)) M) → (p c = false → RF M) → lg (.dat (.str (S [c]))) (wipeL ρ vs) M fun ρ2 M2 => lt ρ2 M2 (fun b M3 => if b = true then te ρ2 M3 RT noX else RF M3) noX)
    (h : P (.dat (.lst ((x.cps.toList.filter p).map f))) M) : lcAt lg lt te vs ρ P (signsD x) okM M := by
  have e : signsD x = (x.cps.toList.map fun c => D.str (S [c])).map DV.dat := by
    unfold signsD
    rw [List.map_map]
    rfl
  rw [e]
  exact lc_core (fun c => D.str (S [c])) p f hok (by rw [← len_cs]; exact hl) he h
theorem s_lcS {lg : LG} {lt : LT} {te le : LE} {vs : List Nat} {ρ : Rho} {M : Mem} {P : PD} {PX : PXn} (x : Str) (p : Nat → Bool) (f : Nat → D) (hl : x.length ≤ sizeLine) (hs : ∀ R : PD, R (.dat (.str x)) M → le ρ M R PX)
    (he : ∀ c ∈ x.cps.toList, ∀ (RT : PD) (RF : Mem → Prop), (p c = true → RT (.dat (f c)) M) → (p c = false → RF M) → lg (.dat (.str (S [c]))) (wipeL ρ vs) M fun ρ2 M2 => lt ρ2 M2 (fun b M3 => if b = true then te ρ2 M3 RT noX else RF M3) noX)
    (h : P (.dat (.lst ((x.cps.toList.filter p).map f))) M) : lLc (lwAny le) lg lt te vs ρ M P PX := s_lcU (hs _ (lc_str x p f trivial hl he h))
theorem none_if {l : List Nat} {q : Nat → Bool} : decide ((((l.filter fun c => !q c).map fun _ => D.int 1).length : Int) = 0) = l.all q := by
  rw [List.length_map, Bool.eq_iff_iff, decide_eq_true_eq, List.all_eq_true]
  constructor
  · intro h c hc
    have h : (l.filter fun c => !q c).length = 0 := by omega
    have := List.eq_nil_of_length_eq_zero h
    cases hq : q c with
    | true => rfl
    | false =>
      have h2 : c ∈ l.filter fun c => !q c := List.mem_filter.mpr ⟨hc, by rw [hq]; rfl⟩
      rw [this] at h2
      cases h2
  · intro h
    have : l.filter (fun c => !q c) = [] := List.filter_eq_nil_iff.mpr fun c hc => by rw [h c hc]; decide
    rw [this]
    rfl
theorem all_true {α : Type} (xs : List α) : xs.filter (fun _ => true) = xs := List.filter_eq_self.mpr fun _ _ => rfl
theorem emp_app (x : Str) : Str.empty ++ x = x := cs_inj (by rw [cs_app]; rfl)
theorem dig_iff : ∀ c, c < 128 → (isD c = true ↔ 48 ≤ c ∧ c ≤ 57) := by decide +kernel
theorem isD_iff {c : Nat} : isD c = true ↔ 48 ≤ c ∧ c ≤ 57 := by
  by_cases h : c < 128
  · exact dig_iff c h
  · constructor
    · intro hd
      have hd := of_decide_eq_true hd
      have : ∀ c ∈ DIG.cps.toList, c < 128 := by decide +kernel
      exact absurd (this c hd) h
    · intro hd; omega
theorem num_text {y : Str} (h : numOk y = true) : PySem.intText? y = some (nv y) := by
  unfold numOk at h
  simp only [Bool.and_eq_true, decide_eq_true_eq, List.all_eq_true] at h
  have hl := h.1.2
  have h1 := h.1.1
  refine PySem.intText_digits (fun c hc => isD_iff.mp (h.2.1 c hc)) ?_ (by omega)
  intro e
  rw [len_cs, e] at h1
  simp at h1
theorem len_is_number {A : Adr} {ds : List DV} {M : Mem} {P : PD} {PX : PXn} (h : sp_is_number A ds M P PX) : ds.length = (["text"] : List Str).length := len_one h
theorem zero_iff {x : Str} {c : Nat} {r : List Nat} (e : x.cps.toList = c :: r) : decide (x.cps.toList.head? ≠ some 48) = !decide (S [c] = ("0" : Str)) := by
  rw [e, lit0]
  by_cases h : c = 48
  · subst h; simp
  · have : S [c] ≠ S [48] := fun z => h (S_inj1.mp z)
    simp [h, this]
theorem b_is_number {A : Adr} {ds : List DV} {M : Mem} {P : PD} {PX : PXn} (h : sp_is_number A ds M P PX) : l_is_number A { nx := fun _ M' => DropD M.length P .non M', rt := DropD M.length P } (startL N_is_number ds) M := by
  obtain ⟨as, d, rfl, rfl, ⟨x, hx, rfl, rfl⟩, k⟩ := h
  show l_is_number A _ [some (.dat (.str x)), none] _
  have hz := hx.z
  unfold l_is_number
  unfold numOk at k
  repeat infer_instance
  refine s_chT ?_
  repeat infer_instance
  rw [show decide ((1 : Int) ≤ (x.length : Int)) = decide (1 ≤ x.length) by rw [decide_eq_decide]; omega]
  refine s_ite (fun h1 => ?_) (fun h1 => ?_)
  · rw [h1, Bool.true_and] at k
    have h1 := of_decide_eq_true h1
    have hx1 : 1 ≤ x.cps.toList.length := by rw [← len_cs]; omega
    obtain ⟨c, r, hcr⟩ : ∃ c r, x.cps.toList = c :: r := by
      cases he : x.cps.toList with
      | nil => rw [he] at hx1; simp at hx1
      | cons c r => exact ⟨c, r, rfl⟩
    repeat infer_instance
    by_cases h2 : x.length ≤ 4
    · rw [decide_eq_true h2, Bool.true_and] at k
      rw [show decide ((x.length : Int) ≤ 4) = true from decide_eq_true (by omega)]
      repeat infer_instance
      refine s_wAnyS rfl ?_
      refine s_exany (fun i => match x.cps.toList[i]? with | some c => isD c | none => true) trivial (fun i y hy R h => ?_) (fun ⟨i, hi, hc⟩ => ?_) (fun hc => ?_)
      · obtain ⟨c, hc, rfl⟩ := sign_in hy
        rw [hc] at h
        repeat infer_instance
        exact s_inC (k := isD c) rfl rfl h
      · rw [not_signs hc, Bool.false_and] at k
        repeat infer_instance
        exact fin0 k
      · rw [all_signs hc, Bool.true_and, zero_iff hcr] at k
        repeat infer_instance
        refine s_ite (fun h => absurd h (by decide)) (fun _ => ?_)
        repeat infer_instance
        refine s_ite (fun h3 => ?_) (fun h3 => ?_)
        · have h3 : decide (x = ("0" : Str)) = true := h3
          rw [h3, Bool.true_or] at k
          repeat infer_instance
          exact fin0 k
        · have h3 : decide (x = ("0" : Str)) = false := h3
          rw [h3, Bool.false_or] at k
          repeat infer_instance
          refine s_ixS hz (c := c) (by rw [hcr]; simp [atI, ixN]) ?_
          repeat infer_instance
          exact fin0 k
    · rw [decide_eq_false h2, Bool.false_and] at k
      rw [show decide ((x.length : Int) ≤ 4) = false from decide_eq_false (by omega)]
      repeat infer_instance
      exact fin0 k
  · rw [h1, Bool.false_and, Bool.false_and] at k
    repeat infer_instance
    exact fin0 k

theorem lenN {n : Int} (h0 : 0 ≤ n) (h1 : n ≤ 100000) : ((toString n : Str)).length ≤ 10 := PySem.W.KT.len_num h0 (show n < 10 ^ 10 by omega)
theorem natLog {n : Int} (h0 : 0 ≤ n) (h1 : n ≤ 100000) : n.natAbs.log2 < 1920 := by
  have h2 : n.natAbs < 2 ^ 17 := by omega
  by_cases h3 : n.natAbs = 0
  · rw [h3]; decide
  · have := (Nat.log2_lt h3).mpr h2
    omega
theorem pack_len {me other : Str} {n a : Int} {b : Str} (h : PackOk me other n a b) : (packF me other n a b).length ≤ b.length + 300 := by
  have h1 := lenN h.n0 h.n1
  have h2 := lenN h.a0 h.a1
  have h3 := h.m
  have h4 := h.o
  unfold packF
  rw [app_len, app_len, app_len, app_len, app_len, app_len, app_len, app_len]
  rw [show (" " : Str).length = 1 by decide +kernel, show ("\n" : Str).length = 1 by decide +kernel]
  omega
theorem strs_all {n : Nat} {bs : List Str} : okMO n (strsO bs) = true := by simp [okMO, okDV]
theorem finL {A : Adr} {s : Lk} {P : PD} {d : D} (h : P (.dat d) [lkO A s 1, strsO s.bs]) : DropD 2 P (.dat d) [lkO A s 1, strsO s.bs] := by
  refine dropAll (Nat.le_refl _) rfl ?_ h
  show (okMO 2 (lkO A s 1) && (okMO 2 (strsO s.bs) && true)) = true
  rw [strs_all]
  rfl
theorem len_L {A : Adr} {Pre : Lk → List D → Prop} {Post : Lk → List D → D → Lk → Prop} {PostX : Lk → List D → LX → Prop} {m : Nat} (hp : ∀ s as, Pre s as → as.length = m) {ds : List DV} {M : Mem} {P : PD} {PX : PXn} (h : spL A Pre Post PostX ds M P PX) : ds.length = m + 1 := by
  obtain ⟨s, as, rfl, rfl, _, h, _⟩ := h
  have := hp _ _ h
  simp [this]
theorem len_Link_init {A : Adr} {ds : List DV} {M : Mem} {P : PD} {PX : PXn} (h : sp_Link_init A ds M P PX) : ds.length = (["self", "me", "other"] : List Str).length := by
  obtain ⟨s, t, rfl, _⟩ := h
  rfl
theorem b_Link_init {A : Adr} {ds : List DV} {M : Mem} {P : PD} {PX : PXn} (h : sp_Link_init A ds M P PX) : l_Link_init A { nx := fun _ M' => DropD M.length P .non M', rt := DropD M.length P } (startL N_Link_init ds) M := by
  obtain ⟨me, other, rfl, rfl, k⟩ := h
  show l_Link_init A _ [some (.obj 0), some (.dat (.str me)), some (.dat (.str other))] _
  unfold l_Link_init
  repeat infer_instance
  refine ⟨Nat.le_of_ble_eq_true rfl, ?_⟩
  repeat infer_instance
  exact dropAll (k := 1) (by show 1 ≤ 2; decide) rfl rfl k
theorem lkPack {s : Lk} (ok : LkOk s) {n : Int} {b : Str} (h0 : 0 ≤ n) (h1 : n ≤ 100000) (hb : b.length ≤ 10000) : PackOk s.me s.other n s.tkn b := ⟨ok.m, ok.o, h0, h1, ok.t0, by have := ok.t1; omega, hb⟩
theorem len_Link_packet {A : Adr} {ds : List DV} {M : Mem} {P : PD} {PX : PXn} (h : sp_Link_packet A ds M P PX) : ds.length = (["self", "number", "body"] : List Str).length := len_L (m := 2) (fun _ _ ⟨_, _, _, _, _, h⟩ => by rw [h]; rfl) h
theorem b_Link_packet {A : Adr} {ds : List DV} {M : Mem} {P : PD} {PX : PXn} (h : sp_Link_packet A ds M P PX) : l_Link_packet A { nx := fun _ M' => DropD M.length P .non M', rt := DropD M.length P } (startL N_Link_packet ds) M := by
  obtain ⟨s, as, rfl, rfl, lok, ⟨n, b, hn0, hn1, hb, rfl⟩, k, _⟩ := h
  show l_Link_packet A _ [some (.obj 0), some (.dat (.int n)), some (.dat (.str b))] _
  have ok := lkPack lok hn0 hn1 hb
  have h1 := lenN ok.n0 ok.n1
  have h2 := lenN ok.a0 ok.a1
  have h3 := ok.m
  have h4 := ok.o
  have h5 := ok.b
  have e1 : (" " : Str).length = 1 := by decide +kernel
  have e2 : ("\n" : Str).length = 1 := by decide +kernel
  unfold l_Link_packet
  repeat infer_instance
  refine .inl ⟨_, rfl, by show _ ≤ 2 ^ 24; omega, _, rfl, by rw [emp_app]; show _ ≤ 2 ^ 24; omega, ?_⟩
  rw [emp_app]
  repeat infer_instance
  refine ⟨_, rfl, (by simp only [app_len, e1, e2]; show _ ≤ 2 ^ 24; omega), ?_⟩
  repeat infer_instance
  refine .inl ⟨_, rfl, by show _ ≤ 2 ^ 24; omega, _, rfl, (by simp only [app_len, e1, e2]; show _ ≤ 2 ^ 24; omega), ?_⟩
  repeat infer_instance
  refine ⟨_, rfl, (by simp only [app_len, e1, e2]; show _ ≤ 2 ^ 24; omega), ?_⟩
  repeat infer_instance
  refine .inr ⟨_, rfl, natLog ok.n0 ok.n1, _, rfl, (by simp only [app_len, e1, e2]; show _ ≤ 2 ^ 24; omega), ?_⟩
  repeat infer_instance
  refine ⟨_, rfl, (by simp only [app_len, e1, e2]; show _ ≤ 2 ^ 24; omega), ?_⟩
  repeat infer_instance
  refine .inr ⟨_, rfl, natLog ok.a0 ok.a1, _, rfl, (by simp only [app_len, e1, e2]; show _ ≤ 2 ^ 24; omega), ?_⟩
  repeat infer_instance
  refine ⟨_, rfl, (by simp only [app_len, e1, e2]; show _ ≤ 2 ^ 24; omega), ?_⟩
  repeat infer_instance
  refine .inl ⟨_, rfl, by show _ ≤ 2 ^ 24; omega, _, rfl, (by simp only [app_len, e1, e2]; show _ ≤ 2 ^ 24; omega), ?_⟩
  repeat infer_instance
  exact finL (k _ _ ⟨n, b, rfl, rfl, rfl⟩)
theorem len_Link_can_send {A : Adr} {ds : List DV} {M : Mem} {P : PD} {PX : PXn} (h : sp_Link_can_send A ds M P PX) : ds.length = (["self"] : List Str).length := len_L (m := 0) (fun _ _ h => by rw [h]; rfl) h
theorem strs_len (bs : List Str) : ((bs.map D.str).map DV.dat).length = bs.length := by rw [List.length_map, List.length_map]
theorem b_Link_can_send {A : Adr} {ds : List DV} {M : Mem} {P : PD} {PX : PXn} (h : sp_Link_can_send A ds M P PX) : l_Link_can_send A { nx := fun _ M' => DropD M.length P .non M', rt := DropD M.length P } (startL N_Link_can_send ds) M := by
  obtain ⟨s, as, rfl, rfl, ok, rfl, k, _⟩ := h
  show l_Link_can_send A _ [some (.obj 0)] _
  have h1 := ok.s1
  have k := k _ s ⟨rfl, rfl⟩
  unfold l_Link_can_send
  repeat infer_instance
  rw [strs_len, show decide ((s.bs.length : Int) < 8) = decide (s.bs.length < 8) by rw [decide_eq_decide]; omega]
  refine s_ite (fun h2 => ?_) (fun h2 => ?_)
  · rw [h2] at k
    repeat infer_instance
    rw [decide_eq_true (show s.snt < 9999 by omega)]
    exact finL k
  · rw [h2] at k
    exact finL k
theorem len_Link_acknowledged {A : Adr} {ds : List DV} {M : Mem} {P : PD} {PX : PXn} (h : sp_Link_acknowledged A ds M P PX) : ds.length = (["self"] : List Str).length := len_L (m := 0) (fun _ _ h => by rw [h]; rfl) h
theorem b_Link_acknowledged {A : Adr} {ds : List DV} {M : Mem} {P : PD} {PX : PXn} (h : sp_Link_acknowledged A ds M P PX) : l_Link_acknowledged A { nx := fun _ M' => DropD M.length P .non M', rt := DropD M.length P } (startL N_Link_acknowledged ds) M := by
  obtain ⟨s, as, rfl, rfl, ok, rfl, k, _⟩ := h
  show l_Link_acknowledged A _ [some (.obj 0)] _
  have k := k _ s ⟨rfl, rfl⟩
  unfold l_Link_acknowledged
  repeat infer_instance
  rw [strs_len]
  exact finL k
theorem len_Link_state {A : Adr} {ds : List DV} {M : Mem} {P : PD} {PX : PXn} (h : sp_Link_state A ds M P PX) : ds.length = (["self"] : List Str).length := len_L (m := 0) (fun _ _ h => by rw [h]; rfl) h
theorem set_L {A : Adr} {s : Lk} {M : Mem} {n n' : Nat} (h1 : M[n]? = some (lkO A s n')) (h2 : M[n']? = some (strsO s.bs)) : (M.set n (lkO A s n')).set n' (strsO s.bs) = M := by rw [set_self h1, set_self h2]
theorem b_Link_state {A : Adr} {ds : List DV} {M : Mem} {P : PD} {PX : PXn} (h : sp_Link_state A ds M P PX) : l_Link_state A { nx := fun _ M' => DropD M.length P .non M', rt := DropD M.length P } (startL N_Link_state ds) M := by
  obtain ⟨s, as, rfl, rfl, ok, rfl, k, _⟩ := h
  show l_Link_state A _ [some (.obj 0)] _
  have k := k _ s ⟨rfl, rfl⟩
  unfold l_Link_state
  repeat infer_instance
  refine call_L rfl rfl (by decide) .nil ok rfl (fun r s' h => ?_) fun x h => False.elim h
  obtain ⟨rfl, rfl⟩ := h
  rw [set_L rfl rfl]
  repeat infer_instance
  exact finL k
theorem len_Link_word {A : Adr} {ds : List DV} {M : Mem} {P : PD} {PX : PXn} (h : sp_Link_word A ds M P PX) : ds.length = (["self"] : List Str).length := len_L (m := 0) (fun _ _ h => by rw [h]; rfl) h
theorem b_Link_word {A : Adr} {ds : List DV} {M : Mem} {P : PD} {PX : PXn} (h : sp_Link_word A ds M P PX) : l_Link_word A { nx := fun _ M' => DropD M.length P .non M', rt := DropD M.length P } (startL N_Link_word ds) M := by
  obtain ⟨s, as, rfl, rfl, ok, rfl, k, _⟩ := h
  show l_Link_word A _ [some (.obj 0)] _
  have k := k _ s ⟨rfl, rfl⟩
  unfold l_Link_word
  repeat infer_instance
  refine call_L rfl rfl (by decide) (.cons (.cons .nil)) ok ⟨0, _, by decide, by decide, by decide +kernel, rfl⟩ (fun r s' h => ?_) fun x h => False.elim h
  obtain ⟨n, b, e, rfl, rfl⟩ := h
  cases e
  rw [set_L rfl rfl]
  exact finL k
theorem len_Link_send {A : Adr} {ds : List DV} {M : Mem} {P : PD} {PX : PXn} (h : sp_Link_send A ds M P PX) : ds.length = (["self", "body"] : List Str).length := len_L (m := 1) (fun _ _ ⟨⟨_, _, h⟩, _⟩ => by rw [h]; rfl) h
theorem b_Link_send {A : Adr} {ds : List DV} {M : Mem} {P : PD} {PX : PXn} (h : sp_Link_send A ds M P PX) : l_Link_send A { nx := fun _ M' => DropD M.length P .non M', rt := DropD M.length P, ex := DropX M.length PX } (startL N_Link_send ds) M := by
  obtain ⟨s, as, rfl, rfl, ok, ⟨⟨b, hb, rfl⟩, hs9⟩, k, kx⟩ := h
  show l_Link_send A _ [some (.obj 0), some (.dat (.str b))] _
  unfold l_Link_send
  repeat infer_instance
  refine call_L rfl rfl (by decide) .nil ok rfl (fun r s' h => ?_) fun x h => False.elim h
  obtain ⟨rfl, rfl⟩ := h
  rw [set_L rfl rfl]
  repeat infer_instance
  have hbs : (s'.bs.length : Int) ≤ s'.snt := ok.s0
  have hs1 := ok.s1
  refine s_ite (fun h1 => ?_) (fun h1 => ?_)
  · have h1 : decide (s'.bs.length < 8) = false := by simpa using h1
    have h1 := of_decide_eq_false h1
    repeat infer_instance
    exact .inr ⟨2, Nat.le_refl _, by
      show (okMO 2 (lkO A s' 1) && (okMO 2 (strsO s'.bs) && true)) = true
      rw [strs_all]
      rfl, kx _ ⟨h1, rfl⟩⟩
  · have h1 : decide (s'.bs.length < 8) = true := by simpa using h1
    have h1 := of_decide_eq_true h1
    repeat infer_instance
    refine ⟨1, _, _, rfl, rfl, rfl, by rw [strs_len]; show _ < 2 ^ 24; omega, ?_⟩
    repeat infer_instance
    refine call_L (A := A) (s := s'.sent b) (n := 0) (n' := 1) rfl ?_ (by decide) (.cons (.cons .nil)) ⟨ok.m, ok.o, ok.t0, ok.t1, ?_, ?_, ?_, ?_, ?_⟩ ⟨_, b, ?_, ?_, hb, rfl⟩ (fun r s2 h => ?_) fun x h => False.elim h
    · show some (MO.lst _) = some (MO.lst _)
      simp [Lk.sent]
    · show ((s'.bs ++ [b]).length : Int) ≤ s'.snt + 1
      rw [List.length_append]
      show ((s'.bs.length + 1 : Nat) : Int) ≤ _
      omega
    · show s'.snt + 1 ≤ 9000
      omega
    · intro c hc
      rcases List.mem_append.mp hc with h | h
      · exact ok.b c h
      · rw [List.mem_singleton.mp h]; exact hb
    · exact ok.mo
    · exact ok.oo
    · omega
    · omega
    · obtain ⟨n, c, e, rfl, rfl⟩ := h
      cases e
      rw [set_L rfl (by show some (MO.lst _) = some (MO.lst _); simp [Lk.sent])]
      have h2 := k _ (s'.sent b) ⟨h1, b, rfl, rfl, rfl⟩
      have e2 : [lkO A (s'.sent b) 1, strsO (s'.sent b).bs] = [lkO A (s'.sent b) 1, MO.lst ((s'.bs.map D.str).map DV.dat ++ [.dat (.str b)])] := by simp [Lk.sent]
      have h3 := finL h2
      rw [e2] at h3
      exact h3

theorem len_Link_again {A : Adr} {ds : List DV} {M : Mem} {P : PD} {PX : PXn} (h : sp_Link_again A ds M P PX) : ds.length = (["self"] : List Str).length := len_L (m := 0) (fun _ _ h => by rw [h]; rfl) h
theorem packs_len (s : Lk) : s.packs.length = s.bs.length := by unfold Lk.packs; simp
theorem packs_at {s : Lk} {i : Nat} {b : Str} (h : s.bs[i]? = some b) : s.packs[i]? = some (s.pack (s.ack + 1 + (i : Nat)) b) := by
  unfold Lk.packs
  rw [List.getElem?_mapIdx, h]
  rfl
theorem b_Link_again {A : Adr} {ds : List DV} {M : Mem} {P : PD} {PX : PXn} (h : sp_Link_again A ds M P PX) : l_Link_again A { nx := fun _ M' => DropD M.length P .non M', rt := DropD M.length P } (startL N_Link_again ds) M := by
  obtain ⟨s, as, rfl, rfl, ok, rfl, k, _⟩ := h
  show l_Link_again A _ [some (.obj 0), none, none, none] _
  have k := k _ s ⟨rfl, rfl⟩
  have hs0 := ok.s0
  have hs1 := ok.s1
  have ha : s.ack = s.snt - s.bs.length := rfl
  unfold l_Link_again
  repeat infer_instance
  refine call_L rfl rfl (by decide) .nil ok rfl (fun r s2 h => ?_) fun x h => False.elim h
  obtain ⟨e2, rfl⟩ := h
  rw [e2, set_L rfl rfl]
  repeat infer_instance
  refine s_lc ?_
  refine s_wEnumO ?_
  repeat infer_instance
  refine .inl ⟨1, s.bs.map D.str, rfl, rfl, ?_⟩
  refine ⟨fun i acc M => M = [lkO A s 1, strsO s.bs] ∧ acc = (s.packs.take i).map D.str, ⟨rfl, rfl⟩, fun i acc M h => by rw [h.1]; rfl, ?_, ?_⟩
  · rintro i x acc M hx ⟨rfl, rfl⟩
    obtain ⟨e, he, rfl⟩ := enumD_at hx
    rw [List.getElem?_map] at he
    cases hb : s.bs[i]? with
    | none => rw [hb] at he; cases he
    | some b =>
      rw [hb] at he
      cases he
      have hi := (List.getElem?_eq_some_iff.mp hb).1
      have hbl := ok.b b (List.mem_of_getElem? hb)
      repeat infer_instance
      refine call_L rfl rfl (by decide) (.cons (.cons .nil)) ok ⟨_, b, by omega, by omega, hbl, rfl⟩ (fun r s3 h => ?_) fun x h => False.elim h
      obtain ⟨n, b', e, e3, rfl⟩ := h
      cases e
      rw [e3, set_L rfl rfl]
      refine ⟨by rw [List.length_map, List.length_take]; show _ < 2 ^ 24; omega, _, rfl, .inl ⟨rfl, ?_⟩⟩
      rw [take_snoc (packs_at hb), List.map_append]
      rfl
  · rintro acc M ⟨rfl, rfl⟩
    rw [enumD_len, List.length_map, ← packs_len, List.take_length]
    repeat infer_instance
    exact finL k

/-- a text cut at its first newline -/
def joinC (w t : Str) : Str := w ++ ("\n" : Str) ++ t
theorem nl_cs : ("\n" : Str).cps.toList = [10] := by decide +kernel
theorem tw_free : ∀ l : List Nat, 10 ∉ l.takeWhile fun c => decide (c ≠ 10)
  | [] => by simp
  | c :: l => by
    rw [List.takeWhile_cons]
    split
    · rename_i h
      intro hm
      rcases List.mem_cons.mp hm with e | e
      · subst e
        exact absurd h (by decide)
      · exact tw_free l e
    · simp
theorem head_free (p : Str) : 10 ∉ (headF p).cps.toList := by unfold headF; rw [cs_S]; exact tw_free _
theorem cut_nl {p : Str} (hm : 10 ∈ p.cps.toList) : p = joinC (headF p) (bodyF p) := by
  refine cs_inj ?_
  unfold joinC headF bodyF
  rw [cs_app, cs_app, cs_S, cs_S, nl_cs]
  have e := List.takeWhile_append_dropWhile (p := fun c => decide (c ≠ 10)) (l := p.cps.toList)
  have hd : ∃ r, p.cps.toList.dropWhile (fun c => decide (c ≠ 10)) = 10 :: r := by
    cases hq : p.cps.toList.dropWhile (fun c => decide (c ≠ 10)) with
    | nil =>
      rw [hq, List.append_nil] at e
      rw [← e] at hm
      exact absurd hm (tw_free _)
    | cons c r =>
      have := List.head_dropWhile_not (fun c => decide (c ≠ 10)) (l := p.cps.toList) (by rw [hq]; simp)
      simp only [hq, List.head_cons] at this
      have : c = 10 := by simpa using this
      exact ⟨r, by rw [this]⟩
  obtain ⟨r, hr⟩ := hd
  rw [hr] at e ⊢
  exact e.symm.trans (by simp)
theorem joinC_len (w t : Str) : (joinC w t).length = w.length + 1 + t.length := by
  unfold joinC
  rw [app_len, app_len]
  rfl
theorem newsW_len {me other : Str} {bs : List Str} {snt tkn : Int} {b : Str} {ws : List Str} (h : ws.length ≠ 4) : newsW me other bs snt tkn b ws = oddT bs tkn := by
  match ws, h with
  | [], _ => rfl
  | [_], _ => rfl
  | [_, _], _ => rfl
  | [_, _, _], _ => rfl
  | [_, _, _, _], h => exact absurd rfl h
  | _ :: _ :: _ :: _ :: _ :: _, _ => rfl
theorem four {ws : List Str} (h : ws.length = 4) : ∃ a b c d, ws = [a, b, c, d] := by
  match ws, h with
  | [a, b, c, d], _ => exact ⟨a, b, c, d, rfl⟩
theorem split_mem {h w : Str} (hm : w ∈ Txt.split h (" " : Str)) : ∀ c ∈ w.cps.toList, c ∈ h.cps.toList := by
  have e : Str.join (" " : Str) (Txt.split h (" " : Str)) = h := StrLaws.join_split h _
  intro c hc
  rw [← e]
  generalize Txt.split h (" " : Str) = ys at hm
  clear e
  induction ys with
  | nil => cases hm
  | cons y ys ih =>
    cases ys with
    | nil =>
      rcases List.mem_cons.mp hm with rfl | hm
      · exact hc
      · cases hm
    | cons z ys =>
      show c ∈ (y ++ (" " : Str) ++ Str.join (" " : Str) (z :: ys)).cps.toList
      rw [cs_app, cs_app, List.mem_append, List.mem_append]
      rcases List.mem_cons.mp hm with rfl | hm
      · exact .inl (.inl hc)
      · exact .inr (ih hm)
theorem two_eq (a b c d : Str) : eqD (.lst [.str a, .str b]) (.lst [.str c, .str d]) = (decide (a = c) && decide (b = d)) := by
  show (a == c && (b == d && true)) = _
  rw [Bool.and_true]
  rfl
theorem two_ok {a b : Str} (ha : PyData.strOk a = true) (hb : PyData.strOk b = true) : okD (.lst [.str a, .str b]) = true := by
  simp [okD, pureD, pureDs, pyD, pyDs, SeqAt.shaped, PyData.canLay0, PyData.canLayAll0, PyData.depth, PyData.depthAll, ha, hb]
theorem mem_sum {ys : List Str} {y : Str} (h : y ∈ ys) : y.length ≤ (ys.map (·.length)).sum := by
  induction ys with
  | nil => cases h
  | cons a ys ih =>
    rw [List.map_cons, List.sum_cons]
    rcases List.mem_cons.mp h with rfl | h
    · omega
    · have := ih h
      omega
theorem split_bound (x : Str) (c : Nat) : ((Txt.split x (S [c])).map (·.length)).sum + (Txt.split x (S [c])).length ≤ x.length + 1 := by
  unfold Txt.split
  split
  · simp
  · split
    · simp
    · have h1 := congrArg Str.length (StrLaws.glued_between_self x (S [c]) (x.length + 1))
      rw [size_glued] at h1
      have h2 := length_partsBetween x (PySem.Builtin.Str.occurrences x (S [c]) 0 x.length (x.length + 1)) (S [c]).length
      have h3 : (S [c]).length = 1 := rfl
      rw [h3] at h1 h2 ⊢
      omega
theorem split_len {h w : Str} (hm : w ∈ Txt.split h (" " : Str)) : w.length ≤ h.length := by
  have h1 := split_bound h 32
  have h2 : w.length ≤ ((Txt.split h (" " : Str)).map (·.length)).sum := mem_sum hm
  rw [show (" " : Str) = S [32] by decide +kernel] at h2 hm
  have h3 : 0 < (Txt.split h (S [32])).length := List.length_pos_of_mem hm
  omega

def Lk.got (s : Lk) (T : Told) : Lk := { s with bs := T.bs, tkn := T.tkn }
def Lk.cut (s : Lk) (j : Nat) : Lk := { s with bs := s.bs.drop j }
theorem cut_ok {s : Lk} (ok : LkOk s) (j : Nat) : LkOk (s.cut j) := ⟨ok.m, ok.o, ok.t0, ok.t1, by show ((s.bs.drop j).length : Int) ≤ s.snt; have := ok.s0; rw [List.length_drop]; omega, ok.s1, fun b hb => ok.b b (List.mem_of_mem_drop hb), ok.mo, ok.oo⟩
theorem pop_strs (bs : List Str) (j : Nat) : (((bs.drop j).map D.str).map DV.dat).eraseIdx 0 = ((bs.drop (j + 1)).map D.str).map DV.dat := by
  rw [List.eraseIdx_zero, ← List.map_tail, ← List.map_tail, List.tail_drop]
theorem idx0 {n : Nat} (h : 0 < n) : seqIndex? 0 n = some 0 := by
  have e0 : ¬ ((0 : Int) < 0) := by omega
  simp only [seqIndex?, e0, if_false]
  rw [if_pos (by rw [Bool.and_eq_true, decide_eq_true_eq, decide_eq_true_eq]; omega)]
  rfl
theorem num_len {x : Str} (h : numOk x = true) : x.length ≤ 640 := by
  unfold numOk at h
  simp only [Bool.and_eq_true, decide_eq_true_eq] at h
  have := h.1.2
  omega
theorem len_Link_take {A : Adr} {ds : List DV} {M : Mem} {P : PD} {PX : PXn} (h : sp_Link_take A ds M P PX) : ds.length = (["self", "packet"] : List Str).length := len_L (m := 1) (fun _ _ ⟨_, _, h⟩ => by rw [h]; rfl) h
theorem b_Link_take {A : Adr} {ds : List DV} {M : Mem} {P : PD} {PX : PXn} (h : sp_Link_take A ds M P PX) : l_Link_take A { nx := fun _ M' => DropD M.length P .non M', rt := DropD M.length P } (startL N_Link_take ds) M := by
  obtain ⟨s, as, rfl, rfl, ok, ⟨p, ⟨hp, hpk⟩, rfl⟩, k, _⟩ := h
  show l_Link_take A _ [some (.obj 0), some (.dat (.str p)), none, none, none, none, none] _
  have hp' : p.length ≤ 20000 := hp
  have hz := hp.z
  have fin : ∀ T, takeF s.me s.other s.bs s.snt s.tkn p = T → DropD 2 P (.dat T.d) [lkO A (s.got T) 1, strsO T.bs] := fun T e => by
    subst e
    exact finL (s := s.got (takeF s.me s.other s.bs s.snt s.tkn p)) (k _ _ ⟨p, rfl, rfl, rfl⟩)
  have odd : takeF s.me s.other s.bs s.snt s.tkn p = oddT s.bs s.tkn → DropD 2 P (.dat (.tup [.str "odd", .non])) [lkO A s 1, strsO s.bs] := fun e => fin _ e
  unfold takeF at odd fin
  unfold l_Link_take
  repeat infer_instance
  refine ⟨p, ("\n" : Str), rfl, rfl, by decide +kernel, hz, ?_⟩
  by_cases hm : 10 ∈ p.cps.toList
  · rw [if_pos hm] at odd fin
    have hl := joinC_len (headF p) (bodyF p)
    rw [← cut_nl hm] at hl
    rw [show Txt.partition p ("\n" : Str) = (headF p, ("\n" : Str), bodyF p) from by
      conv => lhs; rw [cut_nl hm]
      exact TL.partition_app (s := 10) (S := []) (by decide +kernel) (head_free p)]
    have hwl := @split_len (headF p)
    have hwk : ∀ w ∈ Txt.split (headF p) (" " : Str), PyData.strOk w = true := fun w hw => ok_cs.mpr fun c hc => by
      have := split_mem hw c hc
      unfold headF at this
      rw [cs_S] at this
      exact ok_cs.mp hpk c ((List.takeWhile_sublist _).mem this)
    generalize headF p = hh at hl hwl hwk odd fin
    generalize bodyF p = bb at hl odd fin
    repeat infer_instance
    unfold l_Link_take_t1
    repeat infer_instance
    refine ⟨_, _, rfl, rfl, by decide +kernel, by show hh.length + 2 ≤ 2 ^ 24; omega, ?_⟩
    generalize Txt.split hh (" " : Str) = ws at hwl hwk odd fin
    unfold l_Link_take_t2
    repeat infer_instance
    refine s_ite (fun h => absurd (show decide (("\n" : Str) = "") = true from h) (by decide +kernel)) (fun _ => ?_)
    repeat infer_instance
    rw [List.length_map]
    refine s_ite (fun h1 => ?_) (fun h1 => ?_)
    · have h1 : (!decide ((ws.length : Int) = 4)) = true := h1
      repeat infer_instance
      refine odd (newsW_len fun e => ?_)
      rw [e] at h1
      cases h1
    obtain ⟨w0, w1, w2, w3, rfl⟩ : ∃ a b c d, ws = [a, b, c, d] := four (by
      have h1 : (!decide ((ws.length : Int) = 4)) = false := h1
      have h1 : (ws.length : Int) = 4 := by simpa using h1
      omega)
    have l0 := hwl (w := w0) (by simp)
    have l1 := hwl (w := w1) (by simp)
    have l2 := hwl (w := w2) (by simp)
    have l3 := hwl (w := w3) (by simp)
    have o0 := hwk w0 (by simp)
    have o1 := hwk w1 (by simp)
    unfold newsW at odd fin
    dsimp only at odd fin
    repeat infer_instance
    rw [show cutD (List.map D.str [w0, w1, w2, w3]) none (some 2) = [D.str w0, D.str w1] from rfl]
    refine vEq_dat (two_ok o0 o1) (two_ok ok.oo ok.mo) ?_
    rw [two_eq]
    repeat infer_instance
    refine s_ite (fun h2 => ?_) (fun h2 => ?_)
    · have h2 : (!(decide (w0 = s.other) && decide (w1 = s.me))) = true := h2
      rw [if_neg (by intro z; rw [z] at h2; cases h2)] at odd
      repeat infer_instance
      exact odd rfl
    have h2 : (!(decide (w0 = s.other) && decide (w1 = s.me))) = false := h2
    rw [if_pos (by simpa using h2)] at odd fin
    repeat infer_instance
    unfold l_Link_take_t3
    repeat infer_instance
    refine call_F (.cons .nil) ⟨w2, by show _ ≤ 20000; omega, rfl, rfl⟩ ?_
    cases n2 : numOk w2 with
    | false =>
      rw [n2, Bool.false_and] at odd
      repeat infer_instance
      exact odd rfl
    | true =>
    rw [n2, Bool.true_and] at odd fin
    repeat infer_instance
    refine call_F (.cons .nil) ⟨w3, by show _ ≤ 20000; omega, rfl, rfl⟩ ?_
    cases n3 : numOk w3 with
    | false =>
      rw [n3] at odd
      repeat infer_instance
      exact odd rfl
    | true =>
    rw [n3, if_pos rfl] at odd fin
    have m2 := num_text n2
    have m3 := num_text n3
    have q2 : w2.length ≤ 640 := num_len n2
    have q3 : w3.length ≤ 640 := num_len n3
    generalize nv w2 = n at m2 odd fin
    generalize nv w3 = a at m3 odd fin
    repeat infer_instance
    unfold l_Link_take_t4
    repeat infer_instance
    refine s_intAs m2 q2 ?_
    unfold l_Link_take_t5
    repeat infer_instance
    refine s_intAs m3 q3 ?_
    repeat infer_instance
    refine s_ite (fun h3 => ?_) (fun h3 => ?_)
    · have h3 : s.snt < a := of_decide_eq_true h3
      rw [if_pos (.inl h3)] at odd
      repeat infer_instance
      exact odd rfl
    have h3 : ¬ s.snt < a := of_decide_eq_false h3
    have t6 : (n = 0 → bb = ("" : Str)) → l_Link_take_t6 A ⟨fun _ M' => DropD 2 P .non M', DropD 2 P, fun _ _ => False, fun _ _ => False, fun _ _ _ => False⟩ [some (.obj 0), some (.dat (.str p)), some (.dat (.str hh)), some (.dat (.str "\n")), some (.dat (.str bb)), some (.dat (.lst ([w0, w1, w2, w3].map D.str))), some (.dat (.int n))] [lkO A s 1, strsO s.bs] := fun hb => by
      rw [if_neg (by rintro (h | ⟨h, h'⟩); exact h3 h; exact h' (hb h))] at fin
      have hs0 := ok.s0
      have hs1 := ok.s1
      generalize hneed : (a - (s.snt - s.bs.length)).toNat = need at fin
      have hnl : need ≤ s.bs.length := by omega
      unfold l_Link_take_t6
      repeat infer_instance
      refine ⟨fun m ρ M => ∃ j, m = need - j ∧ j ≤ need ∧ M = [lkO A s 1, strsO (s.bs.drop j)] ∧ ρ = [some (.obj 0), some (.dat (.str p)), some (.dat (.str hh)), some (.dat (.str "\n")), some (.dat (.str bb)), some (.dat (.lst ([w0, w1, w2, w3].map D.str))), some (.dat (.int n))], ⟨need, 0, rfl, Nat.zero_le _, rfl, rfl⟩, ?_⟩
      rintro m ρ M ⟨j, rfl, hj, rfl, rfl⟩
      have cl : (s.cut j).ack = s.snt - ((s.bs.length - j : Nat) : Int) := by
        show s.snt - ((s.bs.drop j).length : Int) = _
        rw [List.length_drop]
      repeat infer_instance
      refine call_L (s := s.cut j) rfl rfl (by decide) .nil (cut_ok ok j) rfl (fun r s2 h => ?_) fun x h => False.elim h
      obtain ⟨e2, rfl⟩ := h
      rw [e2, set_L (s := s.cut j) rfl rfl, cl]
      repeat infer_instance
      refine s_intAs m3 q3 ?_
      repeat infer_instance
      refine s_ite (fun h5 => ?_) (fun h5 => ?_)
      · have h5 : s.snt - ((s.bs.length - j : Nat) : Int) < a := of_decide_eq_true h5
        have hjn : j < need := by omega
        repeat infer_instance
        refine s_popAt (k := 0) (y := .dat (.str (s.bs[j]'(by omega)))) rfl (by decide) (by decide) ?_ ?_ ?_
        · rw [strs_len, List.length_drop]
          exact idx0 (by omega)
        · rw [List.getElem?_map, List.getElem?_map, List.getElem?_drop, Nat.add_zero, List.getElem?_eq_getElem (by omega)]
          rfl
        · rw [pop_strs]
          exact .here ⟨need - (j + 1), by omega, j + 1, rfl, by omega, rfl, rfl⟩
      · have h5 : ¬ s.snt - ((s.bs.length - j : Nat) : Int) < a := of_decide_eq_false h5
        have hjn : j = need := by omega
        subst hjn
        unfold newsN at fin
        repeat infer_instance
        unfold l_Link_take_t7
        repeat infer_instance
        refine s_ite (fun h6 => ?_) (fun h6 => ?_)
        · have h6 : n = 0 := of_decide_eq_true h6
          rw [if_pos h6] at fin
          repeat infer_instance
          exact fin _ rfl
        have h6 : ¬ n = 0 := of_decide_eq_false h6
        rw [if_neg h6] at fin
        repeat infer_instance
        unfold l_Link_take_t8
        repeat infer_instance
        refine s_ite (fun h7 => ?_) (fun h7 => ?_)
        · have h7 : ¬ s.tkn < n := by simpa using h7
          rw [if_pos (by omega)] at fin
          repeat infer_instance
          exact fin _ rfl
        have h7 : s.tkn < n := by simpa using h7
        rw [if_neg (by omega)] at fin
        repeat infer_instance
        unfold l_Link_take_t9
        repeat infer_instance
        refine s_ite (fun h8 => ?_) (fun h8 => ?_)
        · have h8 : s.tkn + 1 < n := of_decide_eq_true h8
          rw [if_pos h8] at fin
          repeat infer_instance
          exact fin _ rfl
        have h8 : ¬ s.tkn + 1 < n := of_decide_eq_false h8
        rw [if_neg h8] at fin
        repeat infer_instance
        unfold l_Link_take_t10
        repeat infer_instance
        unfold l_Link_take_t11
        repeat infer_instance
        exact fin _ rfl
    repeat infer_instance
    refine s_ite (fun h4 => ?_) (fun h4 => ?_)
    · have h4 : n = 0 := of_decide_eq_true h4
      repeat infer_instance
      refine s_ite (fun h5 => ?_) (fun h5 => ?_)
      · have h5 : (!decide (bb = ("" : Str))) = true := h5
        rw [if_pos (.inr ⟨h4, fun e => by rw [e] at h5; exact absurd h5 (by decide +kernel)⟩)] at odd
        repeat infer_instance
        exact odd rfl
      · have h5 : (!decide (bb = ("" : Str))) = false := h5
        repeat infer_instance
        exact t6 fun _ => by simpa using h5
    · have h4 : ¬ n = 0 := of_decide_eq_false h4
      repeat infer_instance
      exact t6 fun e => absurd e h4
  · rw [if_neg hm] at odd
    rw [show Txt.partition p ("\n" : Str) = (p, Str.empty, Str.empty) from TL.partition_none (s := 10) (S := []) (by decide +kernel) hm]
    repeat infer_instance
    unfold l_Link_take_t1
    repeat infer_instance
    refine ⟨_, _, rfl, rfl, by decide +kernel, by show p.length + 2 ≤ 2 ^ 24; omega, ?_⟩
    unfold l_Link_take_t2
    repeat infer_instance
    refine s_ite (fun _ => ?_) (fun h => absurd (show decide (Str.empty = "") = false from h) (by decide +kernel))
    repeat infer_instance
    exact odd rfl

/-! packets, as texts -/
theorem tw_app : ∀ (h b : List Nat), 10 ∉ h → (h ++ 10 :: b).takeWhile (fun c => decide (c ≠ 10)) = h ∧ (h ++ 10 :: b).dropWhile (fun c => decide (c ≠ 10)) = 10 :: b
  | [], b, _ => by simp
  | c :: h, b, hn => by
    have hc : c ≠ 10 := fun e => hn (by simp [e])
    have ih := tw_app h b fun e => hn (List.mem_cons_of_mem _ e)
    rw [List.cons_append, List.takeWhile_cons, List.dropWhile_cons, if_pos (by simpa using hc), if_pos (by simpa using hc)]
    exact ⟨by rw [ih.1], ih.2⟩
theorem head_of {h b : Str} (hn : 10 ∉ h.cps.toList) : headF (joinC h b) = h ∧ bodyF (joinC h b) = b := by
  have e : (joinC h b).cps.toList = h.cps.toList ++ 10 :: b.cps.toList := by
    unfold joinC
    rw [cs_app, cs_app, nl_cs, List.append_assoc]
    rfl
  obtain ⟨h1, h2⟩ := tw_app h.cps.toList b.cps.toList hn
  unfold headF bodyF
  rw [e, h1, h2]
  exact ⟨S_cs h, S_cs b⟩
theorem num_facts : ∀ i : Nat, i < 128 → numOk (toString (i : Int) : Str) = true ∧ nv (toString (i : Int) : Str) = (i : Int) ∧ 32 ∉ (toString (i : Int) : Str).cps.toList ∧ 10 ∉ (toString (i : Int) : Str).cps.toList ∧ (toString (i : Int) : Str).length ≤ 3 ∧ PyData.strOk (toString (i : Int) : Str) = true := by decide +kernel
theorem sp_cs : (" " : Str).cps.toList = [32] := by decide +kernel
theorem sp_cs2 : ("  " : Str).cps.toList = [32, 32] := by decide +kernel
/-- a head of four words -/
def head4 (y a b c d : Str) : Str := a ++ y ++ b ++ y ++ c ++ y ++ d
theorem pack_join (me other : Str) (n t : Int) (x : Str) : packF me other n t x = joinC (head4 " " me other (toString n) (toString t)) x := rfl
theorem mem4 {k : Nat} {y a b c d : Str} (hy : k ∉ y.cps.toList) (ha : k ∉ a.cps.toList) (hb : k ∉ b.cps.toList) (hc : k ∉ c.cps.toList) (hd : k ∉ d.cps.toList) : k ∉ (head4 y a b c d).cps.toList := by
  unfold head4
  simp only [cs_app, List.mem_append, not_or]
  exact ⟨⟨⟨⟨⟨⟨ha, hy⟩, hb⟩, hy⟩, hc⟩, hy⟩, hd⟩
theorem split_tl {parts : List Str} (hne : parts ≠ []) (hp : ∀ p ∈ parts, 32 ∉ p.cps.toList) : Txt.split (Str.join (" " : Str) parts) (" " : Str) = parts := by
  rw [← TL.join_eq]
  exact TL.split_join (s := 32) (S := []) (by decide +kernel) (by decide +kernel) hne hp
theorem split4 {a b c d : Str} (ha : 32 ∉ a.cps.toList) (hb : 32 ∉ b.cps.toList) (hc : 32 ∉ c.cps.toList) (hd : 32 ∉ d.cps.toList) : Txt.split (head4 " " a b c d) (" " : Str) = [a, b, c, d] := by
  have e : head4 " " a b c d = Str.join (" " : Str) [a, b, c, d] := by
    apply cs_inj
    show _ = (a ++ (" " : Str) ++ (b ++ (" " : Str) ++ (c ++ (" " : Str) ++ d))).cps.toList
    unfold head4
    simp only [cs_app, List.append_assoc]
  rw [e]
  refine split_tl (by simp) fun p hp => ?_
  simp only [List.mem_cons, List.not_mem_nil, or_false] at hp
  rcases hp with rfl | rfl | rfl | rfl <;> assumption
theorem split7 {a b c d : Str} (ha : 32 ∉ a.cps.toList) (hb : 32 ∉ b.cps.toList) (hc : 32 ∉ c.cps.toList) (hd : 32 ∉ d.cps.toList) : (Txt.split (head4 "  " a b c d) (" " : Str)).length = 7 := by
  have e : head4 "  " a b c d = Str.join (" " : Str) [a, "", b, "", c, "", d] := by
    apply cs_inj
    show _ = (a ++ (" " : Str) ++ (("" : Str) ++ (" " : Str) ++ (b ++ (" " : Str) ++ (("" : Str) ++ (" " : Str) ++ (c ++ (" " : Str) ++ (("" : Str) ++ (" " : Str) ++ d)))))).cps.toList
    unfold head4
    simp only [cs_app, List.append_assoc, sp_cs, sp_cs2, show ("" : Str).cps.toList = [] from rfl, List.nil_append, List.cons_append]
  rw [e, split_tl (by simp) fun p hp => ?_]
  · rfl
  · simp only [List.mem_cons, List.not_mem_nil, or_false] at hp
    rcases hp with rfl | rfl | rfl | rfl | rfl | rfl | rfl
    · exact ha
    · decide
    · exact hb
    · decide
    · exact hc
    · decide
    · exact hd
/-- replace of one sign -/
def flat (c : Nat) (z : List Nat) (l : List Nat) : List Nat := l.flatMap fun d => if d = c then z else [d]
theorem flat_app (c : Nat) (z l r : List Nat) : flat c z (l ++ r) = flat c z l ++ flat c z r := List.flatMap_append
theorem flat_free {c : Nat} {z l : List Nat} (h : c ∉ l) : flat c z l = l := by
  induction l with
  | nil => rfl
  | cons d l ih =>
    unfold flat at ih ⊢
    rw [List.flatMap_cons, if_neg (fun e => h (by simp [e])), ih fun hm => h (List.mem_cons_of_mem _ hm)]
    rfl
theorem repl_flat (c : Nat) (z : List Nat) : ∀ l : List Nat, StrLaws.replL [c] z l = flat c z l
  | [] => StrLaws.replL_nil
  | d :: l => by
    have ih := repl_flat c z l
    by_cases h : d = c
    · subst h
      rw [StrLaws.replL_hit (by simp) (by simp)]
      show z ++ StrLaws.replL [d] z l = _
      rw [ih]
      unfold flat
      rw [List.flatMap_cons, if_pos rfl]
    · rw [StrLaws.replL_miss (by simp [h]), ih]
      unfold flat
      rw [List.flatMap_cons, if_neg h]
      rfl
theorem repl_cs {x y z : Str} {c : Nat} (h : y.cps.toList = [c]) : (Txt.replace x y z).cps.toList = flat c z.cps.toList x.cps.toList := by
  rw [StrLaws.replace_list (by rw [len_cs, h]; exact Nat.le_refl 1), h, repl_flat]
theorem repl_nl (p : Str) : 10 ∉ (Txt.replace p "\n" " ").cps.toList := by
  rw [repl_cs (c := 10) nl_cs, sp_cs]
  intro h
  unfold flat at h
  rw [List.mem_flatMap] at h
  obtain ⟨d, _, h⟩ := h
  split at h
  · exact absurd h (by decide)
  · rename_i hd
    rw [List.mem_singleton] at h
    exact hd h.symm
theorem repl_sp {a b c d x : Str} (ha : 32 ∉ a.cps.toList) (hb : 32 ∉ b.cps.toList) (hc : 32 ∉ c.cps.toList) (hd : 32 ∉ d.cps.toList) : Txt.replace (joinC (head4 " " a b c d) x) " " "  " = joinC (head4 "  " a b c d) (S (flat 32 [32, 32] x.cps.toList)) := by
  apply cs_inj
  rw [repl_cs (c := 32) sp_cs, sp_cs2]
  unfold joinC head4
  simp only [cs_app, cs_S, flat_app, sp_cs, sp_cs2, nl_cs, flat_free ha, flat_free hb, flat_free hc, flat_free hd]
  rfl
theorem flat_ok {x : Str} (h : PyData.strOk x = true) : PyData.strOk (S (flat 32 [32, 32] x.cps.toList)) = true := by
  rw [ok_cs] at h ⊢
  rw [cs_S]
  intro c hc
  unfold flat at hc
  rw [List.mem_flatMap] at hc
  obtain ⟨d, hd, hc⟩ := hc
  split at hc
  · simp only [List.mem_cons, List.not_mem_nil, or_false] at hc
    rcases hc with rfl | rfl <;> decide
  · rw [List.mem_singleton] at hc
    rw [hc]; exact h d hd
/-- the words of a packet's head -/
structure Words (a b : Str) (n t : Nat) : Prop where
  n1 : n < 128
  t1 : t < 128
  a1 : a = "a" ∨ a = "b"
  b1 : b = "a" ∨ b = "b"
theorem name_facts {a : Str} (h : a = "a" ∨ a = "b") : 32 ∉ a.cps.toList ∧ 10 ∉ a.cps.toList ∧ a.length = 1 ∧ PyData.strOk a = true := by
  rcases h with rfl | rfl <;> decide +kernel
theorem Words.h10 {a b : Str} {n t : Nat} (w : Words a b n t) : 10 ∉ (head4 " " a b (toString (n : Int)) (toString (t : Int))).cps.toList :=
  mem4 (by decide +kernel) (name_facts w.a1).2.1 (name_facts w.b1).2.1 (num_facts n w.n1).2.2.2.1 (num_facts t w.t1).2.2.2.1
theorem Words.spl {a b : Str} {n t : Nat} (w : Words a b n t) : Txt.split (head4 " " a b (toString (n : Int)) (toString (t : Int))) (" " : Str) = [a, b, toString (n : Int), toString (t : Int)] :=
  split4 (name_facts w.a1).1 (name_facts w.b1).1 (num_facts n w.n1).2.2.1 (num_facts t w.t1).2.2.1
theorem nl_in (h x : Str) : 10 ∈ (joinC h x).cps.toList := by
  unfold joinC
  rw [cs_app, cs_app, nl_cs]
  simp
theorem newsW4 (me other : Str) (bs : List Str) (snt tkn : Int) (b w0 w1 w2 w3 : Str) : newsW me other bs snt tkn b [w0, w1, w2, w3] = (if (decide (w0 = other) && decide (w1 = me)) = true then (if (numOk w2 && numOk w3) = true then (if snt < nv w3 ∨ (nv w2 = 0 ∧ b ≠ "") then oddT bs tkn else newsN (bs.drop (nv w3 - (snt - bs.length)).toNat) tkn (nv w2) b) else oddT bs tkn) else oddT bs tkn) := rfl
/-- what a packet tells the other end -/
theorem take_pack {a b : Str} {n t : Nat} (w : Words a b n t) {bs : List Str} {snt tkn : Int} {x : Str} (h1 : (t : Int) ≤ snt) (h2 : n = 0 → x = "") : takeF b a bs snt tkn (packF a b (n : Int) (t : Int) x) = newsN (bs.drop ((t : Int) - (snt - bs.length)).toNat) tkn n x := by
  obtain ⟨hh, hb⟩ := head_of (b := x) w.h10
  obtain ⟨n1, n2, _⟩ := num_facts n w.n1
  obtain ⟨t1, t2, _⟩ := num_facts t w.t1
  rw [pack_join]
  unfold takeF
  rw [if_pos (nl_in _ _), hh, hb, w.spl]
  rw [newsW4, if_pos (by simp), if_pos (by rw [n1, t1]; rfl), n2, t2, if_neg]
  rintro (h | ⟨h, h'⟩)
  · omega
  · exact h' (h2 (by omega))
theorem take_odd {a b p : Str} {bs : List Str} {snt tkn : Int} (h : 10 ∉ p.cps.toList ∨ ∃ hd x, p = joinC hd x ∧ 10 ∉ hd.cps.toList ∧ ((Txt.split hd " ").length ≠ 4 ∨ ∃ w1 w2 w3 w4, Txt.split hd " " = [w1, w2, w3, w4] ∧ w1 ≠ a)) : takeF b a bs snt tkn p = oddT bs tkn := by
  unfold takeF
  rcases h with h | ⟨hd, x, rfl, hn, h⟩
  · rw [if_neg h]
  · obtain ⟨hh, hb⟩ := head_of (b := x) hn
    rw [if_pos (nl_in _ _), hh, hb]
    rcases h with h | ⟨w1, w2, w3, w4, e, h⟩
    · exact newsW_len h
    · rw [e]
      rw [newsW4, if_neg (by simp [h])]

/-! one direction -/
theorem Nm.swap {a b : Lk} (h : Nm a b) : Nm b a := ⟨h.o.symm, h.m.symm, by
  rcases h.ab with ⟨h1, h2⟩ | ⟨h1, h2⟩
  · exact .inr ⟨by rw [← h.o]; exact h2, by rw [← h.m]; exact h1⟩
  · exact .inl ⟨by rw [← h.o]; exact h2, by rw [← h.m]; exact h1⟩⟩
theorem Nm.me {a b : Lk} (h : Nm a b) : a.me = "a" ∨ a.me = "b" := by rcases h.ab with ⟨h1, _⟩ | ⟨h1, _⟩ <;> simp [h1]
theorem Nm.ot {a b : Lk} (h : Nm a b) : a.other = "a" ∨ a.other = "b" := by rcases h.ab with ⟨_, h1⟩ | ⟨_, h1⟩ <;> simp [h1]
theorem Dir.ack0 {a b : Lk} {S T : List Str} (d : Dir a b S T) : a.ack = ((S.length - a.bs.length : Nat) : Int) := by
  have := d.bl
  unfold Lk.ack
  rw [d.snt]
  omega
theorem Dir.bok {a b : Lk} {S T : List Str} (d : Dir a b S T) : ∀ x ∈ a.bs, okB x := fun x hx => by
  rw [d.bs] at hx
  exact d.ok x (List.mem_of_mem_drop hx)
theorem lk_ok {a b : Lk} {S T S2 T2 : List Str} (n : Nm a b) (d : Dir a b S T) (d2 : Dir b a S2 T2) : LkOk a := by
  have h1 := name_facts n.me
  have h2 := name_facts n.ot
  have e1 := d.snt
  have e2 := d2.tkn
  have e3 := d.bl
  have e4 := d.sl
  have e5 := d2.tl
  have e6 := d2.sl
  exact ⟨by rw [h1.2.2.1]; decide, by rw [h2.2.2.1]; decide, by omega, by omega, by omega, by omega, fun x hx => Nat.le_trans (d.bok x hx).1 (by decide), h1.2.2.2, h2.2.2.2⟩
theorem pk_words {a b : Lk} {n t : Nat} (h : Nm a b) (hn : n ≤ 120) (ht : t ≤ 120) : Words a.me a.other n t := ⟨by omega, by omega, h.me, h.ot⟩
theorem head_len {a b : Str} {n t : Nat} (w : Words a b n t) : (head4 " " a b (toString (n : Int)) (toString (t : Int))).length ≤ 20 := by
  have h1 := (name_facts w.a1).2.2.1
  have h2 := (name_facts w.b1).2.2.1
  have h3 := (num_facts n w.n1).2.2.2.2.1
  have h4 := (num_facts t w.t1).2.2.2.2.1
  have h5 : (" " : Str).length = 1 := rfl
  unfold head4
  simp only [app_len, h1, h2, h5]
  omega
theorem pk_len {a b : Str} {n t : Nat} {x : Str} (w : Words a b n t) (hx : x.length ≤ 1000) : (packF a b (n : Int) (t : Int) x).length ≤ 1100 := by
  rw [pack_join, joinC_len]
  have := head_len w
  omega
theorem pk_ok {a b : Str} {n t : Nat} {x : Str} (w : Words a b n t) (hx : PyData.strOk x = true) : PyData.strOk (packF a b (n : Int) (t : Int) x) = true := by
  have e1 : PyData.strOk (" " : Str) = true := by decide +kernel
  have e2 : PyData.strOk ("\n" : Str) = true := by decide +kernel
  unfold packF
  exact ok_app (ok_app (ok_app (ok_app (ok_app (ok_app (ok_app (ok_app (name_facts w.a1).2.2.2 e1) (name_facts w.b1).2.2.2) e1) (num_facts n w.n1).2.2.2.2.2) e1) (num_facts t w.t1).2.2.2.2.2) e2) hx
theorem nl_S : ("\n" : Str) = S [10] := by decide +kernel
theorem cut_head {h x : Str} (hn : 10 ∉ h.cps.toList) {i : Nat} (hi : (joinC h x).cps.toList.take i = headC 10 (joinC h x).cps.toList) : cutS (joinC h x) none (some (i : Int)) = h := by
  rw [cut_to, hi]
  have e : (joinC h x).cps.toList = h.cps.toList ++ 10 :: x.cps.toList := by
    unfold joinC
    rw [cs_app, cs_app, nl_cs, List.append_assoc]
    rfl
  have : headC 10 (joinC h x).cps.toList = h.cps.toList := by
    rw [e]
    have := (tw_app h.cps.toList x.cps.toList hn).1
    unfold headC
    simpa using this
  exact (congrArg S this).trans (S_cs h)
theorem len_x_give {A : Adr} {ds : List DV} {M : Mem} {P : PD} {PX : PXn} (h : sp_x_give A ds M P PX) : ds.length = (["_law_link", "_law_packet", "_law_took"] : List Str).length := by
  obtain ⟨a, b, S, T, S2, T2, n, t, x, rfl, _⟩ := h
  rfl
theorem strs_append {T : List Str} {x : Str} : (T.map D.str).map DV.dat ++ [.dat (.str x)] = ((T ++ [x]).map D.str).map DV.dat := by rw [List.map_append, List.map_append]; rfl
/-- a name of the news, and what is due -/
theorem give_t3 {A : Adr} {a b : Lk} {S1 T S2 T2 : List Str} {n t : Nat} {x p du : Str} {bd : D} {tk : Int} {P : PD} {y5 y6 : Option DV} (nm : Nm a b) (d : Dir a b S1 T) (d2 : Dir b a S2 T2) (w : Words a.me a.other n t) (hp : p = packF a.me a.other (n : Int) (t : Int) x) (hpl : p.length ≤ 1100) (hpo : PyData.strOk p = true)
    (ht : t ≤ T2.length) (hn2 : n = 0 → x = "") (hT : newsN (b.acked t).bs b.tkn n x = ⟨.tup [.str du, bd], (b.acked t).bs, tk⟩)
    (k1 : du ≠ "new" → P (.dat (.bl true)) [lkO A { b.acked t with tkn := tk } 1, strsO (b.acked t).bs, strsO T]) (k2 : du = "new" → bd = .str x ∧ P (.dat (.bl true)) [lkO A { b.acked t with tkn := tk } 1, strsO (b.acked t).bs, strsO (T ++ [x])]) :
    l_x_give_t3 A { nx := fun _ M' => DropD 3 P .non M', rt := DropD 3 P } [some (.obj 0), some (.dat (.str p)), some (.obj 2), some (.dat (.int n)), some (.dat (.str du)), y5, y6] [lkO A b 1, strsO b.bs, strsO T] := by
  have szn : (sizeLine : Nat) = 16777216 := sizeLine_eq
  have hok : LkOk b := lk_ok nm.swap d2 d
  have hTl := d.tl
  have hSl := d.sl
  have htk : takeF b.me b.other b.bs b.snt b.tkn p = ⟨.tup [.str du, bd], (b.acked t).bs, tk⟩ := by
    rw [hp, ← nm.m, ← nm.o, take_pack w (by rw [d2.snt]; have := d2.tl; omega) hn2]
    exact hT
  unfold l_x_give_t3
  repeat infer_instance
  refine call_L (n := 0) (n' := 1) rfl rfl (by decide) (.cons .nil) hok ⟨p, ⟨by show p.length ≤ 20000; omega, hpo⟩, rfl⟩ (fun r s2 h => ?_) fun x h => False.elim h
  obtain ⟨p2, e2, rfl, rfl⟩ := h
  cases e2
  rw [htk]
  show (lgTup _ _) _ _ [lkO A { b.acked t with tkn := tk } 1, strsO (b.acked t).bs, strsO T] _
  unfold l_x_give_t4
  repeat infer_instance
  refine s_ite (fun h1 => ?_) (fun h1 => ?_)
  · have h1 : du = "new" := of_decide_eq_true h1
    obtain ⟨rfl, kk⟩ := k2 h1
    subst h1
    repeat infer_instance
    refine s_append (n := 2) (ys := (T.map D.str).map DV.dat) (by exact rfl) (by rw [strs_len, szn]; omega) ?_
    rw [strs_append]
    unfold l_x_give_t5
    repeat infer_instance
    exact .inl kk
  · have h1 : ¬ du = "new" := of_decide_eq_false h1
    repeat infer_instance
    unfold l_x_give_t5
    repeat infer_instance
    exact .inl (k1 h1)
theorem b_x_give {A : Adr} {ds : List DV} {M : Mem} {P : PD} {PX : PXn} (h : sp_x_give A ds M P PX) : l_x_give A { nx := fun _ M' => DropD M.length P .non M', rt := DropD M.length P } (startL N_x_give ds) M := by
  obtain ⟨a, b, S1, T, S2, T2, n, t, x, rfl, rfl, nm, d, d2, ht, hx, k1, k2⟩ := h
  have hn : n ≤ 120 ∧ (n = 0 → x = "") ∧ okB x := by
    have := d.sl
    rcases hx with ⟨rfl, rfl⟩ | ⟨i, rfl, hi⟩
    · exact ⟨by decide, fun _ => rfl, by decide, by decide +kernel⟩
    · have hil := (List.getElem?_eq_some_iff.mp hi).1
      exact ⟨by omega, fun h => absurd h (by omega), d.ok x (List.mem_of_getElem? hi)⟩
  obtain ⟨hn1, hn2, hxo⟩ := hn
  have ht1 : t ≤ 120 := by have := d2.tl; have := d2.sl; omega
  have w := pk_words nm hn1 ht1
  obtain ⟨p, hp⟩ : ∃ p, p = packF a.me a.other (n : Int) (t : Int) x := ⟨_, rfl⟩
  have hpl : p.length ≤ 1100 := by rw [hp]; exact pk_len w (Nat.le_trans hxo.1 (by decide))
  have hpo : PyData.strOk p = true := by rw [hp]; exact pk_ok w hxo.2
  have hpj : p = joinC (head4 " " a.me a.other (toString (n : Int)) (toString (t : Int))) x := by rw [hp, pack_join]
  rw [← hp]
  show l_x_give A _ [some (.obj 0), some (.dat (.str p)), some (.obj 2), none, none, none, none] _
  have szn : (sizeLine : Nat) = 16777216 := sizeLine_eq
  have hpz : p.length ≤ sizeLine := by rw [szn]; omega
  have hTl : (T.length : Int) = b.tkn := d.tkn.symm
  obtain ⟨nn1, nn2, nn3, nn4, nn5, nn6⟩ := num_facts n w.n1
  have e5 : ("old" : Str) ≠ "new" := by decide +kernel
  have e6 : ("early" : Str) ≠ "new" := by decide +kernel
  have e7 : ("bare" : Str) ≠ "new" := by decide +kernel
  have bk : ({ b.acked t with tkn := b.tkn } : Lk) = b.acked t := rfl
  unfold l_x_give
  repeat infer_instance
  rw [nl_S]
  refine s_sindex (c := 10) (by rw [hpj]; exact nl_in _ _) fun i hi1 hi2 => ?_
  have hc : cutS p none (some (i : Int)) = head4 " " a.me a.other (toString (n : Int)) (toString (t : Int)) := by
    rw [hpj] at hi2 ⊢
    exact cut_head w.h10 hi2
  repeat infer_instance
  rw [hc]
  have hhl := head_len w
  refine s_split (by decide +kernel) (by rw [szn]; omega) ?_
  rw [w.spl]
  repeat infer_instance
  refine s_intAs (num_text nn1) (num_len nn1) ?_
  rw [nn2]
  unfold l_x_give_t1
  repeat infer_instance
  unfold l_x_give_t2
  repeat infer_instance
  refine s_ite (fun h1 => ?_) (fun h1 => ?_)
  · have h1 : (0 : Int) < (n : Int) := of_decide_eq_true h1
    repeat infer_instance
    rw [strs_len]
    refine s_max2 ?_
    repeat infer_instance
    refine s_min2 ?_
    have hcs : n ≤ T.length ∨ n = T.length + 1 ∨ T.length + 1 < n := by omega
    have hz : ¬ ((n : Int) = 0) := by omega
    rcases hcs with hcs | hcs | hcs
    · rw [show (if (if (n : Int) - (T.length : Nat) > 0 then (n : Int) - (T.length : Nat) else 0) < 2 then (if (n : Int) - (T.length : Nat) > 0 then (n : Int) - (T.length : Nat) else 0) else 2) = ((0 : Nat) : Int) by rw [if_neg (show ¬ ((n : Int) - (T.length : Nat) > 0) by omega)]; rfl]
      refine s_ixL (e := .str "old") (atI_nat (j := 0) rfl) ?_
      exact give_t3 nm d d2 w hp hpl hpo ht hn2 (by unfold newsN; rw [if_neg hz, if_pos (by omega)]) (fun _ => k1 (by omega)) fun h => absurd h e5
    · rw [show (if (if (n : Int) - (T.length : Nat) > 0 then (n : Int) - (T.length : Nat) else 0) < 2 then (if (n : Int) - (T.length : Nat) > 0 then (n : Int) - (T.length : Nat) else 0) else 2) = ((1 : Nat) : Int) by rw [if_pos (show ((n : Int) - (T.length : Nat) > 0) by omega)]; split <;> omega]
      refine s_ixL (e := .str "new") (atI_nat (j := 1) rfl) ?_
      exact give_t3 nm d d2 w hp hpl hpo ht hn2 (by unfold newsN; rw [if_neg hz, if_neg (by omega), if_neg (by omega)]) (fun h => absurd rfl h) fun _ => ⟨rfl, k2 hcs⟩
    · rw [show (if (if (n : Int) - (T.length : Nat) > 0 then (n : Int) - (T.length : Nat) else 0) < 2 then (if (n : Int) - (T.length : Nat) > 0 then (n : Int) - (T.length : Nat) else 0) else 2) = ((2 : Nat) : Int) by rw [if_pos (show ((n : Int) - (T.length : Nat) > 0) by omega)]; split <;> omega]
      refine s_ixL (e := .str "early") (atI_nat (j := 2) rfl) ?_
      exact give_t3 nm d d2 w hp hpl hpo ht hn2 (by unfold newsN; rw [if_neg hz, if_neg (by omega), if_pos (by omega)]) (fun _ => k1 (by omega)) fun h => absurd h e6
  · have h1 : ¬ (0 : Int) < (n : Int) := of_decide_eq_false h1
    repeat infer_instance
    exact give_t3 nm d d2 w hp hpl hpo ht hn2 (by unfold newsN; rw [if_pos (by omega)]) (fun _ => k1 (by omega)) fun h => absurd h e7

theorem s_eqSelf {d : D} {M : Mem} {P : PD} (h : okD d = true) (k : P (.bl true) M) : vEq false (.dat d) (.dat d) M P := by
  have h1 : (pureD d && SeqAt.shaped (pyD d)) = true := h
  rw [Bool.and_eq_true] at h1
  have e : eqD d d = true := by
    unfold eqD
    exact PySem.SeqAt.eqv_refl _ (SeqAt.canLay_of_shaped h1.2)
  refine .inr ⟨d, d, rfl, rfl, h, h, ?_⟩
  rw [e]
  exact k
theorem lay_strs : ∀ l : List Str, (∀ x ∈ l, PyData.strOk x = true) → PyData.canLayAll0 (pyDs (l.map D.str)) = true ∧ PyData.depthAll (pyDs (l.map D.str)) ≤ 1 ∧ pureDs (l.map D.str) = true
  | [], _ => by simp [pyDs, PyData.canLayAll0, PyData.depthAll, pureDs]
  | x :: l, h => by
    obtain ⟨h1, h2, h3⟩ := lay_strs l fun y hy => h y (List.mem_cons_of_mem _ hy)
    have e : pyDs ((x :: l).map D.str) = pyD (.str x) :: pyDs (l.map D.str) := rfl
    have e2 : pureDs ((x :: l).map D.str) = (pureD (.str x) && pureDs (l.map D.str)) := rfl
    rw [e, e2]
    refine ⟨?_, ?_, ?_⟩
    · simp [PyData.canLayAll0, h1, pyD, PyData.canLay0, h x List.mem_cons_self]
    · simp [PyData.depthAll, pyD, PyData.depth]
      omega
    · rw [h3]; simp [pureD]
/-- what is told of an end, before and behind -/
def keptD (s : Lk) : D := .tup [.tup [.int s.snt, .int s.ack, .int s.tkn], .tup (s.packs.map D.str)]
theorem kept_okD {s : Lk} (h : ∀ p ∈ s.packs, PyData.strOk p = true) : okD (keptD s) = true := by
  obtain ⟨a1, a2, a3⟩ := lay_strs s.packs h
  simp [keptD, okD, pureD, pureDs, pyD, SeqAt.shaped, PyData.canLay0, PyData.canLayAll0, PyData.depth, PyData.depthAll, a1, a3, pyDs]
  omega
/-- the packets of an end -/
theorem pack_at {a b : Lk} {S T S2 T2 : List Str} (d : Dir a b S T) (d2 : Dir b a S2 T2) {i : Nat} {p : Str} (h : a.packs[i]? = some p) : ∃ x, S[S.length - a.bs.length + i]? = some x ∧ p = packF a.me a.other ((S.length - a.bs.length + i + 1 : Nat) : Int) (T2.length : Int) x := by
  have hi : i < a.bs.length := by
    have := (List.getElem?_eq_some_iff.mp h).1
    rw [packs_len] at this
    exact this
  obtain ⟨x, hx⟩ : ∃ x, a.bs[i]? = some x := ⟨_, List.getElem?_eq_getElem hi⟩
  rw [packs_at hx] at h
  cases h
  refine ⟨x, ?_, ?_⟩
  · rw [d.bs, List.getElem?_drop] at hx
    exact hx
  · unfold Lk.pack
    rw [d.ack0, d2.tkn, show ((S.length - a.bs.length : Nat) : Int) + 1 + (i : Nat) = ((S.length - a.bs.length + i + 1 : Nat) : Int) by omega]
theorem packs_ok {a b : Lk} {S T S2 T2 : List Str} (n : Nm a b) (d : Dir a b S T) (d2 : Dir b a S2 T2) : ∀ p ∈ a.packs, PyData.strOk p = true := fun p hp => by
  obtain ⟨i, hi⟩ := List.mem_iff_getElem?.mp hp
  obtain ⟨x, hx, rfl⟩ := pack_at d d2 hi
  have h1 := (List.getElem?_eq_some_iff.mp hx).1
  have h2 := d.sl
  have h3 := d2.tl
  have h4 := d2.sl
  exact pk_ok (pk_words n (by omega) (by omega)) (d.ok x (List.mem_of_getElem? hx)).2
theorem len_x_odd {A : Adr} {ds : List DV} {M : Mem} {P : PD} {PX : PXn} (h : sp_x_odd A ds M P PX) : ds.length = (["_law_link", "_law_packet"] : List Str).length := by
  obtain ⟨a, b, S, T, S2, T2, n, t, x, rfl, _⟩ := h
  rfl
/-- four odd texts -/
theorem odd4 {a b : Lk} {n t : Nat} {x : Str} {i : Nat} (nm : Nm a b) (w : Words a.me a.other n t) (hx : okB x) (hi1 : (packF a.me a.other (n : Int) (t : Int) x).cps.toList[i]? = some 10) (hi2 : (packF a.me a.other (n : Int) (t : Int) x).cps.toList.take i = headC 10 (packF a.me a.other (n : Int) (t : Int) x).cps.toList) :
    ∀ q ∈ [("x" : Str) ++ packF a.me a.other (n : Int) (t : Int) x, S ((packF a.me a.other (n : Int) (t : Int) x).cps.toList.drop i), Txt.replace (packF a.me a.other (n : Int) (t : Int) x) "\n" " ", Txt.replace (packF a.me a.other (n : Int) (t : Int) x) " " "  "],
      (okT q ∧ PyData.strOk q = true) ∧ ∀ bs snt tkn, takeF b.me b.other bs snt tkn q = oddT bs tkn := by
  have hl := pk_len w (Nat.le_trans hx.1 (by decide))
  have ho := pk_ok w hx.2
  have n1 := num_facts n w.n1
  have t1 := num_facts t w.t1
  have a1 := name_facts w.a1
  have b1 := name_facts w.b1
  have h10 := w.h10
  have hcs : (packF a.me a.other (n : Int) (t : Int) x).cps.toList = (head4 " " a.me a.other (toString (n : Int)) (toString (t : Int))).cps.toList ++ 10 :: x.cps.toList := by
    rw [pack_join]
    unfold joinC
    rw [cs_app, cs_app, nl_cs, List.append_assoc]
    rfl
  intro q hq
  simp only [List.mem_cons, List.not_mem_nil, or_false] at hq
  rcases hq with rfl | rfl | rfl | rfl
  · have ex : ("x" : Str).length = 1 := rfl
    refine ⟨⟨by show _ ≤ 20000; rw [app_len, ex]; omega, ok_app (by decide +kernel) ho⟩, fun bs snt tkn => take_odd (.inr ⟨("x" : Str) ++ head4 " " a.me a.other (toString (n : Int)) (toString (t : Int)), x, ?_, ?_, .inr ⟨("x" : Str) ++ a.me, a.other, toString (n : Int), toString (t : Int), ?_, ?_⟩⟩)⟩
    · apply cs_inj
      rw [cs_app, hcs]
      unfold joinC
      rw [cs_app, cs_app, cs_app, nl_cs, List.append_assoc, List.append_assoc]
      rfl
    · rw [cs_app, List.mem_append]
      exact fun h => h.elim (fun h => absurd h (by decide +kernel)) h10
    · rw [show ("x" : Str) ++ head4 " " a.me a.other (toString (n : Int)) (toString (t : Int)) = head4 " " (("x" : Str) ++ a.me) a.other (toString (n : Int)) (toString (t : Int)) by
        apply cs_inj
        unfold head4
        simp only [cs_app, List.append_assoc]]
      refine split4 ?_ b1.1 n1.2.2.1 t1.2.2.1
      rw [cs_app, List.mem_append]
      exact fun h => h.elim (fun h => absurd h (by decide +kernel)) a1.1
    · intro h
      have := congrArg Str.length h
      rw [app_len, ← nm.m, ex] at this
      omega
  · have hdrop : S ((packF a.me a.other (n : Int) (t : Int) x).cps.toList.drop i) = joinC "" x := by
      have e1 : headC 10 (packF a.me a.other (n : Int) (t : Int) x).cps.toList = (head4 " " a.me a.other (toString (n : Int)) (toString (t : Int))).cps.toList := by
        rw [hcs]
        have := (tw_app (head4 " " a.me a.other (toString (n : Int)) (toString (t : Int))).cps.toList x.cps.toList h10).1
        unfold headC
        simpa using this
      rw [e1] at hi2
      have hil := (List.getElem?_eq_some_iff.mp hi1).1
      have e2 : i = (head4 " " a.me a.other (toString (n : Int)) (toString (t : Int))).cps.toList.length := by
        have := congrArg List.length hi2
        rw [List.length_take] at this
        omega
      apply cs_inj
      rw [cs_S, hcs, e2, List.drop_left]
      unfold joinC
      rw [cs_app, cs_app, nl_cs]
      rfl
    rw [hdrop]
    have e1 : ("" : Str).length = 0 := rfl
    refine ⟨⟨by show _ ≤ 20000; rw [joinC_len, e1]; have := hx.1; omega, by unfold joinC; exact ok_app (by decide +kernel) hx.2⟩, fun bs snt tkn => take_odd (.inr ⟨"", x, rfl, by decide, .inl (by decide +kernel)⟩)⟩
  · refine ⟨⟨by
    have e1 : (" " : Str).length = 1 := rfl
    have := TK.replace_len (packF a.me a.other (n : Int) (t : Int) x) "\n" " "
    show _ ≤ 20000
    rw [e1] at this
    omega, ?_⟩, fun bs snt tkn => take_odd (.inl (repl_nl _))⟩
    rw [ok_cs, repl_cs (c := 10) nl_cs, sp_cs]
    intro c hc
    unfold flat at hc
    rw [List.mem_flatMap] at hc
    obtain ⟨d, hd, hc⟩ := hc
    split at hc
    · rw [List.mem_singleton.mp hc]; decide
    · rw [List.mem_singleton.mp hc]; exact ok_cs.mp ho d hd
  · refine ⟨⟨by
    have e1 : ("  " : Str).length = 2 := rfl
    have := TK.replace_len (packF a.me a.other (n : Int) (t : Int) x) " " "  "
    show _ ≤ 20000
    rw [e1] at this
    omega, ?_⟩, fun bs snt tkn => ?_⟩
    · rw [ok_cs, repl_cs (c := 32) sp_cs, sp_cs2]
      intro c hc
      unfold flat at hc
      rw [List.mem_flatMap] at hc
      obtain ⟨d, hd, hc⟩ := hc
      split at hc
      · simp only [List.mem_cons, List.not_mem_nil, or_false] at hc
        rcases hc with rfl | rfl <;> decide
      · rw [List.mem_singleton.mp hc]; exact ok_cs.mp ho d hd
    · rw [pack_join, repl_sp a1.1 b1.1 n1.2.2.1 t1.2.2.1]
      refine take_odd (.inr ⟨_, _, rfl, mem4 (by decide +kernel) a1.2.1 b1.2.1 n1.2.2.2.1 t1.2.2.2.1, .inl ?_⟩)
      rw [split7 a1.1 b1.1 n1.2.2.1 t1.2.2.1]
      decide

theorem cut_from {z : Str} {n : Nat} : cutS z (some (n : Int)) none = S (z.cps.toList.drop n) := by
  unfold cutS
  rw [HT.sIx_nat, HT.sIx_none, len_cs]
  apply cs_inj
  rw [cs_S, cs_S]
  generalize z.cps.toList = l
  by_cases h : n ≤ l.length
  · rw [Nat.min_eq_left h, List.take_of_length_le (by rw [List.length_drop]; omega)]
  · rw [Nat.min_eq_right (by omega), List.drop_eq_nil_of_le (Nat.le_refl _), List.drop_eq_nil_of_le (by omega)]
    simp
theorem b_x_odd {A : Adr} {ds : List DV} {M : Mem} {P : PD} {PX : PXn} (h : sp_x_odd A ds M P PX) : l_x_odd A { nx := fun _ M' => DropD M.length P .non M', rt := DropD M.length P } (startL N_x_odd ds) M := by
  obtain ⟨a, b, S1, T, S2, T2, n, t, x, rfl, rfl, nm, d, d2, hn, ht, hxo, k⟩ := h
  have w := pk_words nm hn ht
  have hok : LkOk b := lk_ok nm.swap d2 d
  have hodd := fun i => odd4 (i := i) nm w hxo
  have hpl := pk_len w (x := x) (Nat.le_trans hxo.1 (by decide))
  have hpj := pack_join a.me a.other (n : Int) (t : Int) x
  have hko := kept_okD (s := b) (packs_ok nm.swap d2 d)
  generalize packF a.me a.other (n : Int) (t : Int) x = p at hodd hpl hpj
  show l_x_odd A _ [some (.obj 0), some (.dat (.str p)), none, none] [lkO A b 1, strsO b.bs]
  have szn : (sizeLine : Nat) = 16777216 := sizeLine_eq
  have hpz : p.length ≤ sizeLine := by rw [szn]; omega
  unfold l_x_odd
  repeat infer_instance
  refine call_L (n := 0) (n' := 1) rfl rfl (by decide) .nil hok rfl (fun r s2 h => ?_) fun x h => False.elim h
  obtain ⟨e2, rfl⟩ := h
  rw [e2, set_L rfl rfl]
  repeat infer_instance
  refine call_L (n := 0) (n' := 1) rfl rfl (by decide) .nil hok rfl (fun r s2 h => ?_) fun x h => False.elim h
  obtain ⟨e2, rfl⟩ := h
  rw [e2, set_L rfl rfl]
  repeat infer_instance
  refine s_wSeq ?_
  repeat infer_instance
  have ex : ("x" : Str).length = 1 := rfl
  refine s_addS (by rw [ex, szn]; omega) ?_
  repeat infer_instance
  rw [nl_S]
  refine s_sindex (c := 10) (by rw [hpj]; exact nl_in _ _) fun i hi1 hi2 => ?_
  have hodd := hodd i hi1 hi2
  repeat infer_instance
  rw [cut_from]
  rw [← nl_S]
  refine s_replC ?_
  repeat infer_instance
  refine ⟨p, rfl, by rw [show (" " : Str).length = 1 from rfl]; omega, ?_⟩
  repeat infer_instance
  refine s_replC ?_
  repeat infer_instance
  refine ⟨p, rfl, by rw [show ("  " : Str).length = 2 from rfl]; omega, ?_⟩
  repeat infer_instance
  obtain ⟨qs, hqs⟩ : ∃ qs, qs = [("x" : Str) ++ p, S (p.cps.toList.drop i), Txt.replace p "\n" " ", Txt.replace p " " "  "] := ⟨_, rfl⟩
  rw [← hqs] at hodd
  refine ⟨_, rfl, ?_⟩
  refine ⟨fun j ρ M => M = [lkO A b 1, strsO b.bs] ∧ ∃ y3, ρ = [some (.obj 0), some (.dat (.str p)), some (.dat (keptD b)), y3], ⟨rfl, _, rfl⟩, fun _ _ _ _ => trivial, ?_, ?_⟩
  · rintro j y ρ M hy ⟨rfl, y3, rfl⟩
    have hy : ((qs.map D.str).map DV.dat)[j]? = some y := by rw [hqs]; exact hy
    obtain ⟨q, hq, rfl, hm⟩ := itemG hy
    obtain ⟨hq1, hq2⟩ := hodd q hm
    repeat infer_instance
    refine call_L (n := 0) (n' := 1) rfl rfl (by decide) (.cons .nil) hok ⟨q, hq1, rfl⟩ (fun r s2 h => ?_) fun x h => False.elim h
    obtain ⟨q', e, rfl, e2⟩ := h
    cases e
    rw [hq2] at e2 ⊢
    have e2 : s2 = b := e2
    rw [e2, set_L rfl rfl]
    repeat infer_instance
    refine call_same (d := .tup [.str "odd", .non]) (n := 4) ?_ ?_
    · refine ⟨by show 2 ≤ 1000000; decide, fun d hd => ?_⟩
      simp only [List.mem_cons, List.not_mem_nil, or_false] at hd
      rcases hd with rfl | rfl <;> trivial
    · repeat infer_instance
      exact .here ⟨rfl, _, rfl⟩
  · rintro ρ M ⟨rfl, y3, rfl⟩
    repeat infer_instance
    refine call_L (n := 0) (n' := 1) rfl rfl (by decide) .nil hok rfl (fun r s2 h => ?_) fun x h => False.elim h
    obtain ⟨e2, rfl⟩ := h
    rw [e2, set_L rfl rfl]
    repeat infer_instance
    refine call_L (n := 0) (n' := 1) rfl rfl (by decide) .nil hok rfl (fun r s2 h => ?_) fun x h => False.elim h
    obtain ⟨e2, rfl⟩ := h
    rw [e2, set_L rfl rfl]
    repeat infer_instance
    refine s_eqSelf hko ?_
    exact .inl k
theorem len_x_send {A : Adr} {ds : List DV} {M : Mem} {P : PD} {PX : PXn} (h : sp_x_send A ds M P PX) : ds.length = (["_law_link", "_law_body"] : List Str).length := by
  obtain ⟨s, b, rfl, _⟩ := h
  rfl
theorem b_x_send {A : Adr} {ds : List DV} {M : Mem} {P : PD} {PX : PXn} (h : sp_x_send A ds M P PX) : l_x_send A { nx := fun _ M' => DropD M.length P .non M', rt := DropD M.length P } (startL N_x_send ds) M := by
  obtain ⟨s, b, rfl, rfl, ok, hs9, h8, hb, k1, k2⟩ := h
  show l_x_send A _ [some (.obj 0), some (.dat (.str b)), none, none] [lkO A s 1, strsO s.bs]
  have szn : (sizeLine : Nat) = 16777216 := sizeLine_eq
  have hpl := packs_len s
  unfold l_x_send
  repeat infer_instance
  refine call_L (n := 0) (n' := 1) rfl rfl (by decide) .nil ok rfl (fun r s2 h => ?_) fun x h => False.elim h
  obtain ⟨e2, rfl⟩ := h
  rw [e2, set_L rfl rfl]
  repeat infer_instance
  rw [List.length_map, hpl]
  repeat infer_instance
  refine call_L (n := 0) (n' := 1) rfl rfl (by decide) .nil ok rfl (fun r s2 h => ?_) fun x h => False.elim h
  obtain ⟨e2, rfl⟩ := h
  rw [e2, set_L rfl rfl]
  repeat infer_instance
  rw [List.length_map, hpl]
  refine s_ite (fun h1 => absurd (of_decide_eq_true h1) (by omega)) (fun _ => ?_)
  repeat infer_instance
  refine call_L (n := 0) (n' := 1) rfl rfl (by decide) .nil ok rfl (fun r s2 h => ?_) fun x h => False.elim h
  obtain ⟨e2, rfl⟩ := h
  rw [e2, set_L rfl rfl]
  repeat infer_instance
  by_cases hc : s.bs.length < 8
  · have ef : (if (false = true) then !decide ((s.bs.length : Int) = 8) else decide ((s.bs.length : Int) = 8)) = false := by rw [if_neg Bool.false_ne_true]; exact decide_eq_false (by omega)
    rw [ef, decide_eq_true hc]
    refine s_ite (fun h => absurd (show false = true from h) (by decide)) (fun _ => ?_)
    repeat infer_instance
    refine call_L (n := 0) (n' := 1) rfl rfl (by decide) (.cons .nil) ok ⟨⟨b, by omega, rfl⟩, hs9⟩ (fun r s2 h => ?_) fun x h => absurd hc h.1
    obtain ⟨_, b2, e, rfl, rfl⟩ := h
    cases e
    repeat infer_instance
    exact .inl (k1 hc)
  · have ef : (if (false = true) then !decide ((s.bs.length : Int) = 8) else decide ((s.bs.length : Int) = 8)) = true := by rw [if_neg Bool.false_ne_true]; exact decide_eq_true (by omega)
    rw [ef, decide_eq_false hc]
    refine s_ite (fun h => absurd (show false = true from h) (by decide)) (fun _ => ?_)
    repeat infer_instance
    refine call_L (n := 0) (n' := 1) rfl rfl (by decide) (.cons .nil) ok ⟨⟨b, by omega, rfl⟩, hs9⟩ (fun r s2 h => absurd h.1 hc) fun x h => ?_
    obtain ⟨_, rfl⟩ := h
    refine ⟨true, by simp, fun _ xa xd => ?_, fun h => by cases h⟩
    repeat infer_instance
    exact .inl (k2 hc)

/-! calls, at a caller's memory -/
section
variable {A : Adr} {M : Mem} {P : PD} {PX : PXn} {nl nb nt : Nat}
theorem put3 {A : Adr} {M : Mem} {nl nb nt : Nat} {s : Lk} {T : List Str} : merge [nl, nb, nt] M [lkO A s 1, strsO s.bs, strsO T] = ((M.set nl (lkO A s nb)).set nb (strsO s.bs)).set nt (strsO T) := by
  have e1 : renMO [nl, nb, nt] M.length (lkO A s 1) = lkO A s nb := rfl
  show putAll [nl, nb, nt] [renMO [nl, nb, nt] M.length (lkO A s 1), renMO [nl, nb, nt] M.length (strsO s.bs), renMO [nl, nb, nt] M.length (strsO T)] M ++ [] = _
  rw [ren_strs, ren_strs, e1, List.append_nil]
  rfl
theorem put2 {A : Adr} {M : Mem} {nl nb : Nat} {s : Lk} : merge [nl, nb] M [lkO A s 1, strsO s.bs] = (M.set nl (lkO A s nb)).set nb (strsO s.bs) := by
  have e1 : renMO [nl, nb] M.length (lkO A s 1) = lkO A s nb := rfl
  show putAll [nl, nb] [renMO [nl, nb] M.length (lkO A s 1), renMO [nl, nb] M.length (strsO s.bs)] M ++ [] = _
  rw [ren_strs, e1, List.append_nil]
  rfl
theorem call_give {a b : Lk} {S T S2 T2 : List Str} {n t : Nat} {x : Str} (h1 : M[nl]? = some (lkO A b nb)) (h2 : M[nb]? = some (strsO b.bs)) (h3 : M[nt]? = some (strsO T)) (hnd : [nl, nb, nt].Nodup) (nm : Nm a b) (d : Dir a b S T) (d2 : Dir b a S2 T2) (ht : t ≤ T2.length)
    (hx : (n = 0 ∧ x = "") ∨ ∃ i, n = i + 1 ∧ S[i]? = some x) (k1 : n ≠ T.length + 1 → P (.dat (.bl true)) (((M.set nl (lkO A (b.acked t) nb)).set nb (strsO (b.acked t).bs)).set nt (strsO T)))
    (k2 : n = T.length + 1 → P (.dat (.bl true)) (((M.set nl (lkO A { b.acked t with tkn := (n : Int) } nb)).set nb (strsO (b.acked t).bs)).set nt (strsO (T ++ [x])))) : CallAt (sp_x_give A) [.obj nl, .dat (.str (packF a.me a.other (n : Int) (t : Int) x)), .obj nt] M P PX := by
  refine .inr ⟨[nl, nb, nt], [.obj 0, .dat (.str (packF a.me a.other (n : Int) (t : Int) x)), .obj 2], [lkO A b 1, strsO b.bs, strsO T], hnd, ?_, rfl, ?_, ?_, a, b, S, T, S2, T2, n, t, x, rfl, rfl, nm, d, d2, ht, hx, fun hn => ?_, fun hn => ?_⟩
  · simp [okDV]
  · simp [okMO, okDV]
  · show [M[nl]?, M[nb]?, M[nt]?] = [some (renMO [nl, nb, nt] M.length (lkO A b 1)), some (renMO [nl, nb, nt] M.length (strsO b.bs)), some (renMO [nl, nb, nt] M.length (strsO T))]
    rw [h1, h2, h3, ren_strs, ren_strs]
    rfl
  · show P _ (merge [nl, nb, nt] M [lkO A (b.acked t) 1, strsO (b.acked t).bs, strsO T])
    rw [put3]
    exact k1 hn
  · show P _ (merge [nl, nb, nt] M [lkO A { b.acked t with tkn := (n : Int) } 1, strsO ({ b.acked t with tkn := (n : Int) } : Lk).bs, strsO (T ++ [x])])
    rw [put3]
    exact k2 hn
theorem call_odd {a b : Lk} {S T S2 T2 : List Str} {n t : Nat} {x : Str} (h1 : M[nl]? = some (lkO A b nb)) (h2 : M[nb]? = some (strsO b.bs)) (hnd : nl ≠ nb) (nm : Nm a b) (d : Dir a b S T) (d2 : Dir b a S2 T2) (hn : n ≤ 120) (ht : t ≤ 120) (hx : okB x) (k : P (.dat (.bl true)) M) : CallAt (sp_x_odd A) [.obj nl, .dat (.str (packF a.me a.other (n : Int) (t : Int) x))] M P PX := by
  refine .inr ⟨[nl, nb], [.obj 0, .dat (.str (packF a.me a.other (n : Int) (t : Int) x))], [lkO A b 1, strsO b.bs], by simp [hnd], ?_, rfl, ?_, ?_, a, b, S, T, S2, T2, n, t, x, rfl, rfl, nm, d, d2, hn, ht, hx, ?_⟩
  · simp [okDV]
  · simp [okMO, okDV]
  · show [M[nl]?, M[nb]?] = [some (renMO [nl, nb] M.length (lkO A b 1)), some (renMO [nl, nb] M.length (strsO b.bs))]
    rw [h1, h2, ren_strs]
    rfl
  · show P _ (merge [nl, nb] M [lkO A b 1, strsO b.bs])
    rw [put2, set_L h1 h2]
    exact k
theorem call_send {s : Lk} {b : Str} (h1 : M[nl]? = some (lkO A s nb)) (h2 : M[nb]? = some (strsO s.bs)) (hnd : nl ≠ nb) (ok : LkOk s) (hs : s.snt < 9000) (h8 : s.bs.length ≤ 8) (hb : b.length ≤ 1000)
    (k1 : s.bs.length < 8 → P (.dat (.lst [.bl true, .str (s.pack (s.snt + 1) b)])) ((M.set nl (lkO A (s.sent b) nb)).set nb (strsO (s.sent b).bs))) (k2 : ¬ s.bs.length < 8 → P (.dat (.lst [.bl true, .non])) M) : CallAt (sp_x_send A) [.obj nl, .dat (.str b)] M P PX := by
  refine .inr ⟨[nl, nb], [.obj 0, .dat (.str b)], [lkO A s 1, strsO s.bs], by simp [hnd], ?_, rfl, ?_, ?_, s, b, rfl, rfl, ok, hs, h8, hb, fun hc => ?_, fun hc => ?_⟩
  · simp [okDV]
  · simp [okMO, okDV]
  · show [M[nl]?, M[nb]?] = [some (renMO [nl, nb] M.length (lkO A s 1)), some (renMO [nl, nb] M.length (strsO s.bs))]
    rw [h1, h2, ren_strs]
    rfl
  · show P _ (merge [nl, nb] M [lkO A (s.sent b) 1, strsO (s.sent b).bs])
    rw [put2]
    exact k1 hc
  · show P _ (merge [nl, nb] M [lkO A s 1, strsO s.bs])
    rw [put2, set_L h1 h2]
    exact k2 hc
end
/-! what the steps do to the two directions -/
theorem Nm.left {a b a' : Lk} (h : Nm a b) (h1 : a'.me = a.me) (h2 : a'.other = a.other) : Nm a' b := ⟨by rw [h1]; exact h.m, by rw [h2]; exact h.o, by rw [h1, h2]; exact h.ab⟩
theorem Nm.right {a b b' : Lk} (h : Nm a b) (h1 : b'.me = b.me) (h2 : b'.other = b.other) : Nm a b' := ⟨by rw [h2]; exact h.m, by rw [h1]; exact h.o, h.ab⟩
theorem Dir.right {a b b' : Lk} {S T : List Str} (d : Dir a b S T) (h : b'.tkn = b.tkn) : Dir a b' S T := ⟨d.snt, d.bl, d.bs, by rw [h]; exact d.tkn, d.tl, d.tt, d.ack, d.b8, d.ok, d.sl⟩
theorem Dir.left_tkn {a b : Lk} {S T : List Str} {n : Int} (d : Dir a b S T) : Dir ({ a with tkn := n } : Lk) b S T := ⟨d.snt, d.bl, d.bs, d.tkn, d.tl, d.tt, d.ack, d.b8, d.ok, d.sl⟩
theorem Dir.send {a b : Lk} {S T : List Str} {x : Str} (d : Dir a b S T) (h8 : a.bs.length < 8) (hx : okB x) (hl : S.length < 120) : Dir (a.sent x) b (S ++ [x]) T := by
  have e1 : (a.sent x).bs = a.bs ++ [x] := rfl
  have e2 : (a.sent x).snt = a.snt + 1 := rfl
  have l1 : (S ++ [x]).length = S.length + 1 := by rw [List.length_append]; rfl
  have l2 : (a.bs ++ [x]).length = a.bs.length + 1 := by rw [List.length_append]; rfl
  have hb := d.bl
  have ht := d.tl
  have hk := d.ack
  refine ⟨by rw [e2, d.snt, l1]; rfl, by rw [e1, l1, l2]; omega, ?_, d.tkn, by rw [l1]; omega, ?_, by rw [e1, l1, l2]; omega, by rw [e1, l2]; omega, all_snoc d.ok hx, by rw [l1]; omega⟩
  · rw [e1, l1, l2, show S.length + 1 - (a.bs.length + 1) = S.length - a.bs.length by omega, List.drop_append_of_le_length (by omega), ← d.bs]
  · rw [List.take_append_of_le_length ht]
    exact d.tt
theorem Dir.acked {a b : Lk} {S T : List Str} {t : Nat} (d : Dir a b S T) (ht : t ≤ T.length) : Dir (a.acked t) b S T ∧ S.length - (a.acked t).bs.length = max (S.length - a.bs.length) t := by
  have hb := d.bl
  have hk := d.ack
  have hl := d.tl
  have e1 : (a.acked t).bs = a.bs.drop (t - (S.length - a.bs.length)) := by
    unfold Lk.acked
    show a.bs.drop _ = _
    rw [d.ack0, show ((t : Int) - ((S.length - a.bs.length : Nat) : Int)).toNat = t - (S.length - a.bs.length) by omega]
  have l1 : (a.acked t).bs.length = a.bs.length - (t - (S.length - a.bs.length)) := by rw [e1, List.length_drop]
  have l2 : S.length - (a.acked t).bs.length = max (S.length - a.bs.length) t := by rw [l1]; omega
  refine ⟨⟨d.snt, by rw [l1]; omega, ?_, d.tkn, d.tl, d.tt, by rw [l2]; omega, by rw [l1]; have := d.b8; omega, d.ok, d.sl⟩, l2⟩
  rw [l2, e1]
  refine (congrArg (List.drop (t - (S.length - a.bs.length))) d.bs).trans ?_
  rw [List.drop_drop]
  congr 1
  omega
theorem Dir.new {a b b' : Lk} {S T : List Str} {x : Str} (d : Dir a b S T) (h : S[T.length]? = some x) (hb : b'.tkn = ((T.length + 1 : Nat) : Int)) : Dir a b' S (T ++ [x]) := by
  have hl := (List.getElem?_eq_some_iff.mp h).1
  have l1 : (T ++ [x]).length = T.length + 1 := by rw [List.length_append]; rfl
  refine ⟨d.snt, d.bl, d.bs, by rw [hb, l1], by rw [l1]; omega, ?_, by rw [l1]; have := d.ack; omega, d.b8, d.ok, d.sl⟩
  rw [l1, take_snoc h]
  congr 1
  exact d.tt
/-- the rounds: what of an end's packets has arrived -/
structure Dlv (a b : Lk) (S T S2 T2 : List Str) (i : Nat) : Prop where
  n : Nm a b
  d : Dir a b S T
  d2 : Dir b a S2 T2
  pr : S.length - a.bs.length + min i a.bs.length ≤ T.length
  ak : 1 ≤ i → S2.length - b.bs.length = T2.length
theorem dlv_step {a b : Lk} {S T S2 T2 : List Str} {i : Nat} {p : Str} (v : Dlv a b S T S2 T2 i) (hp : (a.packs ++ [a.pack 0 ""])[i]? = some p) : ∃ (n t : Nat) (x : Str), p = packF a.me a.other (n : Int) (t : Int) x ∧ t ≤ T2.length ∧ ((n = 0 ∧ x = "") ∨ ∃ i, n = i + 1 ∧ S[i]? = some x) ∧
    (n ≠ T.length + 1 → Dlv a (b.acked t) S T S2 T2 (i + 1)) ∧ (n = T.length + 1 → Dlv a { b.acked t with tkn := (n : Int) } S (T ++ [x]) S2 T2 (i + 1)) := by
  have hpl := packs_len a
  have hbl := v.d.bl
  have htl := v.d.tl
  obtain ⟨da, dk⟩ := v.d2.acked (t := T2.length) (Nat.le_refl _)
  have hk2 := v.d2.ack
  have hak : S2.length - (b.acked (T2.length : Nat)).bs.length = T2.length := by rw [dk]; omega
  rcases Nat.lt_or_ge i a.packs.length with h | h
  · rw [List.getElem?_append_left h] at hp
    obtain ⟨x, hx, rfl⟩ := pack_at v.d v.d2 hp
    refine ⟨_, T2.length, x, rfl, Nat.le_refl _, .inr ⟨_, rfl, hx⟩, fun hne => ⟨v.n.right rfl rfl, v.d.right rfl, da, ?_, fun _ => hak⟩, fun he => ⟨v.n.right rfl rfl, v.d.new ?_ (by show ((_ : Nat) : Int) = _; rw [he]), da.left_tkn, ?_, fun _ => hak⟩⟩
    · have := v.pr
      omega
    · rw [show T.length = S.length - a.bs.length + i by omega]
      exact hx
    · rw [List.length_append]
      show _ ≤ T.length + 1
      have := v.pr
      omega
  · rw [List.getElem?_append_right h] at hp
    have hi : i = a.packs.length := by
      have := (List.getElem?_eq_some_iff.mp hp).1
      simp at this
      omega
    rw [hi, Nat.sub_self] at hp
    cases hp
    refine ⟨0, T2.length, "", ?_, Nat.le_refl _, .inl ⟨rfl, rfl⟩, fun _ => ⟨v.n.right rfl rfl, v.d.right rfl, da, ?_, fun _ => hak⟩, fun he => absurd he (by omega)⟩
    · unfold Lk.pack
      rw [v.d2.tkn]
      rfl
    · have := v.pr
      omega
theorem dlv_end {a b : Lk} {S T S2 T2 : List Str} (v : Dlv a b S T S2 T2 (a.bs.length + 1)) : T = S ∧ S2.length - b.bs.length = T2.length := by
  have := v.pr
  have := v.d.tl
  have := v.d.bl
  have e : T.length = S.length := by omega
  refine ⟨?_, v.ak (by omega)⟩
  have h := v.d.tt
  rw [e, List.take_length] at h
  exact h

def ml (A : Adr) (o : MO) (w : W2) (g0 g1 : List Str) : Mem := [o, lkO A w.l0 2, strsO w.l0.bs, lkO A w.l1 4, strsO w.l1.bs, .lst [.obj 1, .obj 3], strsO w.s0, strsO w.s1, .lst [.obj 6, .obj 7], strsO w.t0, strsO w.t1, .lst [.obj 9, .obj 10], strsO g0, strsO g1, .lst [.obj 12, .obj 13]]
abbrev RW (ns : List Int) (y6 y7 y8 y9 y10 y11 y12 : Option DV) : Rho := [some (.dat (.lst (ns.map .int))), some (.obj 0), some (.obj 5), some (.obj 8), some (.obj 11), some (.obj 14), y6, y7, y8, y9, y10, y11, y12]
abbrev RP (r : Nat) (y4 y5 y6 y7 y8 : Option DV) : Rho := [some (.obj 4), some (.obj 7), some (.obj 10), some (.dat (.int (r : Nat))), y4, y5, y6, y7, y8]
/-- all that an end keeps arrives -/
def dlvT (A : Adr) (e k t it : Nat) : LS :=
  lFor (lwAny (lOp vAdd (lCB vLstMA (lCons (lMeth A.Link "again" (sp_Link_again A) (lOp vIxA (lVar e) (lVar k)) lNil) lNil)) (lLst (lCons (lMeth A.Link "word" (sp_Link_word A) (lOp vIxA (lVar e) (lVar k)) lNil) lNil)))) (lgName it)
    (lIfS (lNot (lTru (lCall (sp_x_give A) (lCons (lOp vIxA (lVar e) (lOp (vI0 fun i j => .int (i - j)) (lC (.int 1)) (lVar k))) (lCons (lVar it) (lCons (lOp vIxA (lVar t) (lOp (vI0 fun i j => .int (i - j)) (lC (.int 1)) (lVar k))) lNil))))))
    (lRet (lC (.bl false)))
    lNext)
theorem dlv_law0 {A : Adr} {L : LEnds} {ns : List Int} {o : MO} {g0 g1 : List Str} {y6 y8 y9 y10 y11 y12 : Option DV} {w : W2} (hi : Inv2 w) (h : ∀ (b : Lk) (T : List Str) (y : Option DV), Dlv w.l0 b w.s0 T w.s1 w.t0 (w.l0.bs.length + 1) → L.nx (RW ns y6 (some (.dat (.int 0))) y8 y9 y10 y y12) (ml A o { w with l1 := b, t1 := T } g0 g1 ++ [strsO w.l0.packs])) :
    dlvT A 2 7 4 11 L (RW ns y6 (some (.dat (.int 0))) y8 y9 y10 y11 y12) (ml A o w g0 g1) := by
  have szn : (sizeLine : Nat) = 16777216 := sizeLine_eq
  have hn : Nm w.l0 w.l1 := hi.n
  have hok : LkOk w.l0 := lk_ok hn hi.d0 hi.d1
  have hpl := packs_len w.l0
  have h8 := hi.d0.b8
  unfold dlvT
  repeat infer_instance
  refine s_wAnyG ?_
  repeat infer_instance
  refine call_L (n := 1) (n' := 1 + 1) rfl rfl (by decide) .nil hok rfl (fun r s2 h => ?_) fun x h => False.elim h
  obtain ⟨e2, rfl⟩ := h
  rw [e2, set_L rfl rfl]
  repeat infer_instance
  refine ⟨_, w.l0.packs.map D.str, rfl, .inr rfl, ?_⟩
  repeat infer_instance
  refine call_L (n := 1) (n' := 1 + 1) rfl rfl (by decide) .nil hok rfl (fun r s2 h => ?_) fun x h => False.elim h
  obtain ⟨e2, rfl⟩ := h
  rw [e2, set_L rfl rfl]
  repeat infer_instance
  refine ⟨w.l0.packs.map D.str, rfl, by rw [List.length_map, hpl, szn]; show _ + 1 ≤ _; omega, ?_⟩
  refine s_wkL ?_
  refine ⟨fun i ρ M => ∃ (b : Lk) (T : List Str) (y : Option DV), M = ml A o { w with l1 := b, t1 := T } g0 g1 ++ [strsO w.l0.packs] ∧ Dlv w.l0 b w.s0 T w.s1 w.t0 i ∧ ρ = RW ns y6 (some (.dat (.int 0))) y8 y9 y10 y y12, ⟨w.l1, w.t1, _, rfl, ⟨hn, hi.d0, hi.d1, by have := hi.d0.ack; omega, fun h => absurd h (by decide)⟩, rfl⟩, fun _ _ _ _ => trivial, ?_, ?_⟩
  · rintro i x ρ M hx ⟨b, T, y, rfl, v, rfl⟩
    have hx : (((w.l0.packs ++ [w.l0.pack 0 ""]).map D.str).map DV.dat)[i]? = some x := by rw [List.map_append]; exact hx
    obtain ⟨p, hp, rfl, _⟩ := itemG hx
    obtain ⟨n, t, z, rfl, ht, hz, k1, k2⟩ := dlv_step v hp
    repeat infer_instance
    refine call_give (nl := 3) (nb := 3 + 1) (nt := 10) (b := b) (T := T) rfl rfl rfl (by decide) v.n v.d v.d2 ht hz (fun hne => ?_) fun he => ?_
    · repeat infer_instance
      exact .here ⟨b.acked t, T, _, rfl, k1 hne, rfl⟩
    · repeat infer_instance
      exact .here ⟨{ b.acked t with tkn := (n : Int) }, T ++ [z], _, rfl, k2 he, rfl⟩
  · rintro ρ M ⟨b, T, y, rfl, v, rfl⟩
    refine h b T y ?_
    have e : ((w.l0.packs.map D.str ++ [D.str (w.l0.pack 0 "")]).map DV.dat).length = w.l0.bs.length + 1 := by rw [List.length_map, List.length_append, List.length_map, hpl]; rfl
    exact e ▸ v
theorem dlv_law1 {A : Adr} {L : LEnds} {ns : List Int} {o : MO} {g0 g1 : List Str} {y6 y8 y9 y10 y11 y12 : Option DV} {w : W2} (hi : Inv2 w) (h : ∀ (b : Lk) (T : List Str) (y : Option DV), Dlv w.l1 b w.s1 T w.s0 w.t1 (w.l1.bs.length + 1) → L.nx (RW ns y6 (some (.dat (.int 1))) y8 y9 y10 y y12) (ml A o { w with l0 := b, t0 := T } g0 g1 ++ [strsO w.l1.packs])) :
    dlvT A 2 7 4 11 L (RW ns y6 (some (.dat (.int 1))) y8 y9 y10 y11 y12) (ml A o w g0 g1) := by
  have szn : (sizeLine : Nat) = 16777216 := sizeLine_eq
  have hn : Nm w.l1 w.l0 := hi.n.swap
  have hok : LkOk w.l1 := lk_ok hn hi.d1 hi.d0
  have hpl := packs_len w.l1
  have h8 := hi.d1.b8
  unfold dlvT
  repeat infer_instance
  refine s_wAnyG ?_
  repeat infer_instance
  refine call_L (n := 3) (n' := 3 + 1) rfl rfl (by decide) .nil hok rfl (fun r s2 h => ?_) fun x h => False.elim h
  obtain ⟨e2, rfl⟩ := h
  rw [e2, set_L rfl rfl]
  repeat infer_instance
  refine ⟨_, w.l1.packs.map D.str, rfl, .inr rfl, ?_⟩
  repeat infer_instance
  refine call_L (n := 3) (n' := 3 + 1) rfl rfl (by decide) .nil hok rfl (fun r s2 h => ?_) fun x h => False.elim h
  obtain ⟨e2, rfl⟩ := h
  rw [e2, set_L rfl rfl]
  repeat infer_instance
  refine ⟨w.l1.packs.map D.str, rfl, by rw [List.length_map, hpl, szn]; show _ + 1 ≤ _; omega, ?_⟩
  refine s_wkL ?_
  refine ⟨fun i ρ M => ∃ (b : Lk) (T : List Str) (y : Option DV), M = ml A o { w with l0 := b, t0 := T } g0 g1 ++ [strsO w.l1.packs] ∧ Dlv w.l1 b w.s1 T w.s0 w.t1 i ∧ ρ = RW ns y6 (some (.dat (.int 1))) y8 y9 y10 y y12, ⟨w.l0, w.t0, _, rfl, ⟨hn, hi.d1, hi.d0, by have := hi.d1.ack; omega, fun h => absurd h (by decide)⟩, rfl⟩, fun _ _ _ _ => trivial, ?_, ?_⟩
  · rintro i x ρ M hx ⟨b, T, y, rfl, v, rfl⟩
    have hx : (((w.l1.packs ++ [w.l1.pack 0 ""]).map D.str).map DV.dat)[i]? = some x := by rw [List.map_append]; exact hx
    obtain ⟨p, hp, rfl, _⟩ := itemG hx
    obtain ⟨n, t, z, rfl, ht, hz, k1, k2⟩ := dlv_step v hp
    repeat infer_instance
    refine call_give (nl := 1) (nb := 1 + 1) (nt := 9) (b := b) (T := T) rfl rfl rfl (by decide) v.n v.d v.d2 ht hz (fun hne => ?_) fun he => ?_
    · repeat infer_instance
      exact .here ⟨b.acked t, T, _, rfl, k1 hne, rfl⟩
    · repeat infer_instance
      exact .here ⟨{ b.acked t with tkn := (n : Int) }, T ++ [z], _, rfl, k2 he, rfl⟩
  · rintro ρ M ⟨b, T, y, rfl, v, rfl⟩
    refine h b T y ?_
    have e : ((w.l1.packs.map D.str ++ [D.str (w.l1.pack 0 "")]).map DV.dat).length = w.l1.bs.length + 1 := by rw [List.length_map, List.length_append, List.length_map, hpl]; rfl
    exact e ▸ v
theorem dlv_pas0 {A : Adr} {L : LEnds} {r : Nat} {y4 y6 y7 y8 : Option DV} {w : W2} (hi : Inv2 w) (h : ∀ (b : Lk) (T : List Str) (y : Option DV), Dlv w.l0 b w.s0 T w.s1 w.t0 (w.l0.bs.length + 1) → L.nx (RP r y4 (some (.dat (.int 0))) y6 y7 y) (m2 A { w with l1 := b, t1 := T } ++ [strsO w.l0.packs])) :
    dlvT A 0 5 2 8 L (RP r y4 (some (.dat (.int 0))) y6 y7 y8) (m2 A w) := by
  have szn : (sizeLine : Nat) = 16777216 := sizeLine_eq
  have hn : Nm w.l0 w.l1 := hi.n
  have hok : LkOk w.l0 := lk_ok hn hi.d0 hi.d1
  have hpl := packs_len w.l0
  have h8 := hi.d0.b8
  unfold dlvT
  repeat infer_instance
  refine s_wAnyG ?_
  repeat infer_instance
  refine call_L (n := 0) (n' := 0 + 1) rfl rfl (by decide) .nil hok rfl (fun r s2 h => ?_) fun x h => False.elim h
  obtain ⟨e2, rfl⟩ := h
  rw [e2, set_L rfl rfl]
  repeat infer_instance
  refine ⟨_, w.l0.packs.map D.str, rfl, .inr rfl, ?_⟩
  repeat infer_instance
  refine call_L (n := 0) (n' := 0 + 1) rfl rfl (by decide) .nil hok rfl (fun r s2 h => ?_) fun x h => False.elim h
  obtain ⟨e2, rfl⟩ := h
  rw [e2, set_L rfl rfl]
  repeat infer_instance
  refine ⟨w.l0.packs.map D.str, rfl, by rw [List.length_map, hpl, szn]; show _ + 1 ≤ _; omega, ?_⟩
  refine s_wkL ?_
  refine ⟨fun i ρ M => ∃ (b : Lk) (T : List Str) (y : Option DV), M = m2 A { w with l1 := b, t1 := T } ++ [strsO w.l0.packs] ∧ Dlv w.l0 b w.s0 T w.s1 w.t0 i ∧ ρ = RP r y4 (some (.dat (.int 0))) y6 y7 y, ⟨w.l1, w.t1, _, rfl, ⟨hn, hi.d0, hi.d1, by have := hi.d0.ack; omega, fun h => absurd h (by decide)⟩, rfl⟩, fun _ _ _ _ => trivial, ?_, ?_⟩
  · rintro i x ρ M hx ⟨b, T, y, rfl, v, rfl⟩
    have hx : (((w.l0.packs ++ [w.l0.pack 0 ""]).map D.str).map DV.dat)[i]? = some x := by rw [List.map_append]; exact hx
    obtain ⟨p, hp, rfl, _⟩ := itemG hx
    obtain ⟨n, t, z, rfl, ht, hz, k1, k2⟩ := dlv_step v hp
    repeat infer_instance
    refine call_give (nl := 2) (nb := 2 + 1) (nt := 9) (b := b) (T := T) rfl rfl rfl (by decide) v.n v.d v.d2 ht hz (fun hne => ?_) fun he => ?_
    · repeat infer_instance
      exact .here ⟨b.acked t, T, _, rfl, k1 hne, rfl⟩
    · repeat infer_instance
      exact .here ⟨{ b.acked t with tkn := (n : Int) }, T ++ [z], _, rfl, k2 he, rfl⟩
  · rintro ρ M ⟨b, T, y, rfl, v, rfl⟩
    refine h b T y ?_
    have e : ((w.l0.packs.map D.str ++ [D.str (w.l0.pack 0 "")]).map DV.dat).length = w.l0.bs.length + 1 := by rw [List.length_map, List.length_append, List.length_map, hpl]; rfl
    exact e ▸ v
theorem dlv_pas1 {A : Adr} {L : LEnds} {r : Nat} {y4 y6 y7 y8 : Option DV} {w : W2} (hi : Inv2 w) (h : ∀ (b : Lk) (T : List Str) (y : Option DV), Dlv w.l1 b w.s1 T w.s0 w.t1 (w.l1.bs.length + 1) → L.nx (RP r y4 (some (.dat (.int 1))) y6 y7 y) (m2 A { w with l0 := b, t0 := T } ++ [strsO w.l1.packs])) :
    dlvT A 0 5 2 8 L (RP r y4 (some (.dat (.int 1))) y6 y7 y8) (m2 A w) := by
  have szn : (sizeLine : Nat) = 16777216 := sizeLine_eq
  have hn : Nm w.l1 w.l0 := hi.n.swap
  have hok : LkOk w.l1 := lk_ok hn hi.d1 hi.d0
  have hpl := packs_len w.l1
  have h8 := hi.d1.b8
  unfold dlvT
  repeat infer_instance
  refine s_wAnyG ?_
  repeat infer_instance
  refine call_L (n := 2) (n' := 2 + 1) rfl rfl (by decide) .nil hok rfl (fun r s2 h => ?_) fun x h => False.elim h
  obtain ⟨e2, rfl⟩ := h
  rw [e2, set_L rfl rfl]
  repeat infer_instance
  refine ⟨_, w.l1.packs.map D.str, rfl, .inr rfl, ?_⟩
  repeat infer_instance
  refine call_L (n := 2) (n' := 2 + 1) rfl rfl (by decide) .nil hok rfl (fun r s2 h => ?_) fun x h => False.elim h
  obtain ⟨e2, rfl⟩ := h
  rw [e2, set_L rfl rfl]
  repeat infer_instance
  refine ⟨w.l1.packs.map D.str, rfl, by rw [List.length_map, hpl, szn]; show _ + 1 ≤ _; omega, ?_⟩
  refine s_wkL ?_
  refine ⟨fun i ρ M => ∃ (b : Lk) (T : List Str) (y : Option DV), M = m2 A { w with l0 := b, t0 := T } ++ [strsO w.l1.packs] ∧ Dlv w.l1 b w.s1 T w.s0 w.t1 i ∧ ρ = RP r y4 (some (.dat (.int 1))) y6 y7 y, ⟨w.l0, w.t0, _, rfl, ⟨hn, hi.d1, hi.d0, by have := hi.d1.ack; omega, fun h => absurd h (by decide)⟩, rfl⟩, fun _ _ _ _ => trivial, ?_, ?_⟩
  · rintro i x ρ M hx ⟨b, T, y, rfl, v, rfl⟩
    have hx : (((w.l1.packs ++ [w.l1.pack 0 ""]).map D.str).map DV.dat)[i]? = some x := by rw [List.map_append]; exact hx
    obtain ⟨p, hp, rfl, _⟩ := itemG hx
    obtain ⟨n, t, z, rfl, ht, hz, k1, k2⟩ := dlv_step v hp
    repeat infer_instance
    refine call_give (nl := 0) (nb := 0 + 1) (nt := 8) (b := b) (T := T) rfl rfl rfl (by decide) v.n v.d v.d2 ht hz (fun hne => ?_) fun he => ?_
    · repeat infer_instance
      exact .here ⟨b.acked t, T, _, rfl, k1 hne, rfl⟩
    · repeat infer_instance
      exact .here ⟨{ b.acked t with tkn := (n : Int) }, T ++ [z], _, rfl, k2 he, rfl⟩
  · rintro ρ M ⟨b, T, y, rfl, v, rfl⟩
    refine h b T y ?_
    have e : ((w.l1.packs.map D.str ++ [D.str (w.l1.pack 0 "")]).map DV.dat).length = w.l1.bs.length + 1 := by rw [List.length_map, List.length_append, List.length_map, hpl]; rfl
    exact e ▸ v

theorem len_x_passed {A : Adr} {ds : List DV} {M : Mem} {P : PD} {PX : PXn} (h : sp_x_passed A ds M P PX) : ds.length = (["_law_ends", "_law_sent", "_law_took", "_law_rounds"] : List Str).length := by
  obtain ⟨w, r, rfl, _⟩ := h
  rfl
theorem num_len3 {i : Nat} (h : i < 128) : (toString (i : Int) : Str).length ≤ 100 ∧ PyData.strOk (toString (i : Int) : Str) = true := by
  obtain ⟨_, _, _, _, h5, h6⟩ := num_facts i h
  exact ⟨by omega, h6⟩
theorem num_log : ∀ i : Nat, i < 128 → ((i : Int).natAbs).log2 < 1920 := by decide +kernel
theorem take1 {x : MO} {M : Mem} {n : Nat} (h : M.length = n) : (M ++ [x]).take n = M := by rw [← h, List.take_left]
theorem ok_m2 (A : Adr) (w : W2) : (m2 A w).all (okMO 11) = true := by simp [m2, okMO, okDV]
/-- what the inner loop of two keeps -/
theorem inv_dlv0 {w : W2} {b : Lk} {T : List Str} {i : Nat} (v : Dlv w.l0 b w.s0 T w.s1 w.t0 i) : Inv2 { w with l1 := b, t1 := T } := ⟨v.n, v.d, v.d2⟩
theorem inv_dlv1 {w : W2} {b : Lk} {T : List Str} {i : Nat} (v : Dlv w.l1 b w.s1 T w.s0 w.t1 i) : Inv2 { w with l0 := b, t0 := T } := ⟨v.n.swap, v.d2, v.d⟩
theorem inv_send0 {w : W2} {x : Str} (h : Inv2 w) (h8 : w.l0.bs.length < 8) (hx : okB x) (hl : w.s0.length < 120) : Inv2 { w with l0 := w.l0.sent x, s0 := w.s0 ++ [x] } := ⟨h.n.left rfl rfl, h.d0.send h8 hx hl, h.d1.right rfl⟩
theorem inv_send1 {w : W2} {x : Str} (h : Inv2 w) (h8 : w.l1.bs.length < 8) (hx : okB x) (hl : w.s1.length < 120) : Inv2 { w with l1 := w.l1.sent x, s1 := w.s1 ++ [x] } := ⟨h.n.right rfl rfl, h.d0.right rfl, h.d1.send h8 hx hl⟩
theorem ok0 {w : W2} (h : Inv2 w) : LkOk w.l0 := lk_ok h.n h.d0 h.d1
theorem ok1 {w : W2} (h : Inv2 w) : LkOk w.l1 := lk_ok h.n.swap h.d1 h.d0
def IJ (A : Adr) (w : W2) (i r j : Nat) (ρ : Rho) (M : Mem) : Prop := ∃ (w' : W2) (y5 y6 y7 y8 : Option DV), M = m2 A w' ∧ Inv2 w' ∧ w'.s0.length ≤ w.s0.length + i + min j 1 ∧ w'.s1.length ≤ w.s1.length + i + (j - 1) ∧ ρ = RP r (some (.dat (.int i))) y5 y6 y7 y8
theorem b_x_passed {A : Adr} {ds : List DV} {M : Mem} {P : PD} {PX : PXn} (h : sp_x_passed A ds M P PX) : l_x_passed A { nx := fun _ M' => DropD M.length P .non M', rt := DropD M.length P } (startL N_x_passed ds) M := by
  obtain ⟨w, r, rfl, rfl, hi, h0, h1, k⟩ := h
  show l_x_passed A _ (RP r none none none none none) (m2 A w)
  have szn : (sizeLine : Nat) = 16777216 := sizeLine_eq
  unfold l_x_passed
  repeat infer_instance
  refine s_exrng (by omega) (by omega) ?_
  refine ⟨fun i ρ M => ∃ (w' : W2) (y4 y5 y6 y7 y8 : Option DV), M = m2 A w' ∧ Inv2 w' ∧ w'.s0.length ≤ w.s0.length + i ∧ w'.s1.length ≤ w.s1.length + i ∧ ρ = RP r y4 y5 y6 y7 y8, ⟨w, _, _, _, _, _, rfl, hi, Nat.le_refl _, Nat.le_refl _, rfl⟩, fun _ _ _ _ => trivial, ?_, ?_⟩
  · rintro i x ρ M hx ⟨w', y4, y5, y6, y7, y8, rfl, hi', h0', h1', rfl⟩
    obtain ⟨hir, rfl⟩ := rangeD_at hx
    have hir : i < r := by simpa using hir
    obtain ⟨nl, no⟩ := num_len3 (i := i) (by omega)
    repeat infer_instance
    refine s_exrng (by decide) (by decide) ?_
    refine ⟨IJ A w i r, ⟨w', _, _, _, _, rfl, hi', h0', h1', rfl⟩, fun _ _ _ _ => trivial, ?_, ?_⟩
    · rintro j x ρ M hx ⟨w', y5, y6, y7, y8, rfl, hi', h0', h1', rfl⟩
      obtain ⟨hj, rfl⟩ := rangeD_at hx
      have hj : j = 0 ∨ j = 1 := by have : j < 2 := hj; omega
      rcases hj with rfl | rfl
      · have fin : ∀ (rt : PD) (ex : LX → Rho → Mem → Prop) (bk : Rho → Mem → Prop) (w2 : W2) (y6 y7 y8 : Option DV), Inv2 w2 → w2.s0.length ≤ w.s0.length + i + 1 → w2.s1.length ≤ w.s1.length + i → dlvT A 0 5 2 8 { nx := DropS 11 (IJ A w i r (0 + 1)), rt := rt, bk := bk, ct := DropS 11 (IJ A w i r (0 + 1)), ex := ex } (RP r (some (.dat (.int i))) (some (.dat (.int 0))) y6 y7 y8) (m2 A w2) := by
          intro rt ex bk w2 y6 y7 y8 hw2 hs0 hs1
          refine dlv_pas0 hw2 fun b T y v => ?_
          refine .inr ⟨11, [some (.obj 4), some (.obj 7), some (.obj 10), some (.dat (.int (r : Nat))), some (.dat (.int i)), some (.dat (.int 0)), none, none, none], Nat.le_refl 11, ok_m2 A _, SubR.of ⟨rfl, rfl, rfl, rfl, rfl, rfl, trivial⟩, rfl, _, _, _, _, _, rfl, inv_dlv0 v, hs0, hs1, rfl⟩
        repeat infer_instance
        refine s_strI (num_log i (by omega)) ?_
        repeat infer_instance
        refine call_send (nl := 0) (nb := 1) (s := w'.l0) rfl rfl (by decide) (ok0 hi') (by rw [hi'.d0.snt]; have := hi'.d0.sl; omega) hi'.d0.b8 (by omega) (fun hc => ?_) (fun hc => ?_)
        · repeat infer_instance
          refine s_strI (num_log i (by omega)) ?_
          repeat infer_instance
          refine s_append (n := 5) (ys := (w'.s0.map D.str).map DV.dat) (by exact rfl) (by rw [strs_len, szn]; have := hi'.d0.sl; omega) ?_
          rw [strs_append]
          exact fin _ _ _ { w' with l0 := w'.l0.sent (toString (i : Int) : Str), s0 := w'.s0 ++ [(toString (i : Int) : Str)] } _ _ _ (inv_send0 hi' hc ⟨nl, no⟩ (by omega)) (by show (w'.s0 ++ [_]).length ≤ _; rw [List.length_append]; show _ + 1 ≤ _; omega) (by show w'.s1.length ≤ _; omega)
        · repeat infer_instance
          exact fin _ _ (fun _ _ => False) w' _ _ _ hi' (by omega) (by omega)
      · have fin : ∀ (rt : PD) (ex : LX → Rho → Mem → Prop) (bk : Rho → Mem → Prop) (w2 : W2) (y6 y7 y8 : Option DV), Inv2 w2 → w2.s0.length ≤ w.s0.length + i + 1 → w2.s1.length ≤ w.s1.length + i + 1 → dlvT A 0 5 2 8 { nx := DropS 11 (IJ A w i r (1 + 1)), rt := rt, bk := bk, ct := DropS 11 (IJ A w i r (1 + 1)), ex := ex } (RP r (some (.dat (.int i))) (some (.dat (.int 1))) y6 y7 y8) (m2 A w2) := by
          intro rt ex bk w2 y6 y7 y8 hw2 hs0 hs1
          refine dlv_pas1 hw2 fun b T y v => ?_
          refine .inr ⟨11, [some (.obj 4), some (.obj 7), some (.obj 10), some (.dat (.int (r : Nat))), some (.dat (.int i)), some (.dat (.int 1)), none, none, none], Nat.le_refl 11, ok_m2 A _, SubR.of ⟨rfl, rfl, rfl, rfl, rfl, rfl, trivial⟩, rfl, _, _, _, _, _, rfl, inv_dlv1 v, hs0, hs1, rfl⟩
        repeat infer_instance
        refine s_strI (num_log i (by omega)) ?_
        repeat infer_instance
        refine call_send (nl := 2) (nb := 3) (s := w'.l1) rfl rfl (by decide) (ok1 hi') (by rw [hi'.d1.snt]; have := hi'.d1.sl; omega) hi'.d1.b8 (by omega) (fun hc => ?_) (fun hc => ?_)
        · repeat infer_instance
          refine s_strI (num_log i (by omega)) ?_
          repeat infer_instance
          refine s_append (n := 6) (ys := (w'.s1.map D.str).map DV.dat) (by exact rfl) (by rw [strs_len, szn]; have := hi'.d1.sl; omega) ?_
          rw [strs_append]
          exact fin _ _ _ { w' with l1 := w'.l1.sent (toString (i : Int) : Str), s1 := w'.s1 ++ [(toString (i : Int) : Str)] } _ _ _ (inv_send1 hi' hc ⟨nl, no⟩ (by omega)) (by show w'.s0.length ≤ _; omega) (by show (w'.s1 ++ [_]).length ≤ _; rw [List.length_append]; show _ + 1 ≤ _; omega)
        · repeat infer_instance
          exact fin _ _ (fun _ _ => False) w' _ _ _ hi' (by omega) (by omega)
    · rintro ρ M ⟨w', y5, y6, y7, y8, rfl, hi', h0', h1', rfl⟩
      exact .here ⟨w', _, _, _, _, _, rfl, hi', h0', h1', rfl⟩
  · rintro ρ M ⟨w', y4, y5, y6, y7, y8, rfl, hi', h0', h1', rfl⟩
    unfold l_x_passed_t1
    repeat infer_instance
    exact .inl (k w' hi')

theorem call_giveQ {A : Adr} {M : Mem} {P : PD} {PX : PXn} {nl nb nt : Nat} {a b : Lk} {S T S2 T2 : List Str} {p : Str} (h1 : M[nl]? = some (lkO A b nb)) (h2 : M[nb]? = some (strsO b.bs)) (h3 : M[nt]? = some (strsO T)) (hnd : [nl, nb, nt].Nodup) (nm : Nm a b) (d : Dir a b S T) (d2 : Dir b a S2 T2) (hp : Pk a.me a.other S T2.length p)
    (k : ∀ b' T', Nm a b' → Dir a b' S T' → Dir b' a S2 T2 → T.length ≤ T'.length → P (.dat (.bl true)) (((M.set nl (lkO A b' nb)).set nb (strsO b'.bs)).set nt (strsO T'))) : CallAt (sp_x_give A) [.obj nl, .dat (.str p), .obj nt] M P PX := by
  obtain ⟨n, t, x, rfl, ht, hx⟩ := hp.ex
  obtain ⟨da, _⟩ := d2.acked ht
  refine call_give h1 h2 h3 hnd nm d d2 ht hx (fun _ => k _ _ (nm.right rfl rfl) (d.right rfl) da (Nat.le_refl _)) fun he => ?_
  refine k { b.acked t with tkn := (n : Int) } (T ++ [x]) (nm.right rfl rfl) (d.new ?_ (by show ((_ : Nat) : Int) = _; rw [he])) da.left_tkn (by rw [List.length_append]; omega)
  rcases hx with ⟨h, _⟩ | ⟨i, h, hi⟩
  · omega
  · rw [show T.length = i by omega]
    exact hi
theorem pk_facts {a b : Lk} {S T S2 T2 : List Str} {p : Str} (nm : Nm a b) (d : Dir a b S T) (d2 : Dir b a S2 T2) (hp : Pk a.me a.other S T2.length p) : ∃ (n t : Nat) (x : Str), p = packF a.me a.other (n : Int) (t : Int) x ∧ n ≤ 120 ∧ t ≤ 120 ∧ okB x := by
  obtain ⟨n, t, x, rfl, ht, hx⟩ := hp.ex
  have h1 := d2.tl
  have h2 := d2.sl
  have h3 := d.sl
  rcases hx with ⟨h, h'⟩ | ⟨i, h, hi⟩
  · exact ⟨n, t, x, rfl, by omega, by omega, by rw [h']; exact ⟨by decide, by decide +kernel⟩⟩
  · have := (List.getElem?_eq_some_iff.mp hi).1
    exact ⟨n, t, x, rfl, by omega, by omega, d.ok x (List.mem_of_getElem? hi)⟩
theorem Pk.mono {me other : Str} {S S' : List Str} {t t' : Nat} {p : Str} (h : Pk me other S t p) (hs : ∀ (i : Nat) (x : Str), S[i]? = some x → S'[i]? = some x) (ht : t ≤ t') : Pk me other S' t' p := by
  obtain ⟨n, k, x, e, h1, h2⟩ := h.ex
  exact ⟨n, k, x, e, Nat.le_trans h1 ht, h2.imp id fun ⟨i, h3, h4⟩ => ⟨i, h3, hs i x h4⟩⟩
theorem app_at {S : List Str} {y : Str} : ∀ (i : Nat) (x : Str), S[i]? = some x → (S ++ [y])[i]? = some x := fun i x h => by
  rw [List.getElem?_append_left (List.getElem?_eq_some_iff.mp h).1]
  exact h
/-- what lies between the ends, in the law's loop -/
structure LW (i : Nat) (w : W2) (g0 g1 : List Str) : Prop where
  v : Inv2 w
  b0 : ∀ p ∈ g0, Pk w.l0.me w.l0.other w.s0 w.t0.length p
  b1 : ∀ p ∈ g1, Pk w.l1.me w.l1.other w.s1 w.t1.length p
  c0 : w.s0.length ≤ i
  c1 : w.s1.length ≤ i
  e0 : g0.length ≤ 10 * i
  e1 : g1.length ≤ 10 * i
theorem LW.next {i : Nat} {w : W2} {g0 g1 : List Str} (h : LW i w g0 g1) : LW (i + 1) w g0 g1 := ⟨h.v, h.b0, h.b1, by have := h.c0; omega, by have := h.c1; omega, by have := h.e0; omega, by have := h.e1; omega⟩
theorem pk_word {a b : Lk} {S S2 T2 : List Str} (d2 : Dir b a S2 T2) : Pk a.me a.other S T2.length (a.pack 0 "") := ⟨0, T2.length, "", by unfold Lk.pack; rw [d2.tkn]; rfl, Nat.le_refl _, .inl ⟨rfl, rfl⟩⟩
theorem pk_packs {a b : Lk} {S T S2 T2 : List Str} (d : Dir a b S T) (d2 : Dir b a S2 T2) : ∀ p ∈ a.packs, Pk a.me a.other S T2.length p := fun p hp => by
  obtain ⟨i, hi⟩ := List.mem_iff_getElem?.mp hp
  obtain ⟨x, hx, rfl⟩ := pack_at d d2 hi
  exact ⟨_, T2.length, x, rfl, Nat.le_refl _, .inr ⟨_, rfl, hx⟩⟩
theorem pk_sent {a b : Lk} {S T S2 T2 : List Str} {x : Str} (d : Dir a b S T) (d2 : Dir b a S2 T2) : Pk a.me a.other (S ++ [x]) T2.length (a.pack (a.snt + 1) x) := by
  refine ⟨S.length + 1, T2.length, x, ?_, Nat.le_refl _, .inr ⟨S.length, rfl, by rw [List.getElem?_append_right (Nat.le_refl _), Nat.sub_self]; rfl⟩⟩
  unfold Lk.pack
  rw [d.snt, d2.tkn]
  rfl
abbrev LL (P : PD) : LEnds := ⟨fun _ M' => DropD 0 P .non M', DropD 0 P, fun _ _ => False, fun _ _ => False, fun _ _ _ => False⟩
theorem finLL {P : PD} {M : Mem} (k : P (.bl true) []) : DropD 0 P (.dat (.bl true)) M := .inr ⟨0, Nat.zero_le _, rfl, by rw [List.take_zero]; rfl, k⟩
theorem okV_strs {xs : List Str} {n : Nat} (h : xs.length ≤ 1000000) : okV (n + 2) (.tup (xs.map D.str)) := by
  refine ⟨by rw [List.length_map]; exact h, fun d hd => ?_⟩
  obtain ⟨x, _, rfl⟩ := List.mem_map.mp hd
  trivial
theorem dat_strs (o : List Str) : o.map DV.str = (o.map D.str).map DV.dat := by rw [List.map_map]; rfl
theorem ok_ml {A : Adr} {o : MO} {w : W2} {g0 g1 : List Str} (ho : Dr o) : (ml A o w g0 g1).all (okMO 15) = true := by
  obtain ⟨i, p, g, rfl, _⟩ := ho
  simp [ml, okMO, okDV]
section
variable {A : Adr} {P : PD} {w : W2} {ns : List Int} {o : MO} {g0 g1 : List Str} {y6 y7 y8 y9 y10 y11 y12 : Option DV} {ex : Mem}
/-- the check behind each step -/
theorem law_b43 {L : LEnds} (hv : Inv2 w) (h : ∀ y12, L.nx (RW ns y6 y7 y8 y9 y10 y11 y12) (ml A o w g0 g1 ++ ex)) : l_law_b4_3 A L (RW ns y6 y7 y8 y9 y10 y11 y12) (ml A o w g0 g1 ++ ex) := by
  have l0 : w.t1.length ≤ 120 := by have := hv.d0.tl; have := hv.d0.sl; omega
  have l1 : w.t0.length ≤ 120 := by have := hv.d1.tl; have := hv.d1.sl; omega
  unfold l_law_b4_3
  repeat infer_instance
  refine s_exrng (by decide) (by decide) ?_
  refine ⟨fun j ρ M => M = ml A o w g0 g1 ++ ex ∧ ∃ y12, ρ = RW ns y6 y7 y8 y9 y10 y11 y12, ⟨rfl, _, rfl⟩, fun _ _ _ _ => trivial, ?_, ?_⟩
  · rintro j x ρ M hx ⟨rfl, y12, rfl⟩
    obtain ⟨hj, rfl⟩ := rangeD_at hx
    have hj : j = 0 ∨ j = 1 := by have : j < 2 := hj; omega
    rcases hj with rfl | rfl
    · repeat infer_instance
      refine s_tupO (n := 10) (ds := w.t1.map D.str) rfl ?_
      repeat infer_instance
      rw [strs_len]
      refine ⟨w.s0.map D.str, rfl, ?_⟩
      rw [cutD_to, ← List.map_take, ← hv.d0.tt]
      repeat infer_instance
      refine call_same (n := 4) (okV_strs (by omega)) ?_
      repeat infer_instance
      exact .here ⟨rfl, _, rfl⟩
    · repeat infer_instance
      refine s_tupO (n := 9) (ds := w.t0.map D.str) rfl ?_
      repeat infer_instance
      rw [strs_len]
      refine ⟨w.s1.map D.str, rfl, ?_⟩
      rw [cutD_to, ← List.map_take, ← hv.d1.tt]
      repeat infer_instance
      refine call_same (n := 4) (okV_strs (by omega)) ?_
      repeat infer_instance
      exact .here ⟨rfl, _, rfl⟩
  · rintro ρ M ⟨rfl, y12, rfl⟩
    exact h y12
end

section
variable {A : Adr} {P : PD} {w : W2} {ns : List Int} {o : MO} {g0 g1 : List Str} {y6 y7 y8 y9 y10 y11 y12 : Option DV} {ex : Mem}
theorem law_b42_0 {L : LEnds} {i : Nat} {c : Int} (hns : ns.length ≤ 63) (hi : i < 61) (ho : Dr o) (h : LW i w g0 g1) (fin : ∀ (ex : Mem) (o : MO) (w : W2) (g0 g1 : List Str) (y9 y10 y11 y12 : Option DV), Dr o → LW (i + 1) w g0 g1 → L.nx (RW ns y6 (some (.dat (.int 0))) (some (.dat (.int c))) y9 y10 y11 y12) (ml A o w g0 g1 ++ ex)) :
    l_law_b4_2 A L (RW ns y6 (some (.dat (.int 0))) (some (.dat (.int c))) y9 y10 y11 y12) (ml A o w g0 g1) := by
  have szn : (sizeLine : Nat) = 16777216 := sizeLine_eq
  have hv := h.v
  have nm : Nm w.l0 w.l1 := hv.n
  have hok : LkOk w.l0 := lk_ok nm hv.d0 hv.d1
  have hpl := packs_len w.l0
  have h8 := hv.d0.b8
  have hsl := h.c0
  have hg := h.e0
  have stop : ∀ (y9 y10 y11 : Option DV), l_law_b4_3 A L (RW ns y6 (some (.dat (.int 0))) (some (.dat (.int c))) y9 y10 y11 y12) (ml A o w g0 g1) := fun y9 y10 y11 => law_b43 (ex := []) hv fun y12 => fin [] o w g0 g1 _ _ _ _ ho h.next
  have send : l_law_b2_0 A { L with nx := l_law_b4_3 A L } (RW ns y6 (some (.dat (.int 0))) (some (.dat (.int c))) y9 y10 y11 y12) (ml A o w g0 g1) := by
    unfold l_law_b2_0
    repeat infer_instance
    refine call_draw rfl ho hns .nil rfl ?_
    rintro _ o2 ⟨x, rfl, hx, hxo⟩ ho2
    show l_law_b2_1 A _ (RW ns y6 (some (.dat (.int 0))) (some (.dat (.int c))) (some (.dat (.str x))) y10 y11 y12) (ml A o2 w g0 g1)
    unfold l_law_b2_1
    repeat infer_instance
    refine call_send (nl := 1) (nb := 1 + 1) (s := w.l0) rfl rfl (by decide) hok (by rw [hv.d0.snt]; omega) h8 (by omega) (fun hc => ?_) (fun hc => ?_)
    · repeat infer_instance
      unfold l_law_b2_2
      repeat infer_instance
      unfold l_law_b2_3
      repeat infer_instance
      unfold l_law_b1_0
      repeat infer_instance
      refine s_append (n := 6) (ys := (w.s0.map D.str).map DV.dat) (by exact rfl) (by rw [strs_len, szn]; omega) ?_
      rw [strs_append]
      unfold l_law_b1_1
      repeat infer_instance
      refine s_append (n := 12) (ys := (g0.map D.str).map DV.dat) (by exact rfl) (by rw [strs_len, szn]; omega) ?_
      rw [strs_append]
      have hL : LW (i + 1) { w with l0 := w.l0.sent x, s0 := w.s0 ++ [x] } (g0 ++ [w.l0.pack (w.l0.snt + 1) x]) g1 := by
        refine ⟨inv_send0 hv hc ⟨by omega, hxo⟩ (by omega), ?_, ?_, ?_, ?_, ?_, ?_⟩
        · exact all_snoc (fun p hp => (h.b0 p hp).mono app_at (Nat.le_refl _)) (pk_sent hv.d0 hv.d1)
        · exact fun p hp => (h.b1 p hp)
        · show (w.s0 ++ [x]).length ≤ _; rw [List.length_append]; show _ + 1 ≤ _; omega
        · exact Nat.le_succ_of_le h.c1
        · rw [List.length_append]; show _ + 1 ≤ _; omega
        · have := h.e1; omega
      exact law_b43 (ex := []) hL.v fun y12 => fin [] o2 _ _ _ _ _ _ _ ho2 hL
    · repeat infer_instance
      unfold l_law_b2_2
      repeat infer_instance
      unfold l_law_b2_3
      repeat infer_instance
      exact law_b43 (ex := []) hv fun y12 => fin [] o2 w g0 g1 _ _ _ _ ho2 h.next
  unfold l_law_b4_2
  repeat infer_instance
  refine s_ite (fun _ => send) (fun _ => ?_)
  repeat infer_instance
  refine s_ite (fun _ => send) (fun _ => ?_)
  repeat infer_instance
  refine s_ite (fun _ => ?_) (fun _ => ?_)
  · repeat infer_instance
    refine call_L (n := 1) (n' := 1 + 1) rfl rfl (by decide) .nil hok rfl (fun r s2 h => ?_) fun x h => False.elim h
    obtain ⟨e2, rfl⟩ := h
    rw [e2, set_L rfl rfl]
    repeat infer_instance
    refine ⟨_, w.l0.packs.map D.str, rfl, .inr rfl, ?_⟩
    repeat infer_instance
    refine s_extend (n := 12) (m := 15) (ys := (g0.map D.str).map DV.dat) (zs := (w.l0.packs.map D.str).map DV.dat) rfl rfl (by rw [strs_len, strs_len, hpl, szn]; omega) ?_
    rw [← List.map_append, ← List.map_append]
    have hL : LW (i + 1) w (g0 ++ w.l0.packs) g1 := by
      refine ⟨hv, ?_, ?_, ?_, ?_, ?_, ?_⟩
      · exact fun p hp => (List.mem_append.mp hp).elim (h.b0 p) (pk_packs hv.d0 hv.d1 p)
      · exact h.b1
      · exact Nat.le_succ_of_le h.c0
      · exact Nat.le_succ_of_le h.c1
      · rw [List.length_append, hpl]; omega
      · have := h.e1; omega
    exact law_b43 (ex := [_]) hv fun y12 => fin [_] o w _ _ _ _ _ _ ho hL
  · repeat infer_instance
    refine s_ite (fun _ => ?_) (fun _ => ?_)
    · repeat infer_instance
      refine call_L (n := 1) (n' := 1 + 1) rfl rfl (by decide) .nil hok rfl (fun r s2 h => ?_) fun x h => False.elim h
      obtain ⟨e2, rfl⟩ := h
      rw [e2, set_L rfl rfl]
      repeat infer_instance
      refine s_append (n := 12) (ys := (g0.map D.str).map DV.dat) (by exact rfl) (by rw [strs_len, szn]; omega) ?_
      rw [strs_append]
      have hL : LW (i + 1) w (g0 ++ [w.l0.pack 0 ""]) g1 := by
        refine ⟨hv, ?_, ?_, ?_, ?_, ?_, ?_⟩
        · exact all_snoc h.b0 (pk_word hv.d1)
        · exact h.b1
        · exact Nat.le_succ_of_le h.c0
        · exact Nat.le_succ_of_le h.c1
        · rw [List.length_append]; show _ + 1 ≤ _; omega
        · have := h.e1; omega
      exact law_b43 (ex := []) hv fun y12 => fin [] o w _ _ _ _ _ _ ho hL
    · repeat infer_instance
      rw [strs_len]
      refine s_ite (fun hc => ?_) (fun hc => stop _ _ _)
      have hc : (0 : Int) < (g0.length : Int) := of_decide_eq_true hc
      unfold l_law_b3_0
      repeat infer_instance
      rw [strs_len]
      refine call_next rfl ho hns (by omega) (by omega) fun r o2 hr0 hr1 ho2 => ?_
      obtain ⟨r, rfl⟩ : ∃ n : Nat, r = n := ⟨r.toNat, by omega⟩
      obtain ⟨p, hp⟩ : ∃ p, g0[r]? = some p := ⟨_, List.getElem?_eq_getElem (by omega)⟩
      have hpk := h.b0 p (List.mem_of_getElem? hp)
      refine s_ixO (n := 12) (ys := (g0.map D.str).map DV.dat) (e := .dat (.str p)) rfl (atI_nat (by rw [List.getElem?_map, List.getElem?_map, hp]; rfl)) ?_
      show l_law_b3_1 A _ (RW ns y6 (some (.dat (.int 0))) (some (.dat (.int c))) y9 y10 (some (.dat (.str p))) y12) (ml A o2 w g0 g1)
      unfold l_law_b3_1
      repeat infer_instance
      refine call_giveQ (nl := 3) (nb := 3 + 1) (nt := 10) (b := w.l1) (T := w.t1) rfl rfl rfl (by decide) nm hv.d0 hv.d1 hpk fun b T nm2 d2 d3 hTl => ?_
      repeat infer_instance
      obtain ⟨n, t, x, rfl, hn, ht, hxo⟩ := pk_facts nm hv.d0 hv.d1 hpk
      refine call_odd (nl := 3) (nb := 3 + 1) (b := b) rfl rfl (by decide) nm2 d2 d3 hn ht hxo ?_
      repeat infer_instance
      have e1 : b.me = w.l1.me := nm2.o.symm.trans nm.o
      have e2 : b.other = w.l1.other := nm2.m.symm.trans nm.m
      have hL : LW (i + 1) { w with l1 := b, t1 := T } g0 g1 := by
        refine ⟨⟨nm2, d2, d3⟩, ?_, ?_, ?_, ?_, ?_, ?_⟩
        · exact h.b0
        · show ∀ p ∈ g1, Pk b.me b.other w.s1 T.length p; rw [e1, e2]; exact fun p hp => (h.b1 p hp).mono (fun _ _ h => h) hTl
        · exact Nat.le_succ_of_le h.c0
        · exact Nat.le_succ_of_le h.c1
        · have := h.e0; omega
        · have := h.e1; omega
      exact law_b43 (ex := []) hL.v fun y12 => fin [] o2 _ _ _ _ _ _ _ ho2 hL
theorem law_b42_1 {L : LEnds} {i : Nat} {c : Int} (hns : ns.length ≤ 63) (hi : i < 61) (ho : Dr o) (h : LW i w g0 g1) (fin : ∀ (ex : Mem) (o : MO) (w : W2) (g0 g1 : List Str) (y9 y10 y11 y12 : Option DV), Dr o → LW (i + 1) w g0 g1 → L.nx (RW ns y6 (some (.dat (.int 1))) (some (.dat (.int c))) y9 y10 y11 y12) (ml A o w g0 g1 ++ ex)) :
    l_law_b4_2 A L (RW ns y6 (some (.dat (.int 1))) (some (.dat (.int c))) y9 y10 y11 y12) (ml A o w g0 g1) := by
  have szn : (sizeLine : Nat) = 16777216 := sizeLine_eq
  have hv := h.v
  have nm : Nm w.l1 w.l0 := hv.n.swap
  have hok : LkOk w.l1 := lk_ok nm hv.d1 hv.d0
  have hpl := packs_len w.l1
  have h8 := hv.d1.b8
  have hsl := h.c1
  have hg := h.e1
  have stop : ∀ (y9 y10 y11 : Option DV), l_law_b4_3 A L (RW ns y6 (some (.dat (.int 1))) (some (.dat (.int c))) y9 y10 y11 y12) (ml A o w g0 g1) := fun y9 y10 y11 => law_b43 (ex := []) hv fun y12 => fin [] o w g0 g1 _ _ _ _ ho h.next
  have send : l_law_b2_0 A { L with nx := l_law_b4_3 A L } (RW ns y6 (some (.dat (.int 1))) (some (.dat (.int c))) y9 y10 y11 y12) (ml A o w g0 g1) := by
    unfold l_law_b2_0
    repeat infer_instance
    refine call_draw rfl ho hns .nil rfl ?_
    rintro _ o2 ⟨x, rfl, hx, hxo⟩ ho2
    show l_law_b2_1 A _ (RW ns y6 (some (.dat (.int 1))) (some (.dat (.int c))) (some (.dat (.str x))) y10 y11 y12) (ml A o2 w g0 g1)
    unfold l_law_b2_1
    repeat infer_instance
    refine call_send (nl := 3) (nb := 3 + 1) (s := w.l1) rfl rfl (by decide) hok (by rw [hv.d1.snt]; omega) h8 (by omega) (fun hc => ?_) (fun hc => ?_)
    · repeat infer_instance
      unfold l_law_b2_2
      repeat infer_instance
      unfold l_law_b2_3
      repeat infer_instance
      unfold l_law_b1_0
      repeat infer_instance
      refine s_append (n := 7) (ys := (w.s1.map D.str).map DV.dat) (by exact rfl) (by rw [strs_len, szn]; omega) ?_
      rw [strs_append]
      unfold l_law_b1_1
      repeat infer_instance
      refine s_append (n := 13) (ys := (g1.map D.str).map DV.dat) (by exact rfl) (by rw [strs_len, szn]; omega) ?_
      rw [strs_append]
      have hL : LW (i + 1) { w with l1 := w.l1.sent x, s1 := w.s1 ++ [x] } g0 (g1 ++ [w.l1.pack (w.l1.snt + 1) x]) := by
        refine ⟨inv_send1 hv hc ⟨by omega, hxo⟩ (by omega), ?_, ?_, ?_, ?_, ?_, ?_⟩
        · exact fun p hp => (h.b0 p hp)
        · exact all_snoc (fun p hp => (h.b1 p hp).mono app_at (Nat.le_refl _)) (pk_sent hv.d1 hv.d0)
        · exact Nat.le_succ_of_le h.c0
        · show (w.s1 ++ [x]).length ≤ _; rw [List.length_append]; show _ + 1 ≤ _; omega
        · have := h.e0; omega
        · rw [List.length_append]; show _ + 1 ≤ _; omega
      exact law_b43 (ex := []) hL.v fun y12 => fin [] o2 _ _ _ _ _ _ _ ho2 hL
    · repeat infer_instance
      unfold l_law_b2_2
      repeat infer_instance
      unfold l_law_b2_3
      repeat infer_instance
      exact law_b43 (ex := []) hv fun y12 => fin [] o2 w g0 g1 _ _ _ _ ho2 h.next
  unfold l_law_b4_2
  repeat infer_instance
  refine s_ite (fun _ => send) (fun _ => ?_)
  repeat infer_instance
  refine s_ite (fun _ => send) (fun _ => ?_)
  repeat infer_instance
  refine s_ite (fun _ => ?_) (fun _ => ?_)
  · repeat infer_instance
    refine call_L (n := 3) (n' := 3 + 1) rfl rfl (by decide) .nil hok rfl (fun r s2 h => ?_) fun x h => False.elim h
    obtain ⟨e2, rfl⟩ := h
    rw [e2, set_L rfl rfl]
    repeat infer_instance
    refine ⟨_, w.l1.packs.map D.str, rfl, .inr rfl, ?_⟩
    repeat infer_instance
    refine s_extend (n := 13) (m := 15) (ys := (g1.map D.str).map DV.dat) (zs := (w.l1.packs.map D.str).map DV.dat) rfl rfl (by rw [strs_len, strs_len, hpl, szn]; omega) ?_
    rw [← List.map_append, ← List.map_append]
    have hL : LW (i + 1) w g0 (g1 ++ w.l1.packs) := by
      refine ⟨hv, ?_, ?_, ?_, ?_, ?_, ?_⟩
      · exact h.b0
      · exact fun p hp => (List.mem_append.mp hp).elim (h.b1 p) (pk_packs hv.d1 hv.d0 p)
      · exact Nat.le_succ_of_le h.c0
      · exact Nat.le_succ_of_le h.c1
      · have := h.e0; omega
      · rw [List.length_append, hpl]; omega
    exact law_b43 (ex := [_]) hv fun y12 => fin [_] o w _ _ _ _ _ _ ho hL
  · repeat infer_instance
    refine s_ite (fun _ => ?_) (fun _ => ?_)
    · repeat infer_instance
      refine call_L (n := 3) (n' := 3 + 1) rfl rfl (by decide) .nil hok rfl (fun r s2 h => ?_) fun x h => False.elim h
      obtain ⟨e2, rfl⟩ := h
      rw [e2, set_L rfl rfl]
      repeat infer_instance
      refine s_append (n := 13) (ys := (g1.map D.str).map DV.dat) (by exact rfl) (by rw [strs_len, szn]; omega) ?_
      rw [strs_append]
      have hL : LW (i + 1) w g0 (g1 ++ [w.l1.pack 0 ""]) := by
        refine ⟨hv, ?_, ?_, ?_, ?_, ?_, ?_⟩
        · exact h.b0
        · exact all_snoc h.b1 (pk_word hv.d0)
        · exact Nat.le_succ_of_le h.c0
        · exact Nat.le_succ_of_le h.c1
        · have := h.e0; omega
        · rw [List.length_append]; show _ + 1 ≤ _; omega
      exact law_b43 (ex := []) hv fun y12 => fin [] o w _ _ _ _ _ _ ho hL
    · repeat infer_instance
      rw [strs_len]
      refine s_ite (fun hc => ?_) (fun hc => stop _ _ _)
      have hc : (0 : Int) < (g1.length : Int) := of_decide_eq_true hc
      unfold l_law_b3_0
      repeat infer_instance
      rw [strs_len]
      refine call_next rfl ho hns (by omega) (by omega) fun r o2 hr0 hr1 ho2 => ?_
      obtain ⟨r, rfl⟩ : ∃ n : Nat, r = n := ⟨r.toNat, by omega⟩
      obtain ⟨p, hp⟩ : ∃ p, g1[r]? = some p := ⟨_, List.getElem?_eq_getElem (by omega)⟩
      have hpk := h.b1 p (List.mem_of_getElem? hp)
      refine s_ixO (n := 13) (ys := (g1.map D.str).map DV.dat) (e := .dat (.str p)) rfl (atI_nat (by rw [List.getElem?_map, List.getElem?_map, hp]; rfl)) ?_
      show l_law_b3_1 A _ (RW ns y6 (some (.dat (.int 1))) (some (.dat (.int c))) y9 y10 (some (.dat (.str p))) y12) (ml A o2 w g0 g1)
      unfold l_law_b3_1
      repeat infer_instance
      refine call_giveQ (nl := 1) (nb := 1 + 1) (nt := 9) (b := w.l0) (T := w.t0) rfl rfl rfl (by decide) nm hv.d1 hv.d0 hpk fun b T nm2 d2 d3 hTl => ?_
      repeat infer_instance
      obtain ⟨n, t, x, rfl, hn, ht, hxo⟩ := pk_facts nm hv.d1 hv.d0 hpk
      refine call_odd (nl := 1) (nb := 1 + 1) (b := b) rfl rfl (by decide) nm2 d2 d3 hn ht hxo ?_
      repeat infer_instance
      have e1 : b.me = w.l0.me := nm2.o.symm.trans nm.o
      have e2 : b.other = w.l0.other := nm2.m.symm.trans nm.m
      have hL : LW (i + 1) { w with l0 := b, t0 := T } g0 g1 := by
        refine ⟨⟨nm2.swap, d3, d2⟩, ?_, ?_, ?_, ?_, ?_, ?_⟩
        · show ∀ p ∈ g0, Pk b.me b.other w.s0 T.length p; rw [e1, e2]; exact fun p hp => (h.b0 p hp).mono (fun _ _ h => h) hTl
        · exact h.b1
        · exact Nat.le_succ_of_le h.c0
        · exact Nat.le_succ_of_le h.c1
        · have := h.e0; omega
        · have := h.e1; omega
      exact law_b43 (ex := []) hL.v fun y12 => fin [] o2 _ _ _ _ _ _ _ ho2 hL
end

structure Rd (w : W2) (i j : Nat) : Prop where
  a : 1 ≤ j ∨ 1 ≤ i → w.t1 = w.s0
  b : 2 ≤ j ∨ 1 ≤ i → w.t0 = w.s1 ∧ w.l0.bs = []
  c : (1 ≤ j ∧ 1 ≤ i) ∨ 2 ≤ i → w.l1.bs = []
theorem okV_ints (a b c : Int) : okV 4 (.tup [.int a, .int b, .int c]) := by
  refine ⟨by show 3 ≤ 1000000; decide, fun d hd => ?_⟩
  simp only [List.mem_cons, List.not_mem_nil, or_false] at hd
  rcases hd with rfl | rfl | rfl <;> trivial
def I7 (A : Adr) (ns : List Int) (g0 g1 : List Str) (i j : Nat) (ρ : Rho) (M : Mem) : Prop := ∃ (o : MO) (w : W2) (y6 y7 y8 y9 y10 y11 y12 : Option DV), M = ml A o w g0 g1 ∧ Dr o ∧ Inv2 w ∧ Rd w i j ∧ ρ = RW ns y6 y7 y8 y9 y10 y11 y12
section
variable {A : Adr} {P : PD} {w : W2} {ns : List Int} {o : MO} {g0 g1 : List Str} {y6 y7 y8 y9 y10 y11 y12 : Option DV}
theorem state_D {a b : Lk} {S T S2 T2 : List Str} (d : Dir a b S T) (d2 : Dir b a S2 T2) (hb : a.bs = []) (ht : T2 = S2) : D.tup [.int a.snt, .int a.ack, .int a.tkn] = .tup [.int (S.length : Nat), .int (S.length : Nat), .int (S2.length : Nat)] := by
  unfold Lk.ack
  rw [d.snt, d2.tkn, hb, ht]
  simp
theorem law_t8 (k : P (.bl true) []) (hv : Inv2 w) (h0 : w.t1 = w.s0) (h1 : w.t0 = w.s1) (hb0 : w.l0.bs = []) (hb1 : w.l1.bs = []) : l_law_t8 A (LL P) (RW ns y6 y7 y8 y9 y10 y11 y12) (ml A o w g0 g1) := by
  have ok0 : LkOk w.l0 := lk_ok hv.n hv.d0 hv.d1
  have ok1 : LkOk w.l1 := lk_ok hv.n.swap hv.d1 hv.d0
  have st0 := state_D hv.d0 hv.d1 hb0 h1
  have st1 := state_D hv.d1 hv.d0 hb1 h0
  have l0 := hv.d0.sl
  have l1 := hv.d1.sl
  unfold l_law_t8
  repeat infer_instance
  refine s_exrng (by decide) (by decide) ?_
  refine ⟨fun j ρ M => M = ml A o w g0 g1 ∧ ∃ y7, ρ = RW ns y6 y7 y8 y9 y10 y11 y12, ⟨rfl, _, rfl⟩, fun _ _ _ _ => trivial, ?_, ?_⟩
  · rintro j x ρ M hx ⟨rfl, y7, rfl⟩
    obtain ⟨hj, rfl⟩ := rangeD_at hx
    have hj : j = 0 ∨ j = 1 := by have : j < 2 := hj; omega
    rcases hj with rfl | rfl
    · repeat infer_instance
      unfold l_law_b5_0
      repeat infer_instance
      refine s_tupO (n := 10) (ds := w.t1.map D.str) rfl ?_
      repeat infer_instance
      refine s_tupO (n := 6) (ds := w.s0.map D.str) rfl ?_
      rw [h0]
      repeat infer_instance
      refine call_same (n := 4) (okV_strs (by omega)) ?_
      repeat infer_instance
      unfold l_law_b5_1
      repeat infer_instance
      refine call_L (n := 1) (n' := 1 + 1) rfl rfl (by decide) .nil ok0 rfl (fun r s2 h => ?_) fun x h => False.elim h
      obtain ⟨e2, rfl⟩ := h
      rw [e2, set_L rfl rfl, st0]
      repeat infer_instance
      rw [strs_len, strs_len]
      refine call_same (n := 4) (okV_ints _ _ _) ?_
      repeat infer_instance
      exact .here ⟨rfl, _, rfl⟩
    · repeat infer_instance
      unfold l_law_b5_0
      repeat infer_instance
      refine s_tupO (n := 9) (ds := w.t0.map D.str) rfl ?_
      repeat infer_instance
      refine s_tupO (n := 7) (ds := w.s1.map D.str) rfl ?_
      rw [h1]
      repeat infer_instance
      refine call_same (n := 4) (okV_strs (by omega)) ?_
      repeat infer_instance
      unfold l_law_b5_1
      repeat infer_instance
      refine call_L (n := 3) (n' := 3 + 1) rfl rfl (by decide) .nil ok1 rfl (fun r s2 h => ?_) fun x h => False.elim h
      obtain ⟨e2, rfl⟩ := h
      rw [e2, set_L rfl rfl, st1]
      repeat infer_instance
      rw [strs_len, strs_len]
      refine call_same (n := 4) (okV_ints _ _ _) ?_
      repeat infer_instance
      exact .here ⟨rfl, _, rfl⟩
  · rintro ρ M ⟨rfl, y7, rfl⟩
    unfold l_law_t9
    repeat infer_instance
    exact finLL k
theorem law_t7 (k : P (.bl true) []) (ho : Dr o) (hv : Inv2 w) : l_law_t7 A (LL P) (RW ns y6 y7 y8 y9 y10 y11 y12) (ml A o w g0 g1) := by
  unfold l_law_t7
  repeat infer_instance
  refine s_exrng (by decide) (by decide) ?_
  refine ⟨fun i ρ M => I7 A ns g0 g1 i 0 ρ M, ⟨o, w, _, _, _, _, _, _, _, rfl, ho, hv, ⟨fun h => absurd h (by omega), fun h => absurd h (by omega), fun h => absurd h (by omega)⟩, rfl⟩, fun _ _ _ _ => trivial, ?_, ?_⟩
  · rintro i x ρ M hx ⟨o, w, y6, y7, y8, y9, y10, y11, y12, rfl, ho, hv, hr, rfl⟩
    obtain ⟨_, rfl⟩ := rangeD_at hx
    repeat infer_instance
    refine s_exrng (by decide) (by decide) ?_
    refine ⟨fun j ρ M => I7 A ns g0 g1 i j ρ M, ⟨o, w, _, _, _, _, _, _, _, rfl, ho, hv, hr, rfl⟩, fun _ _ _ _ => trivial, ?_, ?_⟩
    · rintro j x ρ M hx ⟨o, w, y6, y7, y8, y9, y10, y11, y12, rfl, ho, hv, hr, rfl⟩
      obtain ⟨hj, rfl⟩ := rangeD_at hx
      have hj : j = 0 ∨ j = 1 := by have : j < 2 := hj; omega
      rcases hj with rfl | rfl
      · show dlvT A 2 7 4 11 _ (RW ns y6 (some (.dat (.int 0))) y8 y9 y10 y11 y12) (ml A o w g0 g1)
        refine dlv_law0 hv fun b T y v => ?_
        obtain ⟨hT, hB⟩ := dlv_end v
        have hbl := v.d2.bl
        refine .inr ⟨15, [some (.dat (.lst (ns.map .int))), some (.obj 0), some (.obj 5), some (.obj 8), some (.obj 11), some (.obj 14), none, none, none, none, none, none, none], Nat.le_refl 15, ok_ml ho, SubR.of ⟨rfl, rfl, rfl, rfl, rfl, rfl, trivial⟩, rfl, o, { w with l1 := b, t1 := T }, _, _, _, _, _, _, _, rfl, ho, inv_dlv0 v, ⟨?_, ?_, ?_⟩, rfl⟩
        · exact fun _ => hT
        · exact fun h => hr.b (by omega)
        · refine fun h => List.eq_nil_of_length_eq_zero ?_
          have := (hr.b (by omega)).1
          rw [this] at hB
          show b.bs.length = 0
          omega
      · show dlvT A 2 7 4 11 _ (RW ns y6 (some (.dat (.int 1))) y8 y9 y10 y11 y12) (ml A o w g0 g1)
        refine dlv_law1 hv fun b T y v => ?_
        obtain ⟨hT, hB⟩ := dlv_end v
        have hbl := v.d2.bl
        refine .inr ⟨15, [some (.dat (.lst (ns.map .int))), some (.obj 0), some (.obj 5), some (.obj 8), some (.obj 11), some (.obj 14), none, none, none, none, none, none, none], Nat.le_refl 15, ok_ml ho, SubR.of ⟨rfl, rfl, rfl, rfl, rfl, rfl, trivial⟩, rfl, o, { w with l0 := b, t0 := T }, _, _, _, _, _, _, _, rfl, ho, inv_dlv1 v, ⟨?_, ?_, ?_⟩, rfl⟩
        · exact fun _ => hr.a (by omega)
        · refine fun _ => ⟨hT, List.eq_nil_of_length_eq_zero ?_⟩
          have := hr.a (by omega)
          rw [this] at hB
          show b.bs.length = 0
          omega
        · exact fun h => hr.c (by omega)
    · rintro ρ M ⟨o, w, y6, y7, y8, y9, y10, y11, y12, rfl, ho, hv, hr, rfl⟩
      exact .here ⟨o, w, _, _, _, _, _, _, _, rfl, ho, hv, ⟨fun _ => hr.a (.inl (by decide)), fun _ => hr.b (.inl (by decide)), fun h => hr.c (.inl ⟨by decide, by omega⟩)⟩, rfl⟩
  · rintro ρ M ⟨o, w, y6, y7, y8, y9, y10, y11, y12, rfl, ho, hv, hr, rfl⟩
    have h1 : 1 ≤ (rangeD 0 (Int.toNat 8)).length := by decide
    exact law_t8 k hv (hr.a (.inr (by decide))) (hr.b (.inr (by decide))).1 (hr.b (.inr (by decide))).2 (hr.c (.inr (by decide)))
theorem call_passed {r : Nat} {P : PD} {PX : PXn} (hv : Inv2 w) (h0 : w.s0.length + r ≤ 110) (h1 : w.s1.length + r ≤ 110) (k : ∀ w', Inv2 w' → P (.dat (.bl true)) (ml A o w' g0 g1)) : CallAt (sp_x_passed A) [.obj 5, .obj 8, .obj 11, .dat (.int r)] (ml A o w g0 g1) P PX := by
  refine .inr ⟨[1, 2, 3, 4, 5, 6, 7, 8, 9, 10, 11], [.obj 4, .obj 7, .obj 10, .dat (.int r)], m2 A w, by decide, by simp [okDV, m2], rfl, ok_m2 A w, ?_, w, r, rfl, rfl, hv, h0, h1, fun w' hw' => ?_⟩
  · show [some (lkO A w.l0 2), some (strsO w.l0.bs), some (lkO A w.l1 4), some (strsO w.l1.bs), some (.lst [.obj 1, .obj 3]), some (strsO w.s0), some (strsO w.s1), some (.lst [.obj 6, .obj 7]), some (strsO w.t0), some (strsO w.t1), some (.lst [.obj 9, .obj 10])] = [some (lkO A w.l0 2), some (renMO _ _ (strsO w.l0.bs)), some (lkO A w.l1 4), some (renMO _ _ (strsO w.l1.bs)), some (.lst [.obj 1, .obj 3]), some (renMO _ _ (strsO w.s0)), some (renMO _ _ (strsO w.s1)), some (.lst [.obj 6, .obj 7]), some (renMO _ _ (strsO w.t0)), some (renMO _ _ (strsO w.t1)), some (.lst [.obj 9, .obj 10])]
    simp only [ren_strs]
  · have e : merge [1, 2, 3, 4, 5, 6, 7, 8, 9, 10, 11] (ml A o w g0 g1) (m2 A w') = ml A o w' g0 g1 := by
      show [o, lkO A w'.l0 2, renMO _ _ (strsO w'.l0.bs), lkO A w'.l1 4, renMO _ _ (strsO w'.l1.bs), .lst [.obj 1, .obj 3], renMO _ _ (strsO w'.s0), renMO _ _ (strsO w'.s1), .lst [.obj 6, .obj 7], renMO _ _ (strsO w'.t0), renMO _ _ (strsO w'.t1), .lst [.obj 9, .obj 10], strsO g0, strsO g1, .lst [.obj 12, .obj 13]] = _
      simp only [ren_strs]
      rfl
    show P _ (merge [1, 2, 3, 4, 5, 6, 7, 8, 9, 10, 11] (ml A o w g0 g1) (m2 A w'))
    rw [e]
    exact k w' hw'
theorem law_t6 (k : P (.bl true) []) (hns : ns.length ≤ 63) (ho : Dr o) (hv : Inv2 w) (h0 : w.s0.length ≤ 61) (h1 : w.s1.length ≤ 61) : l_law_t6 A (LL P) (RW ns y6 y7 y8 y9 y10 y11 y12) (ml A o w g0 g1) := by
  unfold l_law_t6
  repeat infer_instance
  refine call_next rfl ho hns (by decide) (by decide) fun q o2 hq0 hq1 ho2 => ?_
  repeat infer_instance
  refine s_ite (fun h1 => ?_) (fun h1 => ?_)
  · repeat infer_instance
    refine call_passed (o := o2) (r := 40) hv (by omega) (by omega) fun w' hw' => ?_
    repeat infer_instance
    exact law_t7 k ho2 hw'
  · iterate 1 infer_instance
    exact law_t7 k ho2 hv
def I5 (A : Adr) (ns : List Int) (i : Nat) (ρ : Rho) (M : Mem) : Prop := ∃ (o : MO) (w : W2) (g0 g1 : List Str) (y6 y7 y8 y9 y10 y11 y12 : Option DV), M = ml A o w g0 g1 ∧ Dr o ∧ LW i w g0 g1 ∧ ρ = RW ns y6 y7 y8 y9 y10 y11 y12
theorem fin5 {i : Nat} {ex : Mem} (ho : Dr o) (h : LW i w g0 g1) : DropS 15 (I5 A ns i) (RW ns y6 y7 y8 y9 y10 y11 y12) (ml A o w g0 g1 ++ ex) :=
  .inr ⟨15, [some (.dat (.lst (ns.map .int))), some (.obj 0), some (.obj 5), some (.obj 8), some (.obj 11), some (.obj 14), none, none, none, none, none, none, none], Nat.le_refl 15, ok_ml ho, SubR.of ⟨rfl, rfl, rfl, rfl, rfl, rfl, trivial⟩, rfl, o, w, g0, g1, _, _, _, _, _, _, _, rfl, ho, h, rfl⟩
theorem law_t5 (k : P (.bl true) []) (hns : ns.length ≤ 63) (ho : Dr o) (h : LW 0 w g0 g1) : l_law_t5 A (LL P) (RW ns y6 y7 y8 y9 y10 y11 y12) (ml A o w g0 g1) := by
  unfold l_law_t5
  repeat infer_instance
  refine call_next rfl ho hns (by decide) (by decide) fun q o2 hq0 hq1 ho2 => ?_
  repeat infer_instance
  refine s_exrng (by omega) (by omega) ?_
  refine ⟨fun i ρ M => I5 A ns i ρ M, ⟨o2, w, g0, g1, _, _, _, _, _, _, _, rfl, ho2, h, rfl⟩, fun _ _ _ _ => trivial, ?_, ?_⟩
  · rintro i x ρ M hx ⟨o, w, g0, g1, y6, y7, y8, y9, y10, y11, y12, rfl, ho, hL, rfl⟩
    obtain ⟨hi, rfl⟩ := rangeD_at hx
    have hi : i < 61 := by omega
    unfold l_law_b4_0
    repeat infer_instance
    refine call_next rfl ho hns (by decide) (by decide) fun q o3 hq0 hq1 ho3 => ?_
    show l_law_b4_1 A _ (RW ns (some (.dat (.int i))) (some (.dat (.int q))) y8 y9 y10 y11 y12) (ml A o3 w g0 g1)
    unfold l_law_b4_1
    repeat infer_instance
    refine call_next rfl ho3 hns (by decide) (by decide) fun c o4 hc0 hc1 ho4 => ?_
    have hq : q = 0 ∨ q = 1 := by omega
    rcases hq with rfl | rfl
    · exact law_b42_0 hns hi ho4 hL fun ex o w g0 g1 y9 y10 y11 y12 ho hL => fin5 ho hL
    · exact law_b42_1 hns hi ho4 hL fun ex o w g0 g1 y9 y10 y11 y12 ho hL => fin5 ho hL
  · rintro ρ M ⟨o, w, g0, g1, y6, y7, y8, y9, y10, y11, y12, rfl, ho, hL, rfl⟩
    have e : (rangeD 0 q.toNat).length = q.toNat := by simp [rangeD]
    have h0 := hL.c0
    have h1 := hL.c1
    exact law_t6 k hns ho hL.v (by omega) (by omega)
end

theorem len_law {ds : List DV} {M : Mem} {P : PD} {PX : PXn} (h : sp_law ds M P PX) : ds.length = (["_law_script"] : List Str).length := by
  obtain ⟨ns, rfl, _⟩ := h
  rfl
def w00 : W2 := ⟨⟨"a", "b", [], 0, 0⟩, ⟨"b", "a", [], 0, 0⟩, [], [], [], []⟩
theorem lw0 : LW 0 w00 [] [] := by
  have d0 : Dir w00.l0 w00.l1 w00.s0 w00.t1 := ⟨rfl, Nat.le_refl _, rfl, rfl, Nat.le_refl _, rfl, Nat.le_refl _, by decide, by simp [w00], by decide⟩
  have d1 : Dir w00.l1 w00.l0 w00.s1 w00.t0 := ⟨rfl, Nat.le_refl _, rfl, rfl, Nat.le_refl _, rfl, Nat.le_refl _, by decide, by simp [w00], by decide⟩
  exact ⟨⟨⟨rfl, rfl, .inl ⟨rfl, rfl⟩⟩, d0, d1⟩, by simp, by simp, Nat.le_refl _, Nat.le_refl _, Nat.le_refl _, Nat.le_refl _⟩
theorem call_init {A : Adr} {n : Nat} {me other : Str} {M : Mem} {P : PD} {PX : PXn} (hM : M[n]? = some (.ins A.Link [])) (k : P .non (M.set n (lkO A ⟨me, other, [], 0, 0⟩ M.length) ++ [strsO []])) : CallAt (sp_Link_init A) [.obj n, .dat (.str me), .dat (.str other)] M P PX := by
  refine .inr ⟨[n], [.obj 0, .dat (.str me), .dat (.str other)], [.ins A.Link []], by simp, by simp [okDV], rfl, rfl, by show [M[n]?] = _; rw [hM]; rfl, me, other, rfl, rfl, ?_⟩
  have e : merge [n] M [lkO A ⟨me, other, [], 0, 0⟩ 1, strsO []] = M.set n (lkO A ⟨me, other, [], 0, 0⟩ M.length) ++ [strsO []] := by
    simp [merge, putAll, renMO, renDV, ren]
  show P .non (merge [n] M [lkO A ⟨me, other, [], 0, 0⟩ 1, strsO []])
  rw [e]
  exact k
theorem b_law {A : Adr} {ds : List DV} {M : Mem} {P : PD} {PX : PXn} (h : sp_law ds M P PX) : l_law A { nx := fun _ M' => DropD M.length P .non M', rt := DropD M.length P } (startL N_law ds) M := by
  obtain ⟨ns, rfl, hns, rfl, k⟩ := h
  show l_law A (LL P) [some (.dat (.lst (ns.map .int))), none, none, none, none, none, none, none, none, none, none, none, none] []
  unfold l_law
  repeat infer_instance
  refine ⟨Nat.le_of_ble_eq_true rfl, ?_⟩
  unfold l_law_t1
  repeat infer_instance
  refine call_init (n := 1) rfl ⟨rfl, ?_⟩
  repeat infer_instance
  refine call_init (n := 3) rfl ⟨rfl, ?_⟩
  repeat infer_instance
  refine ⟨Nat.le_of_ble_eq_true rfl, ?_⟩
  unfold l_law_t2
  repeat infer_instance
  refine ⟨Nat.le_of_ble_eq_true rfl, ?_⟩
  repeat infer_instance
  refine ⟨Nat.le_of_ble_eq_true rfl, ?_⟩
  repeat infer_instance
  refine ⟨Nat.le_of_ble_eq_true rfl, ?_⟩
  unfold l_law_t3
  repeat infer_instance
  refine ⟨Nat.le_of_ble_eq_true rfl, ?_⟩
  repeat infer_instance
  refine ⟨Nat.le_of_ble_eq_true rfl, ?_⟩
  repeat infer_instance
  refine ⟨Nat.le_of_ble_eq_true rfl, ?_⟩
  unfold l_law_t4
  repeat infer_instance
  refine ⟨Nat.le_of_ble_eq_true rfl, ?_⟩
  repeat infer_instance
  refine ⟨Nat.le_of_ble_eq_true rfl, ?_⟩
  repeat infer_instance
  refine ⟨Nat.le_of_ble_eq_true rfl, ?_⟩
  exact law_t5 (w := w00) (g0 := []) (g1 := []) k hns ⟨0, 0, 1, rfl, by decide, by decide, by decide, by decide⟩ lw0

end K34
namespace K34
open PySem L2 L3
structure Ad where
  f_is_number : Addr
  d_is_number : FuncData
  f_Link_init : Addr
  d_Link_init : FuncData
  f_Link_packet : Addr
  d_Link_packet : FuncData
  f_Link_can_send : Addr
  d_Link_can_send : FuncData
  f_Link_send : Addr
  d_Link_send : FuncData
  f_Link_acknowledged : Addr
  d_Link_acknowledged : FuncData
  f_Link_again : Addr
  d_Link_again : FuncData
  f_Link_word : Addr
  d_Link_word : FuncData
  f_Link_state : Addr
  d_Link_state : FuncData
  f_Link_take : Addr
  d_Link_take : FuncData
  f_x_next : Addr
  d_x_next : FuncData
  f_x_same : Addr
  d_x_same : FuncData
  f_x_char : Addr
  d_x_char : FuncData
  f_x_words : Addr
  d_x_words : FuncData
  f_x_give : Addr
  d_x_give : FuncData
  f_x_odd : Addr
  d_x_odd : FuncData
  f_x_send : Addr
  d_x_send : FuncData
  f_x_passed : Addr
  d_x_passed : FuncData
  f_law : Addr
  d_law : FuncData
  c_is_number : Addr
  t_is_number : Addr
def tbl (a : Ad) : Tb := ⟨[a.t_is_number], [], by simp⟩
structure Tbs (base : Heap) (mg : Str → Option Value) (a : Ad) : Prop where
  b_is_number : GxR.TabB base mg a.c_is_number a.t_is_number
theorem tn_is_number {base : Heap} {mg : Str → Option Value} {a : Ad} (B : Tbs base mg a) {gp : Pos} : ∀ p ∈ (tbl a).qs, p.1 = a.t_is_number → ¬ (gp.line = p.2.1.line ∧ gp.col = p.2.1.col) := by
  intro p hp
  simp [tbl] at hp
structure Txt (P : Program) (K : PySem.W.Frag) (mg : Str → Option Value) (A : Adr) (a : Ad) : Prop where
  m_abs : mg "abs" = none
  m_all : mg "all" = none
  m_bool : mg "bool" = none
  m_enumerate : mg "enumerate" = none
  m_int : mg "int" = none
  m_isinstance : mg "isinstance" = none
  m_len : mg "len" = none
  m_list : mg "list" = none
  m_max : mg "max" = none
  m_min : mg "min" = none
  m_range : mg "range" = none
  m_str : mg "str" = none
  m_super : mg "super" = none
  m_tuple : mg "tuple" = none
  c_DIGITS : ∃ t, mg "DIGITS" = some (.str "0123456789" t)
  c_MOST_KEPT : ∃ t, mg "MOST_KEPT" = some (.int 8 t)
  c_MOST_SENT : ∃ t, mg "MOST_SENT" = some (.int 9999 t)
  F_is_number : Fun K "is_number" "is_number" s_is_number a.f_is_number a.d_is_number
  e_is_number : a.d_is_number.code = .ref a.c_is_number
  B_is_number : Binds K a.d_is_number ["text"] []
  g_is_number : mg "is_number" = some (.ref a.f_is_number)
  F_Link_init : Fun K "__init__" "Link.__init__" s_Link_init a.f_Link_init a.d_Link_init
  B_Link_init : Binds K a.d_Link_init ["self", "me", "other"] []
  F_Link_packet : Fun K "packet" "Link.packet" s_Link_packet a.f_Link_packet a.d_Link_packet
  B_Link_packet : Binds K a.d_Link_packet ["self", "number", "body"] []
  h_Link_packet : Meth K A.Link "packet" a.f_Link_packet
  F_Link_can_send : Fun K "can_send" "Link.can_send" s_Link_can_send a.f_Link_can_send a.d_Link_can_send
  B_Link_can_send : Binds K a.d_Link_can_send ["self"] []
  h_Link_can_send : Meth K A.Link "can_send" a.f_Link_can_send
  F_Link_send : Fun K "send" "Link.send" s_Link_send a.f_Link_send a.d_Link_send
  B_Link_send : Binds K a.d_Link_send ["self", "body"] []
  h_Link_send : Meth K A.Link "send" a.f_Link_send
  F_Link_acknowledged : Fun K "acknowledged" "Link.acknowledged" s_Link_acknowledged a.f_Link_acknowledged a.d_Link_acknowledged
  B_Link_acknowledged : Binds K a.d_Link_acknowledged ["self"] []
  h_Link_acknowledged : Meth K A.Link "acknowledged" a.f_Link_acknowledged
  F_Link_again : Fun K "again" "Link.again" s_Link_again a.f_Link_again a.d_Link_again
  B_Link_again : Binds K a.d_Link_again ["self"] []
  h_Link_again : Meth K A.Link "again" a.f_Link_again
  F_Link_word : Fun K "word" "Link.word" s_Link_word a.f_Link_word a.d_Link_word
  B_Link_word : Binds K a.d_Link_word ["self"] []
  h_Link_word : Meth K A.Link "word" a.f_Link_word
  F_Link_state : Fun K "state" "Link.state" s_Link_state a.f_Link_state a.d_Link_state
  B_Link_state : Binds K a.d_Link_state ["self"] []
  h_Link_state : Meth K A.Link "state" a.f_Link_state
  F_Link_take : Fun K "take" "Link.take" s_Link_take a.f_Link_take a.d_Link_take
  B_Link_take : Binds K a.d_Link_take ["self", "packet"] []
  h_Link_take : Meth K A.Link "take" a.f_Link_take
  F_x_next : Fun K "_law_next" "_law_next" s_x_next a.f_x_next a.d_x_next
  B_x_next : Binds K a.d_x_next ["_law_state", "_law_script", "_law_many"] []
  g_x_next : mg "_law_next" = some (.ref a.f_x_next)
  F_x_same : Fun K "_law_same" "_law_same" s_x_same a.f_x_same a.d_x_same
  B_x_same : Binds K a.d_x_same ["_law_actual", "_law_due"] []
  g_x_same : mg "_law_same" = some (.ref a.f_x_same)
  F_x_char : Fun K "_law_char" "_law_char" s_x_char a.f_x_char a.d_x_char
  B_x_char : Binds K a.d_x_char ["_law_number"] []
  g_x_char : mg "_law_char" = some (.ref a.f_x_char)
  F_x_words : Fun K "_law_words" "_law_words" s_x_words a.f_x_words a.d_x_words
  B_x_words : Binds K a.d_x_words ["_law_state", "_law_script"] []
  g_x_words : mg "_law_words" = some (.ref a.f_x_words)
  F_x_give : Fun K "_law_give" "_law_give" s_x_give a.f_x_give a.d_x_give
  B_x_give : Binds K a.d_x_give ["_law_link", "_law_packet", "_law_took"] []
  g_x_give : mg "_law_give" = some (.ref a.f_x_give)
  F_x_odd : Fun K "_law_odd" "_law_odd" s_x_odd a.f_x_odd a.d_x_odd
  B_x_odd : Binds K a.d_x_odd ["_law_link", "_law_packet"] []
  g_x_odd : mg "_law_odd" = some (.ref a.f_x_odd)
  F_x_send : Fun K "_law_send" "_law_send" s_x_send a.f_x_send a.d_x_send
  B_x_send : Binds K a.d_x_send ["_law_link", "_law_body"] []
  g_x_send : mg "_law_send" = some (.ref a.f_x_send)
  F_x_passed : Fun K "_law_passed" "_law_passed" s_x_passed a.f_x_passed a.d_x_passed
  B_x_passed : Binds K a.d_x_passed ["_law_ends", "_law_sent", "_law_took", "_law_rounds"] []
  g_x_passed : mg "_law_passed" = some (.ref a.f_x_passed)
  F_law : Fun K "law" "law" s_law a.f_law a.d_law
  B_law : Binds K a.d_law ["_law_script"] []
  g_law : mg "law" = some (.ref a.f_law)
  k_Link : Cls K A.Link
  g_Link : mg "Link" = some (.ref A.Link)
  M_Link : Mk K A.Link a.f_Link_init
  x_NoCredit : ExC K mg "NoCredit" A.NoCredit
  z_NoCredit : PySem.W.excIn K A.NoCredit [.type "ValueError", .type "Exception", .type "BaseException", .type "object"] "ValueError.__new__" = true
  y_NoCredit_NoCredit : PySem.W.exmOne K (.ref A.NoCredit) (.ref A.NoCredit) = some true
  n_Link_bodies : NoAttr K A.Link "bodies"
  n_Link_me : NoAttr K A.Link "me"
  n_Link_other : NoAttr K A.Link "other"
  n_Link_sent : NoAttr K A.Link "sent"
  n_Link_taken : NoAttr K A.Link "taken"
section
variable {P : Program} {w : World} {K : PySem.W.Frag} {mg : Str → Option Value} {base : Heap} {A : Adr} {a : Ad}
theorem ok_is_number (T : Txt P K mg A a) (B : Tbs base mg a) : FnOk P w K mg base CX0 2 a.f_is_number a.d_is_number ["text"] (low K (tbl a) (sp_is_number A)) := by
  refine okLc T.F_is_number T.e_is_number sc_is_number (fun ds M Pd PX h => len_is_number h) ?_
  intro Ar outer s H E hr
  have nd := sc_is_number.nd
  have hD : LPSs (cxOf CX0 P w K mg base N_is_number "is_number" (defScope s_is_number) a.f_is_number (.ref a.c_is_number) Ar outer s H E).nox ⟨K, (tbl a), []⟩ W0 (defBody s_is_number) _ (l_is_number A) := (lpss_cons (lps_if (LPW.lpt (lpw_or (lpt_not (lpt_chain op_leA l2_ord op_leA l2_ord lp_int (lp_callBK rLenA rfl call_lenAny ll_lenA rfl T.m_len (by decide +kernel) (lpa_cons (lp_var 0) lpa_nil)) lp_int)) (lpw_or1 (lpt_not (lpt_tru rfl (lp_allG (k := 0) (own := [("letter", 1)]) rfl nd (hr.mono (by omega)) rfl T.m_all B.b_is_number (show a.t_is_number ∈ (tbl a).ps from by simp [tbl]) (tn_is_number B) rfl (show GenOk N_is_number (defScope s_is_number) _ _ from genOk_by (by decide +kernel)) (wm_name (by decide)) (lpi_any (lp_var 0) rfl) (fun _ _ _ _ _ _ => (lpg_name (i := 1) nd rfl (by first | exact Or.inl rfl | exact Or.inr rfl))) (fun _ _ _ _ _ _ hr => (lp_cmpK (fun K => rInA K false) rfl (op_inA (hu_of hr)) (l2_inA false) (lp_var 1) (lp_gstrE rfl T.c_DIGITS) (by rfl)))))))))
    (lpss_one (lps_ret lp_bl))
    lpss_nil)
    (lpss_one (lps_ret (lp_or (lp_cmpK rEqA rfl (op_eqA hr.units) l2_eq (lp_var 0) lp_str (nomark _)) (lp_one (lp_cmpK rNeA rfl (op_neA hr.units) l2_ne (lp_ixA (hu_of hr) rfl (lp_var 0) lp_int) lp_str (nomark _)))))))
  exact ⟨_, _, hD, fun ds M Pd PX h => b_is_number h⟩
theorem ok_Link_init (T : Txt P K mg A a) (B : Tbs base mg a) : FnOk P w K mg base CX0 1 a.f_Link_init a.d_Link_init ["self", "me", "other"] (low K (tbl a) (sp_Link_init A)) := by
  refine okL T.F_Link_init sc_Link_init (fun ds M Pd PX h => len_Link_init h) ?_
  intro cdv Ar outer s H E hr
  have nd := sc_Link_init.nd
  have hD : LPSs (cxOf CX0 P w K mg base N_Link_init "Link.__init__" (defScope s_Link_init) a.f_Link_init cdv Ar outer s H E).nox ⟨K, (tbl a), []⟩ W0 (defBody s_Link_init) _ (l_Link_init A) := (lpss_cons (lps_fld (lp_var 0) (lp_var 1) rfl T.k_Link T.n_Link_me)
    (lpss_cons (lps_fld (lp_var 0) (lp_var 2) rfl T.k_Link T.n_Link_other)
    (lpss_cons (lps_fld (lp_var 0) (lp_lstM lpa_nil) rfl T.k_Link T.n_Link_bodies)
    (lpss_cons (lps_fld (lp_var 0) lp_int rfl T.k_Link T.n_Link_sent)
    (lpss_one (lps_fld (lp_var 0) lp_int rfl T.k_Link T.n_Link_taken))))))
  exact ⟨_, _, hD, fun ds M Pd PX h => b_Link_init h⟩
theorem ok_Link_packet (T : Txt P K mg A a) (B : Tbs base mg a) : FnOk P w K mg base CX0 1 a.f_Link_packet a.d_Link_packet ["self", "number", "body"] (low K (tbl a) (sp_Link_packet A)) := by
  refine okL T.F_Link_packet sc_Link_packet (fun ds M Pd PX h => len_Link_packet h) ?_
  intro cdv Ar outer s H E hr
  have nd := sc_Link_packet.nd
  have hD : LPSs (cxOf CX0 P w K mg base N_Link_packet "Link.packet" (defScope s_Link_packet) a.f_Link_packet cdv Ar outer s H E).nox ⟨K, (tbl a), []⟩ W0 (defBody s_Link_packet) _ (l_Link_packet A) := (lpss_one (lps_ret (lp_fs (lpj_cons (lp_fmt (lp_fld (lp_var 0) rfl T.k_Link T.n_Link_me)) (lpj_cons lp_str (lpj_cons (lp_fmt (lp_fld (lp_var 0) rfl T.k_Link T.n_Link_other)) (lpj_cons lp_str (lpj_cons (lp_fmt (lp_var 1)) (lpj_cons lp_str (lpj_cons (lp_fmt (lp_fld (lp_var 0) rfl T.k_Link T.n_Link_taken)) (lpj_cons lp_str (lpj_cons (lp_fmt (lp_var 2)) lpj_nil))))))))))))
  exact ⟨_, _, hD, fun ds M Pd PX h => b_Link_packet h⟩
theorem ok_Link_can_send (T : Txt P K mg A a) (B : Tbs base mg a) : FnOk P w K mg base CX0 1 a.f_Link_can_send a.d_Link_can_send ["self"] (low K (tbl a) (sp_Link_can_send A)) := by
  refine okL T.F_Link_can_send sc_Link_can_send (fun ds M Pd PX h => len_Link_can_send h) ?_
  intro cdv Ar outer s H E hr
  have nd := sc_Link_can_send.nd
  have hD : LPSs (cxOf CX0 P w K mg base N_Link_can_send "Link.can_send" (defScope s_Link_can_send) a.f_Link_can_send cdv Ar outer s H E).nox ⟨K, (tbl a), []⟩ W0 (defBody s_Link_can_send) _ (l_Link_can_send A) := (lpss_one (lps_ret (lp_and (lp_cmp op_ltA l2_ord (lp_callBK rLenA rfl call_lenAny ll_lenA rfl T.m_len (by decide +kernel) (lpa_cons (lp_fld (lp_var 0) rfl T.k_Link T.n_Link_bodies) lpa_nil)) (lp_gintE rfl T.c_MOST_KEPT) (nomark _)) (lp_one (lp_cmp op_ltA l2_ord (lp_fld (lp_var 0) rfl T.k_Link T.n_Link_sent) (lp_gintE rfl T.c_MOST_SENT) (nomark _))))))
  exact ⟨_, _, hD, fun ds M Pd PX h => b_Link_can_send h⟩
theorem ok_Link_send (T : Txt P K mg A a) (B : Tbs base mg a) : FnOk P w K mg base (L2N.CX P w) 2 a.f_Link_send a.d_Link_send ["self", "body"] (low K (tbl a) (sp_Link_send A)) := by
  have G_Link_can_send := ok_Link_can_send (P := P) (w := w) (base := base) T B
  have G_Link_packet := ok_Link_packet (P := P) (w := w) (base := base) T B
  refine okLX T.F_Link_send sc_Link_send (fun ds M Pd PX h => len_Link_send h) ?_
  intro cdv Ar outer s H E hr
  have nd := sc_Link_send.nd
  have tk : L3.Takes (cxOf (L2N.CX P w) P w K mg base N_Link_send "Link.send" (defScope s_Link_send) a.f_Link_send cdv Ar outer s H E) (WF E) := L3.takes_of rfl rfl rfl rfl
  have hD : LPSs (cxOf (L2N.CX P w) P w K mg base N_Link_send "Link.send" (defScope s_Link_send) a.f_Link_send cdv Ar outer s H E) ⟨K, (tbl a), []⟩ (WF E) (defBody s_Link_send) _ (l_Link_send A) := (lpss_cons (lps_if (lpt_not (lpt_tru rfl (lp_meth0 (lp_var 0) T.k_Link T.h_Link_can_send G_Link_can_send rfl (hr.mono (by omega)) T.B_Link_can_send)))
    (lpss_one (lps_raise0 rfl tk PySem.F.excBase_ValueError T.z_NoCredit T.x_NoCredit.g T.x_NoCredit.T.kC T.x_NoCredit.raises rfl))
    lpss_nil)
    (lpss_cons (lps_fld (lp_var 0) (lp_opK rAddA rfl op_addA l2_addA (lp_fld (lp_var 0) rfl T.k_Link T.n_Link_sent) lp_int) rfl T.k_Link T.n_Link_sent)
    (lpss_cons (lps_expr (lp_bm PySem.F.plainAttrs_list PySem.F.slot_list_append PySem.F.type_list_append mt_append lm_append rfl (lp_fld (lp_var 0) rfl T.k_Link T.n_Link_bodies) (lpa_cons (lp_var 1) lpa_nil)))
    (lpss_one (lps_ret (lp_meth (lp_var 0) T.k_Link T.h_Link_packet G_Link_packet rfl (hr.mono (by omega)) T.B_Link_packet (lpa_cons (lp_fld (lp_var 0) rfl T.k_Link T.n_Link_sent) (lpa_cons (lp_var 1) lpa_nil))))))))
  exact ⟨_, _, hD, fun ds M Pd PX h => b_Link_send h⟩
theorem ok_Link_acknowledged (T : Txt P K mg A a) (B : Tbs base mg a) : FnOk P w K mg base CX0 1 a.f_Link_acknowledged a.d_Link_acknowledged ["self"] (low K (tbl a) (sp_Link_acknowledged A)) := by
  refine okL T.F_Link_acknowledged sc_Link_acknowledged (fun ds M Pd PX h => len_Link_acknowledged h) ?_
  intro cdv Ar outer s H E hr
  have nd := sc_Link_acknowledged.nd
  have hD : LPSs (cxOf CX0 P w K mg base N_Link_acknowledged "Link.acknowledged" (defScope s_Link_acknowledged) a.f_Link_acknowledged cdv Ar outer s H E).nox ⟨K, (tbl a), []⟩ W0 (defBody s_Link_acknowledged) _ (l_Link_acknowledged A) := (lpss_one (lps_ret (lp_op op_sub l2_sub (lp_fld (lp_var 0) rfl T.k_Link T.n_Link_sent) (lp_callBK rLenA rfl call_lenAny ll_lenA rfl T.m_len (by decide +kernel) (lpa_cons (lp_fld (lp_var 0) rfl T.k_Link T.n_Link_bodies) lpa_nil)))))
  exact ⟨_, _, hD, fun ds M Pd PX h => b_Link_acknowledged h⟩
theorem ok_Link_again (T : Txt P K mg A a) (B : Tbs base mg a) : FnOk P w K mg base CX0 2 a.f_Link_again a.d_Link_again ["self"] (low K (tbl a) (sp_Link_again A)) := by
  have G_Link_acknowledged := ok_Link_acknowledged (P := P) (w := w) (base := base) T B
  have G_Link_packet := ok_Link_packet (P := P) (w := w) (base := base) T B
  refine okL T.F_Link_again sc_Link_again (fun ds M Pd PX h => len_Link_again h) ?_
  intro cdv Ar outer s H E hr
  have nd := sc_Link_again.nd
  have hD : LPSs (cxOf CX0 P w K mg base N_Link_again "Link.again" (defScope s_Link_again) a.f_Link_again cdv Ar outer s H E).nox ⟨K, (tbl a), []⟩ W0 (defBody s_Link_again) _ (l_Link_again A) := (lpss_cons (lps_set (i := 1) nd rfl (by first | exact Or.inl rfl | exact Or.inr rfl) (lp_opK rAddA rfl op_addA l2_addA (lp_meth0 (lp_var 0) T.k_Link T.h_Link_acknowledged G_Link_acknowledged rfl (hr.mono (by omega)) T.B_Link_acknowledged) lp_int))
    (lpss_one (lps_ret (lp_callTyK rTupA rfl (call_tupA rfl) ll_tupA rfl T.m_tuple (by decide +kernel) (lpa_cons (lp_lc (own := [("at", 2), ("body", 3)]) rfl nd (lpi_enum (lpa_cons (lp_fld (lp_var 0) rfl T.k_Link T.n_Link_bodies) lpa_nil) rfl rfl T.m_enumerate) (blkOk_by (own := [("at", 2), ("body", 3)]) (N := N_Link_again) (sc := defScope s_Link_again) (by decide +kernel)) (wm_tup (wms_cons (wm_name (by decide)) (wms_cons (wm_name (by decide)) wms_nil))) (fun _ _ _ _ _ => (lpg_tup rfl rfl (lpgs_cons (lpg_name (i := 2) nd rfl (by first | exact Or.inl rfl | exact Or.inr rfl)) (lpgs_cons (lpg_name (i := 3) nd rfl (by first | exact Or.inl rfl | exact Or.inr rfl)) lpgs_nil)))) (fun _ _ _ _ _ => lpts_nil) (fun _ _ _ _ _ => (lp_meth (lp_var 0) T.k_Link T.h_Link_packet G_Link_packet rfl (hr.mono (by omega)) T.B_Link_packet (lpa_cons (lp_opK rAddA rfl op_addA l2_addA (lp_var 1) (lp_var 2)) (lpa_cons (lp_var 3) lpa_nil))))) lpa_nil)))))
  exact ⟨_, _, hD, fun ds M Pd PX h => b_Link_again h⟩
theorem ok_Link_word (T : Txt P K mg A a) (B : Tbs base mg a) : FnOk P w K mg base CX0 2 a.f_Link_word a.d_Link_word ["self"] (low K (tbl a) (sp_Link_word A)) := by
  have G_Link_packet := ok_Link_packet (P := P) (w := w) (base := base) T B
  refine okL T.F_Link_word sc_Link_word (fun ds M Pd PX h => len_Link_word h) ?_
  intro cdv Ar outer s H E hr
  have nd := sc_Link_word.nd
  have hD : LPSs (cxOf CX0 P w K mg base N_Link_word "Link.word" (defScope s_Link_word) a.f_Link_word cdv Ar outer s H E).nox ⟨K, (tbl a), []⟩ W0 (defBody s_Link_word) _ (l_Link_word A) := (lpss_one (lps_ret (lp_meth (lp_var 0) T.k_Link T.h_Link_packet G_Link_packet rfl (hr.mono (by omega)) T.B_Link_packet (lpa_cons lp_int (lpa_cons lp_str lpa_nil)))))
  exact ⟨_, _, hD, fun ds M Pd PX h => b_Link_word h⟩
theorem ok_Link_state (T : Txt P K mg A a) (B : Tbs base mg a) : FnOk P w K mg base CX0 2 a.f_Link_state a.d_Link_state ["self"] (low K (tbl a) (sp_Link_state A)) := by
  have G_Link_acknowledged := ok_Link_acknowledged (P := P) (w := w) (base := base) T B
  refine okL T.F_Link_state sc_Link_state (fun ds M Pd PX h => len_Link_state h) ?_
  intro cdv Ar outer s H E hr
  have nd := sc_Link_state.nd
  have hD : LPSs (cxOf CX0 P w K mg base N_Link_state "Link.state" (defScope s_Link_state) a.f_Link_state cdv Ar outer s H E).nox ⟨K, (tbl a), []⟩ W0 (defBody s_Link_state) _ (l_Link_state A) := (lpss_one (lps_ret (lp_tup (lpa_cons (lp_fld (lp_var 0) rfl T.k_Link T.n_Link_sent) (lpa_cons (lp_meth0 (lp_var 0) T.k_Link T.h_Link_acknowledged G_Link_acknowledged rfl (hr.mono (by omega)) T.B_Link_acknowledged) (lpa_cons (lp_fld (lp_var 0) rfl T.k_Link T.n_Link_taken) lpa_nil))))))
  exact ⟨_, _, hD, fun ds M Pd PX h => b_Link_state h⟩
theorem ok_Link_take (T : Txt P K mg A a) (B : Tbs base mg a) : FnOk P w K mg base CX0 3 a.f_Link_take a.d_Link_take ["self", "packet"] (low K (tbl a) (sp_Link_take A)) := by
  have G_is_number := ok_is_number (P := P) (w := w) (base := base) T B
  have G_Link_acknowledged := ok_Link_acknowledged (P := P) (w := w) (base := base) T B
  refine okL T.F_Link_take sc_Link_take (fun ds M Pd PX h => len_Link_take h) ?_
  intro cdv Ar outer s H E hr
  have nd := sc_Link_take.nd
  have hD : LPSs (cxOf CX0 P w K mg base N_Link_take "Link.take" (defScope s_Link_take) a.f_Link_take cdv Ar outer s H E).nox ⟨K, (tbl a), []⟩ W0 (defBody s_Link_take) _ (l_Link_take A) := (lpss_cons (lps_asg (lp_bm PySem.F.plainAttrs_str PySem.F.slot_str_partition PySem.F.type_str_partition mt_partition lm_partition rfl (lp_var 1) (lpa_cons lp_str lpa_nil)) (lpg_tup rfl rfl (lpgs_cons (lpg_name (i := 2) nd rfl (by first | exact Or.inl rfl | exact Or.inr rfl)) (lpgs_cons (lpg_name (i := 3) nd rfl (by first | exact Or.inl rfl | exact Or.inr rfl)) (lpgs_cons (lpg_name (i := 4) nd rfl (by first | exact Or.inl rfl | exact Or.inr rfl)) lpgs_nil)))))
    (lpss_cons (lps_set (i := 5) nd rfl (by first | exact Or.inl rfl | exact Or.inr rfl) (lp_bm PySem.F.plainAttrs_str PySem.F.slot_str_split PySem.F.type_str_split mt_split lm_split rfl (lp_var 2) (lpa_cons lp_str lpa_nil)))
    (lpss_cons (lps_if (LPW.lpt (lpw_or (lpt_cmpK rEqA rfl (op_eqA hr.units) l2_eq (lp_var 3) lp_str (nomark _)) (lpw_or (lpt_cmpK rNeA rfl (op_neA hr.units) l2_ne (lp_callBK rLenA rfl call_lenAny ll_lenA rfl T.m_len (by decide +kernel) (lpa_cons (lp_var 5) lpa_nil)) lp_int (nomark _)) (lpw_or1 (lpt_cmpK rNeA rfl (op_neA hr.units) l2_ne (lp_sl rfl (lp_var 5) lpo_none (lpo_some lp_int)) (lp_lst (lpa_cons (lp_fld (lp_var 0) rfl T.k_Link T.n_Link_other) (lpa_cons (lp_fld (lp_var 0) rfl T.k_Link T.n_Link_me) lpa_nil))) (nomark _))))))
    (lpss_one (lps_ret (lp_tup (lpa_cons lp_str (lpa_cons lp_non lpa_nil)))))
    lpss_nil)
    (lpss_cons (lps_if (LPW.lpt (lpw_or (lpt_not (lpt_tru rfl (lp_call G_is_number rfl (hr.mono (by omega)) rfl T.g_is_number T.F_is_number.kp T.B_is_number (lpa_cons (lp_ixA (hu_of hr) rfl (lp_var 5) lp_int) lpa_nil)))) (lpw_or1 (lpt_not (lpt_tru rfl (lp_call G_is_number rfl (hr.mono (by omega)) rfl T.g_is_number T.F_is_number.kp T.B_is_number (lpa_cons (lp_ixA (hu_of hr) rfl (lp_var 5) lp_int) lpa_nil)))))))
    (lpss_one (lps_ret (lp_tup (lpa_cons lp_str (lpa_cons lp_non lpa_nil)))))
    lpss_nil)
    (lpss_cons (lps_set (i := 6) nd rfl (by first | exact Or.inl rfl | exact Or.inr rfl) (lp_callTy call_intA ll_intA rfl T.m_int (by decide +kernel) (lpa_cons (lp_ixA (hu_of hr) rfl (lp_var 5) lp_int) lpa_nil)))
    (lpss_cons (lps_if (LPW.lpt (lpw_or (lpt_cmp op_gtA l2_ord (lp_callTy call_intA ll_intA rfl T.m_int (by decide +kernel) (lpa_cons (lp_ixA (hu_of hr) rfl (lp_var 5) lp_int) lpa_nil)) (lp_fld (lp_var 0) rfl T.k_Link T.n_Link_sent) (nomark _)) (lpw_or1 (LPW.lpt (lpw_and (lpt_cmpK rEqA rfl (op_eqA hr.units) l2_eq (lp_var 6) lp_int (nomark _)) (lpw_and1 (lpt_cmpK rNeA rfl (op_neA hr.units) l2_ne (lp_var 4) lp_str (nomark _))))))))
    (lpss_one (lps_ret (lp_tup (lpa_cons lp_str (lpa_cons lp_non lpa_nil)))))
    lpss_nil)
    (lpss_cons (lps_while PassesOwn.never (lpt_cmp op_ltA l2_ord (lp_meth0 (lp_var 0) T.k_Link T.h_Link_acknowledged G_Link_acknowledged rfl (hr.mono (by omega)) T.B_Link_acknowledged) (lp_callTy call_intA ll_intA rfl T.m_int (by decide +kernel) (lpa_cons (lp_ixA (hu_of hr) rfl (lp_var 5) lp_int) lpa_nil)) (nomark _))
    (lpss_one (lps_expr (lp_bm PySem.F.plainAttrs_list PySem.F.slot_list_pop PySem.F.type_list_pop mt_popAt lm_popAt rfl (lp_fld (lp_var 0) rfl T.k_Link T.n_Link_bodies) (lpa_cons lp_int lpa_nil)))))
    (lpss_cons (lps_if (lpt_cmpK rEqA rfl (op_eqA hr.units) l2_eq (lp_var 6) lp_int (nomark _))
    (lpss_one (lps_ret (lp_tup (lpa_cons lp_str (lpa_cons lp_non lpa_nil)))))
    lpss_nil)
    (lpss_cons (lps_if (lpt_cmp op_leA l2_ord (lp_var 6) (lp_fld (lp_var 0) rfl T.k_Link T.n_Link_taken) (nomark _))
    (lpss_one (lps_ret (lp_tup (lpa_cons lp_str (lpa_cons lp_non lpa_nil)))))
    lpss_nil)
    (lpss_cons (lps_if (lpt_cmp op_gtA l2_ord (lp_var 6) (lp_opK rAddA rfl op_addA l2_addA (lp_fld (lp_var 0) rfl T.k_Link T.n_Link_taken) lp_int) (nomark _))
    (lpss_one (lps_ret (lp_tup (lpa_cons lp_str (lpa_cons lp_non lpa_nil)))))
    lpss_nil)
    (lpss_cons (lps_fld (lp_var 0) (lp_var 6) rfl T.k_Link T.n_Link_taken)
    (lpss_one (lps_ret (lp_tup (lpa_cons lp_str (lpa_cons (lp_var 4) lpa_nil))))))))))))))))
  exact ⟨_, _, hD, fun ds M Pd PX h => b_Link_take h⟩
theorem ok_x_next (T : Txt P K mg A a) (B : Tbs base mg a) : FnOk P w K mg base CX0 1 a.f_x_next a.d_x_next ["_law_state", "_law_script", "_law_many"] (low K (tbl a) (sp_x_next A)) := by
  refine okL T.F_x_next sc_x_next (fun ds M Pd PX h => len_x_next h) ?_
  intro cdv Ar outer s H E hr
  have nd := sc_x_next.nd
  have hD : LPSs (cxOf CX0 P w K mg base N_x_next "_law_next" (defScope s_x_next) a.f_x_next cdv Ar outer s H E).nox ⟨K, (tbl a), []⟩ W0 (defBody s_x_next) _ (l_x_next A) := (lpss_cons (lps_if (lpt_cmp op_gtA l2_ord (lp_ixA (hu_of hr) rfl (lp_var 0) lp_int) lp_int (nomark _))
    (lpss_cons (lps_set (i := 3) nd rfl (by first | exact Or.inl rfl | exact Or.inr rfl) (lp_op op_modN l2_modN (lp_callTy call_intA ll_intA rfl T.m_int (by decide +kernel) (lpa_cons (lp_ixA (hu_of hr) rfl (lp_var 0) lp_int) lpa_nil)) (lp_var 2)))
    (lpss_cons (lps_setA (hu_of hr) (lp_var 0) lp_int (lp_op op_fdivN l2_fdivN (lp_callTy call_intA ll_intA rfl T.m_int (by decide +kernel) (lpa_cons (lp_ixA (hu_of hr) rfl (lp_var 0) lp_int) lpa_nil)) (lp_var 2)))
    (lpss_one (lps_ret (lp_var 3)))))
    lpss_nil)
    (lpss_cons (lps_set (i := 4) nd rfl (by first | exact Or.inl rfl | exact Or.inr rfl) lp_int)
    (lpss_cons (lps_if (lpt_cmp op_ltA l2_ord (lp_ixA (hu_of hr) rfl (lp_var 0) lp_int) (lp_callBK rLenA rfl call_lenAny ll_lenA rfl T.m_len (by decide +kernel) (lpa_cons (lp_var 1) lpa_nil)) (nomark _))
    (lpss_one (lps_set (i := 4) nd rfl (by first | exact Or.inl rfl | exact Or.inr rfl) (lp_callB call_abs ll_abs rfl T.m_abs (by decide +kernel) (lpa_cons (lp_callTy call_intA ll_intA rfl T.m_int (by decide +kernel) (lpa_cons (lp_ixA (hu_of hr) rfl (lp_var 1) (lp_ixA (hu_of hr) rfl (lp_var 0) lp_int)) lpa_nil)) lpa_nil))))
    lpss_nil)
    (lpss_cons (lps_setA (hu_of hr) (lp_var 0) lp_int (lp_opK rAddA rfl op_addA l2_addA (lp_ixA (hu_of hr) rfl (lp_var 0) lp_int) lp_int))
    (lpss_cons (lps_if (lpt_cmp op_geA l2_ord (lp_var 4) (lp_op op_pow l2_pow lp_int lp_int) (nomark _))
    (lpss_cons (lps_setA (hu_of hr) (lp_var 0) lp_int (lp_op op_fdivN l2_fdivN (lp_var 4) (lp_var 2)))
    (lpss_one (lps_ret (lp_op op_modN l2_modN (lp_callTy call_intA ll_intA rfl T.m_int (by decide +kernel) (lpa_cons (lp_var 4) lpa_nil)) (lp_var 2)))))
    lpss_nil)
    (lpss_cons (lps_setA (hu_of hr) (lp_var 0) lp_int (lp_op op_modN l2_modN (lp_callTy call_intA ll_intA rfl T.m_int (by decide +kernel) (lpa_cons (lp_opK rAddA rfl op_addA l2_addA (lp_opK rAddA rfl op_addA l2_addA (lp_op op_mulA l2_mulA (lp_ixA (hu_of hr) rfl (lp_var 0) lp_int) lp_int) (lp_op op_mulA l2_mulA (lp_var 4) lp_int)) lp_int) lpa_nil)) lp_int))
    (lpss_one (lps_ret (lp_op op_modN l2_modN (lp_callTy call_intA ll_intA rfl T.m_int (by decide +kernel) (lpa_cons (lp_opK rAddA rfl op_addA l2_addA (lp_op op_fdivN l2_fdivN (lp_ixA (hu_of hr) rfl (lp_var 0) lp_int) lp_int) (lp_op op_fdivN l2_fdivN (lp_op op_mulA l2_mulA (lp_ixA (hu_of hr) rfl (lp_var 0) lp_int) (lp_ixA (hu_of hr) rfl (lp_var 0) lp_int)) lp_int)) lpa_nil)) (lp_var 2))))))))))
  exact ⟨_, _, hD, fun ds M Pd PX h => b_x_next h⟩
theorem ok_x_same (T : Txt P K mg A a) (B : Tbs base mg a) : ∀ n : Nat, FnOk P w K mg base CX0 (n + 0) a.f_x_same a.d_x_same ["_law_actual", "_law_due"] (low K (tbl a) (sp_x_same A n)) := by
  intro n
  induction n with
  | zero => exact ok_false
  | succ n G_x_same =>
    have G_x_same := G_x_same.mono (k := n + 0) (by omega)
    have e : n + 1 + 0 = (n + 0) + 1 := by omega
    rw [e]
    refine okL T.F_x_same sc_x_same (fun ds M Pd PX h => len_x_same h) ?_
    intro cdv Ar outer s H E hr
    have nd := sc_x_same.nd
    have hD : LPSs (cxOf CX0 P w K mg base N_x_same "_law_same" (defScope s_x_same) a.f_x_same cdv Ar outer s H E).nox ⟨K, (tbl a), []⟩ W0 (defBody s_x_same) _ (l_x_same A n) := (lpss_cons (lps_if (lpt_cmp op_isNA (l2_isN false) (lp_var 1) lp_non (nomark _))
      (lpss_one (lps_ret (lp_cmp op_isNA (l2_isN false) (lp_var 0) lp_non (nomark _))))
      lpss_nil)
      (lpss_cons (lps_if (lpt_tru rfl (lp_callBK rIsi rfl call_isi ll_isiA rfl T.m_isinstance (by decide +kernel) (lpa_cons (lp_var 1) (lpa_cons (lp_bty (n := "tuple") rfl T.m_tuple (by decide +kernel)) lpa_nil))))
      (lpss_cons (lps_if (LPW.lpt (lpw_or (lpt_not (lpt_tru rfl (lp_callBK rIsi rfl call_isi ll_isiA rfl T.m_isinstance (by decide +kernel) (lpa_cons (lp_var 0) (lpa_cons (lp_bty (n := "tuple") rfl T.m_tuple (by decide +kernel)) lpa_nil))))) (lpw_or1 (lpt_cmpK rNeA rfl (op_neA hr.units) l2_ne (lp_callBK rLenA rfl call_lenAny ll_lenA rfl T.m_len (by decide +kernel) (lpa_cons (lp_var 0) lpa_nil)) (lp_callBK rLenA rfl call_lenAny ll_lenA rfl T.m_len (by decide +kernel) (lpa_cons (lp_var 1) lpa_nil)) (nomark _)))))
      (lpss_one (lps_ret lp_bl))
      lpss_nil)
      (lpss_cons (lps_for PassesOwn.never rfl (lpi_range1 (lpa_cons (lp_callBK rLenA rfl call_lenAny ll_lenA rfl T.m_len (by decide +kernel) (lpa_cons (lp_var 1) lpa_nil)) lpa_nil) rfl T.m_range) (lpg_name (i := 2) nd rfl (by first | exact Or.inl rfl | exact Or.inr rfl))
      (lpss_one (lps_if (lpt_not (lpt_tru rfl (lp_call G_x_same rfl (hr.mono (by omega)) rfl T.g_x_same T.F_x_same.kp T.B_x_same (lpa_cons (lp_ixA (hu_of hr) rfl (lp_var 0) (lp_var 2)) (lpa_cons (lp_ixA (hu_of hr) rfl (lp_var 1) (lp_var 2)) lpa_nil)))))
      (lpss_one (lps_ret lp_bl))
      lpss_nil)))
      (lpss_one (lps_ret lp_bl))))
      lpss_nil)
      (lpss_cons (lps_if (lpt_tru rfl (lp_callBK rIsi rfl call_isi ll_isiA rfl T.m_isinstance (by decide +kernel) (lpa_cons (lp_var 1) (lpa_cons (lp_bty (n := "bool") rfl T.m_bool (by decide +kernel)) lpa_nil))))
      (lpss_one (lps_ret (lp_and (lp_callBK rIsi rfl call_isi ll_isiA rfl T.m_isinstance (by decide +kernel) (lpa_cons (lp_var 0) (lpa_cons (lp_bty (n := "bool") rfl T.m_bool (by decide +kernel)) lpa_nil))) (lp_one (lp_cmpK rEqA rfl (op_eqA hr.units) l2_eq (lp_var 0) (lp_var 1) (nomark _))))))
      lpss_nil)
      (lpss_cons (lps_if (lpt_tru rfl (lp_callBK rIsi rfl call_isi ll_isiA rfl T.m_isinstance (by decide +kernel) (lpa_cons (lp_var 1) (lpa_cons (lp_bty (n := "int") rfl T.m_int (by decide +kernel)) lpa_nil))))
      (lpss_one (lps_ret (lp_and (lp_callBK rIsi rfl call_isi ll_isiA rfl T.m_isinstance (by decide +kernel) (lpa_cons (lp_var 0) (lpa_cons (lp_bty (n := "int") rfl T.m_int (by decide +kernel)) lpa_nil))) (lp_and (lp_notT rfl (lp_callBK rIsi rfl call_isi ll_isiA rfl T.m_isinstance (by decide +kernel) (lpa_cons (lp_var 0) (lpa_cons (lp_bty (n := "bool") rfl T.m_bool (by decide +kernel)) lpa_nil)))) (lp_one (lp_cmpK rEqA rfl (op_eqA hr.units) l2_eq (lp_var 0) (lp_var 1) (nomark _)))))))
      lpss_nil)
      (lpss_one (lps_ret (lp_and (lp_callBK rIsi rfl call_isi ll_isiA rfl T.m_isinstance (by decide +kernel) (lpa_cons (lp_var 0) (lpa_cons (lp_bty (n := "str") rfl T.m_str (by decide +kernel)) lpa_nil))) (lp_one (lp_cmpK rEqA rfl (op_eqA hr.units) l2_eq (lp_var 0) (lp_var 1) (nomark _))))))))))
    exact ⟨_, _, hD, fun ds M Pd PX h => b_x_same h⟩
theorem ok_x_char (T : Txt P K mg A a) (B : Tbs base mg a) : FnOk P w K mg base CX0 1 a.f_x_char a.d_x_char ["_law_number"] (low K (tbl a) (sp_x_char A)) := by
  refine okL T.F_x_char sc_x_char (fun ds M Pd PX h => len_x_char h) ?_
  intro cdv Ar outer s H E hr
  have nd := sc_x_char.nd
  have hD : LPSs (cxOf CX0 P w K mg base N_x_char "_law_char" (defScope s_x_char) a.f_x_char cdv Ar outer s H E).nox ⟨K, (tbl a), []⟩ W0 (defBody s_x_char) _ (l_x_char A) := (lpss_cons (lps_set (i := 1) nd rfl (by first | exact Or.inl rfl | exact Or.inr rfl) lp_str)
    (lpss_cons (lps_set (i := 1) nd rfl (by first | exact Or.inl rfl | exact Or.inr rfl) (lp_opK rAddA rfl op_addA l2_addA (lp_var 1) lp_str))
    (lpss_one (lps_ret (lp_ixA (hu_of hr) rfl (lp_var 1) (lp_var 0))))))
  exact ⟨_, _, hD, fun ds M Pd PX h => b_x_char h⟩
theorem ok_x_words (T : Txt P K mg A a) (B : Tbs base mg a) : FnOk P w K mg base CX0 2 a.f_x_words a.d_x_words ["_law_state", "_law_script"] (low K (tbl a) (sp_x_words A)) := by
  have G_x_next := ok_x_next (P := P) (w := w) (base := base) T B
  have G_x_char := ok_x_char (P := P) (w := w) (base := base) T B
  refine okL T.F_x_words sc_x_words (fun ds M Pd PX h => len_x_words h) ?_
  intro cdv Ar outer s H E hr
  have nd := sc_x_words.nd
  have hD : LPSs (cxOf CX0 P w K mg base N_x_words "_law_words" (defScope s_x_words) a.f_x_words cdv Ar outer s H E).nox ⟨K, (tbl a), []⟩ W0 (defBody s_x_words) _ (l_x_words A) := (lpss_cons (lps_set (i := 2) nd rfl (by first | exact Or.inl rfl | exact Or.inr rfl) lp_str)
    (lpss_cons (lps_for PassesOwn.never rfl (lpi_range1 (lpa_cons (lp_call G_x_next rfl (hr.mono (by omega)) rfl T.g_x_next T.F_x_next.kp T.B_x_next (lpa_cons (lp_var 0) (lpa_cons (lp_var 1) (lpa_cons lp_int lpa_nil)))) lpa_nil) rfl T.m_range) (lpg_name (i := 3) nd rfl (by first | exact Or.inl rfl | exact Or.inr rfl))
    (lpss_cons (lps_set (i := 4) nd rfl (by first | exact Or.inl rfl | exact Or.inr rfl) (lp_call G_x_next rfl (hr.mono (by omega)) rfl T.g_x_next T.F_x_next.kp T.B_x_next (lpa_cons (lp_var 0) (lpa_cons (lp_var 1) (lpa_cons lp_int lpa_nil)))))
    (lpss_one (lps_if (lpt_cmp op_ltA l2_ord (lp_var 4) lp_int (nomark _))
    (lpss_one (lps_set (i := 2) nd rfl (by first | exact Or.inl rfl | exact Or.inr rfl) (lp_opK rAddA rfl op_addA l2_addA (lp_var 2) (lp_ixA (hu_of hr) rfl (lp_lst (lpa_cons lp_str (lpa_cons lp_str (lpa_cons lp_str (lpa_cons lp_str (lpa_cons lp_str (lpa_cons lp_str lpa_nil))))))) (lp_var 4)))))
    (lpss_one (lps_set (i := 2) nd rfl (by first | exact Or.inl rfl | exact Or.inr rfl) (lp_opK rAddA rfl op_addA l2_addA (lp_var 2) (lp_call G_x_char rfl (hr.mono (by omega)) rfl T.g_x_char T.F_x_char.kp T.B_x_char (lpa_cons (lp_call G_x_next rfl (hr.mono (by omega)) rfl T.g_x_next T.F_x_next.kp T.B_x_next (lpa_cons (lp_var 0) (lpa_cons (lp_var 1) (lpa_cons lp_int lpa_nil)))) lpa_nil)))))))))
    (lpss_one (lps_ret (lp_var 2)))))
  exact ⟨_, _, hD, fun ds M Pd PX h => b_x_words h⟩
theorem ok_x_give (T : Txt P K mg A a) (B : Tbs base mg a) : FnOk P w K mg base CX0 4 a.f_x_give a.d_x_give ["_law_link", "_law_packet", "_law_took"] (low K (tbl a) (sp_x_give A)) := by
  have G_Link_take := ok_Link_take (P := P) (w := w) (base := base) T B
  refine okL T.F_x_give sc_x_give (fun ds M Pd PX h => len_x_give h) ?_
  intro cdv Ar outer s H E hr
  have nd := sc_x_give.nd
  have hD : LPSs (cxOf CX0 P w K mg base N_x_give "_law_give" (defScope s_x_give) a.f_x_give cdv Ar outer s H E).nox ⟨K, (tbl a), []⟩ W0 (defBody s_x_give) _ (l_x_give A) := (lpss_cons (lps_set (i := 3) nd rfl (by first | exact Or.inl rfl | exact Or.inr rfl) (lp_callTy call_intA ll_intA rfl T.m_int (by decide +kernel) (lpa_cons (lp_ixA (hu_of hr) rfl (lp_bm PySem.F.plainAttrs_str PySem.F.slot_str_split PySem.F.type_str_split mt_split lm_split rfl (lp_sl rfl (lp_var 1) lpo_none (lpo_some (lp_bm PySem.F.plainAttrs_str PySem.F.slot_str_index PySem.F.type_str_index mt_sindex lm_sindex rfl (lp_var 1) (lpa_cons lp_str lpa_nil)))) (lpa_cons lp_str lpa_nil)) lp_int) lpa_nil)))
    (lpss_cons (lps_set (i := 4) nd rfl (by first | exact Or.inl rfl | exact Or.inr rfl) lp_str)
    (lpss_cons (lps_if (lpt_cmp op_gtA l2_ord (lp_var 3) lp_int (nomark _))
    (lpss_one (lps_set (i := 4) nd rfl (by first | exact Or.inl rfl | exact Or.inr rfl) (lp_ixA (hu_of hr) rfl (lp_lst (lpa_cons lp_str (lpa_cons lp_str (lpa_cons lp_str lpa_nil)))) (lp_callB (call_min2 rfl) ll_min2 rfl T.m_min (by decide +kernel) (lpa_cons lp_int (lpa_cons (lp_callB (call_max2 rfl) ll_max2 rfl T.m_max (by decide +kernel) (lpa_cons lp_int (lpa_cons (lp_op op_sub l2_sub (lp_var 3) (lp_callBK rLenA rfl call_lenAny ll_lenA rfl T.m_len (by decide +kernel) (lpa_cons (lp_var 2) lpa_nil))) lpa_nil))) lpa_nil))))))
    lpss_nil)
    (lpss_cons (lps_asg (lp_meth (lp_var 0) T.k_Link T.h_Link_take G_Link_take rfl (hr.mono (by omega)) T.B_Link_take (lpa_cons (lp_var 1) lpa_nil)) (lpg_tup rfl rfl (lpgs_cons (lpg_name (i := 5) nd rfl (by first | exact Or.inl rfl | exact Or.inr rfl)) (lpgs_cons (lpg_name (i := 6) nd rfl (by first | exact Or.inl rfl | exact Or.inr rfl)) lpgs_nil))))
    (lpss_cons (lps_if (lpt_cmpK rEqA rfl (op_eqA hr.units) l2_eq (lp_var 5) lp_str (nomark _))
    (lpss_one (lps_expr (lp_bm PySem.F.plainAttrs_list PySem.F.slot_list_append PySem.F.type_list_append mt_append lm_append rfl (lp_var 2) (lpa_cons (lp_var 6) lpa_nil))))
    lpss_nil)
    (lpss_one (lps_ret (lp_and (lp_callBK rIsi rfl call_isi ll_isiA rfl T.m_isinstance (by decide +kernel) (lpa_cons (lp_var 5) (lpa_cons (lp_bty (n := "str") rfl T.m_str (by decide +kernel)) lpa_nil))) (lp_one (lp_cmpK rEqA rfl (op_eqA hr.units) l2_eq (lp_var 5) (lp_var 4) (nomark _)))))))))))
  exact ⟨_, _, hD, fun ds M Pd PX h => b_x_give h⟩
theorem ok_x_odd (T : Txt P K mg A a) (B : Tbs base mg a) : FnOk P w K mg base CX0 5 a.f_x_odd a.d_x_odd ["_law_link", "_law_packet"] (low K (tbl a) (sp_x_odd A)) := by
  have G_Link_again := ok_Link_again (P := P) (w := w) (base := base) T B
  have G_Link_state := ok_Link_state (P := P) (w := w) (base := base) T B
  have G_x_same := ok_x_same (P := P) (w := w) (base := base) T B 4
  have G_Link_take := ok_Link_take (P := P) (w := w) (base := base) T B
  refine okLT T.F_x_odd sc_x_odd (by decide +kernel) (by decide) (fun ds M Pd PX h => len_x_odd h) ?_
  intro cdv Ar outer s H E hr
  have nd := sc_x_odd.nd
  have hD : LPSsT (cxOf CX0 P w K mg base N_x_odd "_law_odd" (defScope s_x_odd) a.f_x_odd cdv Ar outer s H E) ⟨K, (tbl a), []⟩ W0 (defBody s_x_odd) _ (l_x_odd A) := (lpsst_cons (lpst_of (lps_set (i := 2) nd rfl (by first | exact Or.inl rfl | exact Or.inr rfl) (lp_tup (lpa_cons (lp_meth0 (lp_var 0) T.k_Link T.h_Link_state G_Link_state rfl (hr.mono (by omega)) T.B_Link_state) (lpa_cons (lp_meth0 (lp_var 0) T.k_Link T.h_Link_again G_Link_again rfl (hr.mono (by omega)) T.B_Link_again) lpa_nil)))))
    (lpsst_cons (lpst_forL (passes_of rfl) rfl rfl (lpet_lst (lpat_cons (lpet_of (lp_opK rAddA rfl op_addA l2_addA lp_str (lp_var 1))) (lpat_cons (lpet_of (lp_sl rfl (lp_var 1) (lpo_some (lp_bm PySem.F.plainAttrs_str PySem.F.slot_str_index PySem.F.type_str_index mt_sindex lm_sindex rfl (lp_var 1) (lpa_cons lp_str lpa_nil))) lpo_none)) (lpat_cons (lpet_replC (lp_var 1) (by decide +kernel)) (lpat_cons (lpet_replC (lp_var 1) (by decide +kernel)) lpat_nil))))) (lpg_name (i := 3) nd rfl (by first | exact Or.inl rfl | exact Or.inr rfl))
    (lpss_one (lps_if (lpt_not (lpt_tru rfl (lp_call G_x_same rfl (hr.mono (by omega)) rfl T.g_x_same T.F_x_same.kp T.B_x_same (lpa_cons (lp_meth (lp_var 0) T.k_Link T.h_Link_take G_Link_take rfl (hr.mono (by omega)) T.B_Link_take (lpa_cons (lp_var 3) lpa_nil)) (lpa_cons (lp_tup (lpa_cons lp_str (lpa_cons lp_non lpa_nil))) lpa_nil)))))
    (lpss_one (lps_ret lp_bl))
    lpss_nil)))
    (lpsst_one (lpst_of (lps_ret (lp_cmpK rEqA rfl (op_eqA hr.units) l2_eq (lp_tup (lpa_cons (lp_meth0 (lp_var 0) T.k_Link T.h_Link_state G_Link_state rfl (hr.mono (by omega)) T.B_Link_state) (lpa_cons (lp_meth0 (lp_var 0) T.k_Link T.h_Link_again G_Link_again rfl (hr.mono (by omega)) T.B_Link_again) lpa_nil))) (lp_var 2) (nomark _)))))))
  exact ⟨_, _, hD, fun ds M Pd PX h => b_x_odd h⟩
theorem ok_x_send (T : Txt P K mg A a) (B : Tbs base mg a) : FnOk P w K mg base CX0 3 a.f_x_send a.d_x_send ["_law_link", "_law_body"] (low K (tbl a) (sp_x_send A)) := by
  have G_Link_again := ok_Link_again (P := P) (w := w) (base := base) T B
  have G_Link_can_send := ok_Link_can_send (P := P) (w := w) (base := base) T B
  have G_Link_send := ok_Link_send (P := P) (w := w) (base := base) T B
  refine okL T.F_x_send sc_x_send (fun ds M Pd PX h => len_x_send h) ?_
  intro cdv Ar outer s H E hr
  have nd := sc_x_send.nd
  have hD : LPSs (cxOf CX0 P w K mg base N_x_send "_law_send" (defScope s_x_send) a.f_x_send cdv Ar outer s H E).nox ⟨K, (tbl a), []⟩ W0 (defBody s_x_send) _ (l_x_send A) := (lpss_cons (lps_set (i := 2) nd rfl (by first | exact Or.inl rfl | exact Or.inr rfl) (lp_cmpK rEqA rfl (op_eqA hr.units) l2_eq (lp_callBK rLenA rfl call_lenAny ll_lenA rfl T.m_len (by decide +kernel) (lpa_cons (lp_meth0 (lp_var 0) T.k_Link T.h_Link_again G_Link_again rfl (hr.mono (by omega)) T.B_Link_again) lpa_nil)) lp_int (nomark _)))
    (lpss_cons (lps_if (LPW.lpt (lpw_or (lpt_cmp op_gtA l2_ord (lp_callBK rLenA rfl call_lenAny ll_lenA rfl T.m_len (by decide +kernel) (lpa_cons (lp_meth0 (lp_var 0) T.k_Link T.h_Link_again G_Link_again rfl (hr.mono (by omega)) T.B_Link_again) lpa_nil)) lp_int (nomark _)) (lpw_or1 (lpt_cmpK rEqA rfl (op_eqA hr.units) l2_eq (lp_meth0 (lp_var 0) T.k_Link T.h_Link_can_send G_Link_can_send rfl (hr.mono (by omega)) T.B_Link_can_send) (lp_var 2) (nomark _)))))
    (lpss_one (lps_ret (lp_lst (lpa_cons lp_bl (lpa_cons lp_non lpa_nil)))))
    lpss_nil)
    (lpss_cons (lps_tryAll rfl rfl nd L3.takes_none5 rfl (fun W pn xe ex tk hp => (lpss_one (lps_set (i := 3) nd rfl (by first | exact Or.inl rfl | exact Or.inr rfl) (lp_methX (lp_var 0) T.k_Link T.h_Link_send G_Link_send rfl tk (hr.mono (by omega)) T.B_Link_send (lpa_cons (lp_var 1) lpa_nil)))))
    (.bare ⟨rfl, by decide, .inl T.x_NoCredit.g⟩ (tab_cons T.y_NoCredit_NoCredit tab_nil) (fun xa oe xc xd pn hz hf => (lpss_one (lps_ret (lp_lst (lpa_cons (lp_var 2) (lpa_cons lp_non lpa_nil))))))
    .nil))
    (lpss_one (lps_ret (lp_lst (lpa_cons (lp_and (lp_notT rfl (lp_var 2)) (lp_one (lp_callBK rIsi rfl call_isi ll_isiA rfl T.m_isinstance (by decide +kernel) (lpa_cons (lp_var 3) (lpa_cons (lp_bty (n := "str") rfl T.m_str (by decide +kernel)) lpa_nil))))) (lpa_cons (lp_var 3) lpa_nil))))))))
  exact ⟨_, _, hD, fun ds M Pd PX h => b_x_send h⟩
theorem ok_x_passed (T : Txt P K mg A a) (B : Tbs base mg a) : FnOk P w K mg base CX0 5 a.f_x_passed a.d_x_passed ["_law_ends", "_law_sent", "_law_took", "_law_rounds"] (low K (tbl a) (sp_x_passed A)) := by
  have G_x_send := ok_x_send (P := P) (w := w) (base := base) T B
  have G_Link_again := ok_Link_again (P := P) (w := w) (base := base) T B
  have G_Link_word := ok_Link_word (P := P) (w := w) (base := base) T B
  have G_x_give := ok_x_give (P := P) (w := w) (base := base) T B
  refine okL T.F_x_passed sc_x_passed (fun ds M Pd PX h => len_x_passed h) ?_
  intro cdv Ar outer s H E hr
  have nd := sc_x_passed.nd
  have hD : LPSs (cxOf CX0 P w K mg base N_x_passed "_law_passed" (defScope s_x_passed) a.f_x_passed cdv Ar outer s H E).nox ⟨K, (tbl a), []⟩ W0 (defBody s_x_passed) _ (l_x_passed A) := (lpss_cons (lps_for PassesOwn.never rfl (lpi_range1 (lpa_cons (lp_var 3) lpa_nil) rfl T.m_range) (lpg_name (i := 4) nd rfl (by first | exact Or.inl rfl | exact Or.inr rfl))
    (lpss_one (lps_for PassesOwn.never rfl (lpi_range1 (lpa_cons lp_int lpa_nil) rfl T.m_range) (lpg_name (i := 5) nd rfl (by first | exact Or.inl rfl | exact Or.inr rfl))
    (lpss_cons (lps_asg (lp_call G_x_send rfl (hr.mono (by omega)) rfl T.g_x_send T.F_x_send.kp T.B_x_send (lpa_cons (lp_ixA (hu_of hr) rfl (lp_var 0) (lp_var 5)) (lpa_cons (lp_callTy call_str_int ll_strI rfl T.m_str (by decide +kernel) (lpa_cons (lp_var 4) lpa_nil)) lpa_nil))) (lpg_tupL rfl rfl (lpgs_cons (lpg_name (i := 6) nd rfl (by first | exact Or.inl rfl | exact Or.inr rfl)) (lpgs_cons (lpg_name (i := 7) nd rfl (by first | exact Or.inl rfl | exact Or.inr rfl)) lpgs_nil))))
    (lpss_cons (lps_if (lpt_not (lpt_tru rfl (lp_var 6)))
    (lpss_one (lps_ret lp_bl))
    lpss_nil)
    (lpss_cons (lps_if (lpt_cmp op_notNA (l2_isN true) (lp_var 7) lp_non (nomark _))
    (lpss_one (lps_expr (lp_bm PySem.F.plainAttrs_list PySem.F.slot_list_append PySem.F.type_list_append mt_append lm_append rfl (lp_ixA (hu_of hr) rfl (lp_var 1) (lp_var 5)) (lpa_cons (lp_callTy call_str_int ll_strI rfl T.m_str (by decide +kernel) (lpa_cons (lp_var 4) lpa_nil)) lpa_nil))))
    lpss_nil)
    (lpss_one (lps_for PassesOwn.never rfl (lpi_any (lp_opK rAddA rfl op_addA l2_addA (lp_callTyK rLstA rfl call_list_of ll_lstMA rfl T.m_list (by decide +kernel) (lpa_cons (lp_meth0 (lp_ixA (hu_of hr) rfl (lp_var 0) (lp_var 5)) T.k_Link T.h_Link_again G_Link_again rfl (hr.mono (by omega)) T.B_Link_again) lpa_nil)) (lp_lst (lpa_cons (lp_meth0 (lp_ixA (hu_of hr) rfl (lp_var 0) (lp_var 5)) T.k_Link T.h_Link_word G_Link_word rfl (hr.mono (by omega)) T.B_Link_word) lpa_nil))) rfl) (lpg_name (i := 8) nd rfl (by first | exact Or.inl rfl | exact Or.inr rfl))
    (lpss_one (lps_if (lpt_not (lpt_tru rfl (lp_call G_x_give rfl (hr.mono (by omega)) rfl T.g_x_give T.F_x_give.kp T.B_x_give (lpa_cons (lp_ixA (hu_of hr) rfl (lp_var 0) (lp_op op_sub l2_sub lp_int (lp_var 5))) (lpa_cons (lp_var 8) (lpa_cons (lp_ixA (hu_of hr) rfl (lp_var 2) (lp_op op_sub l2_sub lp_int (lp_var 5))) lpa_nil))))))
    (lpss_one (lps_ret lp_bl))
    lpss_nil))))))))))
    (lpss_one (lps_ret lp_bl)))
  exact ⟨_, _, hD, fun ds M Pd PX h => b_x_passed h⟩
theorem ok_law (T : Txt P K mg A a) (B : Tbs base mg a) : FnOk P w K mg base CX0 6 a.f_law a.d_law ["_law_script"] (low K (tbl a) (sp_law)) := by
  have G_Link_init := ok_Link_init (P := P) (w := w) (base := base) T B
  have G_x_next := ok_x_next (P := P) (w := w) (base := base) T B
  have G_x_words := ok_x_words (P := P) (w := w) (base := base) T B
  have G_x_send := ok_x_send (P := P) (w := w) (base := base) T B
  have G_Link_again := ok_Link_again (P := P) (w := w) (base := base) T B
  have G_Link_word := ok_Link_word (P := P) (w := w) (base := base) T B
  have G_x_give := ok_x_give (P := P) (w := w) (base := base) T B
  have G_x_odd := ok_x_odd (P := P) (w := w) (base := base) T B
  have G_x_same := ok_x_same (P := P) (w := w) (base := base) T B 4
  have G_x_passed := ok_x_passed (P := P) (w := w) (base := base) T B
  have G_Link_state := ok_Link_state (P := P) (w := w) (base := base) T B
  refine okL T.F_law sc_law (fun ds M Pd PX h => len_law h) ?_
  intro cdv Ar outer s H E hr
  have nd := sc_law.nd
  have hD : LPSs (cxOf CX0 P w K mg base N_law "law" (defScope s_law) a.f_law cdv Ar outer s H E).nox ⟨K, (tbl a), []⟩ W0 (defBody s_law) _ (l_law A) := (lpss_cons (lps_set (i := 1) nd rfl (by first | exact Or.inl rfl | exact Or.inr rfl) (lp_lstM (lpa_cons lp_int (lpa_cons lp_int (lpa_cons lp_int lpa_nil)))))
    (lpss_cons (lps_set (i := 2) nd rfl (by first | exact Or.inl rfl | exact Or.inr rfl) (lp_lstM (lpa_cons (lp_make T.M_Link G_Link_init rfl (hr.mono (by omega)) rfl T.g_Link T.B_Link_init (lpa_cons lp_str (lpa_cons lp_str lpa_nil))) (lpa_cons (lp_make T.M_Link G_Link_init rfl (hr.mono (by omega)) rfl T.g_Link T.B_Link_init (lpa_cons lp_str (lpa_cons lp_str lpa_nil))) lpa_nil))))
    (lpss_cons (lps_set (i := 3) nd rfl (by first | exact Or.inl rfl | exact Or.inr rfl) (lp_lstM (lpa_cons (lp_lstM lpa_nil) (lpa_cons (lp_lstM lpa_nil) lpa_nil))))
    (lpss_cons (lps_set (i := 4) nd rfl (by first | exact Or.inl rfl | exact Or.inr rfl) (lp_lstM (lpa_cons (lp_lstM lpa_nil) (lpa_cons (lp_lstM lpa_nil) lpa_nil))))
    (lpss_cons (lps_set (i := 5) nd rfl (by first | exact Or.inl rfl | exact Or.inr rfl) (lp_lstM (lpa_cons (lp_lstM lpa_nil) (lpa_cons (lp_lstM lpa_nil) lpa_nil))))
    (lpss_cons (lps_for PassesOwn.never rfl (lpi_range1 (lpa_cons (lp_call G_x_next rfl (hr.mono (by omega)) rfl T.g_x_next T.F_x_next.kp T.B_x_next (lpa_cons (lp_var 1) (lpa_cons (lp_var 0) (lpa_cons lp_int lpa_nil)))) lpa_nil) rfl T.m_range) (lpg_name (i := 6) nd rfl (by first | exact Or.inl rfl | exact Or.inr rfl))
    (lpss_cons (lps_set (i := 7) nd rfl (by first | exact Or.inl rfl | exact Or.inr rfl) (lp_call G_x_next rfl (hr.mono (by omega)) rfl T.g_x_next T.F_x_next.kp T.B_x_next (lpa_cons (lp_var 1) (lpa_cons (lp_var 0) (lpa_cons lp_int lpa_nil)))))
    (lpss_cons (lps_set (i := 8) nd rfl (by first | exact Or.inl rfl | exact Or.inr rfl) (lp_call G_x_next rfl (hr.mono (by omega)) rfl T.g_x_next T.F_x_next.kp T.B_x_next (lpa_cons (lp_var 1) (lpa_cons (lp_var 0) (lpa_cons lp_int lpa_nil)))))
    (lpss_cons (lps_if (LPW.lpt (lpw_or (lpt_cmpK rEqA rfl (op_eqA hr.units) l2_eq (lp_var 8) lp_int (nomark _)) (lpw_or1 (lpt_cmpK rEqA rfl (op_eqA hr.units) l2_eq (lp_var 8) lp_int (nomark _)))))
    (lpss_cons (lps_set (i := 9) nd rfl (by first | exact Or.inl rfl | exact Or.inr rfl) (lp_call G_x_words rfl (hr.mono (by omega)) rfl T.g_x_words T.F_x_words.kp T.B_x_words (lpa_cons (lp_var 1) (lpa_cons (lp_var 0) lpa_nil))))
    (lpss_cons (lps_asg (lp_call G_x_send rfl (hr.mono (by omega)) rfl T.g_x_send T.F_x_send.kp T.B_x_send (lpa_cons (lp_ixA (hu_of hr) rfl (lp_var 2) (lp_var 7)) (lpa_cons (lp_var 9) lpa_nil))) (lpg_tupL rfl rfl (lpgs_cons (lpg_name (i := 10) nd rfl (by first | exact Or.inl rfl | exact Or.inr rfl)) (lpgs_cons (lpg_name (i := 11) nd rfl (by first | exact Or.inl rfl | exact Or.inr rfl)) lpgs_nil))))
    (lpss_cons (lps_if (lpt_not (lpt_tru rfl (lp_var 10)))
    (lpss_one (lps_ret lp_bl))
    lpss_nil)
    (lpss_one (lps_if (lpt_cmp op_notNA (l2_isN true) (lp_var 11) lp_non (nomark _))
    (lpss_cons (lps_expr (lp_bm PySem.F.plainAttrs_list PySem.F.slot_list_append PySem.F.type_list_append mt_append lm_append rfl (lp_ixA (hu_of hr) rfl (lp_var 3) (lp_var 7)) (lpa_cons (lp_var 9) lpa_nil)))
    (lpss_one (lps_expr (lp_bm PySem.F.plainAttrs_list PySem.F.slot_list_append PySem.F.type_list_append mt_append lm_append rfl (lp_ixA (hu_of hr) rfl (lp_var 5) (lp_var 7)) (lpa_cons (lp_var 11) lpa_nil)))))
    lpss_nil)))))
    (lpss_one (lps_if (lpt_cmpK rEqA rfl (op_eqA hr.units) l2_eq (lp_var 8) lp_int (nomark _))
    (lpss_one (lps_expr (lp_bm PySem.F.plainAttrs_list PySem.F.slot_list_extend PySem.F.type_list_extend mt_extend lm_extend rfl (lp_ixA (hu_of hr) rfl (lp_var 5) (lp_var 7)) (lpa_cons (lp_callTyK rLstA rfl call_list_of ll_lstMA rfl T.m_list (by decide +kernel) (lpa_cons (lp_meth0 (lp_ixA (hu_of hr) rfl (lp_var 2) (lp_var 7)) T.k_Link T.h_Link_again G_Link_again rfl (hr.mono (by omega)) T.B_Link_again) lpa_nil)) lpa_nil))))
    (lpss_one (lps_if (lpt_cmpK rEqA rfl (op_eqA hr.units) l2_eq (lp_var 8) lp_int (nomark _))
    (lpss_one (lps_expr (lp_bm PySem.F.plainAttrs_list PySem.F.slot_list_append PySem.F.type_list_append mt_append lm_append rfl (lp_ixA (hu_of hr) rfl (lp_var 5) (lp_var 7)) (lpa_cons (lp_meth0 (lp_ixA (hu_of hr) rfl (lp_var 2) (lp_var 7)) T.k_Link T.h_Link_word G_Link_word rfl (hr.mono (by omega)) T.B_Link_word) lpa_nil))))
    (lpss_one (lps_if (lpt_cmp op_gtA l2_ord (lp_callBK rLenA rfl call_lenAny ll_lenA rfl T.m_len (by decide +kernel) (lpa_cons (lp_ixA (hu_of hr) rfl (lp_var 5) (lp_var 7)) lpa_nil)) lp_int (nomark _))
    (lpss_cons (lps_set (i := 11) nd rfl (by first | exact Or.inl rfl | exact Or.inr rfl) (lp_ixA (hu_of hr) rfl (lp_ixA (hu_of hr) rfl (lp_var 5) (lp_var 7)) (lp_call G_x_next rfl (hr.mono (by omega)) rfl T.g_x_next T.F_x_next.kp T.B_x_next (lpa_cons (lp_var 1) (lpa_cons (lp_var 0) (lpa_cons (lp_callBK rLenA rfl call_lenAny ll_lenA rfl T.m_len (by decide +kernel) (lpa_cons (lp_ixA (hu_of hr) rfl (lp_var 5) (lp_var 7)) lpa_nil)) lpa_nil))))))
    (lpss_one (lps_if (LPW.lpt (lpw_or (lpt_not (lpt_tru rfl (lp_call G_x_give rfl (hr.mono (by omega)) rfl T.g_x_give T.F_x_give.kp T.B_x_give (lpa_cons (lp_ixA (hu_of hr) rfl (lp_var 2) (lp_op op_sub l2_sub lp_int (lp_var 7))) (lpa_cons (lp_var 11) (lpa_cons (lp_ixA (hu_of hr) rfl (lp_var 4) (lp_op op_sub l2_sub lp_int (lp_var 7))) lpa_nil)))))) (lpw_or1 (lpt_not (lpt_tru rfl (lp_call G_x_odd rfl (hr.mono (by omega)) rfl T.g_x_odd T.F_x_odd.kp T.B_x_odd (lpa_cons (lp_ixA (hu_of hr) rfl (lp_var 2) (lp_op op_sub l2_sub lp_int (lp_var 7))) (lpa_cons (lp_var 11) lpa_nil))))))))
    (lpss_one (lps_ret lp_bl))
    lpss_nil)))
    lpss_nil)))))))
    (lpss_one (lps_for PassesOwn.never rfl (lpi_range1 (lpa_cons lp_int lpa_nil) rfl T.m_range) (lpg_name (i := 12) nd rfl (by first | exact Or.inl rfl | exact Or.inr rfl))
    (lpss_one (lps_if (lpt_not (lpt_tru rfl (lp_call G_x_same rfl (hr.mono (by omega)) rfl T.g_x_same T.F_x_same.kp T.B_x_same (lpa_cons (lp_callTyK rTupA rfl (call_tupA rfl) ll_tupA rfl T.m_tuple (by decide +kernel) (lpa_cons (lp_ixA (hu_of hr) rfl (lp_var 4) (lp_op op_sub l2_sub lp_int (lp_var 12))) lpa_nil)) (lpa_cons (lp_callTyK rTupA rfl (call_tupA rfl) ll_tupA rfl T.m_tuple (by decide +kernel) (lpa_cons (lp_sl rfl (lp_ixA (hu_of hr) rfl (lp_var 3) (lp_var 12)) lpo_none (lpo_some (lp_callBK rLenA rfl call_lenAny ll_lenA rfl T.m_len (by decide +kernel) (lpa_cons (lp_ixA (hu_of hr) rfl (lp_var 4) (lp_op op_sub l2_sub lp_int (lp_var 12))) lpa_nil)))) lpa_nil)) lpa_nil)))))
    (lpss_one (lps_ret lp_bl))
    lpss_nil))))))))
    (lpss_cons (lps_if (LPW.lpt (lpw_and (lpt_cmpK rEqA rfl (op_eqA hr.units) l2_eq (lp_call G_x_next rfl (hr.mono (by omega)) rfl T.g_x_next T.F_x_next.kp T.B_x_next (lpa_cons (lp_var 1) (lpa_cons (lp_var 0) (lpa_cons lp_int lpa_nil)))) lp_int (nomark _)) (lpw_and1 (lpt_not (lpt_tru rfl (lp_call G_x_passed rfl (hr.mono (by omega)) rfl T.g_x_passed T.F_x_passed.kp T.B_x_passed (lpa_cons (lp_var 2) (lpa_cons (lp_var 3) (lpa_cons (lp_var 4) (lpa_cons lp_int lpa_nil))))))))))
    (lpss_one (lps_ret lp_bl))
    lpss_nil)
    (lpss_cons (lps_for PassesOwn.never rfl (lpi_range1 (lpa_cons lp_int lpa_nil) rfl T.m_range) (lpg_name (i := 6) nd rfl (by first | exact Or.inl rfl | exact Or.inr rfl))
    (lpss_one (lps_for PassesOwn.never rfl (lpi_range1 (lpa_cons lp_int lpa_nil) rfl T.m_range) (lpg_name (i := 7) nd rfl (by first | exact Or.inl rfl | exact Or.inr rfl))
    (lpss_one (lps_for PassesOwn.never rfl (lpi_any (lp_opK rAddA rfl op_addA l2_addA (lp_callTyK rLstA rfl call_list_of ll_lstMA rfl T.m_list (by decide +kernel) (lpa_cons (lp_meth0 (lp_ixA (hu_of hr) rfl (lp_var 2) (lp_var 7)) T.k_Link T.h_Link_again G_Link_again rfl (hr.mono (by omega)) T.B_Link_again) lpa_nil)) (lp_lst (lpa_cons (lp_meth0 (lp_ixA (hu_of hr) rfl (lp_var 2) (lp_var 7)) T.k_Link T.h_Link_word G_Link_word rfl (hr.mono (by omega)) T.B_Link_word) lpa_nil))) rfl) (lpg_name (i := 11) nd rfl (by first | exact Or.inl rfl | exact Or.inr rfl))
    (lpss_one (lps_if (lpt_not (lpt_tru rfl (lp_call G_x_give rfl (hr.mono (by omega)) rfl T.g_x_give T.F_x_give.kp T.B_x_give (lpa_cons (lp_ixA (hu_of hr) rfl (lp_var 2) (lp_op op_sub l2_sub lp_int (lp_var 7))) (lpa_cons (lp_var 11) (lpa_cons (lp_ixA (hu_of hr) rfl (lp_var 4) (lp_op op_sub l2_sub lp_int (lp_var 7))) lpa_nil))))))
    (lpss_one (lps_ret lp_bl))
    lpss_nil)))))))
    (lpss_cons (lps_for PassesOwn.never rfl (lpi_range1 (lpa_cons lp_int lpa_nil) rfl T.m_range) (lpg_name (i := 7) nd rfl (by first | exact Or.inl rfl | exact Or.inr rfl))
    (lpss_cons (lps_if (lpt_not (lpt_tru rfl (lp_call G_x_same rfl (hr.mono (by omega)) rfl T.g_x_same T.F_x_same.kp T.B_x_same (lpa_cons (lp_callTyK rTupA rfl (call_tupA rfl) ll_tupA rfl T.m_tuple (by decide +kernel) (lpa_cons (lp_ixA (hu_of hr) rfl (lp_var 4) (lp_op op_sub l2_sub lp_int (lp_var 7))) lpa_nil)) (lpa_cons (lp_callTyK rTupA rfl (call_tupA rfl) ll_tupA rfl T.m_tuple (by decide +kernel) (lpa_cons (lp_ixA (hu_of hr) rfl (lp_var 3) (lp_var 7)) lpa_nil)) lpa_nil)))))
    (lpss_one (lps_ret lp_bl))
    lpss_nil)
    (lpss_one (lps_if (lpt_not (lpt_tru rfl (lp_call G_x_same rfl (hr.mono (by omega)) rfl T.g_x_same T.F_x_same.kp T.B_x_same (lpa_cons (lp_meth0 (lp_ixA (hu_of hr) rfl (lp_var 2) (lp_var 7)) T.k_Link T.h_Link_state G_Link_state rfl (hr.mono (by omega)) T.B_Link_state) (lpa_cons (lp_tup (lpa_cons (lp_callBK rLenA rfl call_lenAny ll_lenA rfl T.m_len (by decide +kernel) (lpa_cons (lp_ixA (hu_of hr) rfl (lp_var 3) (lp_var 7)) lpa_nil)) (lpa_cons (lp_callBK rLenA rfl call_lenAny ll_lenA rfl T.m_len (by decide +kernel) (lpa_cons (lp_ixA (hu_of hr) rfl (lp_var 3) (lp_var 7)) lpa_nil)) (lpa_cons (lp_callBK rLenA rfl call_lenAny ll_lenA rfl T.m_len (by decide +kernel) (lpa_cons (lp_ixA (hu_of hr) rfl (lp_var 3) (lp_op op_sub l2_sub lp_int (lp_var 7))) lpa_nil)) lpa_nil)))) lpa_nil)))))
    (lpss_one (lps_ret lp_bl))
    lpss_nil))))
    (lpss_one (lps_ret lp_bl)))))))))))
  exact ⟨_, _, hD, fun ds M Pd PX h => b_law h⟩
end
open PySem PySem.W PyProof.Rows in
theorem all_mk {l : PySem.W.OpenLaw} {w : World} {K : PySem.W.Frag} {h : Heap} {mg : Str → Option Value} {fa : Addr} {C_Link f0 f1 f2 f3 f4 f5 f6 f7 f8 f9 f10 f11 f12 f13 f14 f15 f16 f17 f18 : Addr} {cc0 tt0 : Addr} (X : K.In h) (G : h.Ns mainGlobals mg) (hfa : mg "law" = some (.ref fa))
    {od0 an0 od1 an1 od2 an2 od3 an3 od4 an4 od5 an5 od6 an6 od7 an7 od8 an8 od9 an9 od10 an10 od11 an11 od12 an12 od13 an13 od14 an14 od15 an15 od16 an16 od17 an17 od18 an18 : Option Addr} {sl0 sl1 sl2 sl3 sl4 sl5 sl6 sl7 sl8 sl9 sl10 sl11 sl12 sl13 sl14 sl15 sl16 sl17 sl18 : Array (Option Value)} {oc0 kV0 dc0 pm0 ct0 oc1 kV1 dc1 pm1 ct1 cd1 oc2 kV2 dc2 pm2 ct2 cd2 oc3 kV3 dc3 pm3 ct3 cd3 oc4 kV4 dc4 pm4 ct4 cd4 oc5 kV5 dc5 pm5 ct5 cd5 oc6 kV6 dc6 pm6 ct6 cd6 oc7 kV7 dc7 pm7 ct7 cd7 oc8 kV8 dc8 pm8 ct8 cd8 oc9 kV9 dc9 pm9 ct9 cd9 oc10 kV10 dc10 pm10 ct10 cd10 oc11 kV11 dc11 pm11 ct11 cd11 oc12 kV12 dc12 pm12 ct12 cd12 oc13 kV13 dc13 pm13 ct13 cd13 oc14 kV14 dc14 pm14 ct14 cd14 oc15 kV15 dc15 pm15 ct15 cd15 oc16 kV16 dc16 pm16 ct16 cd16 oc17 kV17 dc17 pm17 ct17 cd17 oc18 kV18 dc18 pm18 ct18 cd18 : Value}
    {u0_0 u0_1 u0_2 u0_3 u0_4 u0_5 u0_6 u0_7 u0_8 u0_9 u0_10 oq0 : Value} {dq0 : Option Addr} {vq0 : Array Value} {sq0 : Array (Option Value)} {us0 : List Value}
    (aLink : PySem.W.nsIn K mainGlobals "Link" = some (some (.ref C_Link)))
    (a0 : PySem.W.nsIn K mainGlobals "is_number" = some (some (.ref f0)))
    (l0 : K.lookup f0 = some ⟨oc0, od0, .func (PySem.W.fnOf "is_number" "is_number" (defArgs s_is_number) (defBody s_is_number) (defScope s_is_number) .none kV0 dc0 pm0 an0 (.ref cc0) ct0), sl0⟩) (c0 : PySem.W.codeIn K (.ref cc0) "is_number" = true)
    (q0 : K.lookup cc0 = some ⟨oq0, dq0, .fields vq0, sq0⟩) (v0 : vq0.toList = u0_0 :: u0_1 :: u0_2 :: u0_3 :: u0_4 :: u0_5 :: u0_6 :: u0_7 :: u0_8 :: u0_9 :: u0_10 :: .ref tt0 :: us0) (e0 : K.lookup tt0 = some ⟨.none, none, .fields #[], #[]⟩) (y0 : PySem.W.codeHdIn K cc0 tt0 = true)
    (a1 : PySem.W.findIn K (.ref C_Link) "__init__" = some (some (.ref f1))) (j1 : PySem.W.findIn (dropA [tt0] K) (.ref C_Link) "__init__" = some (some (.ref f1))) (i1 : PySem.W.isFn (dropA [tt0] K) (.ref f1) = true)
    (l1 : K.lookup f1 = some ⟨oc1, od1, .func (PySem.W.fnOf "__init__" "Link.__init__" (defArgs s_Link_init) (defBody s_Link_init) (defScope s_Link_init) .none kV1 dc1 pm1 an1 cd1 ct1), sl1⟩) (c1 : PySem.W.codeIn K cd1 "Link.__init__" = true)
    (a2 : PySem.W.findIn K (.ref C_Link) "packet" = some (some (.ref f2))) (j2 : PySem.W.findIn (dropA [tt0] K) (.ref C_Link) "packet" = some (some (.ref f2))) (i2 : PySem.W.isFn (dropA [tt0] K) (.ref f2) = true)
    (l2 : K.lookup f2 = some ⟨oc2, od2, .func (PySem.W.fnOf "packet" "Link.packet" (defArgs s_Link_packet) (defBody s_Link_packet) (defScope s_Link_packet) .none kV2 dc2 pm2 an2 cd2 ct2), sl2⟩) (c2 : PySem.W.codeIn K cd2 "Link.packet" = true)
    (a3 : PySem.W.findIn K (.ref C_Link) "can_send" = some (some (.ref f3))) (j3 : PySem.W.findIn (dropA [tt0] K) (.ref C_Link) "can_send" = some (some (.ref f3))) (i3 : PySem.W.isFn (dropA [tt0] K) (.ref f3) = true)
    (l3 : K.lookup f3 = some ⟨oc3, od3, .func (PySem.W.fnOf "can_send" "Link.can_send" (defArgs s_Link_can_send) (defBody s_Link_can_send) (defScope s_Link_can_send) .none kV3 dc3 pm3 an3 cd3 ct3), sl3⟩) (c3 : PySem.W.codeIn K cd3 "Link.can_send" = true)
    (a4 : PySem.W.findIn K (.ref C_Link) "send" = some (some (.ref f4))) (j4 : PySem.W.findIn (dropA [tt0] K) (.ref C_Link) "send" = some (some (.ref f4))) (i4 : PySem.W.isFn (dropA [tt0] K) (.ref f4) = true)
    (l4 : K.lookup f4 = some ⟨oc4, od4, .func (PySem.W.fnOf "send" "Link.send" (defArgs s_Link_send) (defBody s_Link_send) (defScope s_Link_send) .none kV4 dc4 pm4 an4 cd4 ct4), sl4⟩) (c4 : PySem.W.codeIn K cd4 "Link.send" = true)
    (a5 : PySem.W.findIn K (.ref C_Link) "acknowledged" = some (some (.ref f5))) (j5 : PySem.W.findIn (dropA [tt0] K) (.ref C_Link) "acknowledged" = some (some (.ref f5))) (i5 : PySem.W.isFn (dropA [tt0] K) (.ref f5) = true)
    (l5 : K.lookup f5 = some ⟨oc5, od5, .func (PySem.W.fnOf "acknowledged" "Link.acknowledged" (defArgs s_Link_acknowledged) (defBody s_Link_acknowledged) (defScope s_Link_acknowledged) .none kV5 dc5 pm5 an5 cd5 ct5), sl5⟩) (c5 : PySem.W.codeIn K cd5 "Link.acknowledged" = true)
    (a6 : PySem.W.findIn K (.ref C_Link) "again" = some (some (.ref f6))) (j6 : PySem.W.findIn (dropA [tt0] K) (.ref C_Link) "again" = some (some (.ref f6))) (i6 : PySem.W.isFn (dropA [tt0] K) (.ref f6) = true)
    (l6 : K.lookup f6 = some ⟨oc6, od6, .func (PySem.W.fnOf "again" "Link.again" (defArgs s_Link_again) (defBody s_Link_again) (defScope s_Link_again) .none kV6 dc6 pm6 an6 cd6 ct6), sl6⟩) (c6 : PySem.W.codeIn K cd6 "Link.again" = true)
    (a7 : PySem.W.findIn K (.ref C_Link) "word" = some (some (.ref f7))) (j7 : PySem.W.findIn (dropA [tt0] K) (.ref C_Link) "word" = some (some (.ref f7))) (i7 : PySem.W.isFn (dropA [tt0] K) (.ref f7) = true)
    (l7 : K.lookup f7 = some ⟨oc7, od7, .func (PySem.W.fnOf "word" "Link.word" (defArgs s_Link_word) (defBody s_Link_word) (defScope s_Link_word) .none kV7 dc7 pm7 an7 cd7 ct7), sl7⟩) (c7 : PySem.W.codeIn K cd7 "Link.word" = true)
    (a8 : PySem.W.findIn K (.ref C_Link) "state" = some (some (.ref f8))) (j8 : PySem.W.findIn (dropA [tt0] K) (.ref C_Link) "state" = some (some (.ref f8))) (i8 : PySem.W.isFn (dropA [tt0] K) (.ref f8) = true)
    (l8 : K.lookup f8 = some ⟨oc8, od8, .func (PySem.W.fnOf "state" "Link.state" (defArgs s_Link_state) (defBody s_Link_state) (defScope s_Link_state) .none kV8 dc8 pm8 an8 cd8 ct8), sl8⟩) (c8 : PySem.W.codeIn K cd8 "Link.state" = true)
    (a9 : PySem.W.findIn K (.ref C_Link) "take" = some (some (.ref f9))) (j9 : PySem.W.findIn (dropA [tt0] K) (.ref C_Link) "take" = some (some (.ref f9))) (i9 : PySem.W.isFn (dropA [tt0] K) (.ref f9) = true)
    (l9 : K.lookup f9 = some ⟨oc9, od9, .func (PySem.W.fnOf "take" "Link.take" (defArgs s_Link_take) (defBody s_Link_take) (defScope s_Link_take) .none kV9 dc9 pm9 an9 cd9 ct9), sl9⟩) (c9 : PySem.W.codeIn K cd9 "Link.take" = true)
    (a10 : PySem.W.nsIn K mainGlobals "_law_next" = some (some (.ref f10)))
    (l10 : K.lookup f10 = some ⟨oc10, od10, .func (PySem.W.fnOf "_law_next" "_law_next" (defArgs s_x_next) (defBody s_x_next) (defScope s_x_next) .none kV10 dc10 pm10 an10 cd10 ct10), sl10⟩) (c10 : PySem.W.codeIn K cd10 "_law_next" = true)
    (a11 : PySem.W.nsIn K mainGlobals "_law_same" = some (some (.ref f11)))
    (l11 : K.lookup f11 = some ⟨oc11, od11, .func (PySem.W.fnOf "_law_same" "_law_same" (defArgs s_x_same) (defBody s_x_same) (defScope s_x_same) .none kV11 dc11 pm11 an11 cd11 ct11), sl11⟩) (c11 : PySem.W.codeIn K cd11 "_law_same" = true)
    (a12 : PySem.W.nsIn K mainGlobals "_law_char" = some (some (.ref f12)))
    (l12 : K.lookup f12 = some ⟨oc12, od12, .func (PySem.W.fnOf "_law_char" "_law_char" (defArgs s_x_char) (defBody s_x_char) (defScope s_x_char) .none kV12 dc12 pm12 an12 cd12 ct12), sl12⟩) (c12 : PySem.W.codeIn K cd12 "_law_char" = true)
    (a13 : PySem.W.nsIn K mainGlobals "_law_words" = some (some (.ref f13)))
    (l13 : K.lookup f13 = some ⟨oc13, od13, .func (PySem.W.fnOf "_law_words" "_law_words" (defArgs s_x_words) (defBody s_x_words) (defScope s_x_words) .none kV13 dc13 pm13 an13 cd13 ct13), sl13⟩) (c13 : PySem.W.codeIn K cd13 "_law_words" = true)
    (a14 : PySem.W.nsIn K mainGlobals "_law_give" = some (some (.ref f14)))
    (l14 : K.lookup f14 = some ⟨oc14, od14, .func (PySem.W.fnOf "_law_give" "_law_give" (defArgs s_x_give) (defBody s_x_give) (defScope s_x_give) .none kV14 dc14 pm14 an14 cd14 ct14), sl14⟩) (c14 : PySem.W.codeIn K cd14 "_law_give" = true)
    (a15 : PySem.W.nsIn K mainGlobals "_law_odd" = some (some (.ref f15)))
    (l15 : K.lookup f15 = some ⟨oc15, od15, .func (PySem.W.fnOf "_law_odd" "_law_odd" (defArgs s_x_odd) (defBody s_x_odd) (defScope s_x_odd) .none kV15 dc15 pm15 an15 cd15 ct15), sl15⟩) (c15 : PySem.W.codeIn K cd15 "_law_odd" = true)
    (a16 : PySem.W.nsIn K mainGlobals "_law_send" = some (some (.ref f16)))
    (l16 : K.lookup f16 = some ⟨oc16, od16, .func (PySem.W.fnOf "_law_send" "_law_send" (defArgs s_x_send) (defBody s_x_send) (defScope s_x_send) .none kV16 dc16 pm16 an16 cd16 ct16), sl16⟩) (c16 : PySem.W.codeIn K cd16 "_law_send" = true)
    (a17 : PySem.W.nsIn K mainGlobals "_law_passed" = some (some (.ref f17)))
    (l17 : K.lookup f17 = some ⟨oc17, od17, .func (PySem.W.fnOf "_law_passed" "_law_passed" (defArgs s_x_passed) (defBody s_x_passed) (defScope s_x_passed) .none kV17 dc17 pm17 an17 cd17 ct17), sl17⟩) (c17 : PySem.W.codeIn K cd17 "_law_passed" = true)
    (a18 : PySem.W.nsIn K mainGlobals "law" = some (some (.ref f18)))
    (l18 : K.lookup f18 = some ⟨oc18, od18, .func (PySem.W.fnOf "law" "law" (defArgs s_law) (defBody s_law) (defScope s_law) .none kV18 dc18 pm18 an18 cd18 ct18), sl18⟩) (c18 : PySem.W.codeIn K cd18 "law" = true)
    (pgLink : PySem.W.plainGet (dropA [tt0] K) C_Link Str.empty = true) (hdLink : PySem.W.hasDictIn (dropA [tt0] K) C_Link = true) (poLink : PySem.W.plainOver (dropA [tt0] K) C_Link = true) (saLink : PySem.W.findIn (dropA [tt0] K) (.ref C_Link) "__setattr__" = some (some (.builtin "object.__setattr__"))) (mkLink : PySem.W.makesIn (dropA [tt0] K) C_Link = true) (kcLink : PySem.W.keepIn (dropA [tt0] K) (.ref C_Link) = true)
    (n0 : PySem.W.findIn (dropA [tt0] K) (.ref C_Link) "bodies" = some none)
    (n1 : PySem.W.findIn (dropA [tt0] K) (.ref C_Link) "me" = some none)
    (n2 : PySem.W.findIn (dropA [tt0] K) (.ref C_Link) "other" = some none)
    (n3 : PySem.W.findIn (dropA [tt0] K) (.ref C_Link) "sent" = some none)
    (n4 : PySem.W.findIn (dropA [tt0] K) (.ref C_Link) "taken" = some none)
    (zabs : PySem.W.nsIn K mainGlobals "abs" = some none)
    (zall : PySem.W.nsIn K mainGlobals "all" = some none)
    (zbool : PySem.W.nsIn K mainGlobals "bool" = some none)
    (zenumerate : PySem.W.nsIn K mainGlobals "enumerate" = some none)
    (zint : PySem.W.nsIn K mainGlobals "int" = some none)
    (zisinstance : PySem.W.nsIn K mainGlobals "isinstance" = some none)
    (zlen : PySem.W.nsIn K mainGlobals "len" = some none)
    (zlist : PySem.W.nsIn K mainGlobals "list" = some none)
    (zmax : PySem.W.nsIn K mainGlobals "max" = some none)
    (zmin : PySem.W.nsIn K mainGlobals "min" = some none)
    (zrange : PySem.W.nsIn K mainGlobals "range" = some none)
    (zstr : PySem.W.nsIn K mainGlobals "str" = some none)
    (zsuper : PySem.W.nsIn K mainGlobals "super" = some none)
    (ztuple : PySem.W.nsIn K mainGlobals "tuple" = some none)
    {tDIGITS : PySem.Tok} (wDIGITS : PySem.W.nsIn K mainGlobals "DIGITS" = some (some (.str "0123456789" tDIGITS)))
    {tMOST_KEPT : PySem.Tok} (wMOST_KEPT : PySem.W.nsIn K mainGlobals "MOST_KEPT" = some (some (.int 8 tMOST_KEPT)))
    {tMOST_SENT : PySem.Tok} (wMOST_SENT : PySem.W.nsIn K mainGlobals "MOST_SENT" = some (some (.int 9999 tMOST_SENT)))
    {X_NoCredit : Addr} {nmNoCredit qNoCredit : Str} {NNoCredit : Addr} {bsNoCredit bmNoCredit : List Value} {snNoCredit : List Str} {suNoCredit : List Value} {abNoCredit : Bool} {coNoCredit : Option Bool} {ddNoCredit : Option Addr} {kaNoCredit kbNoCredit kcNoCredit kdNoCredit keNoCredit : Option Value}
    (xaNoCredit : PySem.W.nsIn K mainGlobals "NoCredit" = some (some (.ref X_NoCredit)))
    (xlNoCredit : K.lookup X_NoCredit = some (excClassObj nmNoCredit qNoCredit X_NoCredit NNoCredit bsNoCredit bmNoCredit true snNoCredit suNoCredit abNoCredit coNoCredit ddNoCredit kaNoCredit kbNoCredit kcNoCredit kdNoCredit keNoCredit "ValueError.__new__"))
    (xrNoCredit : PySem.HandSPX.refsVE bmNoCredit = true)
    (xsNoCredit : PySem.W.findIn (dropA [tt0] K) (.ref X_NoCredit) "__setattr__" = some (some (.builtin "object.__setattr__")))
    (xbNoCredit : PySem.W.subIn (dropA [tt0] K) (.ref X_NoCredit) (.type "BaseException") = some true)
    (xtNoCredit : PySem.W.typeIn (dropA [tt0] K) (.ref X_NoCredit) = some (.type "type"))
    (xkNoCredit : PySem.W.keepIn (dropA [tt0] K) (.ref X_NoCredit) = true)
    (xxNoCredit : L2.xfB (dropA [tt0] K) X_NoCredit = true)
    (xzNoCredit : PySem.W.excIn (dropA [tt0] K) X_NoCredit [.type "ValueError", .type "Exception", .type "BaseException", .type "object"] "ValueError.__new__" = true)
    (xy_NoCredit_NoCredit : PySem.W.exmOne (dropA [tt0] K) (.ref X_NoCredit) (.ref X_NoCredit) = some true)
    (hl : l.prog = l.prog) : ∃ K2 : PySem.W.Frag, K2.In h ∧ LamX.LawAtS l w K2 CX0 6 63 "_law_script" mg fa h := by
  have e := hfa.symm.trans (PySem.W.mg_of X G a18)
  cases e
  have ht : ∀ P ∈ ([tt0] : List Addr), K.lookup P = some { cls := .none, data := .fields #[] } := by
    intro P hP
    simp only [List.mem_cons, List.not_mem_nil, or_false] at hP
    rcases hP with hP
    · rw [hP]; exact e0
  have F0 := fun_mk (st := s_is_number) (drop_fn ht l0) (drop_code ht c0) (drop_keep ht l0)
  have F1 := fun_mk (st := s_Link_init) (drop_fn ht l1) (drop_code ht c1) (drop_keep ht l1)
  have F2 := fun_mk (st := s_Link_packet) (drop_fn ht l2) (drop_code ht c2) (drop_keep ht l2)
  have F3 := fun_mk (st := s_Link_can_send) (drop_fn ht l3) (drop_code ht c3) (drop_keep ht l3)
  have F4 := fun_mk (st := s_Link_send) (drop_fn ht l4) (drop_code ht c4) (drop_keep ht l4)
  have F5 := fun_mk (st := s_Link_acknowledged) (drop_fn ht l5) (drop_code ht c5) (drop_keep ht l5)
  have F6 := fun_mk (st := s_Link_again) (drop_fn ht l6) (drop_code ht c6) (drop_keep ht l6)
  have F7 := fun_mk (st := s_Link_word) (drop_fn ht l7) (drop_code ht c7) (drop_keep ht l7)
  have F8 := fun_mk (st := s_Link_state) (drop_fn ht l8) (drop_code ht c8) (drop_keep ht l8)
  have F9 := fun_mk (st := s_Link_take) (drop_fn ht l9) (drop_code ht c9) (drop_keep ht l9)
  have F10 := fun_mk (st := s_x_next) (drop_fn ht l10) (drop_code ht c10) (drop_keep ht l10)
  have F11 := fun_mk (st := s_x_same) (drop_fn ht l11) (drop_code ht c11) (drop_keep ht l11)
  have F12 := fun_mk (st := s_x_char) (drop_fn ht l12) (drop_code ht c12) (drop_keep ht l12)
  have F13 := fun_mk (st := s_x_words) (drop_fn ht l13) (drop_code ht c13) (drop_keep ht l13)
  have F14 := fun_mk (st := s_x_give) (drop_fn ht l14) (drop_code ht c14) (drop_keep ht l14)
  have F15 := fun_mk (st := s_x_odd) (drop_fn ht l15) (drop_code ht c15) (drop_keep ht l15)
  have F16 := fun_mk (st := s_x_send) (drop_fn ht l16) (drop_code ht c16) (drop_keep ht l16)
  have F17 := fun_mk (st := s_x_passed) (drop_fn ht l17) (drop_code ht c17) (drop_keep ht l17)
  have F18 := fun_mk (st := s_law) (drop_fn ht l18) (drop_code ht c18) (drop_keep ht l18)
  have b0 := F0.binds (ps := ["text"]) fun _ _ _ _ _ _ us hl => match us, hl with | [_], _ => rfl
  have b1 := F1.binds (ps := ["self", "me", "other"]) fun _ _ _ _ _ _ us hl => match us, hl with | [_, _, _], _ => rfl
  have b2 := F2.binds (ps := ["self", "number", "body"]) fun _ _ _ _ _ _ us hl => match us, hl with | [_, _, _], _ => rfl
  have b3 := F3.binds (ps := ["self"]) fun _ _ _ _ _ _ us hl => match us, hl with | [_], _ => rfl
  have b4 := F4.binds (ps := ["self", "body"]) fun _ _ _ _ _ _ us hl => match us, hl with | [_, _], _ => rfl
  have b5 := F5.binds (ps := ["self"]) fun _ _ _ _ _ _ us hl => match us, hl with | [_], _ => rfl
  have b6 := F6.binds (ps := ["self"]) fun _ _ _ _ _ _ us hl => match us, hl with | [_], _ => rfl
  have b7 := F7.binds (ps := ["self"]) fun _ _ _ _ _ _ us hl => match us, hl with | [_], _ => rfl
  have b8 := F8.binds (ps := ["self"]) fun _ _ _ _ _ _ us hl => match us, hl with | [_], _ => rfl
  have b9 := F9.binds (ps := ["self", "packet"]) fun _ _ _ _ _ _ us hl => match us, hl with | [_, _], _ => rfl
  have b10 := F10.binds (ps := ["_law_state", "_law_script", "_law_many"]) fun _ _ _ _ _ _ us hl => match us, hl with | [_, _, _], _ => rfl
  have b11 := F11.binds (ps := ["_law_actual", "_law_due"]) fun _ _ _ _ _ _ us hl => match us, hl with | [_, _], _ => rfl
  have b12 := F12.binds (ps := ["_law_number"]) fun _ _ _ _ _ _ us hl => match us, hl with | [_], _ => rfl
  have b13 := F13.binds (ps := ["_law_state", "_law_script"]) fun _ _ _ _ _ _ us hl => match us, hl with | [_, _], _ => rfl
  have b14 := F14.binds (ps := ["_law_link", "_law_packet", "_law_took"]) fun _ _ _ _ _ _ us hl => match us, hl with | [_, _, _], _ => rfl
  have b15 := F15.binds (ps := ["_law_link", "_law_packet"]) fun _ _ _ _ _ _ us hl => match us, hl with | [_, _], _ => rfl
  have b16 := F16.binds (ps := ["_law_link", "_law_body"]) fun _ _ _ _ _ _ us hl => match us, hl with | [_, _], _ => rfl
  have b17 := F17.binds (ps := ["_law_ends", "_law_sent", "_law_took", "_law_rounds"]) fun _ _ _ _ _ _ us hl => match us, hl with | [_, _, _, _], _ => rfl
  have b18 := F18.binds (ps := ["_law_script"]) fun _ _ _ _ _ _ us hl => match us, hl with | [_], _ => rfl
  have T : Txt l.prog (dropA [tt0] K) mg { Link := C_Link, NoCredit := X_NoCredit } ({ f_is_number := f0, d_is_number := _, f_Link_init := f1, d_Link_init := _, f_Link_packet := f2, d_Link_packet := _, f_Link_can_send := f3, d_Link_can_send := _, f_Link_send := f4, d_Link_send := _, f_Link_acknowledged := f5, d_Link_acknowledged := _, f_Link_again := f6, d_Link_again := _, f_Link_word := f7, d_Link_word := _, f_Link_state := f8, d_Link_state := _, f_Link_take := f9, d_Link_take := _, f_x_next := f10, d_x_next := _, f_x_same := f11, d_x_same := _, f_x_char := f12, d_x_char := _, f_x_words := f13, d_x_words := _, f_x_give := f14, d_x_give := _, f_x_odd := f15, d_x_odd := _, f_x_send := f16, d_x_send := _, f_x_passed := f17, d_x_passed := _, f_law := fa, d_law := _, c_is_number := cc0, t_is_number := tt0 } : Ad) := { m_abs := PySem.W.mg_none_of X G zabs, m_all := PySem.W.mg_none_of X G zall, m_bool := PySem.W.mg_none_of X G zbool, m_enumerate := PySem.W.mg_none_of X G zenumerate, m_int := PySem.W.mg_none_of X G zint, m_isinstance := PySem.W.mg_none_of X G zisinstance, m_len := PySem.W.mg_none_of X G zlen, m_list := PySem.W.mg_none_of X G zlist, m_max := PySem.W.mg_none_of X G zmax, m_min := PySem.W.mg_none_of X G zmin, m_range := PySem.W.mg_none_of X G zrange, m_str := PySem.W.mg_none_of X G zstr, m_super := PySem.W.mg_none_of X G zsuper, m_tuple := PySem.W.mg_none_of X G ztuple, c_DIGITS := ⟨_, PySem.W.mg_of X G wDIGITS⟩, c_MOST_KEPT := ⟨_, PySem.W.mg_of X G wMOST_KEPT⟩, c_MOST_SENT := ⟨_, PySem.W.mg_of X G wMOST_SENT⟩, F_is_number := F0, B_is_number := b0, g_is_number := PySem.W.mg_of X G a0, e_is_number := rfl, F_Link_init := F1, B_Link_init := b1, F_Link_packet := F2, B_Link_packet := b2, h_Link_packet := ⟨j2, i2, F2.kp⟩, F_Link_can_send := F3, B_Link_can_send := b3, h_Link_can_send := ⟨j3, i3, F3.kp⟩, F_Link_send := F4, B_Link_send := b4, h_Link_send := ⟨j4, i4, F4.kp⟩, F_Link_acknowledged := F5, B_Link_acknowledged := b5, h_Link_acknowledged := ⟨j5, i5, F5.kp⟩, F_Link_again := F6, B_Link_again := b6, h_Link_again := ⟨j6, i6, F6.kp⟩, F_Link_word := F7, B_Link_word := b7, h_Link_word := ⟨j7, i7, F7.kp⟩, F_Link_state := F8, B_Link_state := b8, h_Link_state := ⟨j8, i8, F8.kp⟩, F_Link_take := F9, B_Link_take := b9, h_Link_take := ⟨j9, i9, F9.kp⟩, F_x_next := F10, B_x_next := b10, g_x_next := PySem.W.mg_of X G a10, F_x_same := F11, B_x_same := b11, g_x_same := PySem.W.mg_of X G a11, F_x_char := F12, B_x_char := b12, g_x_char := PySem.W.mg_of X G a12, F_x_words := F13, B_x_words := b13, g_x_words := PySem.W.mg_of X G a13, F_x_give := F14, B_x_give := b14, g_x_give := PySem.W.mg_of X G a14, F_x_odd := F15, B_x_odd := b15, g_x_odd := PySem.W.mg_of X G a15, F_x_send := F16, B_x_send := b16, g_x_send := PySem.W.mg_of X G a16, F_x_passed := F17, B_x_passed := b17, g_x_passed := PySem.W.mg_of X G a17, F_law := F18, B_law := b18, g_law := PySem.W.mg_of X G a18, k_Link := ⟨pgLink, hdLink, poLink, saLink⟩, g_Link := PySem.W.mg_of X G aLink, M_Link := ⟨mkLink, j1, i1, kcLink⟩, n_Link_bodies := n0, n_Link_me := n1, n_Link_other := n2, n_Link_sent := n3, n_Link_taken := n4, x_NoCredit := ⟨PySem.W.mg_of X G xaNoCredit, ⟨⟨_, _, _, _, _, _, _, _, _, _, _, _, _, _, _, (drop_at ht xlNoCredit fun z => by cases z), xrNoCredit⟩, xsNoCredit, xbNoCredit, xtNoCredit, xkNoCredit⟩, L2.xfB_ok xxNoCredit⟩, z_NoCredit := xzNoCredit, y_NoCredit_NoCredit := xy_NoCredit_NoCredit }
  refine ⟨dropA [tt0] K, drop_in X, PySem.W.fnOf "law" "law" (defArgs s_law) (defBody s_law) (defScope s_law) .none kV18 dc18 pm18 an18 cd18 ct18, [(cc0, tt0)], low (dropA [tt0] K) (⟨[tt0], [], by simp⟩ : Tb) sp_law, ?_, ?_, ?_, fun s v => .of_eq rfl, fun H a ns hl _ hT hS => start_lowT (T := (⟨[tt0], [], by simp⟩ : Tb)) (start_law hl) ?_ hS, fun base _ _ hB => ?_⟩
  · intro p hp
    simp only [List.mem_cons, List.not_mem_nil, or_false] at hp
    rcases hp with hp
    · rw [hp]; exact X _ _ e0
  · intro p hp
    simp only [List.mem_cons, List.not_mem_nil, or_false] at hp
    rcases hp with hp
    · rw [hp]; exact drop_none (by simp) K
  · intro p hp
    simp only [List.mem_cons, List.not_mem_nil, or_false] at hp
    rcases hp with hp
    · rw [hp]; exact PySem.W.codeHd_of_K X y0
  · intro P hP
    have hP : P ∈ ([tt0] : List Addr) := hP
    simp only [List.mem_cons, List.not_mem_nil, or_false] at hP
    rcases hP with hP
    · rw [hP]; exact hT (cc0, tt0) (by simp)
  · exact ok_law T ⟨⟨(hB (cc0, tt0) (by simp)).code, (hB (cc0, tt0) (by simp)).bm, (hB (cc0, tt0) (by simp)).gP⟩⟩
end K34
open PySem PySem.W PyProof.Rows
set_option maxHeartbeats 0 in
theorem PySem.Challenge.cw_truemill_k34_whole_links_holds : PySem.Challenge.rw_truemill_k34_whole_links.Holds := by
  w_on; o_law; x_head; (case hw => w_witness2)
  k_fill
  refine LamX.walk_ofTsE (l := PySem.Challenge.rw_truemill_k34_whole_links) (n := 63) (k := 6) (x := "_law_script") (CX := fun _ => L2.CX0) rfl (by decide) rfl ⟨rfl, by decide, by decide⟩ ?F (fun _ _ _ _ _ h => h)
  case F =>
    intro w mg fa h Y G hmg
    refine' K34.all_mk (PySem.W.kIn_of Y) G hmg ?aLink ?a0 ?l0 ?c0 ?q0 ?v0 ?e0 ?y0 ?a1 ?j1 ?i1 ?l1 ?c1 ?a2 ?j2 ?i2 ?l2 ?c2 ?a3 ?j3 ?i3 ?l3 ?c3 ?a4 ?j4 ?i4 ?l4 ?c4 ?a5 ?j5 ?i5 ?l5 ?c5 ?a6 ?j6 ?i6 ?l6 ?c6 ?a7 ?j7 ?i7 ?l7 ?c7 ?a8 ?j8 ?i8 ?l8 ?c8 ?a9 ?j9 ?i9 ?l9 ?c9 ?a10 ?l10 ?c10 ?a11 ?l11 ?c11 ?a12 ?l12 ?c12 ?a13 ?l13 ?c13 ?a14 ?l14 ?c14 ?a15 ?l15 ?c15 ?a16 ?l16 ?c16 ?a17 ?l17 ?c17 ?a18 ?l18 ?c18 ?pgLink ?hdLink ?poLink ?saLink ?mkLink ?kcLink ?n0 ?n1 ?n2 ?n3 ?n4 ?zabs ?zall ?zbool ?zenumerate ?zint ?zisinstance ?zlen ?zlist ?zmax ?zmin ?zrange ?zstr ?zsuper ?ztuple ?wDIGITS ?wMOST_KEPT ?wMOST_SENT ?xaNoCredit ?xlNoCredit ?xrNoCredit ?xsNoCredit ?xbNoCredit ?xtNoCredit ?xkNoCredit ?xxNoCredit ?xzNoCredit ?xy_NoCredit_NoCredit rfl
    (case aLink => k_is)
    (case a0 => k_is)
    (case l0 => k_is)
    (case c0 => k_is)
    (case q0 => k_is)
    (case v0 => exact rfl)
    (case e0 => k_is)
    (case y0 => first | k_is | kernel_rfl | exact rfl)
    (case a1 => k_is)
    (case j1 => first | kernel_rfl | exact rfl | decide +kernel | k_is)
    (case i1 => first | kernel_rfl | exact rfl | decide +kernel | k_is)
    (case l1 => k_is)
    (case c1 => k_is)
    (case a2 => k_is)
    (case j2 => first | kernel_rfl | exact rfl | decide +kernel | k_is)
    (case i2 => first | kernel_rfl | exact rfl | decide +kernel | k_is)
    (case l2 => k_is)
    (case c2 => k_is)
    (case a3 => k_is)
    (case j3 => first | kernel_rfl | exact rfl | decide +kernel | k_is)
    (case i3 => first | kernel_rfl | exact rfl | decide +kernel | k_is)
    (case l3 => k_is)
    (case c3 => k_is)
    (case a4 => k_is)
    (case j4 => first | kernel_rfl | exact rfl | decide +kernel | k_is)
    (case i4 => first | kernel_rfl | exact rfl | decide +kernel | k_is)
    (case l4 => k_is)
    (case c4 => k_is)
    (case a5 => k_is)
    (case j5 => first | kernel_rfl | exact rfl | decide +kernel | k_is)
    (case i5 => first | kernel_rfl | exact rfl | decide +kernel | k_is)
    (case l5 => k_is)
    (case c5 => k_is)
    (case a6 => k_is)
    (case j6 => first | kernel_rfl | exact rfl | decide +kernel | k_is)
    (case i6 => first | kernel_rfl | exact rfl | decide +kernel | k_is)
    (case l6 => k_is)
    (case c6 => k_is)
    (case a7 => k_is)
    (case j7 => first | kernel_rfl | exact rfl | decide +kernel | k_is)
    (case i7 => first | kernel_rfl | exact rfl | decide +kernel | k_is)
    (case l7 => k_is)
    (case c7 => k_is)
    (case a8 => k_is)
    (case j8 => first | kernel_rfl | exact rfl | decide +kernel | k_is)
    (case i8 => first | kernel_rfl | exact rfl | decide +kernel | k_is)
    (case l8 => k_is)
    (case c8 => k_is)
    (case a9 => k_is)
    (case j9 => first | kernel_rfl | exact rfl | decide +kernel | k_is)
    (case i9 => first | kernel_rfl | exact rfl | decide +kernel | k_is)
    (case l9 => k_is)
    (case c9 => k_is)
    (case a10 => k_is)
    (case l10 => k_is)
    (case c10 => k_is)
    (case a11 => k_is)
    (case l11 => k_is)
    (case c11 => k_is)
    (case a12 => k_is)
    (case l12 => k_is)
    (case c12 => k_is)
    (case a13 => k_is)
    (case l13 => k_is)
    (case c13 => k_is)
    (case a14 => k_is)
    (case l14 => k_is)
    (case c14 => k_is)
    (case a15 => k_is)
    (case l15 => k_is)
    (case c15 => k_is)
    (case a16 => k_is)
    (case l16 => k_is)
    (case c16 => k_is)
    (case a17 => k_is)
    (case l17 => k_is)
    (case c17 => k_is)
    (case a18 => k_is)
    (case l18 => k_is)
    (case c18 => k_is)
    (case pgLink => first | kernel_rfl | exact rfl | decide +kernel | k_is)
    (case hdLink => first | kernel_rfl | exact rfl | decide +kernel | k_is)
    (case poLink => first | kernel_rfl | exact rfl | decide +kernel | k_is)
    (case saLink => first | kernel_rfl | exact rfl | decide +kernel | k_is)
    (case mkLink => first | kernel_rfl | exact rfl | decide +kernel | k_is)
    (case kcLink => first | kernel_rfl | exact rfl | decide +kernel | k_is)
    (case n0 => first | kernel_rfl | exact rfl | decide +kernel | k_is)
    (case n1 => first | kernel_rfl | exact rfl | decide +kernel | k_is)
    (case n2 => first | kernel_rfl | exact rfl | decide +kernel | k_is)
    (case n3 => first | kernel_rfl | exact rfl | decide +kernel | k_is)
    (case n4 => first | kernel_rfl | exact rfl | decide +kernel | k_is)
    (case zabs => k_is)
    (case zall => k_is)
    (case zbool => k_is)
    (case zenumerate => k_is)
    (case zint => k_is)
    (case zisinstance => k_is)
    (case zlen => k_is)
    (case zlist => k_is)
    (case zmax => k_is)
    (case zmin => k_is)
    (case zrange => k_is)
    (case zstr => k_is)
    (case zsuper => k_is)
    (case ztuple => k_is)
    (case wDIGITS => k_is)
    (case wMOST_KEPT => k_is)
    (case wMOST_SENT => k_is)
    (case xaNoCredit => k_is)
    (case xlNoCredit => k_is)
    (case xrNoCredit => first | exact rfl | decide +kernel)
    (case xsNoCredit => first | kernel_rfl | exact rfl | decide +kernel | k_is)
    (case xbNoCredit => first | kernel_rfl | exact rfl | decide +kernel | k_is)
    (case xtNoCredit => first | kernel_rfl | exact rfl | decide +kernel | k_is)
    (case xkNoCredit => first | kernel_rfl | exact rfl | decide +kernel | k_is)
    (case xxNoCredit => first | kernel_rfl | exact rfl | decide +kernel | k_is)
    (case xzNoCredit => first | kernel_rfl | exact rfl | decide +kernel | k_is)
    (case xy_NoCredit_NoCredit => first | kernel_rfl | exact rfl | decide +kernel | k_is)


