import PyProof.Rows.All
import Wide.All
import OpenK.AllK
import Wide.FinOn
import HandS.ForMost
import HandS.Conv
import HandS.IsInst
import HandS.Flow
import HandS.CallSlots
import HandS.WordsExc
import HandS.TryOnly
import HandS.ExcOwn
import HandS.Lambda
import HandS.More
import PyProof.StrOps2
import HandS.TupAny
import HandS.StrMore
import HandS.Small
import KE.SortData
import HandS.Deep
import HandS.AnyAll
import HandS.GenList
import HandS.Comp
import HandS.HeadWalk
import HandS.NestedK
import OpenK.XHead
import HandS.ExcInit
import HandS.ExcField
import HandS.ExcIs
import HandS.TryMany
import KE.KExcSuper
import HandS.ExcSuper
import HandS.HotCalls
import KE.KExcIs
import HandS.SetTxt0
import HandS.SetBool
import PyProof.Rows.SortShellAny
import KE.SortKeyHeap
import HandS.FStr
import PySem.Challenge.RW_truemill_k73_keys_and_claims_of_all_word
set_option Elab.async false
set_option linter.all false
set_option autoImplicit false
set_option maxRecDepth 100000
set_option maxHeartbeats 4000000
/-! The lifted layer: what a piece of Python does, over data, without addresses. -/
namespace L3
open PySem L2

/-- data: immutable values -/
inductive D where
  | non | bl (b : Bool) | int (i : Int) | str (x : Str) | ty (n : String) | con (a : Addr) | tup (ds : List D) | lst (ds : List D)
  | exc (a cls : Addr) (dd : Option Addr) (ns : List Str) (ds : List D)
/-- what a slot holds: data, or one of the known mutable objects -/
inductive DV where
  | dat (d : D) | obj (n : Nat)
/-- mutable objects -/
inductive MO where
  | lst (xs : List DV) | dK (kvs : List (Key × DV)) | ins (C : Addr) (fs : List (Str × DV))
abbrev DV.int (i : Int) : DV := .dat (.int i)
abbrev DV.str (x : Str) : DV := .dat (.str x)
abbrev DV.bl (b : Bool) : DV := .dat (.bl b)
abbrev DV.non : DV := .dat .non
abbrev DV.tup (ds : List D) : DV := .dat (.tup ds)
abbrev DV.lst (ds : List D) : DV := .dat (.lst ds)
abbrev Rho := List (Option DV)
abbrev Mem := List MO

def KLst (K : PySem.W.Frag) (a : Addr) (xs : List V) : Prop := ∃ (o : Obj) (its : Array Value) (n : Nat), K.lookup a = some o ∧ o.cls = .type "list" ∧ o.dict = none ∧ o.data = .seq its n ∧ its.size ≤ sizeLine ∧ Vals xs its.toList
def KTup (K : PySem.W.Frag) (a : Addr) (xs : List V) : Prop := ∃ (o : Obj) (its : Array Value) (n : Nat), K.lookup a = some o ∧ o.cls = .type "tuple" ∧ o.data = .seq its n ∧ its.size ≤ sizeLine ∧ Vals xs its.toList
def SLi (K : PySem.W.Frag) (N : Addr → Prop) (H : Hp) (a : Addr) (xs : List V) : Prop := (Rd H a (.lst xs) ∧ ¬ N a) ∨ KLst K a xs
def STi (K : PySem.W.Frag) (N : Addr → Prop) (H : Hp) (a : Addr) (xs : List V) : Prop := (Rd H a (.tup xs) ∧ ¬ N a) ∨ KTup K a xs
theorem SLi.sq {K : PySem.W.Frag} {N : Addr → Prop} {H : Hp} {a : Addr} {xs : List V} (h : SLi K N H a xs) : SqL K H a xs := h.imp (·.1) id
theorem STi.sq {K : PySem.W.Frag} {N : Addr → Prop} {H : Hp} {a : Addr} {xs : List V} (h : STi K N H a xs) : SqT K H a xs := h.imp (·.1) id

mutual
inductive VD (K : PySem.W.Frag) (N : Addr → Prop) (H : Hp) : V → D → Prop
  | non : VD K N H .non .non
  | bl (b : Bool) : VD K N H (.bl b) (.bl b)
  | int (i : Int) : VD K N H (.int i) (.int i)
  | str (x : Str) : VD K N H (.str x) (.str x)
  | ty (n : String) : VD K N H (.ty n) (.ty n)
  | con (a : Addr) : VD K N H (.ref a) (.con a)
  | tup {a : Addr} {xs : List V} {ds : List D} : STi K N H a xs → VDs K N H xs ds → VD K N H (.ref a) (.tup ds)
  | lst {a : Addr} {xs : List V} {ds : List D} : SLi K N H a xs → VDs K N H xs ds → VD K N H (.ref a) (.lst ds)
  | exc0 (a cls : Addr) : VD K N H (.ref a) (.exc a cls none [] [])
  | excD {a cls dd : Addr} {ps : List (Str × V)} {ns : List Str} {xs : List V} {ds : List D} : H dd = some (.xd ps) → ¬ N dd → ps = ns.zip xs → ns.length = xs.length → VDs K N H xs ds → VD K N H (.ref a) (.exc a cls (some dd) ns ds)
inductive VDs (K : PySem.W.Frag) (N : Addr → Prop) (H : Hp) : List V → List D → Prop
  | nil : VDs K N H [] []
  | cons {x : V} {d : D} {xs : List V} {ds : List D} : VD K N H x d → VDs K N H xs ds → VDs K N H (x :: xs) (d :: ds)
end
/-- from (N, H) to (N', H'): what N does not name stands, and is not named -/
structure Mv (N : Addr → Prop) (H : Hp) (N' : Addr → Prop) (H' : Hp) : Prop where
  keep : ∀ b o, H b = some o → ¬ N b → H' b = some o
  out : ∀ b o, H b = some o → ¬ N b → ¬ N' b
section
variable {K : PySem.W.Frag} {N N' : Addr → Prop} {H H' : Hp}
theorem Mv.rd (m : Mv N H N' H') {a : Addr} {u : HO} (h : Rd H a u) (n : ¬ N a) : Rd H' a u ∧ ¬ N' a := by
  rcases h with h | ⟨o, h⟩
  · exact ⟨.inl (m.keep _ _ h n), m.out _ _ h n⟩
  · exact ⟨.inr ⟨o, m.keep _ _ h n⟩, m.out _ _ h n⟩
theorem Mv.sl (m : Mv N H N' H') {a : Addr} {xs : List V} (h : SLi K N H a xs) : SLi K N' H' a xs := by
  rcases h with ⟨h, n⟩ | h
  · exact .inl (m.rd h n)
  · exact .inr h
theorem Mv.st (m : Mv N H N' H') {a : Addr} {xs : List V} (h : STi K N H a xs) : STi K N' H' a xs := by
  rcases h with ⟨h, n⟩ | h
  · exact .inl (m.rd h n)
  · exact .inr h
mutual
theorem VD.mv (m : Mv N H N' H') : ∀ {v : V} {d : D}, VD K N H v d → VD K N' H' v d
  | _, _, .non => .non
  | _, _, .bl b => .bl b
  | _, _, .int i => .int i
  | _, _, .str x => .str x
  | _, _, .ty n => .ty n
  | _, _, .con a => .con a
  | _, _, .tup h hs => .tup (m.st h) (VDs.mv m hs)
  | _, _, .lst h hs => .lst (m.sl h) (VDs.mv m hs)
  | _, _, .exc0 a c => .exc0 a c
  | _, _, .excD h n e l hs => .excD (m.keep _ _ h n) (m.out _ _ h n) e l (VDs.mv m hs)
theorem VDs.mv (m : Mv N H N' H') : ∀ {v : List V} {d : List D}, VDs K N H v d → VDs K N' H' v d
  | _, _, .nil => .nil
  | _, _, .cons h hs => .cons (VD.mv m h) (VDs.mv m hs)
end
theorem VDs.length : ∀ {xs : List V} {ds : List D}, VDs K N H xs ds → xs.length = ds.length
  | _, _, .nil => rfl
  | _, _, .cons _ h => by rw [List.length_cons, List.length_cons, VDs.length h]
theorem VDs.get : ∀ {xs : List V} {ds : List D} {i : Nat} {d : D}, VDs K N H xs ds → ds[i]? = some d → ∃ x, xs[i]? = some x ∧ VD K N H x d
  | _, _, _, _, .nil, e => by simp at e
  | _, _, 0, _, .cons r _, e => by simp at e; subst e; exact ⟨_, rfl, r⟩
  | _, _, i + 1, d, .cons _ t, e => by
    obtain ⟨u, h1, h2⟩ := VDs.get (i := i) (d := d) t (by simpa using e)
    exact ⟨u, by simpa using h1, h2⟩
theorem VDs.get' : ∀ {xs : List V} {ds : List D} {i : Nat} {x : V}, VDs K N H xs ds → xs[i]? = some x → ∃ d, ds[i]? = some d ∧ VD K N H x d
  | _, _, _, _, .nil, e => by simp at e
  | _, _, 0, _, .cons r _, e => by simp at e; subst e; exact ⟨_, rfl, r⟩
  | _, _, i + 1, d, .cons _ t, e => by
    obtain ⟨u, h1, h2⟩ := VDs.get' (i := i) (x := d) t (by simpa using e)
    exact ⟨u, by simpa using h1, h2⟩
theorem VDs.append : ∀ {xs ys : List V} {ds es : List D}, VDs K N H xs ds → VDs K N H ys es → VDs K N H (xs ++ ys) (ds ++ es)
  | _, _, _, _, .nil, h => h
  | _, _, _, _, .cons a b, h => .cons a (VDs.append b h)
theorem VDs.drop : ∀ {xs : List V} {ds : List D} (n : Nat), VDs K N H xs ds → VDs K N H (xs.drop n) (ds.drop n)
  | _, _, 0, h => h
  | _, _, _ + 1, .nil => .nil
  | _, _, n + 1, .cons _ b => VDs.drop n b
theorem VDs.take : ∀ {xs : List V} {ds : List D} (n : Nat), VDs K N H xs ds → VDs K N H (xs.take n) (ds.take n)
  | _, _, 0, _ => .nil
  | _, _, _ + 1, .nil => .nil
  | _, _, n + 1, .cons a b => .cons a (VDs.take n b)
/-- flat lists -/
theorem VDs.map_int : ∀ (ns : List Int), VDs K N H (ns.map V.int) (ns.map D.int)
  | [] => .nil
  | n :: r => .cons (.int n) (VDs.map_int r)
theorem VDs.map_str : ∀ (ns : List Str), VDs K N H (ns.map V.str) (ns.map D.str)
  | [] => .nil
  | n :: r => .cons (.str n) (VDs.map_str r)
theorem VDs.of_int : ∀ {ns : List Int} {xs : List V}, VDs K N H xs (ns.map D.int) → xs = ns.map V.int
  | [], _, .nil => rfl
  | n :: r, _, .cons (.int _) h => by rw [List.map_cons, VDs.of_int h]
theorem VDs.of_str : ∀ {ns : List Str} {xs : List V}, VDs K N H xs (ns.map D.str) → xs = ns.map V.str
  | [], _, .nil => rfl
  | n :: r, _, .cons (.str _) h => by rw [List.map_cons, VDs.of_str h]
end

/-- tables of code objects: where; and of some, the name that all their code objects bear -/
structure Tb where
  ps : List Addr
  qs : List (Addr × Str)
  sub : ∀ p ∈ qs, p.1 ∈ ps
instance : Membership Addr Tb := ⟨fun T a => a ∈ T.ps⟩
abbrev noT : Tb := ⟨[], [], fun p h => by cases h⟩
instance : Coe (List Addr) Tb := ⟨fun l => ⟨l, [], fun p h => by cases h⟩⟩
theorem not_noT {a : Addr} : a ∉ noT := fun z => by
  have z : a ∈ ([] : List Addr) := z
  cases z
/-- the fixed part: what is written, tables, what others own -/
structure Cn where
  K : PySem.W.Frag
  T : Tb
  Z : List Addr
/-- .. with others' objects Z -/
abbrev Cn.wz (C : Cn) (Z : List Addr) : Cn := ⟨C.K, C.T, Z⟩
def Cn.N (C : Cn) (α : List Addr) : Addr → Prop := fun b => b ∈ α ∨ b ∈ C.T ∨ b ∈ C.Z
def VR (C : Cn) (α : List Addr) (H : Hp) (v : V) : DV → Prop
  | .dat d => VD C.K (C.N α) H v d
  | .obj n => ∃ a, α[n]? = some a ∧ v = .ref a
abbrev VRs (C : Cn) (α : List Addr) (H : Hp) : List V → List DV → Prop := Paired (VR C α H)
def KVR {κ : Type} (C : Cn) (α : List Addr) (H : Hp) : List (κ × V) → List (κ × DV) → Prop := Paired fun p q => p.1 = q.1 ∧ VR C α H p.2 q.2
def MR (C : Cn) (α : List Addr) (H : Hp) (a : Addr) : MO → Prop
  | .lst ds => ∃ xs, H a = some (.lst xs) ∧ VRs C α H xs ds
  | .dK kvs => ∃ ps, H a = some (.dK ps) ∧ KVR C α H ps kvs
  | .ins D fs => ∃ dx ps, H a = some (.ins D dx ps) ∧ KVR C α H ps fs
structure HR (C : Cn) (α : List Addr) (M : Mem) (H : Hp) : Prop where
  len : α.length = M.length
  get : ∀ (n : Nat) (a : Addr) (o : MO), α[n]? = some a → M[n]? = some o → MR C α H a o
/-- time goes on -/
structure Step (C : Cn) (α : List Addr) (H : Hp) (α' : List Addr) (H' : Hp) : Prop where
  ext : ∃ β, α' = α ++ β ∧ ∀ b ∈ β, H b = none
  keep : ∀ b o, H b = some o → b ∉ α → b ∉ C.T → H' b = some o
  dom : ∀ b o, H b = some o → ∃ o', H' b = some o'
def TabOk (H : Hp) (P : Addr) : Prop := ∃ ps : Array Value, H P = some (.tbl ps) ∧ TriplesOk ps.toList
/-- each code object found in the table at p.1 bears the name p.2, and is no other's -/
def TabQ (Z : List Addr) (H : Hp) (p : Addr × Str) : Prop := ∀ ps : Array Value, H p.1 = some (.tbl ps) → ∀ (pos : Pos) (cv : Value), codeAmong pos ps.toList = some cv → ∃ c, cv = .ref c ∧ c ∉ Z ∧ H c = some (LamX.CodeO c p.2)
structure RS (C : Cn) (α : List Addr) (M : Mem) (H : Hp) : Prop where
  hr : HR C α M H
  nd : α.Nodup
  tb : ∀ P ∈ C.T, TabOk H P
  zd : ∀ z ∈ C.Z, ∃ o, H z = some o
  tq : ∀ p ∈ C.T.qs, TabQ C.Z H p
structure VS (C : Cn) (α : List Addr) (H : Hp) (σ : L2.St) (ρ : Rho) : Prop where
  len : σ.length = ρ.length
  get : ∀ (i : Nat) (d : DV), ρ[i]? = some (some d) → ∃ v, σ[i]? = some (some v) ∧ VR C α H v d

section
variable {C : Cn} {α α' α'' : List Addr} {H H' H'' : Hp} {M : Mem}
theorem Step.refl : Step C α H α H := ⟨⟨[], by simp, by simp⟩, fun _ _ h _ _ => h, fun _ o h => ⟨o, h⟩⟩
theorem Step.trans (a : Step C α H α' H') (b : Step C α' H' α'' H'') : Step C α H α'' H'' := by
  obtain ⟨β, e1, f1⟩ := a.ext
  obtain ⟨γ, e2, f2⟩ := b.ext
  have dn : ∀ b, H' b = none → H b = none := fun c hc => by
    cases q : H c with
    | none => rfl
    | some o => obtain ⟨o', h'⟩ := a.dom c o q; rw [hc] at h'; cases h'
  refine ⟨⟨β ++ γ, by rw [e2, e1, List.append_assoc], fun c hc => ?_⟩, fun c o h n t => ?_, fun c o h => ?_⟩
  · rcases List.mem_append.mp hc with hc | hc
    · exact f1 c hc
    · exact dn c (f2 c hc)
  · refine b.keep c o (a.keep c o h n t) (fun z => ?_) t
    rw [e1] at z
    rcases List.mem_append.mp z with z | z
    · exact n z
    · have := f1 c z; rw [h] at this; cases this
  · obtain ⟨o', h'⟩ := a.dom c o h
    exact b.dom c o' h'
theorem Step.mv (a : Step C α H α' H') : Mv (C.N α) H (C.N α') H' := by
  obtain ⟨β, e1, f1⟩ := a.ext
  refine ⟨fun b o h n => a.keep b o h (fun z => n (.inl z)) fun z => n (.inr (.inl z)), fun b o h n => ?_⟩
  rintro (z | z)
  · rw [e1] at z
    rcases List.mem_append.mp z with z | z
    · exact n (.inl z)
    · have := f1 b z; rw [h] at this; cases this
  · exact n (.inr z)
theorem VR.step {v : V} {d : DV} (r : VR C α H v d) (a : Step C α H α' H') : VR C α' H' v d := by
  cases d with
  | dat d => exact VD.mv a.mv r
  | obj n =>
    obtain ⟨b, h, e⟩ := r
    obtain ⟨β, e1, f1⟩ := a.ext
    refine ⟨b, ?_, e⟩
    rw [e1, List.getElem?_append_left (List.getElem?_eq_some_iff.mp h).1]
    exact h
theorem VRs.step : ∀ {xs : List V} {ds : List DV}, VRs C α H xs ds → Step C α H α' H' → VRs C α' H' xs ds
  | _, _, .nil, _ => .nil
  | _, _, .cons r t, a => .cons (r.step a) (VRs.step t a)
theorem KVR.step {κ : Type} : ∀ {xs : List (κ × V)} {ds : List (κ × DV)}, KVR C α H xs ds → Step C α H α' H' → KVR C α' H' xs ds
  | _, _, .nil, _ => .nil
  | _, _, .cons r t, a => .cons ⟨r.1, r.2.step a⟩ (KVR.step t a)
theorem VS.step {σ : L2.St} {ρ : Rho} (r : VS C α H σ ρ) (a : Step C α H α' H') : VS C α' H' σ ρ :=
  ⟨r.len, fun i d h => let ⟨v, e, q⟩ := r.get i d h; ⟨v, e, q.step a⟩⟩
theorem MR.some {a : Addr} {o : MO} (h : MR C α H a o) : ∃ u, H a = some u := by
  cases o with
  | lst ds => obtain ⟨xs, e, _⟩ := h; exact ⟨_, e⟩
  | dK ds => obtain ⟨xs, e, _⟩ := h; exact ⟨_, e⟩
  | ins D ds => obtain ⟨dx, xs, e, _⟩ := h; exact ⟨_, e⟩
/-- its own object stands: all else goes on -/
theorem MR.step {a : Addr} {o : MO} (h : MR C α H a o) (s : Step C α H α' H') (k : H' a = H a) : MR C α' H' a o := by
  cases o with
  | lst ds => obtain ⟨xs, e, r⟩ := h; exact ⟨xs, by rw [k]; exact e, r.step s⟩
  | dK ds => obtain ⟨xs, e, r⟩ := h; exact ⟨xs, by rw [k]; exact e, KVR.step r s⟩
  | ins D ds => obtain ⟨dx, xs, e, r⟩ := h; exact ⟨dx, xs, by rw [k]; exact e, KVR.step r s⟩
theorem HR.at (h : HR C α M H) {n : Nat} {o : MO} (e : M[n]? = some o) : ∃ a, α[n]? = some a ∧ MR C α H a o := by
  have hl := (List.getElem?_eq_some_iff.mp e).1
  have h2 : n < α.length := by rw [h.len]; exact hl
  exact ⟨α[n], by simp, h.get n _ o (by simp) e⟩
theorem HR.mem (h : HR C α M H) {a : Addr} (m : a ∈ α) : ∃ u, H a = some u := by
  obtain ⟨n, hn, e⟩ := List.getElem_of_mem m
  have h2 : n < M.length := by rw [← h.len]; exact hn
  exact (h.get n a M[n] (by rw [← e]; simp) (by simp)).some
theorem TabQ.keep {Z Z' : List Addr} {p : Addr × Str} (t : TabQ Z H p) (e0 : ∃ ps, H p.1 = some (.tbl ps)) (e : ∀ b o, H b = some o → b = p.1 ∨ (∃ q, o = LamX.CodeO b q ∧ b ∉ Z) → H' b = some o) (z : ∀ b q, H b = some (LamX.CodeO b q) → b ∉ Z → b ∉ Z') : TabQ Z' H' p := fun ps h pos cv hc => by
  obtain ⟨qs, e0⟩ := e0
  have h1 := e _ _ e0 (.inl rfl)
  rw [h] at h1
  cases h1
  obtain ⟨c, e1, e2, e3⟩ := t ps e0 pos cv hc
  exact ⟨c, e1, z c _ e3 e2, e _ _ e3 (.inr ⟨_, rfl, e2⟩)⟩
/-- known objects are no code objects -/
theorem RS.notCode (r : RS C α M H) {c b : Addr} {q : Str} (h : H b = some (LamX.CodeO c q)) : b ∉ α := fun z => by
  obtain ⟨n, hn, e⟩ := List.getElem_of_mem z
  have h2 : n < M.length := by rw [← r.hr.len]; exact hn
  have m := r.hr.get n b M[n] (by rw [← e]; simp) (by simp)
  unfold LamX.CodeO at h
  cases hm : M[n] with
  | lst ds => rw [hm] at m; obtain ⟨xs, e', _⟩ := m; rw [h] at e'; cases e'
  | dK ds => rw [hm] at m; obtain ⟨xs, e', _⟩ := m; rw [h] at e'; cases e'
  | ins D ds => rw [hm] at m; obtain ⟨dx, xs, e', _⟩ := m; rw [h] at e'; cases e'
theorem RS.codeNotT (r : RS C α M H) {c b : Addr} {q : Str} (h : H b = some (LamX.CodeO c q)) : b ∉ C.T := fun z => by
  obtain ⟨ps, e, _⟩ := r.tb b z
  rw [h] at e
  unfold LamX.CodeO at e
  cases e
theorem RS.tabAt (r : RS C α M H) {p : Addr × Str} (hp : p ∈ C.T.qs) : ∃ ps, H p.1 = some (.tbl ps) := by
  obtain ⟨ps, e, _⟩ := r.tb p.1 (C.T.sub p hp)
  exact ⟨ps, e⟩
theorem RS.fresh (r : RS C α M H) {p : Addr} (h : H p = none) : ¬ C.N α p := by
  rintro (z | z | z)
  · obtain ⟨u, e⟩ := r.hr.mem z; rw [h] at e; cases e
  · obtain ⟨u, e, _⟩ := r.tb p z; rw [h] at e; cases e
  · obtain ⟨u, e⟩ := r.zd p z; rw [h] at e; cases e
/-- new objects that are not known: data -/
theorem RS.ex (r : RS C α M H) (e : ∀ b o, H b = some o → H' b = some o) : RS C α M H' ∧ Step C α H α H' := by
  have st : Step C α H α H' := ⟨⟨[], by simp, by simp⟩, fun b o h _ _ => e b o h, fun b o h => ⟨o, e b o h⟩⟩
  refine ⟨⟨⟨r.hr.len, fun n a o h1 h2 => ?_⟩, r.nd, fun P hP => ?_, fun z hz => ?_, fun p hp => (r.tq p hp).keep (r.tabAt hp) (fun b o h _ => e b o h) fun _ _ _ z => z⟩, st⟩
  · have q := r.hr.get n a o h1 h2
    obtain ⟨u, eu⟩ := q.some
    exact q.step st (by rw [eu, e _ _ eu])
  · obtain ⟨ps, h1, h2⟩ := r.tb P hP
    exact ⟨ps, e _ _ h1, h2⟩
  · obtain ⟨o, h⟩ := r.zd z hz
    exact ⟨o, e _ _ h⟩
theorem RS.new1 (r : RS C α M H) {p : Addr} {o : HO} (h : H p = none) : RS C α M (upd H p o) ∧ Step C α H α (upd H p o) := r.ex fun b u e => by
  rw [upd_ne (ne_of_none e h)]
  exact e
/-- a new known object -/
theorem RS.newM (r : RS C α M H) {p : Addr} {o : HO} {mo : MO} (h : H p = none) (hm : MR C (α ++ [p]) (upd H p o) p mo) : RS C (α ++ [p]) (M ++ [mo]) (upd H p o) ∧ Step C α H (α ++ [p]) (upd H p o) := by
  have k : ∀ b u, H b = some u → (upd H p o) b = some u := fun b u e => by
    rw [upd_ne (ne_of_none e h)]
    exact e
  have st : Step C α H (α ++ [p]) (upd H p o) := ⟨⟨[p], rfl, by simpa using h⟩, fun b o h _ _ => k b o h, fun b o h => ⟨o, k b o h⟩⟩
  have np : p ∉ α := fun z => r.fresh h (.inl z)
  refine ⟨⟨⟨by rw [List.length_append, List.length_append, r.hr.len]; rfl, fun n a u h1 h2 => ?_⟩, ?_, fun P hP => ?_, fun z hz => ?_, fun p hp => (r.tq p hp).keep (r.tabAt hp) (fun b o h _ => k b o h) fun _ _ _ z => z⟩, st⟩
  · by_cases hn : n < α.length
    · rw [List.getElem?_append_left hn] at h1
      rw [List.getElem?_append_left (by rw [← r.hr.len]; exact hn)] at h2
      have q := r.hr.get n a u h1 h2
      obtain ⟨w, ew⟩ := q.some
      exact q.step st (by rw [ew, k _ _ ew])
    · have e : n = α.length := by
        have := (List.getElem?_eq_some_iff.mp h1).1
        rw [List.length_append, List.length_singleton] at this
        omega
      subst e
      rw [List.getElem?_append_right (Nat.le_refl _), Nat.sub_self] at h1
      rw [List.getElem?_append_right (by rw [r.hr.len]; exact Nat.le_refl _), r.hr.len, Nat.sub_self] at h2
      cases h1; cases h2
      exact hm
  · rw [List.nodup_append]
    exact ⟨r.nd, by simp, fun a ha b hb e => by
      have : b = p := by simpa using hb
      exact np (by rw [← this, ← e]; exact ha)⟩
  · obtain ⟨ps, h1, h2⟩ := r.tb P hP
    exact ⟨ps, k _ _ h1, h2⟩
  · obtain ⟨o, h⟩ := r.zd z hz
    exact ⟨o, k _ _ h⟩
/-- a known object is changed -/
theorem RS.put (r : RS C α M H) {n : Nat} {a : Addr} {o : HO} {mo : MO} (ha : α[n]? = some a) (hm : MR C α (upd H a o) a mo) (hT : a ∉ C.T) : RS C α (M.set n mo) (upd H a o) ∧ Step C α H α (upd H a o) := by
  have ma : a ∈ α := List.mem_of_getElem? ha
  obtain ⟨ua, ea⟩ := r.hr.mem ma
  have st : Step C α H α (upd H a o) := ⟨⟨[], by simp, by simp⟩, fun b u h n _ => by rw [upd_ne (fun e => n (by rw [e]; exact ma))]; exact h, fun b u h => by
    by_cases e : b = a
    · subst e; exact ⟨o, upd_same⟩
    · exact ⟨u, by rw [upd_ne e]; exact h⟩⟩
  refine ⟨⟨⟨by rw [List.length_set]; exact r.hr.len, fun i b u h1 h2 => ?_⟩, r.nd, fun P hP => ?_, fun z hz => ?_, fun p hp => (r.tq p hp).keep (r.tabAt hp) (fun b o h q => by
    rcases q with q | ⟨q, rfl, _⟩
    · rw [upd_ne (fun e => hT (by rw [← e, q]; exact C.T.sub p hp))]; exact h
    · rw [upd_ne (fun e => r.notCode h (by rw [e]; exact ma))]; exact h) fun _ _ _ z => z⟩, st⟩
  · by_cases hi : i = n
    · subst hi
      rw [ha] at h1; cases h1
      rw [List.getElem?_set_self (by rw [← r.hr.len]; exact (List.getElem?_eq_some_iff.mp ha).1)] at h2
      cases h2
      exact hm
    · rw [List.getElem?_set_ne (Ne.symm hi)] at h2
      have ne : b ≠ a := fun e => hi (by subst e; exact nd_ix r.nd h1 ha)
      exact (r.hr.get i b u h1 h2).step st (upd_ne ne)
  · obtain ⟨ps, h1, h2⟩ := r.tb P hP
    exact ⟨ps, by rw [upd_ne (fun e => hT (by rw [← e]; exact hP))]; exact h1, h2⟩
  · obtain ⟨u, h⟩ := r.zd z hz
    exact st.dom z u h
/-- known objects are no tables -/
theorem RS.noT (r : RS C α M H) {n : Nat} {a : Addr} {mo : MO} (ha : α[n]? = some a) (hm : M[n]? = some mo) : a ∉ C.T := fun z => by
  obtain ⟨ps, e, _⟩ := r.tb a z
  have q := r.hr.get n a mo ha hm
  cases mo with
  | lst ds => obtain ⟨xs, e', _⟩ := q; rw [e] at e'; cases e'
  | dK ds => obtain ⟨xs, e', _⟩ := q; rw [e] at e'; cases e'
  | ins D ds => obtain ⟨dx, xs, e', _⟩ := q; rw [e] at e'; cases e'
end
theorem VRs.length {C : Cn} {α : List Addr} {H : Hp} {xs : List V} {ds : List DV} (h : VRs C α H xs ds) : xs.length = ds.length := Paired.length h
end L3

namespace L3
open PySem L2

/-- a lifted exception: its class, its own fields -/
structure LX where
  cls : Addr
  fs : List (Str × D)
def XR (C : Cn) (α : List Addr) (H : Hp) (cls : Value) (d : Option Addr) (x : LX) : Prop :=
  cls = .ref x.cls ∧ ((x.fs = [] ∧ d = none) ∨ ∃ dd ps, d = some dd ∧ H dd = some (.xd ps) ∧ ¬ C.N α dd ∧ Paired (fun (p : Str × V) (q : Str × D) => p.1 = q.1 ∧ VD C.K (C.N α) H p.2 q.2) ps x.fs)
abbrev PD := DV → Mem → Prop
abbrev PXn := LX → Mem → Prop
abbrev LE := Rho → Mem → PD → PXn → Prop
abbrev LT := Rho → Mem → (Bool → Mem → Prop) → PXn → Prop
abbrev LA := Rho → Mem → (List DV → Mem → Prop) → PXn → Prop
/-- the wanted end, lifted, is the wanted end -/
def Kt (C : Cn) (α : List Addr) (H : Hp) (P : PD) (Q : VK) : Prop := ∀ v H' α' d M', Step C α H α' H' → RS C α' M' H' → VR C α' H' v d → P d M' → Q v H'
def KtB (C : Cn) (α : List Addr) (H : Hp) (P : Bool → Mem → Prop) (Q : Bool → Hp → Prop) : Prop := ∀ b H' α' M', Step C α H α' H' → RS C α' M' H' → P b M' → Q b H'
def KtA (C : Cn) (α : List Addr) (H : Hp) (P : List DV → Mem → Prop) (Q : List V → Hp → Prop) : Prop := ∀ vs H' α' ds M', Step C α H α' H' → RS C α' M' H' → VRs C α' H' vs ds → P ds M' → Q vs H'
def Wk (C : Cn) (α : List Addr) (H : Hp) (W : WX) (σ : L2.St) (PX : PXn) : Prop := ∀ cls d H' α' M' x, Step C α H α' H' → RS C α' M' H' → XR C α' H' cls d x → PX x M' → W cls d σ H'
def LoE (C : Cn) (W : WX) (te : TE) (l : LE) : Prop := ∀ ρ M P PX, l ρ M P PX → ∀ Z σ H α Q, VS (C.wz Z) α H σ ρ → RS (C.wz Z) α M H → Kt (C.wz Z) α H P Q → Wk (C.wz Z) α H W σ PX → te σ H Q
def LoT (C : Cn) (W : WX) (te : TT) (l : LT) : Prop := ∀ ρ M P PX, l ρ M P PX → ∀ Z σ H α Q, VS (C.wz Z) α H σ ρ → RS (C.wz Z) α M H → KtB (C.wz Z) α H P Q → Wk (C.wz Z) α H W σ PX → te σ H Q
def LoA (C : Cn) (W : WX) (te : TA) (l : LA) : Prop := ∀ ρ M P PX, l ρ M P PX → ∀ Z σ H α Q, VS (C.wz Z) α H σ ρ → RS (C.wz Z) α M H → KtA (C.wz Z) α H P Q → Wk (C.wz Z) α H W σ PX → te σ H Q
structure LPE (X : Cx) (C : Cn) (W : WX) (e : Expr) (te : TE) (l : LE) : Prop where
  pe : PE X e te
  lo : LoE C W te l
structure LPT (X : Cx) (C : Cn) (W : WX) (e : Expr) (te : TT) (l : LT) : Prop where
  pt : PT X e te
  lo : LoT C W te l
structure LPW (X : Cx) (C : Cn) (W : WX) (e : Expr) (te : TT) (l : LT) : Prop where
  pw : PW X e te
  lo : LoT C W te l
structure LPA (X : Cx) (C : Cn) (W : WX) (es : List Expr) (te : TA) (l : LA) : Prop where
  pa : PA X es te
  lo : LoA C W te l
section
variable {C : Cn} {W : WX} {α α' : List Addr} {H H' : Hp} {σ : L2.St} {M M' : Mem} {P : PD} {PX : PXn} {Q : VK}
theorem Kt.step (k : Kt C α H P Q) (s : Step C α H α' H') : Kt C α' H' P Q := fun v H2 α2 d M2 s2 r q p => k v H2 α2 d M2 (s.trans s2) r q p
theorem KtB.step {P : Bool → Mem → Prop} {Q : Bool → Hp → Prop} (k : KtB C α H P Q) (s : Step C α H α' H') : KtB C α' H' P Q := fun v H2 α2 M2 s2 r p => k v H2 α2 M2 (s.trans s2) r p
theorem KtA.step {P : List DV → Mem → Prop} {Q : List V → Hp → Prop} (k : KtA C α H P Q) (s : Step C α H α' H') : KtA C α' H' P Q := fun v H2 α2 d M2 s2 r q p => k v H2 α2 d M2 (s.trans s2) r q p
theorem Wk.step (k : Wk C α H W σ PX) (s : Step C α H α' H') : Wk C α' H' W σ PX := fun c d H2 α2 M2 x s2 r q p => k c d H2 α2 M2 x (s.trans s2) r q p
theorem Kt.now (k : Kt C α H P Q) (r : RS C α M H) {v : V} {d : DV} (q : VR C α H v d) (p : P d M) : Q v H := k v H α d M Step.refl r q p
/-- one, then what is done with it -/
theorem LoE.bind {te : TE} {l : LE} (h : LoE C W te l) {Z : List Addr} {ρ : Rho} {R : PD} (g : l ρ M R PX) (vs : VS (C.wz Z) α H σ ρ) (r : RS (C.wz Z) α M H) (wk : Wk (C.wz Z) α H W σ PX) {Q : VK}
    (f : ∀ v H' α' d M', Step (C.wz Z) α H α' H' → RS (C.wz Z) α' M' H' → VR (C.wz Z) α' H' v d → R d M' → VS (C.wz Z) α' H' σ ρ → Wk (C.wz Z) α' H' W σ PX → Q v H') : te σ H Q :=
  h ρ M R PX g Z σ H α Q vs r (fun v H' α' d M' s r' q p => f v H' α' d M' s r' q p (vs.step s) (wk.step s)) wk
theorem LoT.bind {te : TT} {l : LT} (h : LoT C W te l) {Z : List Addr} {ρ : Rho} {R : Bool → Mem → Prop} (g : l ρ M R PX) (vs : VS (C.wz Z) α H σ ρ) (r : RS (C.wz Z) α M H) (wk : Wk (C.wz Z) α H W σ PX) {Q : Bool → Hp → Prop}
    (f : ∀ b H' α' M', Step (C.wz Z) α H α' H' → RS (C.wz Z) α' M' H' → R b M' → VS (C.wz Z) α' H' σ ρ → Wk (C.wz Z) α' H' W σ PX → Q b H') : te σ H Q :=
  h ρ M R PX g Z σ H α Q vs r (fun b H' α' M' s r' p => f b H' α' M' s r' p (vs.step s) (wk.step s)) wk
theorem LoA.bind {te : TA} {l : LA} (h : LoA C W te l) {Z : List Addr} {ρ : Rho} {R : List DV → Mem → Prop} (g : l ρ M R PX) (vs : VS (C.wz Z) α H σ ρ) (r : RS (C.wz Z) α M H) (wk : Wk (C.wz Z) α H W σ PX) {Q : List V → Hp → Prop}
    (f : ∀ us H' α' ds M', Step (C.wz Z) α H α' H' → RS (C.wz Z) α' M' H' → VRs (C.wz Z) α' H' us ds → R ds M' → VS (C.wz Z) α' H' σ ρ → Wk (C.wz Z) α' H' W σ PX → Q us H') : te σ H Q :=
  h ρ M R PX g Z σ H α Q vs r (fun v H' α' d M' s r' q p => f v H' α' d M' s r' q p (vs.step s) (wk.step s)) wk
end

/-! ### names, constants -/
def lVar (i : Nat) : LE := fun ρ M P _ => ∃ d, ρ[i]? = some (some d) ∧ P d M
def lC (d : D) : LE := fun _ M P _ => P (.dat d) M
section
variable {X : Cx} {C : Cn} {W : WX} {pos : Pos}
theorem lo_var {i : Nat} : LoE C W (tVar i) (lVar i) := fun ρ M P PX ⟨d, e, p⟩ Z σ H α Q vs r k wk =>
  let ⟨v, ev, q⟩ := vs.get i d e
  ⟨v, ev, k.now r q p⟩
theorem lo_c {v : V} {d : D} (h : ∀ Z α H, VD C.K ((C.wz Z).N α) H v d) : LoE C W (tC v) (lC d) := fun ρ M P PX p Z σ H α Q vs r k wk => k.now (d := .dat d) r (h Z α H) p
theorem lp_var (i : Nat) {x : Str} {pos : Pos} (hN : X.N[i]? = some x := by rfl) (hv : Vis X.env.scope x := by first | exact Or.inl rfl | exact Or.inr (Or.inl rfl) | exact Or.inr (Or.inr rfl)) (hd : (x == ("__debug__" : Str)) = false := by decide)
    (hcd : (x == ("__classdict__" : Str)) = false := by decide) : LPE X C W (.Name x pos) (tVar i) (lVar i) := ⟨pv i hN hv hd hcd, lo_var⟩
theorem lp_int {i j} : LPE X C W (.Constant (.int i) j pos) (tC (.int i)) (lC (.int i)) := ⟨pe_int, lo_c fun _ _ _ => .int i⟩
theorem lp_bl {b j} : LPE X C W (.Constant (.bool b) j pos) (tC (.bl b)) (lC (.bl b)) := ⟨pe_bl, lo_c fun _ _ _ => .bl b⟩
theorem lp_non {j} : LPE X C W (.Constant .none j pos) (tC .non) (lC .non) := ⟨pe_non, lo_c fun _ _ _ => .non⟩
theorem lp_str {x j} : LPE X C W (.Constant (.str x) j pos) (tC (.str x)) (lC (.str x)) := ⟨pe_str, lo_c fun _ _ _ => .str x⟩
/-- a constant of the module -/
theorem lp_glob {x : Str} {v : V} {u : Value} {d : D} (hg : Gl X x) (hm : X.mg x = some u) (rv : RelV v u) (h : ∀ Z α H, VD C.K ((C.wz Z).N α) H v d) (hd : (x == ("__debug__" : Str)) = false := by decide) : LPE X C W (.Name x pos) (tC v) (lC d) := ⟨pe_glob hg hm rv hd, lo_c h⟩
theorem lp_gint {x : Str} {i : Int} {t : Tok} (hg : Gl X x) (hm : X.mg x = some (.int i t)) (hd : (x == ("__debug__" : Str)) = false := by decide) : LPE X C W (.Name x pos) (tC (.int i)) (lC (.int i)) := lp_glob hg hm ⟨t, rfl⟩ (fun _ _ _ => .int i) hd
theorem lp_gstr {x : Str} {i : Str} {t : Tok} (hg : Gl X x) (hm : X.mg x = some (.str i t)) (hd : (x == ("__debug__" : Str)) = false := by decide) : LPE X C W (.Name x pos) (tC (.str i)) (lC (.str i)) := lp_glob hg hm ⟨t, rfl⟩ (fun _ _ _ => .str i) hd
end

/-! ### operators by values -/
def Lo1 (C : Cn) (r : V → Hp → VK → Prop) (lr : DV → Mem → PD → Prop) : Prop := ∀ x M P, lr x M P → ∀ Z α H v Q, RS (C.wz Z) α M H → VR (C.wz Z) α H v x → Kt (C.wz Z) α H P Q → r v H Q
def Lo2 (C : Cn) (r : R2) (lr : DV → DV → Mem → PD → Prop) : Prop := ∀ x y M P, lr x y M P → ∀ Z α H v u Q, RS (C.wz Z) α M H → VR (C.wz Z) α H v x → VR (C.wz Z) α H u y → Kt (C.wz Z) α H P Q → r v u H Q
def LoL (C : Cn) (r : List V → Hp → VK → Prop) (lr : List DV → Mem → PD → Prop) : Prop := ∀ xs M P, lr xs M P → ∀ Z α H vs Q, RS (C.wz Z) α M H → VRs (C.wz Z) α H vs xs → Kt (C.wz Z) α H P Q → r vs H Q
def lOp (lr : DV → DV → Mem → PD → Prop) (la lb : LE) : LE := fun ρ M P PX => la ρ M (fun x M1 => lb ρ M1 (fun y M2 => lr x y M2 P) PX) PX
def lUn (lr : DV → Mem → PD → Prop) (la : LE) : LE := fun ρ M P PX => la ρ M (fun x M1 => lr x M1 P) PX
section
variable {X : Cx} {C : Cn} {W : WX} {pos : Pos} {a b : Expr} {ta tb : TE} {la lb : LE}
theorem lo_op {r : R2} {lr : DV → DV → Mem → PD → Prop} (hr : Lo2 C r lr) (ha : LoE C W ta la) (hb : LoE C W tb lb) : LoE C W (tOp r ta tb) (lOp lr la lb) := fun ρ M P PX h Z σ H α Q vs rs k wk =>
  ha.bind h vs rs wk fun v H1 α1 x M1 s1 r1 q1 h1 vs1 wk1 => hb.bind h1 vs1 r1 wk1 fun u H2 α2 y M2 s2 r2 q2 h2 vs2 wk2 =>
    hr x y M2 P h2 _ α2 H2 v u Q r2 (q1.step s2) q2 (k.step (s1.trans s2))
theorem lo_un {r : V → Hp → VK → Prop} {lr : DV → Mem → PD → Prop} (hr : Lo1 C r lr) (ha : LoE C W ta la) : LoE C W (tUn r ta) (lUn lr la) := fun ρ M P PX h Z σ H α Q vs rs k wk =>
  ha.bind h vs rs wk fun v H1 α1 x M1 s1 r1 q1 h1 vs1 wk1 => hr x M1 P h1 _ α1 H1 v Q r1 q1 (k.step s1)
theorem lp_op {op : Operator} {r : R2} {lr : DV → DV → Mem → PD → Prop} (ho : OpR X (binaryOp op) r) (hr : Lo2 C r lr) (ha : LPE X C W a ta la) (hb : LPE X C W b tb lb) : LPE X C W (.BinOp a op b pos) (tOp r ta tb) (lOp lr la lb) := ⟨pe_op ho ha.pe hb.pe, lo_op hr ha.lo hb.lo⟩
theorem lp_un {op : UnaryOp} {r : V → Hp → VK → Prop} {lr : DV → Mem → PD → Prop} (ho : UnR X (unaryOp op) r) (hr : Lo1 C r lr) (ha : LPE X C W a ta la) : LPE X C W (.UnaryOp op a pos) (tUn r ta) (lUn lr la) := ⟨pe_un ho ha.pe, lo_un hr ha.lo⟩
theorem lp_cmp {op : CmpOp} {r : R2} {lr : DV → DV → Mem → PD → Prop} (ho : OpR X (compareOp op) r) (hr : Lo2 C r lr) (ha : LPE X C W a ta la) (hb : LPE X C W b tb lb) (hm : behindInMarks op b = false) : LPE X C W (.Compare a [op] [b] pos) (tOp r ta tb) (lOp lr la lb) :=
  ⟨pe_cmpR ho ha.pe hb.pe hm, lo_op hr ha.lo hb.lo⟩
def lTest (l : LE) : LT := fun ρ M P PX => l ρ M (fun x M' => ∃ k, x = .bl k ∧ P k M') PX
theorem lo_test {te : TE} {l : LE} (h : LoE C W te l) : LoT C W (tTest te) (lTest l) := fun ρ M P PX g Z σ H α Q vs rs k wk =>
  h.bind g vs rs wk fun v H1 α1 x M1 s1 r1 q1 h1 vs1 wk1 => by
    obtain ⟨b, rfl, p⟩ := h1
    cases q1
    exact ⟨b, rfl, k b H1 α1 M1 s1 r1 p⟩
theorem lo_tB {te : TE} {l : LE} (h : LoE C W te l) : LoT C W (tB te) (lTest l) := lo_test h
theorem lpt_cmp {op : CmpOp} {r : R2} {lr : DV → DV → Mem → PD → Prop} (ho : OpR X (compareOp op) r) (hr : Lo2 C r lr) (ha : LPE X C W a ta la) (hb : LPE X C W b tb lb) (hm : behindInMarks op b = false) : LPT X C W (.Compare a [op] [b] pos) (tTest (tOp r ta tb)) (lTest (lOp lr la lb)) :=
  ⟨pt_cmpR ho ha.pe hb.pe hm, lo_test (lo_op hr ha.lo hb.lo)⟩
theorem lpt_val {e : Expr} {t : TE} {l : LE} (h : LPE X C W e t l) (he : ∀ whole, isTrue e X.env whole = (do let v ← whole; standAt e.pos; holding [v] (truthy v)) := by intro _; rfl) : LPT X C W e (tB t) (lTest l) := ⟨pt_val h.pe he, lo_tB h.lo⟩
/-! ### and, or, not, if -/
variable {tA tB' : TT} {lA lB : LT} {rest : List Expr} {c : Expr}
def lAnd (t u : LT) : LT := fun ρ M P PX => t ρ M (fun b M1 => if b = true then u ρ M1 P PX else P false M1) PX
def lOr (t u : LT) : LT := fun ρ M P PX => t ρ M (fun b M1 => if b = true then P true M1 else u ρ M1 P PX) PX
def lNot (t : LT) : LT := fun ρ M P PX => t ρ M (fun b M1 => P (!b) M1) PX
theorem lo_and (ha : LoT C W tA lA) (hb : LoT C W tB' lB) : LoT C W (tAnd tA tB') (lAnd lA lB) := fun ρ M P PX g Z σ H α Q vs rs k wk =>
  ha.bind g vs rs wk fun b H1 α1 M1 s1 r1 h1 vs1 wk1 => by
    cases b with
    | true => exact hb ρ M1 P PX h1 _ σ H1 α1 Q vs1 r1 (k.step s1) wk1
    | false => exact k false H1 α1 M1 s1 r1 h1
theorem lo_or (ha : LoT C W tA lA) (hb : LoT C W tB' lB) : LoT C W (tOr tA tB') (lOr lA lB) := fun ρ M P PX g Z σ H α Q vs rs k wk =>
  ha.bind g vs rs wk fun b H1 α1 M1 s1 r1 h1 vs1 wk1 => by
    cases b with
    | true => exact k true H1 α1 M1 s1 r1 h1
    | false => exact hb ρ M1 P PX h1 _ σ H1 α1 Q vs1 r1 (k.step s1) wk1
theorem lo_not (ha : LoT C W tA lA) : LoT C W (tNot tA) (lNot lA) := fun ρ M P PX g Z σ H α Q vs rs k wk =>
  ha.bind g vs rs wk fun b H1 α1 M1 s1 r1 h1 vs1 wk1 => k (!b) H1 α1 M1 s1 r1 h1
theorem lpw_and1 (ha : LPT X C W a tA lA) : LPW X C W (.BoolOp .And [a] pos) tA lA := ⟨pw_and1 ha.pt, ha.lo⟩
theorem lpw_or1 (ha : LPT X C W a tA lA) : LPW X C W (.BoolOp .Or [a] pos) tA lA := ⟨pw_or1 ha.pt, ha.lo⟩
theorem lpw_and (ha : LPT X C W a tA lA) (hb : LPW X C W (.BoolOp .And (b :: rest) pos) tB' lB) : LPW X C W (.BoolOp .And (a :: b :: rest) pos) (tAnd tA tB') (lAnd lA lB) := ⟨pw_and ha.pt hb.pw, lo_and ha.lo hb.lo⟩
theorem lpw_or (ha : LPT X C W a tA lA) (hb : LPW X C W (.BoolOp .Or (b :: rest) pos) tB' lB) : LPW X C W (.BoolOp .Or (a :: b :: rest) pos) (tOr tA tB') (lOr lA lB) := ⟨pw_or ha.pt hb.pw, lo_or ha.lo hb.lo⟩
theorem LPW.lpt (h : LPW X C W a tA lA) : LPT X C W a tA lA := ⟨h.pw.pt, h.lo⟩
theorem lpt_not (ha : LPT X C W a tA lA) : LPT X C W (.UnaryOp .Not a pos) (tNot tA) (lNot lA) := ⟨pt_not ha.pt, lo_not ha.lo⟩
def lAndV (ta tb : LE) : LE := fun ρ M P PX => ta ρ M (fun x M1 => ∃ c, x = .bl c ∧ if c = true then tb ρ M1 P PX else P (.bl false) M1) PX
def lOrV (ta tb : LE) : LE := fun ρ M P PX => ta ρ M (fun x M1 => ∃ c, x = .bl c ∧ if c = true then P (.bl true) M1 else tb ρ M1 P PX) PX
def lNotV (ta : LE) : LE := fun ρ M P PX => ta ρ M (fun x M1 => ∃ c, x = .bl c ∧ P (.bl (!c)) M1) PX
theorem lo_andV (ha : LoE C W ta la) (hb : LoE C W tb lb) : LoE C W (tAndV ta tb) (lAndV la lb) := fun ρ M P PX g Z σ H α Q vs rs k wk =>
  ha.bind g vs rs wk fun v H1 α1 x M1 s1 r1 q1 h1 vs1 wk1 => by
    obtain ⟨b, rfl, h1⟩ := h1
    cases q1
    refine ⟨b, rfl, ?_⟩
    cases b with
    | true => exact hb ρ M1 P PX h1 _ σ H1 α1 Q vs1 r1 (k.step s1) wk1
    | false => exact (k.step s1).now r1 (d := .bl false) (.bl false) h1
theorem lo_orV (ha : LoE C W ta la) (hb : LoE C W tb lb) : LoE C W (tOrV ta tb) (lOrV la lb) := fun ρ M P PX g Z σ H α Q vs rs k wk =>
  ha.bind g vs rs wk fun v H1 α1 x M1 s1 r1 q1 h1 vs1 wk1 => by
    obtain ⟨b, rfl, h1⟩ := h1
    cases q1
    refine ⟨b, rfl, ?_⟩
    cases b with
    | true => exact (k.step s1).now r1 (d := .bl true) (.bl true) h1
    | false => exact hb ρ M1 P PX h1 _ σ H1 α1 Q vs1 r1 (k.step s1) wk1
theorem lo_notV (ha : LoE C W ta la) : LoE C W (tNotV ta) (lNotV la) := fun ρ M P PX g Z σ H α Q vs rs k wk =>
  ha.bind g vs rs wk fun v H1 α1 x M1 s1 r1 q1 h1 vs1 wk1 => by
    obtain ⟨b, rfl, h1⟩ := h1
    cases q1
    exact ⟨b, rfl, (k.step s1).now r1 (d := .bl (!b)) (.bl _) h1⟩
theorem lp_one {op} (h : LPE X C W a ta la) : LPE X C W (.BoolOp op [a] pos) ta la := ⟨pe_one h.pe, h.lo⟩
theorem lp_and (ha : LPE X C W a ta la) (hb : LPE X C W (.BoolOp .And (b :: rest) pos) tb lb) : LPE X C W (.BoolOp .And (a :: b :: rest) pos) (tAndV ta tb) (lAndV la lb) := ⟨pe_and ha.pe hb.pe, lo_andV ha.lo hb.lo⟩
theorem lp_or (ha : LPE X C W a ta la) (hb : LPE X C W (.BoolOp .Or (b :: rest) pos) tb lb) : LPE X C W (.BoolOp .Or (a :: b :: rest) pos) (tOrV ta tb) (lOrV la lb) := ⟨pe_or ha.pe hb.pe, lo_orV ha.lo hb.lo⟩
theorem lp_not (ha : LPE X C W a ta la) : LPE X C W (.UnaryOp .Not a pos) (tNotV ta) (lNotV la) := ⟨pe_not ha.pe, lo_notV ha.lo⟩
def lIf (t : LT) (ta tb : LE) : LE := fun ρ M P PX => t ρ M (fun c M1 => if c = true then ta ρ M1 P PX else tb ρ M1 P PX) PX
theorem lp_if (hc : LPT X C W c tA lA) (ha : LPE X C W a ta la) (hb : LPE X C W b tb lb) : LPE X C W (.IfExp c a b pos) (tIf tA ta tb) (lIf lA la lb) := ⟨pe_ifExp hc.pt ha.pe hb.pe, fun ρ M P PX g Z σ H α Q vs rs k wk =>
  hc.lo.bind g vs rs wk fun c H1 α1 M1 s1 r1 h1 vs1 wk1 => by
    cases c with
    | true => exact ha.lo ρ M1 P PX h1 _ σ H1 α1 Q vs1 r1 (k.step s1) wk1
    | false => exact hb.lo ρ M1 P PX h1 _ σ H1 α1 Q vs1 r1 (k.step s1) wk1⟩
end
section
variable {X : Cx} {C : Cn} {W : WX} {pos : Pos} {e : Expr} {es : List Expr} {te : TE} {le : LE} {ta : TA} {la : LA}
/-! ### arguments, displays -/
def lNil : LA := fun _ M P _ => P [] M
def lCons (l : LE) (r : LA) : LA := fun ρ M P PX => l ρ M (fun x M1 => r ρ M1 (fun xs M2 => P (x :: xs) M2) PX) PX
theorem lpa_nil : LPA X C W [] tNil lNil := ⟨pa_nil, fun ρ M P PX g Z σ H α Q vs rs k wk => k [] H α [] M Step.refl rs .nil g⟩
theorem lo_cons (h1 : LoE C W te le) (h2 : LoA C W ta la) : LoA C W (tCons te ta) (lCons le la) := fun ρ M P PX g Z σ H α Q vs rs k wk =>
  h1.bind g vs rs wk fun v H1 α1 x M1 s1 r1 q1 h1 vs1 wk1 => h2.bind h1 vs1 r1 wk1 fun us H2 α2 ds M2 s2 r2 q2 h2 vs2 wk2 => k _ H2 α2 _ M2 (s1.trans s2) r2 (.cons (q1.step s2) q2) h2
theorem lpa_cons (h : LPE X C W e te le) (hr : LPA X C W es ta la) (hs : starEach (e :: es) X.env = (false, eval e X.env) :: starEach es X.env := by rfl) : LPA X C W (e :: es) (tCons te ta) (lCons le la) := ⟨pa_cons h.pe hr.pa hs, lo_cons h.lo hr.lo⟩
/-- a list of data -/
def AllD (xs : List DV) (ds : List D) : Prop := xs = ds.map DV.dat
theorem VRs.data {α : List Addr} {H : Hp} : ∀ {vs : List V} {ds : List D}, VRs C α H vs (ds.map DV.dat) → VDs C.K (C.N α) H vs ds
  | _, [], .nil => .nil
  | _, d :: ds, .cons h t => .cons h (VRs.data t)
theorem VDs.rs {α : List Addr} {H : Hp} : ∀ {vs : List V} {ds : List D}, VDs C.K (C.N α) H vs ds → VRs C α H vs (ds.map DV.dat)
  | _, _, .nil => .nil
  | _, _, .cons h t => .cons h (VDs.rs t)
/-- (a, b, ..), [a, b, ..]: data -/
def lTup (l : LA) : LE := fun ρ M P PX => l ρ M (fun xs M1 => ∃ ds : List D, xs = ds.map DV.dat ∧ ds.length ≤ sizeLine ∧ P (.dat (.tup ds)) M1) PX
def lLst (l : LA) : LE := fun ρ M P PX => l ρ M (fun xs M1 => ∃ ds : List D, xs = ds.map DV.dat ∧ ds.length ≤ sizeLine ∧ P (.dat (.lst ds)) M1) PX
/-- [a, b, ..], to be changed later -/
def lLstM (l : LA) : LE := fun ρ M P PX => l ρ M (fun xs M1 => xs.length ≤ sizeLine ∧ P (.obj M1.length) (M1 ++ [.lst xs])) PX
theorem lp_tup {x1} (h : LPA X C W es ta la) : LPE X C W (.Tuple es x1 pos) (tTup ta) (lTup la) := ⟨pe_tup h.pa, fun ρ M P PX g Z σ H α Q vs rs k wk =>
  h.lo.bind g vs rs wk fun us H1 α1 xs M1 s1 r1 q1 h1 vs1 wk1 => by
    obtain ⟨ds, rfl, hz, p⟩ := h1
    have q := VRs.data q1
    refine ⟨by rw [q.length]; exact hz, fun p0 hp => ?_⟩
    obtain ⟨r2, s2⟩ := r1.new1 (o := .tup us) hp
    exact k _ _ α1 (.dat (.tup ds)) M1 (s1.trans s2) r2 (.tup (.inl ⟨.inl upd_same, r1.fresh hp⟩) (q.mv s2.mv)) p⟩
theorem lp_lst (h : LPA X C W es ta la) : LPE X C W (.List es pos) (tLst ta) (lLst la) := ⟨pe_lst h.pa, fun ρ M P PX g Z σ H α Q vs rs k wk =>
  h.lo.bind g vs rs wk fun us H1 α1 xs M1 s1 r1 q1 h1 vs1 wk1 => by
    obtain ⟨ds, rfl, hz, p⟩ := h1
    have q := VRs.data q1
    refine ⟨by rw [q.length]; exact hz, fun p0 hp => ?_⟩
    obtain ⟨r2, s2⟩ := r1.new1 (o := .lst us) hp
    exact k _ _ α1 (.dat (.lst ds)) M1 (s1.trans s2) r2 (.lst (.inl ⟨.inl upd_same, r1.fresh hp⟩) (q.mv s2.mv)) p⟩
theorem lp_lstM (h : LPA X C W es ta la) : LPE X C W (.List es pos) (tLst ta) (lLstM la) := ⟨pe_lst h.pa, fun ρ M P PX g Z σ H α Q vs rs k wk =>
  h.lo.bind g vs rs wk fun us H1 α1 xs M1 s1 r1 q1 h1 vs1 wk1 => by
    obtain ⟨hz, p⟩ := h1
    refine ⟨by rw [q1.length]; exact hz, fun p0 hp => ?_⟩
    have st : Step (C.wz Z) α1 H1 (α1 ++ [p0]) (upd H1 p0 (.lst us)) := ⟨⟨[p0], rfl, by simpa using hp⟩, fun b o h _ _ => by rw [upd_ne (ne_of_none h hp)]; exact h, fun b o h => ⟨o, by rw [upd_ne (ne_of_none h hp)]; exact h⟩⟩
    obtain ⟨r2, s2⟩ := r1.newM (o := .lst us) (mo := .lst xs) hp ⟨us, upd_same, q1.step st⟩
    exact k _ _ _ (.obj M1.length) _ (s1.trans s2) r2 ⟨p0, by rw [← r1.hr.len]; simp, rfl⟩ p⟩
/-- calls of built-ins by name -/
def lCB (lr : List DV → Mem → PD → Prop) (l : LA) : LE := fun ρ M P PX => l ρ M (fun xs M1 => lr xs M1 P) PX
theorem lo_cB {r : List V → Hp → VK → Prop} {lr : List DV → Mem → PD → Prop} (hr : LoL C r lr) (ha : LoA C W ta la) : LoE C W (tCB r ta) (lCB lr la) := fun ρ M P PX g Z σ H α Q vs rs k wk =>
  ha.bind g vs rs wk fun us H1 α1 xs M1 s1 r1 q1 h1 vs1 wk1 => hr xs M1 P h1 _ α1 H1 us Q r1 q1 (k.step s1)
theorem lp_callB {x : Str} {id : String} {p : Pos} {r : List V → Hp → VK → Prop} {lr : List DV → Mem → PD → Prop} (hc : CallR X (.builtin id) r) (hl : LoL C r lr) (hg : Gl X x) (hm : X.mg x = none) (hv : bootBuiltins x = some (.builtin id)) (ha : LPA X C W (e :: es) ta la) (hn : x ≠ "__name__" := by decide) (hdb : (x == ("__debug__" : Str)) = false := by decide)
    (he : starEach (e :: es) X.env = (false, eval e X.env) :: starEach es X.env := by rfl) (hpl : (backTo pos (starEach es X.env)).any (·.1) = false := by rfl) : LPE X C W (.Call (.Name x p) (e :: es) [] pos) (tCB r ta) (lCB lr la) := ⟨pe_callB hc hg hm hv ha.pa hn hdb he hpl, lo_cB hl ha.lo⟩
theorem lp_callTy {x : Str} {T : String} {p : Pos} {r : List V → Hp → VK → Prop} {lr : List DV → Mem → PD → Prop} (hc : CallR X (.type T) r) (hl : LoL C r lr) (hg : Gl X x) (hm : X.mg x = none) (hv : bootBuiltins x = some (.type T)) (ha : LPA X C W (e :: es) ta la) (hn : x ≠ "__name__" := by decide) (hdb : (x == ("__debug__" : Str)) = false := by decide)
    (he : starEach (e :: es) X.env = (false, eval e X.env) :: starEach es X.env := by rfl) (hpl : (backTo pos (starEach es X.env)).any (·.1) = false := by rfl) : LPE X C W (.Call (.Name x p) (e :: es) [] pos) (tCB r ta) (lCB lr la) := ⟨pe_callTy hc hg hm hv ha.pa hn hdb he hpl, lo_cB hl ha.lo⟩
end

/-! ### statements -/
/-- what is wanted behind a statement, lifted -/
structure LEnds where
  nx : Rho → Mem → Prop
  rt : PD
  bk : Rho → Mem → Prop := fun _ _ => False
  ct : Rho → Mem → Prop := fun _ _ => False
  ex : LX → Rho → Mem → Prop := fun _ _ _ => False
structure EndsR (C : Cn) (α0 : List Addr) (H0 : Hp) (W : WX) (L : LEnds) (D : Ends) : Prop where
  nx : ∀ σ H α ρ M, Step C α0 H0 α H → VS C α H σ ρ → RS C α M H → L.nx ρ M → D.nx σ H
  rt : ∀ v H α d M, Step C α0 H0 α H → RS C α M H → VR C α H v d → L.rt d M → D.rt v H
  bk : ∀ σ H α ρ M, Step C α0 H0 α H → VS C α H σ ρ → RS C α M H → L.bk ρ M → D.bk σ H
  ct : ∀ σ H α ρ M, Step C α0 H0 α H → VS C α H σ ρ → RS C α M H → L.ct ρ M → D.ct σ H
  ex : ∀ cls d σ H α ρ M x, Step C α0 H0 α H → VS C α H σ ρ → RS C α M H → XR C α H cls d x → L.ex x ρ M → W cls d σ H
theorem EndsR.step {C : Cn} {α α1 : List Addr} {H H1 : Hp} {W : WX} {L : LEnds} {D : Ends} (d : EndsR C α H W L D) (s : Step C α H α1 H1) : EndsR C α1 H1 W L D :=
  ⟨fun σ H2 α2 ρ M s2 => d.nx σ H2 α2 ρ M (s.trans s2), fun v H2 α2 x M s2 => d.rt v H2 α2 x M (s.trans s2), fun σ H2 α2 ρ M s2 => d.bk σ H2 α2 ρ M (s.trans s2), fun σ H2 α2 ρ M s2 => d.ct σ H2 α2 ρ M (s.trans s2),
    fun c dd σ H2 α2 ρ M x s2 => d.ex c dd σ H2 α2 ρ M x (s.trans s2)⟩
abbrev LS := LEnds → Rho → Mem → Prop
def LoS (C : Cn) (W : WX) (ts : TS) (l : LS) : Prop := ∀ L ρ M, l L ρ M → ∀ Z D σ H α, VS (C.wz Z) α H σ ρ → RS (C.wz Z) α M H → EndsR (C.wz Z) α H W L D → ts D σ H
structure LPS (X : Cx) (C : Cn) (W : WX) (st : Stmt) (ts : TS) (l : LS) : Prop where
  ps : PS X st ts
  lo : LoS C W ts l
structure LPSs (X : Cx) (C : Cn) (W : WX) (st : List Stmt) (ts : TS) (l : LS) : Prop where
  ps : PSs X st ts
  lo : LoS C W ts l
/-- exceptions of an expression, at the slots as they stand -/
abbrev LEnds.px (L : LEnds) (ρ : Rho) : PXn := fun x M => L.ex x ρ M
section
variable {X : Cx} {C : Cn} {W : WX} {pos : Pos} {st : Stmt} {rest : List Stmt} {t u : TS} {l m : LS} {e : Expr} {te : TE} {le : LE}
theorem EndsR.wk {L : LEnds} {D : Ends} {α : List Addr} {H : Hp} {σ : L2.St} {ρ : Rho} (d : EndsR C α H W L D) (vs : VS C α H σ ρ) : Wk C α H W σ (L.px ρ) := fun cls dd H' α' M' x s r q p => d.ex cls dd σ H' α' ρ M' x s (vs.step s) r q p
def lNext : LS := fun L ρ M => L.nx ρ M
def lSeq (l m : LS) : LS := fun L ρ M => l { L with nx := m L } ρ M
theorem lpss_nil : LPSs X C W [] tNext lNext := ⟨pss_nil, fun L ρ M h Z D σ H α vs r d => d.nx σ H α ρ M Step.refl vs r h⟩
theorem lo_seq (h1 : LoS C W t l) (h2 : LoS C W u m) : LoS C W (tSeq t u) (lSeq l m) := fun L ρ M h Z D σ H α vs r d =>
  h1 _ ρ M h _ _ σ H α vs r ⟨fun σ1 H1 α1 ρ1 M1 s1 vs1 r1 h' => h2 L ρ1 M1 h' _ D σ1 H1 α1 vs1 r1 (d.step s1), d.rt, d.bk, d.ct, d.ex⟩
theorem lpss_cons (h1 : LPS X C W st t l) (h2 : LPSs X C W rest u m) : LPSs X C W (st :: rest) (tSeq t u) (lSeq l m) := ⟨pss_cons h1.ps h2.ps, lo_seq h1.lo h2.lo⟩
theorem lpss_one (h1 : LPS X C W st t l) : LPSs X C W [st] t l := ⟨pss_one h1.ps, h1.lo⟩
def lBreak : LS := fun L ρ M => L.bk ρ M
def lCont : LS := fun L ρ M => L.ct ρ M
theorem lps_pass : LPS X C W (.Pass pos) tNext lNext := ⟨ps_pass, fun L ρ M h Z D σ H α vs r d => d.nx σ H α ρ M Step.refl vs r h⟩
theorem lps_break : LPS X C W (.Break pos) tBreak lBreak := ⟨ps_break, fun L ρ M h Z D σ H α vs r d => d.bk σ H α ρ M Step.refl vs r h⟩
theorem lps_continue : LPS X C W (.Continue pos) tCont lCont := ⟨ps_continue, fun L ρ M h Z D σ H α vs r d => d.ct σ H α ρ M Step.refl vs r h⟩
def lDrop (le : LE) : LS := fun L ρ M => le ρ M (fun _ M1 => L.nx ρ M1) (L.px ρ)
theorem lps_expr (he : LPE X C W e te le) (hs : swapsWith e none pos.line X.env = pure false := by rfl) : LPS X C W (.Expr e pos) (tDrop te) (lDrop le) := ⟨ps_expr he.pe hs, fun L ρ M h Z D σ H α vs r d =>
  he.lo.bind h vs r (d.wk vs) fun v H1 α1 x M1 s1 r1 q1 h1 vs1 wk1 => d.nx σ H1 α1 ρ M1 s1 vs1 r1 h1⟩
/-- what is dropped at a return: the newest objects -/
def okDV (n : Nat) : DV → Bool
  | .dat _ => true
  | .obj k => decide (k < n)
def okMO (n : Nat) : MO → Bool
  | .lst xs => xs.all (okDV n)
  | .dK kvs => kvs.all fun p => okDV n p.2
  | .ins _ fs => fs.all fun p => okDV n p.2
def lRet (le : LE) : LS := fun L ρ M => le ρ M L.rt (L.px ρ)
theorem lps_ret (he : LPE X C W e te le) : LPS X C W (.Return (some e) pos) (tRet te) (lRet le) := ⟨ps_ret he.pe, fun L ρ M h Z D σ H α vs r d =>
  he.lo.bind h vs r (d.wk vs) fun v H1 α1 x M1 s1 r1 q1 h1 vs1 wk1 => d.rt v H1 α1 x M1 s1 r1 q1 h1⟩
def lRetN : LS := fun L _ M => L.rt .non M
theorem lps_retN : LPS X C W (.Return none pos) tRetN lRetN := ⟨ps_retN, fun L ρ M h Z D σ H α vs r d => d.rt .non H α .non M Step.refl r .non h⟩
def lIfS (c : LT) (t u : LS) : LS := fun L ρ M => c ρ M (fun b M1 => if b = true then t L ρ M1 else u L ρ M1) (L.px ρ)
theorem lps_if {c : Expr} {a b : List Stmt} {tc : TT} {lc : LT} (hc : LPT X C W c tc lc) (ha : LPSs X C W a t l) (hb : LPSs X C W b u m) : LPS X C W (.If c a b pos) (tIfS tc t u) (lIfS lc l m) := ⟨ps_if hc.pt ha.ps hb.ps, fun L ρ M h Z D σ H α vs r d =>
  hc.lo.bind h vs r (d.wk vs) fun b H1 α1 M1 s1 r1 h1 vs1 wk1 => by
    cases b with
    | true => exact ha.lo L ρ M1 h1 _ D σ H1 α1 vs1 r1 (d.step s1)
    | false => exact hb.lo L ρ M1 h1 _ D σ H1 α1 vs1 r1 (d.step s1)⟩
def lNever : LS := fun _ _ _ => False
theorem lps_never : LPS X C W st tNever lNever := ⟨ps_never, fun _ _ _ h => h.elim⟩
theorem lpss_never {sts : List Stmt} : LPSs X C W sts tNever lNever := ⟨pss_never, fun _ _ _ h => h.elim⟩
/-- name = value -/
def lSet (i : Nat) (le : LE) : LS := fun L ρ M => le ρ M (fun x M1 => L.nx (ρ.set i (some x)) M1) (L.px ρ)
theorem VS.set {α : List Addr} {H : Hp} {σ : L2.St} {ρ : Rho} (vs : VS C α H σ ρ) (i : Nat) {v : V} {x : DV} (q : VR C α H v x) : VS C α H (σ.set i (some v)) (ρ.set i (some x)) := by
  refine ⟨by rw [List.length_set, List.length_set]; exact vs.len, fun j d h => ?_⟩
  by_cases e : j = i
  · subst e
    by_cases hl : j < ρ.length
    · rw [List.getElem?_set_self hl] at h
      cases h
      exact ⟨v, List.getElem?_set_self (by rw [vs.len]; exact hl), q⟩
    · rw [List.getElem?_eq_none (by rw [List.length_set]; omega)] at h; cases h
  · rw [List.getElem?_set_ne (Ne.symm e)] at h
    rw [List.getElem?_set_ne (Ne.symm e)]
    exact vs.get j d h
theorem lo_set {i : Nat} (he : LoE C W te le) : LoS C W (tAsg te (gName i)) (lSet i le) := fun L ρ M h Z D σ H α vs r d =>
  he.bind h vs r (d.wk vs) fun v H1 α1 x M1 s1 r1 q1 h1 vs1 wk1 => d.nx _ H1 α1 _ M1 s1 (vs1.set i q1) r1 h1
theorem lps_set {i : Nat} {x : Str} {pos' : Pos} (hN : X.N.Nodup) (hi : X.N[i]? = some x) (hx : Loc X.env.scope x) (he : LPE X C W e te le) (hs : swapsWith e (some (.Name x pos')) pos.line X.env = pure false := by rfl) (hf : X.fn x = true ∨ X.env.scope.names.lookup x = some .local := by first | exact .inl rfl | exact .inr rfl | assumption) :
    LPS X C W (.Assign [.Name x pos'] e pos) (tAsg te (gName i)) (lSet i le) := ⟨ps_set hN hi hx he.pe hs hf, lo_set he.lo⟩
/-- name += e: as name = name + e -/
def lAug (i : Nat) (lr : DV → DV → Mem → PD → Prop) (le : LE) : LS := fun L ρ M => ∃ x, ρ[i]? = some (some x) ∧ le ρ M (fun y M1 => lr x y M1 (fun z M2 => L.nx (ρ.set i (some z)) M2)) (L.px ρ)
end
/-! ### targets -/
abbrev LG := DV → Rho → Mem → (Rho → Mem → Prop) → Prop
abbrev LGs := List DV → Rho → Mem → (Rho → Mem → Prop) → Prop
def KtS (C : Cn) (α : List Addr) (H : Hp) (P : Rho → Mem → Prop) (Q : L2.St → Hp → Prop) : Prop := ∀ σ' H' α' ρ' M', Step C α H α' H' → VS C α' H' σ' ρ' → RS C α' M' H' → P ρ' M' → Q σ' H'
def LoG (C : Cn) (tg : TG) (l : LG) : Prop := ∀ x ρ M P, l x ρ M P → ∀ v Z σ H α Q, VR (C.wz Z) α H v x → VS (C.wz Z) α H σ ρ → RS (C.wz Z) α M H → KtS (C.wz Z) α H P Q → tg v σ H Q
def LoGs (C : Cn) (tg : TGs) (l : LGs) : Prop := ∀ x ρ M P, l x ρ M P → ∀ v Z σ H α Q, VRs (C.wz Z) α H v x → VS (C.wz Z) α H σ ρ → RS (C.wz Z) α M H → KtS (C.wz Z) α H P Q → tg v σ H Q
structure LPG (X : Cx) (C : Cn) (e : Expr) (tg : TG) (l : LG) : Prop where
  pg : PG X e tg
  lo : LoG C tg l
structure LPGs (X : Cx) (C : Cn) (es : List Expr) (tg : TGs) (l : LGs) : Prop where
  pg : PGs X es tg
  lo : LoGs C tg l
section
variable {X : Cx} {C : Cn} {W : WX} {pos : Pos} {e : Expr} {es : List Expr} {te : TE} {le : LE} {g : TG} {lg : LG} {gs : TGs} {lgs : LGs}
def lgName (i : Nat) : LG := fun x ρ M P => P (ρ.set i (some x)) M
theorem lo_gName {i : Nat} : LoG C (gName i) (lgName i) := fun x ρ M P h v Z σ H α Q q vs r k => k _ H α _ M Step.refl (vs.set i q) r h
theorem lpg_name {i : Nat} {x : Str} (hN : X.N.Nodup) (hi : X.N[i]? = some x) (hx : Loc X.env.scope x) (hf : X.fn x = true ∨ X.env.scope.names.lookup x = some .local := by first | exact .inl rfl | exact .inr rfl | assumption) : LPG X C (.Name x pos) (gName i) (lgName i) := ⟨pg_name hN hi hx hf, lo_gName⟩
def lgNil : LGs := fun vs ρ M P => vs = [] ∧ P ρ M
def lgCons (t : LG) (u : LGs) : LGs := fun vs ρ M P => ∃ x r, vs = x :: r ∧ t x ρ M fun ρ' M' => u r ρ' M' P
theorem lpgs_nil : LPGs X C [] gNil lgNil := ⟨pgs_nil, fun x ρ M P h v Z σ H α Q q vs r k => by
  obtain ⟨rfl, h⟩ := h
  cases q
  exact ⟨rfl, k σ H α ρ M Step.refl vs r h⟩⟩
theorem lpgs_cons (h1 : LPG X C e g lg) (h2 : LPGs X C es gs lgs) (hs : (assignEach (e :: es) X.env).map (·.2) = assign e X.env :: (assignEach es X.env).map (·.2) := by rfl) : LPGs X C (e :: es) (gCons g gs) (lgCons lg lgs) :=
  ⟨pgs_cons h1.pg h2.pg hs, fun x ρ M P h v Z σ H α Q q vs r k => by
    obtain ⟨d, ds, rfl, h⟩ := h
    cases q with
    | cons q0 qs =>
      rename_i v0 v1
      exact ⟨v0, v1, rfl, h1.lo d ρ M _ h v0 _ σ H α _ q0 vs r fun σ1 H1 α1 ρ1 M1 s1 vs1 r1 p1 =>
        h2.lo ds ρ1 M1 P p1 _ _ σ1 H1 α1 Q (VRs.step qs s1) vs1 r1 fun σ2 H2 α2 ρ2 M2 s2 => k σ2 H2 α2 ρ2 M2 (s1.trans s2)⟩⟩
/-- (a, b, ..) = a tuple of data -/
def lgTup (n : Nat) (t : LGs) : LG := fun v ρ M P => ∃ ds : List D, v = .dat (.tup ds) ∧ ds.length = n ∧ t (ds.map DV.dat) ρ M P
theorem lpg_tup_k0 {k : Nat} {n : Nat} (hc : X.calm = true) (hK : X.K = C.K) (h : LPGs X C es gs lgs) (hn : (assignEach es X.env).length = n := by rfl) (hst : (assignEach es X.env).findIdx? (·.1) = none := by rfl) : LPG X C (.Tuple es k pos) (gTup X.K n gs) (lgTup n lgs) :=
  ⟨pg_tup hc h.pg hn hst, fun x ρ M P g v Z σ H α Q q vs r kk => by
    obtain ⟨ds, rfl, hl, g⟩ := g
    cases q with
    | tup ht hs =>
      rename_i a xs
      exact ⟨a, xs, rfl, by rw [hK]; exact ht.sq, by rw [hs.length]; exact hl, h.lo _ ρ M P g xs _ σ H α Q hs.rs vs r kk⟩⟩
theorem lpg_tup {k : Nat} {n : Nat} (hc : X.calm = true) (hK : X.K = C.K) (h : LPGs X C es gs lgs) (hn : (assignEach es X.env).length = n := by rfl) (hst : (assignEach es X.env).findIdx? (·.1) = none := by rfl) : LPG X C (.Tuple es k pos) (gTup C.K n gs) (lgTup n lgs) := by
  rw [← hK]
  apply lpg_tup_k0 <;> assumption
/-- target = value -/
def lAsg (le : LE) (g : LG) : LS := fun L ρ M => le ρ M (fun x M1 => g x ρ M1 L.nx) (L.px ρ)
theorem lps_asg {tg : Expr} (he : LPE X C W e te le) (hg : LPG X C tg g lg) (hs : swapsWithSole [tg] e pos.line X.env = pure false := by rfl) (hw : swappedStores [tg] e X.env = pure none := by rfl)
    (h1 : (assignEach [tg] X.env).map (·.2) = [assign tg X.env] := by rfl) : LPS X C W (.Assign [tg] e pos) (tAsg te g) (lAsg le lg) := ⟨ps_asg he.pe hg.pg hs hw h1, fun L ρ M h Z D σ H α vs r d =>
  he.lo.bind h vs r (d.wk vs) fun v H1 α1 x M1 s1 r1 q1 h1 vs1 wk1 => hg.lo x ρ M1 _ h1 v _ σ H1 α1 _ q1 vs1 r1 fun σ2 H2 α2 ρ2 M2 s2 vs2 r2 p2 => d.nx σ2 H2 α2 ρ2 M2 (s1.trans s2) vs2 r2 p2⟩
end
end L3

namespace L3
open PySem L2

/-! ### what is dropped: the newest objects -/
section
variable {C : Cn} {α α0 : List Addr} {H H0 : Hp} {M : Mem} {n : Nat}
theorem Mv.take : Mv (C.N α) H (C.N (α.take n)) H := ⟨fun _ _ h _ => h, fun b o h q z => q (z.imp (fun z => List.mem_of_mem_take z) id)⟩
theorem VR.drop {v : V} {d : DV} (r : VR C α H v d) (h : okDV n d = true) : VR C (α.take n) H v d := by
  cases d with
  | dat d => exact VD.mv Mv.take r
  | obj k =>
    obtain ⟨a, e, q⟩ := r
    have hk : k < n := of_decide_eq_true h
    exact ⟨a, by rw [List.getElem?_take_of_lt hk]; exact e, q⟩
theorem VRs.drop : ∀ {xs : List V} {ds : List DV}, VRs C α H xs ds → ds.all (okDV n) = true → VRs C (α.take n) H xs ds
  | _, _, .nil, _ => .nil
  | _, _, .cons r t, h => by
    rw [List.all_cons, Bool.and_eq_true] at h
    exact .cons (r.drop h.1) (VRs.drop t h.2)
theorem KVR.drop {κ : Type} : ∀ {xs : List (κ × V)} {ds : List (κ × DV)}, KVR C α H xs ds → (ds.all fun p => okDV n p.2) = true → KVR C (α.take n) H xs ds
  | _, _, .nil, _ => .nil
  | _, _, .cons r t, h => by
    rw [List.all_cons, Bool.and_eq_true] at h
    exact .cons ⟨r.1, r.2.drop h.1⟩ (KVR.drop t h.2)
theorem MR.drop {a : Addr} {o : MO} (r : MR C α H a o) (h : okMO n o = true) : MR C (α.take n) H a o := by
  cases o with
  | lst ds => obtain ⟨xs, e, q⟩ := r; exact ⟨xs, e, q.drop h⟩
  | dK ds => obtain ⟨xs, e, q⟩ := r; exact ⟨xs, e, KVR.drop q h⟩
  | ins D ds => obtain ⟨dx, xs, e, q⟩ := r; exact ⟨dx, xs, e, KVR.drop q h⟩
theorem RS.drop (r : RS C α M H) (h : (M.take n).all (okMO n) = true) : RS C (α.take n) (M.take n) H := by
  refine ⟨⟨by rw [List.length_take, List.length_take, r.hr.len], fun i a o h1 h2 => ?_⟩, r.nd.sublist (List.take_sublist _ _), r.tb, r.zd, r.tq⟩
  have hi : i < n := by
    have := (List.getElem?_eq_some_iff.mp h1).1
    rw [List.length_take] at this
    omega
  have mo : okMO n o = true := List.all_eq_true.mp h o (List.mem_of_getElem? h2)
  rw [List.getElem?_take_of_lt hi] at h1 h2
  exact (r.hr.get i a o h1 h2).drop mo
theorem Step.drop (s : Step C α0 H0 α H) (h : α0.length ≤ n) : Step C α0 H0 (α.take n) H := by
  obtain ⟨β, e, f⟩ := s.ext
  refine ⟨⟨β.take (n - α0.length), by rw [e, List.take_append, List.take_of_length_le h], fun b hb => f b (List.mem_of_mem_take hb)⟩, s.keep, s.dom⟩
end
def DropD (k : Nat) (P : PD) : PD := fun d M => ∃ n, k ≤ n ∧ okDV n d = true ∧ (M.take n).all (okMO n) = true ∧ P d (M.take n)
def DropX (k : Nat) (P : PXn) : LX → Rho → Mem → Prop := fun x _ M => ∃ n, k ≤ n ∧ (M.take n).all (okMO n) = true ∧ P x (M.take n)
theorem DropD.keep {k : Nat} {P : PD} {d : DV} {M : Mem} (n : Nat) (hk : k ≤ n) (hd : okDV n d = true) (hM : (M.take n).all (okMO n) = true) (p : P d (M.take n)) : DropD k P d M := ⟨n, hk, hd, hM, p⟩
theorem XR.drop {C : Cn} {α : List Addr} {H : Hp} {n : Nat} {cls : Value} {d : Option Addr} {x : LX} (r : XR C α H cls d x) : XR C (α.take n) H cls d x := by
  obtain ⟨h1, h2⟩ := r
  refine ⟨h1, h2.imp id fun ⟨dd, ps, e1, e2, e3, e4⟩ => ⟨dd, ps, e1, e2, fun z => e3 (z.imp (fun z => List.mem_of_mem_take z) id), ?_⟩⟩
  exact Paired.mapP e4 fun p q z => ⟨z.1, z.2.mv Mv.take⟩

/-! ### promises -/
abbrev LSp := List DV → Mem → PD → PXn → Prop
def low (K : PySem.W.Frag) (T : Tb) (lsp : LSp) : Sp := fun vs H Q E => ∃ (Z α : List Addr) (ds : List DV) (M : Mem) (P : PD) (PX : PXn), RS ⟨K, T, Z⟩ α M H ∧ VRs ⟨K, T, Z⟩ α H vs ds ∧ lsp ds M P PX ∧ Kt ⟨K, T, Z⟩ α H P Q ∧
  ∀ cls d H' α' M' x, Step ⟨K, T, Z⟩ α H α' H' → RS ⟨K, T, Z⟩ α' M' H' → XR ⟨K, T, Z⟩ α' H' cls d x → PX x M' → E cls d H'
def startL (N : List Str) (ds : List DV) : Rho := ds.map some ++ List.replicate (N.length - ds.length) none
theorem start_vs {C : Cn} {α : List Addr} {H : Hp} {N : List Str} : ∀ {vs : List V} {ds : List DV}, VRs C α H vs ds → VS C α H (L2.start N vs) (startL N ds) := fun {vs ds} r => by
  refine ⟨by unfold L2.start startL; simp [VRs.length r], fun i d h => ?_⟩
  unfold startL at h
  unfold L2.start
  by_cases hi : i < ds.length
  · rw [List.getElem?_append_left (by rw [List.length_map]; exact hi), List.getElem?_map] at h
    rw [List.getElem?_append_left (by rw [List.length_map, VRs.length r]; exact hi), List.getElem?_map]
    have hg : ∀ {vs : List V} {ds : List DV} {i : Nat} {d : DV}, VRs C α H vs ds → ds[i]? = some d → ∃ v, vs[i]? = some v ∧ VR C α H v d := by
      intro vs ds
      induction vs generalizing ds with
      | nil => intro i d r e; cases r; simp at e
      | cons v vs ih =>
        intro i d r e
        cases r with
        | cons r0 rt =>
          cases i with
          | zero => simp at e; subst e; exact ⟨v, rfl, r0⟩
          | succ i => obtain ⟨w, h1, h2⟩ := ih rt (i := i) (by simpa using e); exact ⟨w, by simpa using h1, h2⟩
    cases e : ds[i]? with
    | none => rw [e] at h; simp at h
    | some d' =>
      rw [e] at h
      simp at h
      subst h
      obtain ⟨v, h1, h2⟩ := hg r e
      exact ⟨v, by rw [h1]; rfl, h2⟩
  · rw [List.getElem?_append_right (by rw [List.length_map]; omega), List.getElem?_replicate] at h
    split at h <;> simp at h
abbrev W0 : WX := fun _ _ _ _ => False
abbrev WF (E : XK) : WX := fun cls d _ H => E cls d H
section
variable {P : Program} {w : World} {K : PySem.W.Frag} {mg : Str → Option Value} {base : Heap}
theorem ends_top {C : Cn} {α : List Addr} {H : Hp} {M : Mem} {Q : VK} {P : PD} (hl : α.length = M.length) (kt : Kt C α H P Q) (W : WX) (PX : LX → Rho → Mem → Prop) (hx : ∀ cls d σ H' α' ρ M' x, Step C α H α' H' → VS C α' H' σ ρ → RS C α' M' H' → XR C α' H' cls d x → PX x ρ M' → W cls d σ H') :
    EndsR C α H W { nx := fun _ M' => DropD M.length P .non M', rt := DropD M.length P, ex := PX } { nx := fun _ H' => Q .non H', rt := Q } := by
  have go : ∀ v H' α' d M', Step C α H α' H' → RS C α' M' H' → VR C α' H' v d → DropD M.length P d M' → Q v H' := fun v H' α' d M' s r q ⟨n, hn, hd, hM, p⟩ =>
    kt v H' (α'.take n) d (M'.take n) (s.drop (by rw [hl]; exact hn)) (r.drop hM) (q.drop hd) p
  exact ⟨fun σ H' α' ρ M' s vs r p => go .non H' α' .non M' s r .non p, fun v H' α' d M' s r q p => go v H' α' d M' s r q p, fun _ _ _ _ _ _ _ _ h => h.elim, fun _ _ _ _ _ _ _ _ h => h.elim, hx⟩
/-- THE RULE for a def that lets nothing out -/
theorem okL {x qual : Str} {st : Stmt} {f : Addr} {fd : FuncData} {N ps : List Str} {k : Nat} {T : Tb} {lsp : LSp} (F : Fun K x qual st f fd) (S : FnScope N ps (defScope st)) (len : ∀ ds M P PX, lsp ds M P PX → ds.length = ps.length)
    (hbody : ∀ (cdv : Value) (A : Around) (outer : List Env) (s : Shared) (H : Hp) (E : XK), Room k (A.deeper (PyProof.Rows.envOfC qual (defScope st) s.heap.objs.size f cdv)) →
      ∃ ts l, LPSs (cxOf CX0 P w K mg base N qual (defScope st) f cdv A outer s H E).nox ⟨K, T, []⟩ W0 (defBody st) ts l ∧ ∀ ds M Pd PX, lsp ds M Pd PX → l { nx := fun _ M' => DropD M.length Pd .non M', rt := DropD M.length Pd } (startL N ds) M) :
    FnOk P w K mg base CX0 (k + 1) f fd ps (low K T lsp) := by
  refine F.ok S (fun vs H Q E h => ?_) (fun cdv A outer s H vs Q E hr h => ?_)
  · obtain ⟨Z, α, ds, M, Pd, PX, _, r, h, _⟩ := h
    rw [VRs.length r]
    exact len _ _ _ _ h
  · obtain ⟨Z, α, ds, M, Pd, PX, rs, r, h, kt, _⟩ := h
    obtain ⟨ts, l, hp, hl⟩ := hbody cdv A outer s H E hr
    exact ⟨ts, hp.ps, hp.lo _ _ _ (hl ds M Pd PX h) Z _ _ H α (start_vs r) rs (ends_top rs.hr.len kt W0 _ fun _ _ _ _ _ _ _ _ _ _ _ _ h => h)⟩
/-- .. for a def that may raise -/
theorem okLX {x qual : Str} {st : Stmt} {f : Addr} {fd : FuncData} {N ps : List Str} {k : Nat} {T : Tb} {lsp : LSp} (F : Fun K x qual st f fd) (S : FnScope N ps (defScope st)) (len : ∀ ds M P PX, lsp ds M P PX → ds.length = ps.length)
    (hbody : ∀ (cdv : Value) (A : Around) (outer : List Env) (s : Shared) (H : Hp) (E : XK), Room k (A.deeper (PyProof.Rows.envOfC qual (defScope st) s.heap.objs.size f cdv)) →
      ∃ ts l, LPSs (cxOf (L2.CX P w) P w K mg base N qual (defScope st) f cdv A outer s H E) ⟨K, T, []⟩ (WF E) (defBody st) ts l ∧ ∀ ds M Pd PX, lsp ds M Pd PX → l { nx := fun _ M' => DropD M.length Pd .non M', rt := DropD M.length Pd, ex := DropX M.length PX } (startL N ds) M) :
    FnOk P w K mg base (L2.CX P w) (k + 1) f fd ps (low K T lsp) := by
  refine F.okX S (fun vs H Q E h => ?_) (fun cdv A outer s H vs Q E hr h => ?_)
  · obtain ⟨Z, α, ds, M, Pd, PX, _, r, h, _⟩ := h
    rw [VRs.length r]
    exact len _ _ _ _ h
  · obtain ⟨Z, α, ds, M, Pd, PX, rs, r, h, kt, kx⟩ := h
    obtain ⟨ts, l, hp, hl⟩ := hbody cdv A outer s H E hr
    exact ⟨ts, hp.ps, hp.lo _ _ _ (hl ds M Pd PX h) Z _ _ H α (start_vs r) rs (ends_top rs.hr.len kt (WF E) _ fun cls d σ H' α' ρ M' x s _ r q ⟨n, hn, hM, p⟩ =>
      kx cls d H' (α'.take n) (M'.take n) x (s.drop (by rw [rs.hr.len]; exact hn)) (r.drop hM) q.drop p)⟩
end

/-! ### calls: the callee knows some of the objects, by names of its own -/
def ren (f : List Nat) (m k : Nat) : Nat := if k < f.length then f.getD k 0 else m + (k - f.length)
def renDV (f : List Nat) (m : Nat) : DV → DV
  | .dat d => .dat d
  | .obj k => .obj (ren f m k)
def renMO (f : List Nat) (m : Nat) : MO → MO
  | .lst xs => .lst (xs.map (renDV f m))
  | .dK kvs => .dK (kvs.map fun p => (p.1, renDV f m p.2))
  | .ins C fs => .ins C (fs.map fun p => (p.1, renDV f m p.2))
def putAll : List Nat → List MO → Mem → Mem
  | i :: f, o :: os, M => putAll f os (M.set i o)
  | _, _, M => M
def merge (f : List Nat) (M M' : Mem) : Mem := putAll f ((M'.take f.length).map (renMO f M.length)) M ++ (M'.drop f.length).map (renMO f M.length)
def CallAt (lsp : LSp) (ds : List DV) (M : Mem) (P : PD) (PX : PXn) : Prop := ∃ (f : List Nat) (cds : List DV) (cM : Mem), f.Nodup ∧ cds.all (okDV f.length) = true ∧ ds = cds.map (renDV f M.length) ∧ cM.all (okMO f.length) = true ∧
  f.map (fun i => M[i]?) = cM.map (fun o => some (renMO f M.length o)) ∧ lsp cds cM (fun d M' => P (renDV f M.length d) (merge f M M')) (fun x M' => PX x (merge f M M'))
theorem putAll_length : ∀ (f : List Nat) (os : List MO) (M : Mem), (putAll f os M).length = M.length
  | [], _, _ => by unfold putAll; rfl
  | _ :: _, [], _ => by unfold putAll; rfl
  | i :: f, o :: os, M => by
    show (putAll f os (M.set i o)).length = _
    rw [putAll_length f os, List.length_set]
theorem putAll_not : ∀ (f : List Nat) (os : List MO) (M : Mem) (i : Nat), i ∉ f → (putAll f os M)[i]? = M[i]?
  | [], _, _, _, _ => by unfold putAll; rfl
  | _ :: _, [], _, _, _ => by unfold putAll; rfl
  | j :: f, o :: os, M, i, h => by
    show (putAll f os (M.set j o))[i]? = _
    rw [putAll_not f os _ i (fun z => h (List.mem_cons_of_mem _ z)), List.getElem?_set_ne (fun e => h (by rw [e]; exact List.mem_cons_self))]
theorem putAll_at : ∀ (f : List Nat) (os : List MO) (M : Mem) (i j : Nat) (o : MO), f.Nodup → f[j]? = some i → os[j]? = some o → i < M.length → (putAll f os M)[i]? = some o
  | [], _, _, _, _, _, _, h, _, _ => by simp at h
  | _ :: _, [], _, _, _, _, _, _, h, _ => by simp at h
  | k :: f, q :: os, M, i, 0, o, nd, h1, h2, hl => by
    simp at h1 h2
    subst h1 h2
    show (putAll f os (M.set k q))[k]? = _
    rw [putAll_not f os _ k (List.nodup_cons.mp nd).1, List.getElem?_set_self hl]
  | k :: f, q :: os, M, i, j + 1, o, nd, h1, h2, hl => putAll_at f os _ i j o (List.nodup_cons.mp nd).2 (by simpa using h1) (by simpa using h2) (by rw [List.length_set]; exact hl)

section
variable {C : Cn} {α β : List Addr} {H : Hp} {f : List Nat}
/-- the callee's objects, by the caller's addresses -/
def sub (α : List Addr) (f : List Nat) : List Addr := f.map fun i => α.getD i 0
abbrev Cn.inner (C : Cn) (α : List Addr) : Cn := ⟨C.K, C.T, α ++ C.Z⟩
theorem sub_mem (hf : ∀ i ∈ f, i < α.length) {b : Addr} (h : b ∈ sub α f) : b ∈ α := by
  obtain ⟨i, hi, e⟩ := List.mem_map.mp h
  rw [← e, List.getD_eq_getElem?_getD, List.getElem?_eq_getElem (hf i hi)]
  exact List.getElem_mem _
theorem sub_get (hf : ∀ i ∈ f, i < α.length) {j i : Nat} (h : f[j]? = some i) : (sub α f)[j]? = α[i]? := by
  unfold sub
  rw [List.getElem?_map, h]
  have hi := hf i (List.mem_of_getElem? h)
  simp [List.getElem?_eq_getElem hi]
theorem innerN (hf : ∀ i ∈ f, i < α.length) (b : Addr) : (C.inner α).N (sub α f ++ β) b ↔ C.N (α ++ β) b := by
  constructor
  · rintro (z | z | z)
    · rcases List.mem_append.mp z with z | z
      · exact .inl (List.mem_append_left _ (sub_mem hf z))
      · exact .inl (List.mem_append_right _ z)
    · exact .inr (.inl z)
    · rcases List.mem_append.mp z with z | z
      · exact .inl (List.mem_append_left _ z)
      · exact .inr (.inr z)
  · rintro (z | z | z)
    · rcases List.mem_append.mp z with z | z
      · exact .inr (.inr (List.mem_append_left _ z))
      · exact .inl (List.mem_append_right _ z)
    · exact .inr (.inl z)
    · exact .inr (.inr (List.mem_append_right _ z))
theorem VD.congr {K : PySem.W.Frag} {N N' : Addr → Prop} {H : Hp} {v : V} {d : D} (h : ∀ b, N b ↔ N' b) (r : VD K N H v d) : VD K N' H v d := r.mv ⟨fun _ _ e _ => e, fun b _ _ n z => n ((h b).mpr z)⟩
/-- out of the callee -/
theorem VR.out (hf : ∀ i ∈ f, i < α.length) {v : V} {d : DV} (r : VR (C.inner α) (sub α f ++ β) H v d) : VR C (α ++ β) H v (renDV f α.length d) := by
  cases d with
  | dat d => exact VD.congr (innerN hf) r
  | obj k =>
    obtain ⟨a, e, q⟩ := r
    refine ⟨a, ?_, q⟩
    show (α ++ β)[ren f α.length k]? = some a
    unfold ren
    have hs : (sub α f).length = f.length := by unfold sub; rw [List.length_map]
    by_cases hk : k < f.length
    · rw [if_pos hk, List.getD_eq_getElem?_getD, List.getElem?_eq_getElem hk]
      rw [List.getElem?_append_left (by rw [hs]; exact hk), sub_get hf (List.getElem?_eq_getElem hk)] at e
      show (α ++ β)[f[k]]? = some a
      rw [List.getElem?_append_left (hf _ (List.getElem_mem hk))]
      exact e
    · rw [if_neg hk, List.getElem?_append_right (by omega), Nat.add_sub_cancel_left]
      rw [List.getElem?_append_right (by rw [hs]; omega), hs] at e
      exact e
/-- into the callee -/
theorem VR.inn (hf : ∀ i ∈ f, i < α.length) {v : V} {d : DV} (ok : okDV f.length d = true) (r : VR C α H v (renDV f α.length d)) : VR (C.inner α) (sub α f) H v d := by
  have hN : ∀ b, C.N α b ↔ (C.inner α).N (sub α f) b := fun b => by
    have := innerN (C := C) (β := []) hf b
    rw [List.append_nil, List.append_nil] at this
    exact this.symm
  cases d with
  | dat d => exact VD.congr hN r
  | obj k =>
    have hk : k < f.length := of_decide_eq_true ok
    obtain ⟨a, e, q⟩ := r
    refine ⟨a, ?_, q⟩
    rw [sub_get hf (List.getElem?_eq_getElem hk)]
    have e2 : α[ren f α.length k]? = some a := e
    unfold ren at e2
    rw [if_pos hk, List.getD_eq_getElem?_getD, List.getElem?_eq_getElem hk] at e2
    exact e2
theorem VRs.out (hf : ∀ i ∈ f, i < α.length) : ∀ {vs : List V} {ds : List DV}, VRs (C.inner α) (sub α f ++ β) H vs ds → VRs C (α ++ β) H vs (ds.map (renDV f α.length))
  | _, _, .nil => .nil
  | _, _, .cons r t => .cons (r.out hf) (VRs.out hf t)
theorem VRs.inn (hf : ∀ i ∈ f, i < α.length) : ∀ {ds : List DV} {vs : List V}, ds.all (okDV f.length) = true → VRs C α H vs (ds.map (renDV f α.length)) → VRs (C.inner α) (sub α f) H vs ds
  | [], _, _, .nil => .nil
  | d :: ds, _, ok, .cons r t => by
    rw [List.all_cons, Bool.and_eq_true] at ok
    exact .cons (r.inn hf ok.1) (VRs.inn hf ok.2 t)
theorem KVR.out {κ : Type} (hf : ∀ i ∈ f, i < α.length) : ∀ {vs : List (κ × V)} {ds : List (κ × DV)}, KVR (C.inner α) (sub α f ++ β) H vs ds → KVR C (α ++ β) H vs (ds.map fun p => (p.1, renDV f α.length p.2))
  | _, _, .nil => .nil
  | _, _, .cons r t => .cons ⟨r.1, r.2.out hf⟩ (KVR.out hf t)
theorem KVR.inn {κ : Type} (hf : ∀ i ∈ f, i < α.length) : ∀ {ds : List (κ × DV)} {vs : List (κ × V)}, (ds.all fun p => okDV f.length p.2) = true → KVR C α H vs (ds.map fun p => (p.1, renDV f α.length p.2)) → KVR (C.inner α) (sub α f) H vs ds
  | [], _, _, .nil => .nil
  | d :: ds, _, ok, .cons r t => by
    rw [List.all_cons, Bool.and_eq_true] at ok
    exact .cons ⟨r.1, r.2.inn hf ok.1⟩ (KVR.inn hf ok.2 t)
theorem MR.out (hf : ∀ i ∈ f, i < α.length) {a : Addr} {o : MO} (r : MR (C.inner α) (sub α f ++ β) H a o) : MR C (α ++ β) H a (renMO f α.length o) := by
  cases o with
  | lst ds => obtain ⟨xs, e, q⟩ := r; exact ⟨xs, e, q.out hf⟩
  | dK ds => obtain ⟨xs, e, q⟩ := r; exact ⟨xs, e, KVR.out hf q⟩
  | ins D ds => obtain ⟨dx, xs, e, q⟩ := r; exact ⟨dx, xs, e, KVR.out hf q⟩
theorem MR.inn (hf : ∀ i ∈ f, i < α.length) {a : Addr} {o : MO} (ok : okMO f.length o = true) (r : MR C α H a (renMO f α.length o)) : MR (C.inner α) (sub α f) H a o := by
  cases o with
  | lst ds => obtain ⟨xs, e, q⟩ := r; exact ⟨xs, e, VRs.inn hf ok q⟩
  | dK ds => obtain ⟨xs, e, q⟩ := r; exact ⟨xs, e, KVR.inn hf ok q⟩
  | ins D ds => obtain ⟨dx, xs, e, q⟩ := r; exact ⟨dx, xs, e, KVR.inn hf ok q⟩
end
section
variable {C : Cn} {α α' : List Addr} {H H' : Hp} {M cM M' : Mem} {f : List Nat}
theorem foot_lt (hr : α.length = M.length) (hm : f.map (fun i => M[i]?) = cM.map (fun o => some (renMO f M.length o))) : ∀ i ∈ f, i < α.length := fun i hi => by
  have h1 : M[i]? ∈ f.map (fun i => M[i]?) := List.mem_map.mpr ⟨i, hi, rfl⟩
  rw [hm] at h1
  obtain ⟨o, _, e⟩ := List.mem_map.mp h1
  rw [hr]
  exact (List.getElem?_eq_some_iff.mp e.symm).1
theorem foot_get (hm : f.map (fun i => M[i]?) = cM.map (fun o => some (renMO f M.length o))) {j i : Nat} (hj : f[j]? = some i) : ∃ o, cM[j]? = some o ∧ M[i]? = some (renMO f M.length o) := by
  have h1 : (f.map (fun i => M[i]?))[j]? = some M[i]? := by rw [List.getElem?_map, hj]; rfl
  rw [hm, List.getElem?_map] at h1
  cases e : cM[j]? with
  | none => rw [e] at h1; cases h1
  | some o =>
    rw [e] at h1
    exact ⟨o, rfl, (Option.some.inj h1).symm⟩
theorem RS.inn (r : RS C α M H) (nd : f.Nodup) (ok : cM.all (okMO f.length) = true) (hm : f.map (fun i => M[i]?) = cM.map (fun o => some (renMO f M.length o))) : RS (C.inner α) (sub α f) cM H := by
  have hf := foot_lt r.hr.len hm
  have hl : f.length = cM.length := by
    have := congrArg List.length hm
    rw [List.length_map, List.length_map] at this
    exact this
  refine ⟨⟨by unfold sub; rw [List.length_map]; exact hl, fun n a o h1 h2 => ?_⟩, ?_, r.tb, fun z hz => ?_, fun p hp => (r.tq p hp).keep (r.tabAt hp) (fun _ _ h _ => h) fun b q h n z => (List.mem_append.mp z).elim (r.notCode h) n⟩
  · have hn : n < f.length := by rw [hl]; exact (List.getElem?_eq_some_iff.mp h2).1
    have hj := List.getElem?_eq_getElem hn
    rw [sub_get hf hj] at h1
    obtain ⟨o', e1, e2⟩ := foot_get hm hj
    rw [h2] at e1
    cases e1
    have q := r.hr.get _ a _ h1 e2
    rw [← r.hr.len] at q
    exact q.inn hf (List.all_eq_true.mp ok o (List.mem_of_getElem? h2))
  · unfold sub
    rw [List.Nodup, List.pairwise_map]
    refine List.Pairwise.imp_of_mem ?_ nd
    intro i j hi hj ne e
    have h1 := hf i hi
    have h2 := hf j hj
    rw [List.getD_eq_getElem?_getD, List.getD_eq_getElem?_getD, List.getElem?_eq_getElem h1, List.getElem?_eq_getElem h2] at e
    exact ne ((List.getElem_inj r.nd).mp e)
  · rcases List.mem_append.mp hz with z | z
    · exact r.hr.mem z
    · exact r.zd _ z
theorem RS.out (r : RS C α M H) (hf : ∀ i ∈ f, i < α.length) (nd : f.Nodup) {α1 : List Addr} (s : Step (C.inner α) (sub α f) H α1 H') (r1 : RS (C.inner α) α1 M' H') :
    ∃ β, α1 = sub α f ++ β ∧ RS C (α ++ β) (merge f M M') H' ∧ Step C α H (α ++ β) H' := by
  obtain ⟨β, e, fr⟩ := s.ext
  subst e
  have hs : (sub α f).length = f.length := by unfold sub; rw [List.length_map]
  have hl1 : M'.length = f.length + β.length := by rw [← r1.hr.len, List.length_append, hs]
  have st : Step C α H (α ++ β) H' := ⟨⟨β, rfl, fr⟩, fun b o h n t => s.keep b o h (fun z => n (sub_mem hf z)) t, s.dom⟩
  refine ⟨β, rfl, ⟨⟨?_, fun n a o h1 h2 => ?_⟩, ?_, r1.tb, fun z hz => r1.zd z (List.mem_append_right _ hz), fun p hp => (r1.tq p hp).keep (r1.tabAt hp) (fun _ _ h _ => h) fun b q h n z => n (List.mem_append_right _ z)⟩, st⟩
  · unfold merge
    rw [List.length_append, List.length_append, putAll_length, List.length_map, List.length_drop, r.hr.len]
    omega
  · unfold merge at h2
    by_cases hn : n < α.length
    · rw [List.getElem?_append_left hn] at h1
      rw [List.getElem?_append_left (by rw [putAll_length, ← r.hr.len]; exact hn)] at h2
      by_cases hm : n ∈ f
      · obtain ⟨j, hj, ej⟩ := List.getElem_of_mem hm
        have hj' : f[j]? = some n := by rw [List.getElem?_eq_getElem hj, ej]
        have hjM : j < M'.length := by omega
        have hos : ((M'.take f.length).map (renMO f M.length))[j]? = some (renMO f M.length M'[j]) := by
          rw [List.getElem?_map, List.getElem?_take_of_lt hj, List.getElem?_eq_getElem hjM]
          rfl
        rw [putAll_at f _ M n j _ nd hj' hos (by rw [← r.hr.len]; exact hn)] at h2
        cases h2
        have q := r1.hr.get j a M'[j] (by rw [List.getElem?_append_left (by rw [hs]; exact hj), sub_get hf hj']; exact h1) (List.getElem?_eq_getElem hjM)
        rw [← r.hr.len]
        exact q.out hf
      · rw [putAll_not f _ M n hm] at h2
        have q := r.hr.get n a o h1 h2
        obtain ⟨u, eu⟩ := q.some
        refine q.step st ?_
        rw [eu]
        refine s.keep a u eu (fun z => ?_) (r.noT h1 h2)
        obtain ⟨i, hi, e⟩ := List.mem_map.mp z
        have h3 := hf i hi
        rw [List.getD_eq_getElem?_getD, List.getElem?_eq_getElem h3] at e
        have : n = i := nd_ix r.nd h1 (by rw [List.getElem?_eq_getElem h3]; exact congrArg some e)
        exact hm (by rw [this]; exact hi)
    · rw [List.getElem?_append_right (by omega)] at h1
      rw [List.getElem?_append_right (by rw [putAll_length, ← r.hr.len]; omega), putAll_length, List.getElem?_map, List.getElem?_drop, ← r.hr.len] at h2
      cases e : M'[f.length + (n - α.length)]? with
      | none => rw [e] at h2; cases h2
      | some o' =>
        rw [e] at h2
        cases h2
        exact (r1.hr.get (f.length + (n - α.length)) a o' (by rw [List.getElem?_append_right (by rw [hs]; omega), hs, Nat.add_sub_cancel_left]; exact h1) e).out hf
  · rw [List.nodup_append]
    refine ⟨r.nd, (List.nodup_append.mp r1.nd).2.1, fun a ha b hb e => ?_⟩
    subst e
    obtain ⟨u, eu⟩ := r.hr.mem ha
    rw [fr a hb] at eu
    cases eu
theorem XR.out (hf : ∀ i ∈ f, i < α.length) {β : List Addr} {cls : Value} {d : Option Addr} {x : LX} (r : XR (C.inner α) (sub α f ++ β) H cls d x) : XR C (α ++ β) H cls d x := by
  obtain ⟨h1, h2⟩ := r
  refine ⟨h1, h2.imp id fun ⟨dd, ps, e1, e2, e3, e4⟩ => ⟨dd, ps, e1, e2, fun z => e3 ((innerN hf dd).mpr z), ?_⟩⟩
  exact Paired.mapP e4 fun p q z => ⟨z.1, z.2.congr (innerN hf)⟩
/-- the callee's promise, from the caller's side -/
theorem call_low {lsp : LSp} {ds : List DV} {vs : List V} {P : PD} {PX : PXn} {Q : VK} {E : XK} (h : CallAt lsp ds M P PX) (r : RS C α M H) (q : VRs C α H vs ds) (kt : Kt C α H P Q)
    (kx : ∀ cls d H' α' M' x, Step C α H α' H' → RS C α' M' H' → XR C α' H' cls d x → PX x M' → E cls d H') : low C.K C.T lsp vs H Q E := by
  obtain ⟨f, cds, cM, nd, okd, e, okm, hm, h⟩ := h
  subst e
  have hf := foot_lt r.hr.len hm
  rw [← r.hr.len] at q
  refine ⟨α ++ C.Z, sub α f, cds, cM, _, _, r.inn nd okm hm, q.inn hf okd, h, fun v H' α1 d M1 s r1 q1 p => ?_, fun cls d H' α1 M1 x s r1 q1 p => ?_⟩
  · obtain ⟨β, e, r2, s2⟩ := r.out hf nd s r1
    subst e
    refine kt v H' (α ++ β) _ _ s2 r2 ?_ p
    rw [← r.hr.len]
    exact q1.out hf
  · obtain ⟨β, e, r2, s2⟩ := r.out hf nd s r1
    subst e
    exact kx cls d H' (α ++ β) _ x s2 r2 (q1.out hf) p
end
/-- f(..), nothing is let out -/
def lCall (lsp : LSp) (la : LA) : LE := fun ρ M P PX => la ρ M (fun ds M1 => CallAt lsp ds M1 P fun _ _ => False) PX
/-- f(..), what it raises goes on -/
def lCallX (lsp : LSp) (la : LA) : LE := fun ρ M P PX => la ρ M (fun ds M1 => CallAt lsp ds M1 P PX) PX
section
variable {X : Cx} {C : Cn} {W : WX} {CX : CXT} {k : Nat} {f D : Addr} {fd : FuncData} {ps : List Str} {lsp : LSp} {x m : Str} {p pos apos : Pos} {e o : Expr} {es : List Expr} {ta : TA} {la : LA} {to : TE} {lo : LE}
theorem lo_call (ha : LoA C W ta la) : LoE C W (tCall (low C.K C.T lsp) [] E0 ta) (lCall lsp la) := fun ρ M P PX h Z σ H α Q vs rs kt wk =>
  ha.bind h vs rs wk fun us H1 α1 ds M1 s1 r1 q1 h1 vs1 wk1 => by
    rw [List.append_nil]
    exact call_low (C := C.wz Z) h1 r1 q1 (kt.step s1) fun _ _ _ _ _ _ _ _ _ h => h.elim
theorem lp_call_k0 (F : FnOk X.prog X.w X.K X.mg X.base CX0 k f fd ps (low X.K C.T lsp)) (hK : X.K = C.K) (hr : Room k X.A) (hg : Gl X x) (hm : X.mg x = some (.ref f)) (hk : PySem.W.keepIn X.K (.ref f) = true) (hb : Binds X.K fd ps [])
    (ha : LPA X C W (e :: es) ta la) (hdb : (x == ("__debug__" : Str)) = false := by decide) (he : starEach (e :: es) X.env = (false, eval e X.env) :: starEach es X.env := by rfl) (hpl : (backTo pos (starEach es X.env)).any (·.1) = false := by rfl) :
    LPE X C W (.Call (.Name x p) (e :: es) [] pos) (tCall (low X.K C.T lsp) [] E0 ta) (lCall lsp la) := ⟨pe_call F hr hg hm hk hb .nil pass0 ha.pa hdb he hpl, by rw [hK]; exact lo_call ha.lo⟩
theorem lp_call (F : FnOk X.prog X.w X.K X.mg X.base CX0 k f fd ps (low X.K C.T lsp)) (hK : X.K = C.K) (hr : Room k X.A) (hg : Gl X x) (hm : X.mg x = some (.ref f)) (hk : PySem.W.keepIn X.K (.ref f) = true) (hb : Binds X.K fd ps [])
    (ha : LPA X C W (e :: es) ta la) (hdb : (x == ("__debug__" : Str)) = false := by decide) (he : starEach (e :: es) X.env = (false, eval e X.env) :: starEach es X.env := by rfl) (hpl : (backTo pos (starEach es X.env)).any (·.1) = false := by rfl) : LPE X C W (.Call (.Name x p) (e :: es) [] pos) (tCall (low C.K C.T lsp) [] E0 ta) (lCall lsp la) := by
  rw [← hK]
  apply lp_call_k0 <;> assumption
theorem lp_call0_k0 (F : FnOk X.prog X.w X.K X.mg X.base CX0 k f fd ps (low X.K C.T lsp)) (hK : X.K = C.K) (hr : Room k X.A) (hg : Gl X x) (hm : X.mg x = some (.ref f)) (hk : PySem.W.keepIn X.K (.ref f) = true) (hb : Binds X.K fd ps [])
    (hdb : (x == ("__debug__" : Str)) = false := by decide) : LPE X C W (.Call (.Name x p) [] [] pos) (tCall (low X.K C.T lsp) [] E0 tNil) (lCall lsp lNil) := ⟨pe_call0 F hr hg hm hk hb .nil pass0 hdb, by rw [hK]; exact lo_call (lpa_nil (X := X)).lo⟩
theorem lp_call0 (F : FnOk X.prog X.w X.K X.mg X.base CX0 k f fd ps (low X.K C.T lsp)) (hK : X.K = C.K) (hr : Room k X.A) (hg : Gl X x) (hm : X.mg x = some (.ref f)) (hk : PySem.W.keepIn X.K (.ref f) = true) (hb : Binds X.K fd ps [])
    (hdb : (x == ("__debug__" : Str)) = false := by decide) : LPE X C W (.Call (.Name x p) [] [] pos) (tCall (low C.K C.T lsp) [] E0 tNil) (lCall lsp lNil) := by
  rw [← hK]
  apply lp_call0_k0 <;> assumption
theorem lo_callX (ha : LoA C W ta la) : LoE C W (tCallS (low C.K C.T lsp) (WE W) ta) (lCallX lsp la) := fun ρ M P PX h Z σ H α Q vs rs kt wk =>
  ha.bind h vs rs wk fun us H1 α1 ds M1 s1 r1 q1 h1 vs1 wk1 => call_low (C := C.wz Z) h1 r1 q1 (kt.step s1) fun cls d H2 α2 M2 x s2 r2 q2 p2 => wk1 cls d H2 α2 M2 x s2 r2 q2 p2
theorem lp_callX_k0 (F : FnOk X.prog X.w X.K X.mg X.base (L2.CX X.prog X.w) k f fd ps (low X.K C.T lsp)) (hK : X.K = C.K) (tk : Takes X W) (hr : Room k X.A) (hg : Gl X x) (hm : X.mg x = some (.ref f)) (hk : PySem.W.keepIn X.K (.ref f) = true) (hb : Binds X.K fd ps [])
    (ha : LPA X C W (e :: es) ta la) (hdb : (x == ("__debug__" : Str)) = false := by decide) (he : starEach (e :: es) X.env = (false, eval e X.env) :: starEach es X.env := by rfl) (hpl : (backTo pos (starEach es X.env)).any (·.1) = false := by rfl) :
    LPE X C W (.Call (.Name x p) (e :: es) [] pos) (tCallS (low X.K C.T lsp) (WE W) ta) (lCallX lsp la) := ⟨pe_callS F hr hg hm hk hb (fun σ => passAt tk σ) ha.pa hdb he hpl, by rw [hK]; exact lo_callX ha.lo⟩
theorem lp_callX (F : FnOk X.prog X.w X.K X.mg X.base (L2.CX X.prog X.w) k f fd ps (low X.K C.T lsp)) (hK : X.K = C.K) (tk : Takes X W) (hr : Room k X.A) (hg : Gl X x) (hm : X.mg x = some (.ref f)) (hk : PySem.W.keepIn X.K (.ref f) = true) (hb : Binds X.K fd ps [])
    (ha : LPA X C W (e :: es) ta la) (hdb : (x == ("__debug__" : Str)) = false := by decide) (he : starEach (e :: es) X.env = (false, eval e X.env) :: starEach es X.env := by rfl) (hpl : (backTo pos (starEach es X.env)).any (·.1) = false := by rfl) : LPE X C W (.Call (.Name x p) (e :: es) [] pos) (tCallS (low C.K C.T lsp) (WE W) ta) (lCallX lsp la) := by
  rw [← hK]
  apply lp_callX_k0 <;> assumption
/-- o.m(..) of a known instance of the class at D -/
def lMeth (D : Addr) (m : Str) (lsp : LSp) (lo : LE) (la : LA) : LE := fun ρ M P PX => lo ρ M (fun x M1 => ∃ n fs, x = .obj n ∧ M1[n]? = some (.ins D fs) ∧ fs.lookup m = none ∧ la ρ M1 (fun ds M2 => CallAt lsp (.obj n :: ds) M2 P fun _ _ => False) PX) PX
theorem KVR.lookup_none {α : List Addr} {H : Hp} {m : Str} : ∀ {ps : List (Str × V)} {fs : List (Str × DV)}, KVR C α H ps fs → fs.lookup m = none → ps.lookup m = none
  | _, _, .nil, _ => rfl
  | (n, v) :: ps, (n', d) :: fs, .cons ⟨e, q⟩ t, h => by
    have e' : n = n' := e
    subst e'
    rw [List.lookup_cons] at h ⊢
    split at h
    · cases h
    · exact KVR.lookup_none t h
theorem KVR.lookup_some {α : List Addr} {H : Hp} {m : Str} : ∀ {ps : List (Str × V)} {fs : List (Str × DV)} {d : DV}, KVR C α H ps fs → fs.lookup m = some d → ∃ v, ps.lookup m = some v ∧ VR C α H v d
  | _, _, _, .nil, h => by cases h
  | (n, v) :: ps, (n', d0) :: fs, d, .cons ⟨e, q⟩ t, h => by
    have e' : n = n' := e
    subst e'
    rw [List.lookup_cons] at h ⊢
    split at h
    · cases h; exact ⟨v, rfl, q⟩
    · exact KVR.lookup_some t h
theorem lo_meth (ho : LoE C W to lo) (ha : LoA C W ta la) : LoE C W (tMeth D m (low C.K C.T lsp) [] E0 to ta) (lMeth D m lsp lo la) := fun ρ M P PX h Z σ H α Q vs rs kt wk =>
  ho.bind h vs rs wk fun v H1 α1 x M1 s1 r1 q1 h1 vs1 wk1 => by
    obtain ⟨n, fs, rfl, hn, hl, h1⟩ := h1
    obtain ⟨a, ea, rfl⟩ := q1
    obtain ⟨dx, gs, eh, kv⟩ := r1.hr.get n a _ ea hn
    refine ⟨a, dx, gs, rfl, eh, kv.lookup_none hl, ha.bind h1 vs1 r1 wk1 fun us H2 α2 ds M2 s2 r2 q2 h2 vs2 wk2 => ?_⟩
    rw [List.append_nil]
    exact call_low (C := C.wz Z) h2 r2 (.cons (VR.step (d := .obj n) ⟨a, ea, rfl⟩ s2) q2) (kt.step (s1.trans s2)) fun _ _ _ _ _ _ _ _ _ h => h.elim
theorem lp_meth_k0 {pl : Sem Bool} (he : LPE X C W o to lo) (c : Cls X.K D) (hm : Meth X.K D m f) (F : FnOk X.prog X.w X.K X.mg X.base CX0 k f fd ps (low X.K C.T lsp)) (hK : X.K = C.K) (hr : Room k X.A) (hb : Binds X.K fd ps []) (ha : LPA X C W (e :: es) ta la)
    (hst : starEach (e :: es) X.env = (false, eval e X.env) :: starEach es X.env := by rfl) (hpl : (backTo pos (starEach es X.env)).any (·.1) = false := by rfl)
    (ht : eval (.Call (.Attribute o m apos) (e :: es) [] pos) X.env = (do
      let ov ← eval o X.env
      standAt apos.atName
      let (f, first) ← holding [ov] (getMethod ov m pl)
      callWith pos f first (backTo pos (starEach (e :: es) X.env)) (backToKw pos (keywordEach [] X.env))) := by rfl) :
    LPE X C W (.Call (.Attribute o m apos) (e :: es) [] pos) (tMeth D m (low X.K C.T lsp) [] E0 to ta) (lMeth D m lsp lo la) := ⟨pe_meth he.pe c hm F hr hb .nil pass0 ha.pa hst hpl ht, by rw [hK]; exact lo_meth he.lo ha.lo⟩
theorem lp_meth {pl : Sem Bool} (he : LPE X C W o to lo) (c : Cls X.K D) (hm : Meth X.K D m f) (F : FnOk X.prog X.w X.K X.mg X.base CX0 k f fd ps (low X.K C.T lsp)) (hK : X.K = C.K) (hr : Room k X.A) (hb : Binds X.K fd ps []) (ha : LPA X C W (e :: es) ta la)
    (hst : starEach (e :: es) X.env = (false, eval e X.env) :: starEach es X.env := by rfl) (hpl : (backTo pos (starEach es X.env)).any (·.1) = false := by rfl)
    (ht : eval (.Call (.Attribute o m apos) (e :: es) [] pos) X.env = (do
      let ov ← eval o X.env
      standAt apos.atName
      let (f, first) ← holding [ov] (getMethod ov m pl)
      callWith pos f first (backTo pos (starEach (e :: es) X.env)) (backToKw pos (keywordEach [] X.env))) := by rfl) : LPE X C W (.Call (.Attribute o m apos) (e :: es) [] pos) (tMeth D m (low C.K C.T lsp) [] E0 to ta) (lMeth D m lsp lo la) := by
  rw [← hK]
  apply lp_meth_k0 <;> assumption
theorem lp_meth0_k0 {pl : Sem Bool} (he : LPE X C W o to lo) (c : Cls X.K D) (hm : Meth X.K D m f) (F : FnOk X.prog X.w X.K X.mg X.base CX0 k f fd ps (low X.K C.T lsp)) (hK : X.K = C.K) (hr : Room k X.A) (hb : Binds X.K fd ps [])
    (ht : eval (.Call (.Attribute o m apos) [] [] pos) X.env = (do
      let ov ← eval o X.env
      standAt apos.atName
      let (f, first) ← holding [ov] (getMethod ov m pl)
      callWith pos f first (backTo pos (starEach [] X.env)) (backToKw pos (keywordEach [] X.env))) := by rfl) :
    LPE X C W (.Call (.Attribute o m apos) [] [] pos) (tMeth D m (low X.K C.T lsp) [] E0 to tNil) (lMeth D m lsp lo lNil) := ⟨pe_meth0 he.pe c hm F hr hb .nil pass0 ht, by rw [hK]; exact lo_meth he.lo (lpa_nil (X := X)).lo⟩
theorem lp_meth0 {pl : Sem Bool} (he : LPE X C W o to lo) (c : Cls X.K D) (hm : Meth X.K D m f) (F : FnOk X.prog X.w X.K X.mg X.base CX0 k f fd ps (low X.K C.T lsp)) (hK : X.K = C.K) (hr : Room k X.A) (hb : Binds X.K fd ps [])
    (ht : eval (.Call (.Attribute o m apos) [] [] pos) X.env = (do
      let ov ← eval o X.env
      standAt apos.atName
      let (f, first) ← holding [ov] (getMethod ov m pl)
      callWith pos f first (backTo pos (starEach [] X.env)) (backToKw pos (keywordEach [] X.env))) := by rfl) : LPE X C W (.Call (.Attribute o m apos) [] [] pos) (tMeth D m (low C.K C.T lsp) [] E0 to tNil) (lMeth D m lsp lo lNil) := by
  rw [← hK]
  apply lp_meth0_k0 <;> assumption
/-- C(..): a new instance, then __init__ -/
def lMake (D : Addr) (lsp : LSp) (la : LA) : LE := fun ρ M P PX => la ρ M (fun ds M1 => CallAt lsp (.obj M1.length :: ds) (M1 ++ [.ins D []]) (fun v M2 => v = .non ∧ P (.obj M1.length) M2) fun _ _ => False) PX
theorem lo_make (ha : LoA C W ta la) : LoE C W (tMake D (low C.K C.T lsp) [] E0 ta) (lMake D lsp la) := fun ρ M P PX h Z σ H α Q vs rs kt wk =>
  ha.bind h vs rs wk fun us H1 α1 ds M1 s1 r1 q1 h1 vs1 wk1 => fun x dx hx hdx ne => by
    rw [List.append_nil]
    obtain ⟨r2, s2⟩ := r1.new1 (o := .own x) hdx
    have hx2 : upd H1 dx (.own x) x = none := by rw [upd_ne (Ne.symm ne)]; exact hx
    obtain ⟨r3, s3⟩ := r2.newM (o := .ins D dx []) (mo := .ins D []) hx2 ⟨dx, [], upd_same, .nil⟩
    have st := s2.trans s3
    have hob : VR (C.wz Z) (α1 ++ [x]) (upd (upd H1 dx (.own x)) x (.ins D dx [])) (.ref x) (.obj M1.length) := ⟨x, by rw [← r1.hr.len]; simp, rfl⟩
    refine call_low (C := C.wz Z) h1 r3 (.cons hob (VRs.step q1 st)) (fun v H4 α4 d M4 s4 r4 q4 ⟨e4, p4⟩ => ?_) fun _ _ _ _ _ _ _ _ _ h => h.elim
    subst e4
    cases q4
    exact ⟨rfl, kt _ H4 α4 (.obj M1.length) M4 ((s1.trans st).trans s4) r4 (hob.step s4) p4⟩
theorem lp_make_k0 (Mk0 : Mk X.K D f) (F : FnOk X.prog X.w X.K X.mg X.base CX0 k f fd ps (low X.K C.T lsp)) (hK : X.K = C.K) (hr : Room (k + 1) X.A) (hg : Gl X x) (hm : X.mg x = some (.ref D)) (hb : Binds X.K fd ps [])
    (ha : LPA X C W (e :: es) ta la) (hdb : (x == ("__debug__" : Str)) = false := by decide) (he : starEach (e :: es) X.env = (false, eval e X.env) :: starEach es X.env := by rfl) (hpl : (backTo pos (starEach es X.env)).any (·.1) = false := by rfl) :
    LPE X C W (.Call (.Name x p) (e :: es) [] pos) (tMake D (low X.K C.T lsp) [] E0 ta) (lMake D lsp la) := ⟨pe_make Mk0 F hr hg hm hb .nil pass0 ha.pa hdb he hpl, by rw [hK]; exact lo_make ha.lo⟩
theorem lp_make (Mk0 : Mk X.K D f) (F : FnOk X.prog X.w X.K X.mg X.base CX0 k f fd ps (low X.K C.T lsp)) (hK : X.K = C.K) (hr : Room (k + 1) X.A) (hg : Gl X x) (hm : X.mg x = some (.ref D)) (hb : Binds X.K fd ps [])
    (ha : LPA X C W (e :: es) ta la) (hdb : (x == ("__debug__" : Str)) = false := by decide) (he : starEach (e :: es) X.env = (false, eval e X.env) :: starEach es X.env := by rfl) (hpl : (backTo pos (starEach es X.env)).any (·.1) = false := by rfl) : LPE X C W (.Call (.Name x p) (e :: es) [] pos) (tMake D (low C.K C.T lsp) [] E0 ta) (lMake D lsp la) := by
  rw [← hK]
  apply lp_make_k0 <;> assumption
theorem lp_make0_k0 (Mk0 : Mk X.K D f) (F : FnOk X.prog X.w X.K X.mg X.base CX0 k f fd ps (low X.K C.T lsp)) (hK : X.K = C.K) (hr : Room (k + 1) X.A) (hg : Gl X x) (hm : X.mg x = some (.ref D)) (hb : Binds X.K fd ps [])
    (hdb : (x == ("__debug__" : Str)) = false := by decide) : LPE X C W (.Call (.Name x p) [] [] pos) (tMake D (low X.K C.T lsp) [] E0 tNil) (lMake D lsp lNil) := ⟨pe_make0 Mk0 F hr hg hm hb .nil pass0 hdb, by rw [hK]; exact lo_make (lpa_nil (X := X)).lo⟩
theorem lp_make0 (Mk0 : Mk X.K D f) (F : FnOk X.prog X.w X.K X.mg X.base CX0 k f fd ps (low X.K C.T lsp)) (hK : X.K = C.K) (hr : Room (k + 1) X.A) (hg : Gl X x) (hm : X.mg x = some (.ref D)) (hb : Binds X.K fd ps [])
    (hdb : (x == ("__debug__" : Str)) = false := by decide) : LPE X C W (.Call (.Name x p) [] [] pos) (tMake D (low C.K C.T lsp) [] E0 tNil) (lMake D lsp lNil) := by
  rw [← hK]
  apply lp_make0_k0 <;> assumption
/-- o.f, o.f = e -/
def lFld (lo : LE) (f : Str) : LE := fun ρ M P PX => lo ρ M (fun x M1 => ∃ n D fs d, x = .obj n ∧ M1[n]? = some (.ins D fs) ∧ fs.lookup f = some d ∧ P d M1) PX
end
end L3

namespace L3
open PySem L2

/-! ### fields -/
def putFD (f : Str) (v : DV) : List (Str × DV) → List (Str × DV)
  | [] => [(f, v)]
  | (g, x) :: r => if g = f then (g, v) :: r else (g, x) :: putFD f v r
theorem KVR.putF {C : Cn} {α : List Addr} {H : Hp} {f : Str} {v : V} {d : DV} (q : VR C α H v d) : ∀ {ps : List (Str × V)} {fs : List (Str × DV)}, KVR C α H ps fs → KVR C α H (L2.putF f v ps) (putFD f d fs)
  | _, _, .nil => .cons ⟨rfl, q⟩ .nil
  | (n, x) :: ps, (n', y) :: fs, .cons ⟨e, r⟩ t => by
    have e' : n = n' := e
    subst e'
    show KVR C α H (if n = f then (n, v) :: ps else (n, x) :: L2.putF f v ps) (if n = f then (n, d) :: fs else (n, y) :: putFD f d fs)
    by_cases h : n = f
    · rw [if_pos h, if_pos h]; exact .cons ⟨rfl, q⟩ t
    · rw [if_neg h, if_neg h]; exact .cons ⟨rfl, r⟩ (KVR.putF q t)
theorem KVR.length {κ : Type} {C : Cn} {α : List Addr} {H : Hp} {ps : List (κ × V)} {fs : List (κ × DV)} (h : KVR C α H ps fs) : ps.length = fs.length := Paired.length h
def lFldOf (D : Addr) (lo : LE) (f : Str) : LE := fun ρ M P PX => lo ρ M (fun x M1 => ∃ n fs d, x = .obj n ∧ M1[n]? = some (.ins D fs) ∧ fs.lookup f = some d ∧ P d M1) PX
/-- o.f = e (e first) -/
def lSetFld (D : Addr) (lo lv : LE) (f : Str) : LS := fun L ρ M => lv ρ M (fun y M1 => lo ρ M1 (fun x M2 => ∃ n fs, x = .obj n ∧ M2[n]? = some (.ins D fs) ∧ fs.length < 1000 ∧ L.nx ρ (M2.set n (.ins D (putFD f y fs)))) (L.px ρ)) (L.px ρ)
section
variable {X : Cx} {C : Cn} {W : WX} {D : Addr} {f : Str} {pos pos' : Pos} {o value : Expr} {to tv : TE} {lo lv : LE}
theorem lp_fld_k0 (ho : LPE X C W o to lo) (hK : X.K = C.K) (c : Cls X.K D) (hn : NoAttr X.K D f) (hb : attributeBase o f X.env (eval o X.env) = eval o X.env := by rfl) : LPE X C W (.Attribute o f pos) (tFld X.K to f) (lFldOf D lo f) := ⟨pe_fld ho.pe hb, fun ρ M P PX h Z σ H α Q vs rs k wk =>
  ho.lo.bind h vs rs wk fun v H1 α1 x M1 s1 r1 q1 h1 vs1 wk1 => by
    obtain ⟨n, fs, d, rfl, hM, hl, p⟩ := h1
    obtain ⟨a, ea, rfl⟩ := q1
    obtain ⟨dx, ps, eh, kv⟩ := r1.hr.get n a _ ea hM
    obtain ⟨w, ew, q⟩ := kv.lookup_some hl
    exact ⟨a, D, dx, ps, w, rfl, eh, c, hn, ew, (k.step s1).now r1 q p⟩⟩
theorem lp_fld (ho : LPE X C W o to lo) (hK : X.K = C.K) (c : Cls X.K D) (hn : NoAttr X.K D f) (hb : attributeBase o f X.env (eval o X.env) = eval o X.env := by rfl) : LPE X C W (.Attribute o f pos) (tFld C.K to f) (lFldOf D lo f) := by
  rw [← hK]
  apply lp_fld_k0 <;> assumption
theorem lps_fld_k0 (ho : LPE X C W o to lo) (hv : LPE X C W value tv lv) (hK : X.K = C.K) (c : Cls X.K D) (hn : NoAttr X.K D f) (hs : swapsWith value (some (.Attribute o f pos')) pos.line X.env = pure false := by rfl) : LPS X C W (.Assign [.Attribute o f pos'] value pos) (sFld X.K to tv f) (lSetFld D lo lv f) :=
  ⟨ps_fld ho.pe hv.pe hs, fun L ρ M h Z E σ H α vs r d =>
    hv.lo.bind h vs r (d.wk vs) fun v H1 α1 y M1 s1 r1 q1 h1 vs1 wk1 => ho.lo.bind h1 vs1 r1 wk1 fun u H2 α2 x M2 s2 r2 q2 h2 vs2 wk2 => by
      obtain ⟨n, fs, rfl, hM, hl, p⟩ := h2
      obtain ⟨a, ea, rfl⟩ := q2
      obtain ⟨dx, ps, eh, kv⟩ := r2.hr.get n a _ ea hM
      have st : Step (C.wz Z) α2 H2 α2 (upd H2 a (.ins D dx (L2.putF f v ps))) := (r2.put (mo := .lst []) (o := .lst []) ea ⟨[], upd_same, .nil⟩ (r2.noT ea hM)).2 |> fun _ => ⟨⟨[], by simp, by simp⟩, fun b o h n _ => by rw [upd_ne (fun e => n (by rw [e]; exact List.mem_of_getElem? ea))]; exact h, fun b o h => by
        by_cases e : b = a
        · subst e; exact ⟨_, upd_same⟩
        · exact ⟨o, by rw [upd_ne e]; exact h⟩⟩
      obtain ⟨r3, s3⟩ := r2.put (mo := .ins D (putFD f y fs)) ea ⟨dx, _, upd_same, KVR.putF ((q1.step s2).step st) (KVR.step kv st)⟩ (r2.noT ea hM)
      exact ⟨a, D, dx, ps, rfl, eh, c, hn, by rw [KVR.length kv]; exact hl, d.nx σ _ α2 ρ _ ((s1.trans s2).trans s3) (vs2.step s3) r3 p⟩⟩
theorem lps_fld (ho : LPE X C W o to lo) (hv : LPE X C W value tv lv) (hK : X.K = C.K) (c : Cls X.K D) (hn : NoAttr X.K D f) (hs : swapsWith value (some (.Attribute o f pos')) pos.line X.env = pure false := by rfl) : LPS X C W (.Assign [.Attribute o f pos'] value pos) (sFld C.K to tv f) (lSetFld D lo lv f) := by
  rw [← hK]
  apply lps_fld_k0 <;> assumption
end
/-- writing at a known address -/
theorem put_step {C : Cn} {α : List Addr} {H : Hp} {n : Nat} {a : Addr} {o : HO} (ea : α[n]? = some a) : Step C α H α (upd H a o) := ⟨⟨[], by simp, by simp⟩, fun b u h n _ => by rw [upd_ne (fun e => n (by rw [e]; exact List.mem_of_getElem? ea))]; exact h, fun b u h => by
  by_cases e : b = a
  · subst e; exact ⟨o, upd_same⟩
  · exact ⟨u, by rw [upd_ne e]; exact h⟩⟩

/-! ### dicts with int and text keys -/
def keyD : Key → D
  | .inl i => .int i
  | .inr x => .str x
section
variable {κ : Type} [DecidableEq κ]
def valD (kvs : List (κ × DV)) (k : κ) : Option DV := (kvs.find? fun kv => decide (kv.1 = k)).map (·.2)
def putD (kvs : List (κ × DV)) (k : κ) (v : DV) : List (κ × DV) :=
  if (kvs.any fun kv => decide (kv.1 = k)) = true then kvs.map (fun kv => if kv.1 = k then (kv.1, v) else kv) else kvs ++ [(k, v)]
def dropD (kvs : List (κ × DV)) (k : κ) : List (κ × DV) := kvs.filter fun kv => decide (kv.1 ≠ k)
variable {C : Cn} {α : List Addr} {H : Hp}
theorem KVR.val {k : κ} : ∀ {ps : List (κ × V)} {fs : List (κ × DV)}, KVR C α H ps fs → (valV ps k = none ∧ valD fs k = none) ∨ ∃ v d, valV ps k = some v ∧ valD fs k = some d ∧ VR C α H v d
  | _, _, .nil => .inl ⟨rfl, rfl⟩
  | (n, x) :: ps, (n', y) :: fs, .cons ⟨e, q⟩ t => by
    have e' : n = n' := e
    subst e'
    by_cases h : n = k
    · exact .inr ⟨x, y, by simp [valV, List.find?_cons, h], by simp [valD, List.find?_cons, h], q⟩
    · rcases KVR.val (k := k) t with ⟨h1, h2⟩ | ⟨v, d, h1, h2, h3⟩
      · exact .inl ⟨by rw [valV_neg h]; exact h1, by simpa [valD, List.find?_cons, h] using h2⟩
      · exact .inr ⟨v, d, by rw [valV_neg h]; exact h1, by simpa [valD, List.find?_cons, h] using h2, h3⟩
theorem KVR.any {k : κ} : ∀ {ps : List (κ × V)} {fs : List (κ × DV)}, KVR C α H ps fs → (ps.any fun kv => decide (kv.1 = k)) = (fs.any fun kv => decide (kv.1 = k))
  | _, _, .nil => rfl
  | (n, x) :: ps, (n', y) :: fs, .cons ⟨e, q⟩ t => by
    have e' : n = n' := e
    subst e'
    rw [List.any_cons, List.any_cons, KVR.any t]
theorem KVR.append : ∀ {ps qs : List (κ × V)} {fs gs : List (κ × DV)}, KVR C α H ps fs → KVR C α H qs gs → KVR C α H (ps ++ qs) (fs ++ gs)
  | _, _, _, _, .nil, h => h
  | _, _, _, _, .cons a b, h => .cons a (KVR.append b h)
theorem KVR.mapk {k : κ} {v : V} {d : DV} (q : VR C α H v d) : ∀ {ps : List (κ × V)} {fs : List (κ × DV)}, KVR C α H ps fs → KVR C α H (ps.map (fun kv => if kv.1 = k then (kv.1, v) else kv)) (fs.map (fun kv => if kv.1 = k then (kv.1, d) else kv))
  | _, _, .nil => .nil
  | (n, x) :: ps, (n', y) :: fs, .cons ⟨e, r⟩ t => by
    have e' : n = n' := e
    subst e'
    rw [List.map_cons, List.map_cons]
    refine .cons ?_ (KVR.mapk q t)
    by_cases h : n = k
    · simp only [h, if_true]; exact ⟨trivial, q⟩
    · simp only [h, if_false]; exact ⟨trivial, r⟩
theorem KVR.put {k : κ} {v : V} {d : DV} (q : VR C α H v d) {ps : List (κ × V)} {fs : List (κ × DV)} (h : KVR C α H ps fs) : KVR C α H (putK ps k v) (putD fs k d) := by
  unfold putK putD
  rw [KVR.any h]
  split
  · exact KVR.mapk q h
  · exact KVR.append h (.cons ⟨rfl, q⟩ .nil)
theorem KVR.dropk {k : κ} : ∀ {ps : List (κ × V)} {fs : List (κ × DV)}, KVR C α H ps fs → KVR C α H (dropK ps k) (dropD fs k)
  | _, _, .nil => .nil
  | (n, x) :: ps, (n', y) :: fs, .cons ⟨e, r⟩ t => by
    have e' : n = n' := e
    subst e'
    unfold dropK dropD
    rw [List.filter_cons, List.filter_cons]
    by_cases h : n = k
    · simp only [h, ne_eq, not_true_eq_false, decide_false, Bool.false_eq_true, if_false]; exact KVR.dropk t
    · simp only [h, ne_eq, not_false_eq_true, decide_true, if_true]; exact .cons ⟨rfl, r⟩ (KVR.dropk t)
end
theorem keyD_of {K : PySem.W.Frag} {N : Addr → Prop} {H : Hp} {v : V} {k : Key} (h : VD K N H v (keyD k)) : v = kV k := by
  cases k with
  | inl i => cases h; rfl
  | inr x => cases h; rfl
/-- {} -/
def lDNew : LE := fun _ M P _ => P (.obj M.length) (M ++ [.dK []])
def lDGet (ld ly : LE) : LE := fun ρ M P PX => ld ρ M (fun x M1 => ly ρ M1 (fun y M2 => ∃ n kvs k d, x = .obj n ∧ M2[n]? = some (.dK kvs) ∧ y = .dat (keyD k) ∧ valD kvs k = some d ∧ P d M2) PX) PX
def lDIn (neg : Bool) (ly ld : LE) : LE := fun ρ M P PX => ly ρ M (fun y M1 => ld ρ M1 (fun x M2 => ∃ n kvs k, x = .obj n ∧ M2[n]? = some (.dK kvs) ∧ y = .dat (keyD k) ∧ P (.bl (if neg then !(valD kvs k).isSome else (valD kvs k).isSome)) M2) PX) PX
def lDGet1 (ld ly : LE) : LE := fun ρ M P PX => ld ρ M (fun x M1 => ∃ n kvs, x = .obj n ∧ M1[n]? = some (.dK kvs) ∧ ly ρ M1 (fun y M2 => ∃ k kvs2, M2[n]? = some (.dK kvs2) ∧ y = .dat (keyD k) ∧ P ((valD kvs2 k).getD .non) M2) PX) PX
def lDGet2 (ld ly lz : LE) : LE := fun ρ M P PX => ld ρ M (fun x M1 => ∃ n kvs, x = .obj n ∧ M1[n]? = some (.dK kvs) ∧ ly ρ M1 (fun y M2 => lz ρ M2 (fun z M3 => ∃ k kvs2, M3[n]? = some (.dK kvs2) ∧ y = .dat (keyD k) ∧ P ((valD kvs2 k).getD z) M3) PX) PX) PX
def lDPut (ld ly lv : LE) : LS := fun L ρ M => lv ρ M (fun v M1 => ld ρ M1 (fun x M2 => ly ρ M2 (fun y M3 => ∃ n kvs k, x = .obj n ∧ M3[n]? = some (.dK kvs) ∧ y = .dat (keyD k) ∧ kvs.length < sizeLine ∧ L.nx ρ (M3.set n (.dK (putD kvs k v)))) (L.px ρ)) (L.px ρ)) (L.px ρ)
def lDDel (ld ly : LE) : LS := fun L ρ M => ld ρ M (fun x M1 => ly ρ M1 (fun y M2 => ∃ n kvs k, x = .obj n ∧ M2[n]? = some (.dK kvs) ∧ y = .dat (keyD k) ∧ (valD kvs k).isSome = true ∧ L.nx ρ (M2.set n (.dK (dropD kvs k)))) (L.px ρ)) (L.px ρ)
section
variable {X : Cx} {C : Cn} {W : WX} {pos pos' tpos apos cpos : Pos} {o i e f value : Expr} {td ty tz tv : TE} {ld ly lz lv : LE}
theorem lp_dnew : LPE X C W (.Dict [] [] pos) tDNewK lDNew := ⟨pe_dnewK, fun ρ M P PX h Z σ H α Q vs rs k wk => fun p hp => by
  obtain ⟨r2, s2⟩ := rs.newM (o := .dK []) (mo := .dK []) hp ⟨[], upd_same, .nil⟩
  exact k _ _ _ (.obj M.length) _ s2 r2 ⟨p, by rw [← rs.hr.len]; simp, rfl⟩ h⟩
theorem dget_of {Z : List Addr} {α : List Addr} {H : Hp} {M : Mem} {n : Nat} {a : Addr} {kvs : List (Key × DV)} {k : Key} (r : RS (C.wz Z) α M H) (ea : α[n]? = some a) (hM : M[n]? = some (.dK kvs)) :
    ∃ o : Option V, DGet H a (kV k) o ∧ ((o = none ∧ valD kvs k = none) ∨ ∃ v d, o = some v ∧ valD kvs k = some d ∧ VR (C.wz Z) α H v d) := by
  obtain ⟨ps, eh, kv⟩ := r.hr.get n a _ ea hM
  exact ⟨valV ps k, .k eh, KVR.val kv⟩
theorem lp_dget (hu : X.A.units + 1 < cLine) (ho : LPE X C W o td ld) (hi : LPE X C W i ty ly) (hs : NoSl i) : LPE X C W (.Subscript o i pos) (tDGet td ty) (lDGet ld ly) := ⟨pe_dget hu ho.pe hi.pe hs, fun ρ M P PX h Z σ H α Q vs rs k wk =>
  ho.lo.bind h vs rs wk fun v H1 α1 x M1 s1 r1 q1 h1 vs1 wk1 => hi.lo.bind h1 vs1 r1 wk1 fun u H2 α2 y M2 s2 r2 q2 h2 vs2 wk2 => by
    obtain ⟨n, kvs, key, d, rfl, hM, rfl, hv, p⟩ := h2
    obtain ⟨a, ea, rfl⟩ := q1.step s2
    have ey := keyD_of q2
    subst ey
    obtain ⟨oo, hg, hh⟩ := dget_of (k := key) r2 ea hM
    rcases hh with ⟨h3, h4⟩ | ⟨v3, d3, h3, h4, h5⟩
    · rw [hv] at h4; cases h4
    · rw [hv] at h4; cases h4
      subst h3
      exact ⟨a, v3, rfl, hg, (k.step (s1.trans s2)).now r2 h5 p⟩⟩
theorem lo_din (neg : Bool) {tr : TE → TE → TE} (htr : tr = fun ty td => if neg then tDNotIn ty td else tDIn ty td) (hi : LoE C W ty ly) (ho : LoE C W td ld) : LoE C W (tr ty td) (lDIn neg ly ld) := fun ρ M P PX h Z σ H α Q vs rs k wk => by
  subst htr
  have key : ∀ v u H2 α2 y x M2, Step (C.wz Z) α H α2 H2 → RS (C.wz Z) α2 M2 H2 → VR (C.wz Z) α2 H2 u y → VR (C.wz Z) α2 H2 v x → (∃ n kvs k, x = .obj n ∧ M2[n]? = some (.dK kvs) ∧ y = .dat (keyD k) ∧ P (.bl (if neg then !(valD kvs k).isSome else (valD kvs k).isSome)) M2) →
      ∃ a oo, v = .ref a ∧ DGet H2 a u oo ∧ Q (.bl (if neg then !oo.isSome else oo.isSome)) H2 := fun v u H2 α2 y x M2 s r qy qx ⟨n, kvs, ky, e1, hM, e2, p⟩ => by
    subst e1 e2
    obtain ⟨a, ea, rfl⟩ := qx
    have ey := keyD_of qy
    subst ey
    obtain ⟨oo, hg, hh⟩ := dget_of (k := ky) r ea hM
    refine ⟨a, oo, rfl, hg, (k.step s).now r (d := .bl _) (.bl _) ?_⟩
    rcases hh with ⟨h3, h4⟩ | ⟨v3, d3, h3, h4, h5⟩
    · rw [h4] at p; rw [h3]; exact p
    · rw [h4] at p; rw [h3]; exact p
  cases neg with
  | true => exact hi.bind h vs rs wk fun u H1 α1 y M1 s1 r1 q1 h1 vs1 wk1 => ho.bind h1 vs1 r1 wk1 fun v H2 α2 x M2 s2 r2 q2 h2 vs2 wk2 => key v u H2 α2 y x M2 (s1.trans s2) r2 (q1.step s2) q2 h2
  | false => exact hi.bind h vs rs wk fun u H1 α1 y M1 s1 r1 q1 h1 vs1 wk1 => ho.bind h1 vs1 r1 wk1 fun v H2 α2 x M2 s2 r2 q2 h2 vs2 wk2 => key v u H2 α2 y x M2 (s1.trans s2) r2 (q1.step s2) q2 h2
theorem lp_din (hu : X.A.units + 1 < cLine) (hi : LPE X C W i ty ly) (ho : LPE X C W o td ld) (hm : behindInMarks .In o = false := by rfl) : LPE X C W (.Compare i [.In] [o] pos) (tDIn ty td) (lDIn false ly ld) := ⟨pe_cmp (pc_din hu hi.pe ho.pe) hm, lo_din false rfl hi.lo ho.lo⟩
theorem lp_dnotin (hu : X.A.units + 1 < cLine) (hi : LPE X C W i ty ly) (ho : LPE X C W o td ld) (hm : behindInMarks .NotIn o = false := by rfl) : LPE X C W (.Compare i [.NotIn] [o] pos) (tDNotIn ty td) (lDIn true ly ld) := ⟨pe_cmp (pc_dnotin hu hi.pe ho.pe) hm, lo_din true rfl hi.lo ho.lo⟩
theorem lpt_din (hu : X.A.units + 1 < cLine) (hi : LPE X C W i ty ly) (ho : LPE X C W o td ld) (hm : behindInMarks .In o = false := by rfl) : LPT X C W (.Compare i [.In] [o] pos) (tB (tDIn ty td)) (lTest (lDIn false ly ld)) := ⟨pt_cmp (pc_din hu hi.pe ho.pe) hm, lo_tB (lo_din false rfl hi.lo ho.lo)⟩
theorem lpt_dnotin (hu : X.A.units + 1 < cLine) (hi : LPE X C W i ty ly) (ho : LPE X C W o td ld) (hm : behindInMarks .NotIn o = false := by rfl) : LPT X C W (.Compare i [.NotIn] [o] pos) (tB (tDNotIn ty td)) (lTest (lDIn true ly ld)) := ⟨pt_cmp (pc_dnotin hu hi.pe ho.pe) hm, lo_tB (lo_din true rfl hi.lo ho.lo)⟩
theorem lp_dget1 (hu : X.A.units + 1 < cLine) (ho : LPE X C W o td ld) (he : LPE X C W e ty ly) (m : M1 X o "get" apos e cpos) : LPE X C W (.Call (.Attribute o "get" apos) [e] [] cpos) (tDGet1 td ty) (lDGet1 ld ly) := ⟨pe_dget1 hu ho.pe he.pe m, fun ρ M P PX h Z σ H α Q vs rs k wk =>
  ho.lo.bind h vs rs wk fun v H1 α1 x M1 s1 r1 q1 h1 vs1 wk1 => by
    obtain ⟨n, kvs, rfl, hM, h1⟩ := h1
    obtain ⟨a, ea, rfl⟩ := _root_.id q1
    obtain ⟨ps, eh, kv⟩ := r1.hr.get n a _ ea hM
    refine ⟨a, rfl, .inl ⟨ps, .inl eh⟩, he.lo.bind h1 vs1 r1 wk1 fun u H2 α2 y M2 s2 r2 q2 h2 vs2 wk2 => ?_⟩
    obtain ⟨ky, kvs2, hM2, rfl, p⟩ := h2
    obtain ⟨a', ea', e'⟩ := q1.step s2
    cases e'
    have ey := keyD_of q2
    subst ey
    obtain ⟨oo, hg, hh⟩ := dget_of (k := ky) r2 ea' hM2
    refine ⟨oo, hg, (k.step (s1.trans s2)).now (d := (valD kvs2 ky).getD .non) r2 ?_ p⟩
    rcases hh with ⟨h3, h4⟩ | ⟨v3, d3, h3, h4, h5⟩
    · rw [h3, h4]; exact .non
    · rw [h3, h4]; exact h5⟩
theorem lp_dget2 (hu : X.A.units + 1 < cLine) (ho : LPE X C W o td ld) (he : LPE X C W e ty ly) (hf : LPE X C W f tz lz) (m : M2 X o "get" apos e f cpos) : LPE X C W (.Call (.Attribute o "get" apos) [e, f] [] cpos) (tDGet2 td ty tz) (lDGet2 ld ly lz) := ⟨pe_dget2 hu ho.pe he.pe hf.pe m, fun ρ M P PX h Z σ H α Q vs rs k wk =>
  ho.lo.bind h vs rs wk fun v H1 α1 x M1 s1 r1 q1 h1 vs1 wk1 => by
    obtain ⟨n, kvs, rfl, hM, h1⟩ := h1
    obtain ⟨a, ea, rfl⟩ := _root_.id q1
    obtain ⟨ps, eh, kv⟩ := r1.hr.get n a _ ea hM
    refine ⟨a, rfl, .inl ⟨ps, .inl eh⟩, he.lo.bind h1 vs1 r1 wk1 fun u H2 α2 y M2 s2 r2 q2 h2 vs2 wk2 => hf.lo.bind h2 vs2 r2 wk2 fun u3 H3 α3 z M3 s3 r3 q3 h3 vs3 wk3 => ?_⟩
    obtain ⟨ky, kvs2, hM2, rfl, p⟩ := h3
    obtain ⟨a', ea', e'⟩ := q1.step (s2.trans s3)
    cases e'
    have ey := keyD_of (VR.step q2 s3)
    subst ey
    obtain ⟨oo, hg, hh⟩ := dget_of (k := ky) r3 ea' hM2
    refine ⟨oo, hg, (k.step ((s1.trans s2).trans s3)).now (d := (valD kvs2 ky).getD z) r3 ?_ p⟩
    rcases hh with ⟨h3, h4⟩ | ⟨v3, d3, h3, h4, h5⟩
    · rw [h3, h4]; exact q3
    · rw [h3, h4]; exact h5⟩
theorem lps_dput (hu : X.A.units + 1 < cLine) (ho : LPE X C W o td ld) (hi : LPE X C W i ty ly) (hv : LPE X C W value tv lv) (hs : swapsWith value (some (.Subscript o i pos')) pos.line X.env = pure false := by rfl) : LPS X C W (.Assign [.Subscript o i pos'] value pos) (sDPut td ty tv) (lDPut ld ly lv) :=
  ⟨ps_dput hu ho.pe hi.pe hv.pe hs, fun L ρ M h Z E σ H α vs r d =>
    hv.lo.bind h vs r (d.wk vs) fun v H1 α1 y M1 s1 r1 q1 h1 vs1 wk1 => ho.lo.bind h1 vs1 r1 wk1 fun u H2 α2 x M2 s2 r2 q2 h2 vs2 wk2 => hi.lo.bind h2 vs2 r2 wk2 fun w H3 α3 z M3 s3 r3 q3 h3 vs3 wk3 => by
      obtain ⟨n, kvs, ky, rfl, hM, rfl, hl, p⟩ := h3
      obtain ⟨a, ea, rfl⟩ := q2.step s3
      have ey := keyD_of q3
      subst ey
      obtain ⟨ps, eh, kv⟩ := r3.hr.get n a _ ea hM
      have st : Step (C.wz Z) α3 H3 α3 (upd H3 a (.dK (putK ps ky v))) := put_step ea
      obtain ⟨r4, s4⟩ := r3.put (mo := .dK (putD kvs ky y)) ea ⟨_, upd_same, KVR.put ((q1.step (s2.trans s3)).step st) (KVR.step kv st)⟩ (r3.noT ea hM)
      exact ⟨a, _, rfl, .k eh (by rw [KVR.length kv]; exact hl), d.nx σ _ α3 ρ _ (((s1.trans s2).trans s3).trans s4) (vs3.step s4) r4 p⟩⟩
theorem lps_ddel (ho : LPE X C W o td ld) (hi : LPE X C W i ty ly) : LPS X C W (.Delete [.Subscript o i tpos] pos) (sDDel td ty) (lDDel ld ly) :=
  ⟨ps_ddel ho.pe hi.pe, fun L ρ M h Z E σ H α vs r d =>
    ho.lo.bind h vs r (d.wk vs) fun u H2 α2 x M2 s2 r2 q2 h2 vs2 wk2 => hi.lo.bind h2 vs2 r2 wk2 fun w H3 α3 z M3 s3 r3 q3 h3 vs3 wk3 => by
      obtain ⟨n, kvs, ky, rfl, hM, rfl, hl, p⟩ := h3
      obtain ⟨a, ea, rfl⟩ := q2.step s3
      have ey := keyD_of q3
      subst ey
      obtain ⟨ps, eh, kv⟩ := r3.hr.get n a _ ea hM
      have st : Step (C.wz Z) α3 H3 α3 (upd H3 a (.dK (dropK ps ky))) := put_step ea
      obtain ⟨r4, s4⟩ := r3.put (mo := .dK (dropD kvs ky)) ea ⟨_, upd_same, KVR.dropk (KVR.step kv st)⟩ (r3.noT ea hM)
      refine ⟨a, ps, ky, rfl, eh, rfl, ?_, d.nx σ _ α3 ρ _ ((s2.trans s3).trans s4) (vs3.step s4) r4 p⟩
      rcases KVR.val (k := ky) kv with ⟨h3, h4⟩ | ⟨v3, d3, h3, h4, h5⟩
      · rw [h4] at hl; cases hl
      · rw [h3]; rfl⟩
end

/-! ### what is walked: the items are known -/
/-- what was told of (α, H) is so at (α', H') -/
structure Pre (C : Cn) (α : List Addr) (H : Hp) (α' : List Addr) (H' : Hp) : Prop where
  ext : ∃ β, α' = α ++ β
  mv : Mv (C.N α) H (C.N α') H'
theorem Step.pre {C : Cn} {α α' : List Addr} {H H' : Hp} (s : Step C α H α' H') : Pre C α H α' H' := ⟨let ⟨β, e, _⟩ := s.ext; ⟨β, e⟩, s.mv⟩
theorem Mv.trans {N N' N'' : Addr → Prop} {H H' H'' : Hp} (a : Mv N H N' H') (b : Mv N' H' N'' H'') : Mv N H N'' H'' :=
  ⟨fun c o h n => b.keep c o (a.keep c o h n) (a.out c o h n), fun c o h n => b.out c o (a.keep c o h n) (a.out c o h n)⟩
theorem Pre.trans {C : Cn} {α α' α'' : List Addr} {H H' H'' : Hp} (a : Pre C α H α' H') (b : Pre C α' H' α'' H'') : Pre C α H α'' H'' :=
  ⟨let ⟨β, e⟩ := a.ext; let ⟨γ, e'⟩ := b.ext; ⟨β ++ γ, by rw [e', e, List.append_assoc]⟩, a.mv.trans b.mv⟩
theorem Mv.refl {N : Addr → Prop} {H : Hp} : Mv N H N H := ⟨fun _ _ h _ => h, fun _ _ _ n => n⟩
structure ItOk (C : Cn) (α1 : List Addr) (H1 : Hp) (J : It) (items : List DV) (okM : Mem → Prop) : Prop where
  go : ∀ (i : Nat) (α : List Addr) (H : Hp) (M : Mem) (d : DV), Pre C α1 H1 α H → RS C α M H → okM M → items[i]? = some d → J.go i H ∧ ∀ v H', J.yld i H v H' → RS C α M H' ∧ Step C α H α H' ∧ VR C α H' v d
  stop : ∀ (α : List Addr) (H : Hp) (M : Mem), Pre C α1 H1 α H → RS C α M H → okM M → J.stop items.length H
abbrev LW := Rho → Mem → (List DV → (Mem → Prop) → Mem → Prop) → PXn → Prop
def LoW (C : Cn) (W : WX) (wi : TI) (lw : LW) : Prop := ∀ ρ M P PX, lw ρ M P PX → ∀ Z σ H α R, VS (C.wz Z) α H σ ρ → RS (C.wz Z) α M H → Wk (C.wz Z) α H W σ PX →
  (∀ J H' α' items okM M', Step (C.wz Z) α H α' H' → RS (C.wz Z) α' M' H' → (∀ Z' H'', Mv ((C.wz Z).N α') H' ((C.wz Z').N α') H'' → ItOk (C.wz Z') α' H'' J items okM) → okM M' → P items okM M' → R J H') → wi σ H R
structure LPI (X : Cx) (C : Cn) (W : WX) (tg iter : Expr) (wi : TI) (lw : LW) : Prop where
  pi : PI X tg iter wi
  lo : LoW C W wi lw
/-- over a list, a tuple of data -/
def lwSeq (le : LE) : LW := fun ρ M P PX => le ρ M (fun x M1 => ∃ ds, x = .dat (.lst ds) ∧ P (ds.map DV.dat) (fun _ => True) M1) PX
def lwTup (le : LE) : LW := fun ρ M P PX => le ρ M (fun x M1 => ∃ ds, x = .dat (.tup ds) ∧ P (ds.map DV.dat) (fun _ => True) M1) PX
/-- over a known list -/
def lwObj (le : LE) : LW := fun ρ M P PX => le ρ M (fun x M1 => ∃ n xs, x = .obj n ∧ M1[n]? = some (.lst xs) ∧ P xs (fun M => M[n]? = some (.lst xs)) M1) PX
def rangeD (lo : Int) (n : Nat) : List DV := (List.range n).map fun i => .int (lo + (i : Nat))
def lwRng1 (la : LA) : LW := fun ρ M P PX => la ρ M (fun xs M1 => ∃ j : Int, xs = [.int j] ∧ -(2 ^ 62) ≤ j ∧ j < 2 ^ 62 ∧ P (rangeD 0 j.toNat) (fun _ => True) M1) PX
def lwRng2 (la : LA) : LW := fun ρ M P PX => la ρ M (fun xs M1 => ∃ i j : Int, xs = [.int i, .int j] ∧ (-(2 ^ 62) ≤ i ∧ i < 2 ^ 62 ∧ -(2 ^ 62) ≤ j ∧ j < 2 ^ 62) ∧ P (rangeD i (j - i).toNat) (fun _ => True) M1) PX
def signsD (x : Str) : List DV := x.cps.toList.map fun c => .str ⟨#[c]⟩
def lwStr (le : LE) : LW := fun ρ M P PX => le ρ M (fun v M1 => ∃ x, v = .str x ∧ P (signsD x) (fun _ => True) M1) PX
section
variable {C : Cn} {α : List Addr} {H : Hp} {K : PySem.W.Frag} {M : Mem}
theorem sqL_inj {C : Cn} {N : Addr → Prop} {H : Hp} {a : Addr} {xs ys : List V} : True := trivial
theorem ItOk.range (lo : Int) (n : Nat) : ItOk C α H (Itr lo n) (rangeD lo n) fun _ => True := by
  have hl : (rangeD lo n).length = n := by unfold rangeD; simp
  refine ⟨fun i α1 H1 M1 d s r _ h => ?_, fun α1 H1 M1 s r _ => by rw [hl]; exact Nat.le_refl _⟩
  have hi : i < n := by rw [← hl]; exact (List.getElem?_eq_some_iff.mp h).1
  refine ⟨hi, fun v H' ⟨e, ev⟩ => ?_⟩
  subst e ev
  unfold rangeD at h
  rw [List.getElem?_map, List.getElem?_range hi] at h
  cases h
  exact ⟨r, Step.refl, .int _⟩
theorem ItOk.str (x : Str) : ItOk C α H (Its x) (signsD x) fun _ => True := by
  have hl : (signsD x).length = x.cps.size := by unfold signsD; simp
  refine ⟨fun i α1 H1 M1 d s r _ h => ?_, fun α1 H1 M1 s r _ => by rw [hl]; exact Nat.le_refl _⟩
  have hi : i < x.cps.size := by rw [← hl]; exact (List.getElem?_eq_some_iff.mp h).1
  refine ⟨hi, fun v H' ⟨e, c, ec, ev⟩ => ?_⟩
  subst e ev
  unfold signsD at h
  rw [List.getElem?_map, Array.getElem?_toList, ec] at h
  cases h
  exact ⟨r, Step.refl, .str _⟩
end
end L3

namespace L3
open PySem L2

section
variable {C : Cn} {α α1 : List Addr} {H H1 : Hp} {M : Mem}
/-- a datum that is a list, a tuple: its address, its items -/
theorem VD.lst_inv {K : PySem.W.Frag} {N : Addr → Prop} {H : Hp} {v : V} {ds : List D} (h : VD K N H v (.lst ds)) : ∃ a xs, v = .ref a ∧ SLi K N H a xs ∧ VDs K N H xs ds := by
  cases h with
  | lst a b => exact ⟨_, _, rfl, a, b⟩
theorem VD.tup_inv {K : PySem.W.Frag} {N : Addr → Prop} {H : Hp} {v : V} {ds : List D} (h : VD K N H v (.tup ds)) : ∃ a xs, v = .ref a ∧ STi K N H a xs ∧ VDs K N H xs ds := by
  cases h with
  | tup a b => exact ⟨_, _, rfl, a, b⟩
theorem VDs.at {K : PySem.W.Frag} {N : Addr → Prop} {H : Hp} {xs : List V} {ds : List D} (h : VDs K N H xs ds) {i : Nat} {d : DV} (e : (ds.map DV.dat)[i]? = some d) : ∃ x d0, xs[i]? = some x ∧ d = .dat d0 ∧ VD K N H x d0 := by
  rw [List.getElem?_map] at e
  cases q : ds[i]? with
  | none => rw [q] at e; cases e
  | some d0 =>
    rw [q] at e
    cases e
    obtain ⟨x, h1, h2⟩ := h.get q
    exact ⟨x, d0, h1, rfl, h2⟩
theorem ItOk.list {a : Addr} {xs : List V} {ds : List D} (hs : SLi C.K (C.N α1) H1 a xs) (hd : VDs C.K (C.N α1) H1 xs ds) : ItOk C α1 H1 (Itl C.K a) (ds.map DV.dat) fun _ => True := by
  refine ⟨fun i α2 H2 M2 d s r _ h => ?_, fun α2 H2 M2 s r _ => ⟨xs, (s.mv.sl hs).sq, by rw [hd.length, List.length_map]; exact Nat.le_refl _⟩⟩
  obtain ⟨x, d0, h1, rfl, h2⟩ := (hd.mv s.mv).at h
  refine ⟨⟨xs, x, (s.mv.sl hs).sq, h1⟩, fun v H' ⟨e, ev⟩ => ?_⟩
  subst e
  have := ev xs (s.mv.sl hs).sq
  rw [h1] at this
  cases this
  exact ⟨r, Step.refl, h2⟩
theorem ItOk.tup {a : Addr} {xs : List V} {ds : List D} (hs : STi C.K (C.N α1) H1 a xs) (hd : VDs C.K (C.N α1) H1 xs ds) : ItOk C α1 H1 (Itt C.K a) (ds.map DV.dat) fun _ => True := by
  refine ⟨fun i α2 H2 M2 d s r _ h => ?_, fun α2 H2 M2 s r _ => ⟨xs, (s.mv.st hs).sq, by rw [hd.length, List.length_map]; exact Nat.le_refl _⟩⟩
  obtain ⟨x, d0, h1, rfl, h2⟩ := (hd.mv s.mv).at h
  refine ⟨⟨xs, x, (s.mv.st hs).sq, h1⟩, fun v H' ⟨e, ev⟩ => ?_⟩
  subst e
  have := ev xs (s.mv.st hs).sq
  rw [h1] at this
  cases this
  exact ⟨r, Step.refl, h2⟩
theorem VRs.at : ∀ {vs : List V} {ds : List DV} {i : Nat} {d : DV}, VRs C α H vs ds → ds[i]? = some d → ∃ v, vs[i]? = some v ∧ VR C α H v d
  | _, _, _, _, .nil, e => by simp at e
  | _, _, 0, _, .cons r _, e => by simp at e; subst e; exact ⟨_, rfl, r⟩
  | _, _, i + 1, d, .cons _ t, e => by
    obtain ⟨u, h1, h2⟩ := VRs.at (i := i) (d := d) t (by simpa using e)
    exact ⟨u, by simpa using h1, h2⟩
theorem ItOk.obj {a : Addr} {n : Nat} {ys : List DV} (ha : α1[n]? = some a) : ItOk C α1 H1 (Itl C.K a) ys fun M => M[n]? = some (.lst ys) := by
  have at_ : ∀ {α2 : List Addr} {H2 : Hp}, Pre C α1 H1 α2 H2 → α2[n]? = some a := fun {α2 H2} s => by
    obtain ⟨β, e⟩ := s.ext
    rw [e, List.getElem?_append_left (List.getElem?_eq_some_iff.mp ha).1]
    exact ha
  refine ⟨fun i α2 H2 M2 d s r ok h => ?_, fun α2 H2 M2 s r ok => ?_⟩
  · obtain ⟨xs, e, q⟩ := r.hr.get n a _ (at_ s) ok
    obtain ⟨x, h1, h2⟩ := q.at h
    refine ⟨⟨xs, x, SqL.of e, h1⟩, fun v H' ⟨e', ev⟩ => ?_⟩
    subst e'
    have := ev xs (SqL.of e)
    rw [h1] at this
    cases this
    exact ⟨r, Step.refl, h2⟩
  · obtain ⟨xs, e, q⟩ := r.hr.get n a _ (at_ s) ok
    exact ⟨xs, SqL.of e, by rw [VRs.length q]; exact Nat.le_refl _⟩
end
section
variable {X : Cx} {C : Cn} {W : WX} {tg iter e : Expr} {te : TE} {le : LE} {es : List Expr} {ta : TA} {la : LA} {p pos : Pos}
theorem lpi_list_k0 (h : LPE X C W iter te le) (hK : X.K = C.K) : LPI X C W tg iter (iList X.K te) (lwSeq le) := ⟨pi_list h.pe, by
  rw [hK]
  exact fun ρ M P PX g Z σ H α R vs rs wk kt => h.lo.bind g vs rs wk fun v H1 α1 x M1 s1 r1 q1 h1 vs1 wk1 => by
    obtain ⟨ds, rfl, p⟩ := h1
    obtain ⟨a, xs, rfl, hs, hd⟩ := VD.lst_inv q1
    exact ⟨a, rfl, ⟨xs, hs.sq⟩, kt _ H1 α1 _ _ M1 s1 r1 (fun Z' H'' m => ItOk.list (C := C.wz Z') (m.sl hs) (hd.mv m)) trivial p⟩⟩
theorem lpi_list (h : LPE X C W iter te le) (hK : X.K = C.K) : LPI X C W tg iter (iList C.K te) (lwSeq le) := by
  rw [← hK]
  apply lpi_list_k0 <;> assumption
theorem lpi_tup_k0 (h : LPE X C W iter te le) (hK : X.K = C.K) : LPI X C W tg iter (iTup X.K te) (lwTup le) := ⟨pi_tup h.pe, by
  rw [hK]
  exact fun ρ M P PX g Z σ H α R vs rs wk kt => h.lo.bind g vs rs wk fun v H1 α1 x M1 s1 r1 q1 h1 vs1 wk1 => by
    obtain ⟨ds, rfl, p⟩ := h1
    obtain ⟨a, xs, rfl, hs, hd⟩ := VD.tup_inv q1
    exact ⟨a, rfl, ⟨xs, hs.sq⟩, kt _ H1 α1 _ _ M1 s1 r1 (fun Z' H'' m => ItOk.tup (C := C.wz Z') (m.st hs) (hd.mv m)) trivial p⟩⟩
theorem lpi_tup (h : LPE X C W iter te le) (hK : X.K = C.K) : LPI X C W tg iter (iTup C.K te) (lwTup le) := by
  rw [← hK]
  apply lpi_tup_k0 <;> assumption
theorem lpi_obj_k0 (h : LPE X C W iter te le) (hK : X.K = C.K) : LPI X C W tg iter (iList X.K te) (lwObj le) := ⟨pi_list h.pe, by
  rw [hK]
  exact fun ρ M P PX g Z σ H α R vs rs wk kt => h.lo.bind g vs rs wk fun v H1 α1 x M1 s1 r1 q1 h1 vs1 wk1 => by
    obtain ⟨n, xs, rfl, hM, p⟩ := h1
    obtain ⟨a, ea, rfl⟩ := q1
    obtain ⟨ys, eh, q⟩ := r1.hr.get n a _ ea hM
    exact ⟨a, rfl, ⟨ys, SqL.of eh⟩, kt _ H1 α1 _ _ M1 s1 r1 (fun Z' H'' m => ItOk.obj (C := C.wz Z') ea) hM p⟩⟩
theorem lpi_obj (h : LPE X C W iter te le) (hK : X.K = C.K) : LPI X C W tg iter (iList C.K te) (lwObj le) := by
  rw [← hK]
  apply lpi_obj_k0 <;> assumption
theorem lpi_range1 (h : LPA X C W [e] ta la) (hg : Gl X "range") (hm : X.mg "range" = none) (hs : starEach [e] X.env = (false, eval e X.env) :: starEach [] X.env := by rfl) : LPI X C W tg (.Call (.Name "range" p) [e] [] pos) (iRng1 ta) (lwRng1 la) := ⟨pi_range1 hg hm h.pa hs,
  fun ρ M P PX g Z σ H α R vs rs wk kt => h.lo.bind g vs rs wk fun v H1 α1 x M1 s1 r1 q1 h1 vs1 wk1 => by
    obtain ⟨j, rfl, h2, h3, p⟩ := h1
    obtain ⟨v0, rfl, q0⟩ : ∃ v0, v = [v0] ∧ VR (C.wz Z) α1 H1 v0 (.int j) := by
      cases q1 with
      | cons a t => cases t; exact ⟨_, rfl, a⟩
    cases q0
    exact ⟨j, rfl, h2, h3, kt _ H1 α1 _ _ M1 s1 r1 (fun Z' H'' m => ItOk.range 0 j.toNat) trivial p⟩⟩
theorem lpi_str (h : LPE X C W iter te le) : LPI X C W tg iter (iStr te) (lwStr le) := ⟨pi_str h.pe,
  fun ρ M P PX g Z σ H α R vs rs wk kt => h.lo.bind g vs rs wk fun v H1 α1 x M1 s1 r1 q1 h1 vs1 wk1 => by
    obtain ⟨y, rfl, p⟩ := h1
    cases q1
    exact ⟨y, rfl, kt _ H1 α1 _ _ M1 s1 r1 (fun Z' H'' m => ItOk.str y) trivial p⟩⟩
end
/-! ### loops -/
def okS (n : Nat) : Option DV → Bool
  | none => true
  | some d => okDV n d
/-- fewer slots are told -/
structure SubR (ρ' ρ : Rho) : Prop where
  len : ρ'.length = ρ.length
  get : ∀ (i : Nat) (d : DV), ρ'[i]? = some (some d) → ρ[i]? = some (some d)
theorem SubR.refl {ρ : Rho} : SubR ρ ρ := ⟨rfl, fun _ _ h => h⟩
theorem SubR.vs {C : Cn} {α : List Addr} {H : Hp} {σ : L2.St} {ρ ρ' : Rho} (s : SubR ρ' ρ) (v : VS C α H σ ρ) : VS C α H σ ρ' := ⟨v.len.trans s.len.symm, fun i d h => v.get i d (s.get i d h)⟩
/-- decided for written slots -/
def subB : Rho → Rho → Prop
  | [], [] => True
  | none :: r, _ :: s => subB r s
  | some d :: r, some e :: s => d = e ∧ subB r s
  | _, _ => False
theorem SubR.of : ∀ {ρ' ρ : Rho}, subB ρ' ρ → SubR ρ' ρ
  | [], [], _ => .refl
  | none :: r, x :: s, h => by
    have q := SubR.of (ρ' := r) (ρ := s) h
    exact ⟨by simp [q.len], fun i d e => by cases i with | zero => simp at e | succ i => simpa using q.get i d (by simpa using e)⟩
  | some d :: r, some e :: s, h => by
    have q := SubR.of (ρ' := r) (ρ := s) h.2
    exact ⟨by simp [q.len], fun i d' e' => by cases i with | zero => simp at e' ⊢; rw [← e', h.1] | succ i => simpa using q.get i d' (by simpa using e')⟩
def DropS (k : Nat) (I : Rho → Mem → Prop) (ρ : Rho) (M : Mem) : Prop := I ρ M ∨ ∃ n ρ', k ≤ n ∧ (M.take n).all (okMO n) = true ∧ SubR ρ' ρ ∧ ρ'.all (okS n) = true ∧ I ρ' (M.take n)
theorem DropS.here {k : Nat} {I : Rho → Mem → Prop} {ρ : Rho} {M : Mem} (h : I ρ M) : DropS k I ρ M := .inl h
theorem DropS.to {k : Nat} {I : Rho → Mem → Prop} {ρ : Rho} {M : Mem} (n : Nat) (ρ' : Rho) (hk : k ≤ n) (hM : (M.take n).all (okMO n) = true) (hs : subB ρ' ρ) (ho : ρ'.all (okS n) = true) (h : I ρ' (M.take n)) : DropS k I ρ M := .inr ⟨n, ρ', hk, hM, SubR.of hs, ho, h⟩
theorem VS.drop {C : Cn} {α : List Addr} {H : Hp} {σ : L2.St} {ρ : Rho} {n : Nat} (v : VS C α H σ ρ) (h : ρ.all (okS n) = true) : VS C (α.take n) H σ ρ := ⟨v.len, fun i d e => by
  obtain ⟨w, h1, h2⟩ := v.get i d e
  exact ⟨w, h1, h2.drop (List.all_eq_true.mp h (some d) (List.mem_of_getElem? e))⟩⟩
theorem DropS.run {C : Cn} {α0 α : List Addr} {H0 H : Hp} {σ : L2.St} {ρ : Rho} {M : Mem} {I : Rho → Mem → Prop} (h : DropS α0.length I ρ M) (s : Step C α0 H0 α H) (v : VS C α H σ ρ) (r : RS C α M H) :
    ∃ α' ρ' M', Step C α0 H0 α' H ∧ VS C α' H σ ρ' ∧ RS C α' M' H ∧ I ρ' M' := by
  rcases h with h | ⟨n, ρ', hk, hM, hs, ho, h⟩
  · exact ⟨α, ρ, M, s, v, r, h⟩
  · exact ⟨α.take n, ρ', M.take n, s.drop hk, (hs.vs v).drop ho, r.drop hM, h⟩
def lFor (lw : LW) (g : LG) (tb : LS) : LS := fun L ρ M => lw ρ M (fun items okM M1 => ∃ I : Nat → Rho → Mem → Prop, I 0 ρ M1 ∧ (∀ i ρ M, I i ρ M → okM M) ∧
  (∀ i x ρ M, items[i]? = some x → I i ρ M → g x ρ M fun ρ' M' => tb { L with nx := DropS M1.length (I (i + 1)), ct := DropS M1.length (I (i + 1)), bk := L.nx } ρ' M') ∧ ∀ ρ M, I items.length ρ M → L.nx ρ M) (L.px ρ)
def lWhile (c : LT) (tb : LS) : LS := fun L ρ M => ∃ (I : Nat → Rho → Mem → Prop), (∃ m, I m ρ M) ∧ ∀ m ρ1 M1, I m ρ1 M1 → c ρ1 M1 (fun b M2 => if b = true then
  tb { L with nx := DropS M.length (fun ρ' M' => ∃ m', m' < m ∧ I m' ρ' M'), ct := DropS M.length (fun ρ' M' => ∃ m', m' < m ∧ I m' ρ' M'), bk := L.nx } ρ1 M2 else L.nx ρ1 M2) (L.px ρ1)
section
variable {X : Cx} {C : Cn} {W : WX} {pos : Pos} {tg iter c : Expr} {body : List Stmt} {wi : TI} {lw : LW} {g : TG} {lg : LG} {tb : TS} {lb : LS} {tc : TT} {lc : LT}
theorem lo_for (hi : LoW C W wi lw) (hg : LoG C g lg) (hb : LoS C W tb lb) : LoS C W (tFor wi g tb) (lFor lw lg lb) := fun L ρ M h Z D σ H α vs r d => by
  refine hi _ _ _ _ h Z σ H α _ vs r (d.wk vs) fun J H1 α1 items okM M1 s1 r1 it ok1 h1 => ?_
  obtain ⟨I, i0, iok, turn, done⟩ := h1
  have dd := d.step s1
  refine ⟨fun i m σ' H' => m = items.length - i ∧ i ≤ items.length ∧ ∃ α' ρ' M', Step (C.wz Z) α1 H1 α' H' ∧ VS (C.wz Z) α' H' σ' ρ' ∧ RS (C.wz Z) α' M' H' ∧ I i ρ' M', ⟨_, rfl, Nat.zero_le _, α1, ρ, M1, Step.refl, vs.step s1, r1, i0⟩, ?_⟩
  rintro i m σ' H' ⟨rfl, hi', α', ρ', M', s', vs', r', p⟩
  by_cases hlt : i < items.length
  · obtain ⟨go, yld⟩ := (it Z H1 .refl).go i α' H' M' _ s'.pre r' (iok i ρ' M' p) (List.getElem?_eq_getElem hlt)
    refine .inr ⟨go, fun σ2 H2 => ∃ α2 ρ2 M2, Step (C.wz Z) α1 H1 α2 H2 ∧ VS (C.wz Z) α2 H2 σ2 ρ2 ∧ RS (C.wz Z) α2 M2 H2 ∧ I (i + 1) ρ2 M2, fun σ2 H2 ⟨α2, ρ2, M2, q⟩ => ⟨items.length - (i + 1), by omega, rfl, hlt, α2, ρ2, M2, q⟩, fun x H2 y => ?_⟩
    obtain ⟨r2, s2, q2⟩ := yld x H2 y
    refine hg _ ρ' M' _ (turn i _ ρ' M' (List.getElem?_eq_getElem hlt) p) x Z σ' H2 α' _ q2 (vs'.step s2) r2 fun σ3 H3 α3 ρ3 M3 s3 vs3 r3 p3 => ?_
    have s13 : Step (C.wz Z) α1 H1 α3 H3 := (s'.trans s2).trans s3
    have d3 := dd.step s13
    refine hb _ ρ3 M3 p3 Z _ σ3 H3 α3 vs3 r3 ⟨fun σ4 H4 α4 ρ4 M4 s4 vs4 r4 p4 => ?_, d3.rt, d3.nx, fun σ4 H4 α4 ρ4 M4 s4 vs4 r4 p4 => ?_, d3.ex⟩
    · rw [← r1.hr.len] at p4
      exact p4.run (s13.trans s4) vs4 r4
    · rw [← r1.hr.len] at p4
      exact p4.run (s13.trans s4) vs4 r4
  · have e : i = items.length := by omega
    subst e
    exact .inl ⟨(it Z H1 .refl).stop α' H' M' s'.pre r' (iok _ ρ' M' p), dd.nx σ' H' α' ρ' M' s' vs' r' (done ρ' M' p)⟩
theorem lps_for (hp : PassesOwn (model X.prog X.w) X.A X.env X.xe) (hc : X.calm = true) (hi : LPI X C W tg iter wi lw) (hg : LPG X C tg g lg) (hb : LPSs X C W body tb lb)
    (hs : ∀ x, foldedSetIterable iter X.env x = pure x := by intro _; rfl) : LPS X C W (.For tg iter body [] pos) (tFor wi g tb) (lFor lw lg lb) := ⟨ps_for hp hc hi.pi hg.pg hb.ps hs, lo_for hi.lo hg.lo hb.lo⟩
theorem lo_while (hc : LoT C W tc lc) (hb : LoS C W tb lb) : LoS C W (tWhile tc tb) (lWhile lc lb) := fun L ρ M h Z D σ H α vs r d => by
  obtain ⟨I, ⟨m0, i0⟩, turn⟩ := h
  refine ⟨fun m σ' H' => ∃ α' ρ' M', Step (C.wz Z) α H α' H' ∧ VS (C.wz Z) α' H' σ' ρ' ∧ RS (C.wz Z) α' M' H' ∧ I m ρ' M', ⟨m0, α, ρ, M, Step.refl, vs, r, i0⟩, ?_⟩
  rintro m σ' H' ⟨α', ρ', M', s', vs', r', p⟩
  have d' := d.step s'
  refine hc.bind (turn m ρ' M' p) vs' r' (d'.wk vs') fun b H2 α2 M2 s2 r2 h2 vs2 wk2 => ?_
  have s12 := s'.trans s2
  have d2 := d.step s12
  cases b with
  | false => exact d2.nx σ' H2 α2 ρ' M2 Step.refl vs2 r2 h2
  | true =>
    refine ⟨fun σ3 H3 => ∃ m', m' < m ∧ ∃ α3 ρ3 M3, Step (C.wz Z) α H α3 H3 ∧ VS (C.wz Z) α3 H3 σ3 ρ3 ∧ RS (C.wz Z) α3 M3 H3 ∧ I m' ρ3 M3, fun _ _ z => z, ?_⟩
    have go : ∀ σ4 H4 α4 ρ4 M4, Step (C.wz Z) α2 H2 α4 H4 → VS (C.wz Z) α4 H4 σ4 ρ4 → RS (C.wz Z) α4 M4 H4 → DropS M.length (fun ρ' M' => ∃ m', m' < m ∧ I m' ρ' M') ρ4 M4 → ∃ m', m' < m ∧ ∃ α3 ρ3 M3, Step (C.wz Z) α H α3 H4 ∧ VS (C.wz Z) α3 H4 σ4 ρ3 ∧ RS (C.wz Z) α3 M3 H4 ∧ I m' ρ3 M3 := fun σ4 H4 α4 ρ4 M4 s4 vs4 r4 p4 => by
      rw [← r.hr.len] at p4
      obtain ⟨α5, ρ5, M5, s5, vs5, r5, m', hm, p5⟩ := p4.run (s12.trans s4) vs4 r4
      exact ⟨m', hm, α5, ρ5, M5, s5, vs5, r5, p5⟩
    exact hb _ ρ' M2 h2 Z _ σ' H2 α2 vs2 r2 ⟨go, d2.rt, d2.nx, go, d2.ex⟩
theorem lps_while (hp : PassesOwn (model X.prog X.w) X.A X.env X.xe) (hc : LPT X C W c tc lc) (hb : LPSs X C W body tb lb) : LPS X C W (.While c body [] pos) (tWhile tc tb) (lWhile lc lb) := ⟨ps_while hp hc.pt hb.ps, lo_while hc.lo hb.lo⟩
end
/-! ### comprehensions -/
def wipeL (ρ : Rho) : List Nat → Rho
  | [] => ρ
  | v :: vs => (wipeL ρ vs).set v none
def LoTs := LoT
structure LPTs (X : Cx) (C : Cn) (W : WX) (ifs : List Expr) (te : TT) (l : LT) : Prop where
  pt : PTs X ifs te
  lo : LoT C W te l
def lYes : LT := fun _ M P _ => P true M
/-- memory, fewer objects -/
def DropM (k : Nat) (I : Mem → Prop) (M : Mem) : Prop := I M ∨ ∃ n, k ≤ n ∧ (M.take n).all (okMO n) = true ∧ I (M.take n)
def noX : PXn := fun _ _ => False
/-- [e for x in ..]: data -/
def lLc (lw : LW) (g : LG) (tt : LT) (te : LE) (vs : List Nat) : LE := fun ρ M P PX => lw ρ M (fun items okM M1 => ∃ I : Nat → List D → Mem → Prop, I 0 [] M1 ∧ (∀ i acc M, I i acc M → okM M) ∧
  (∀ i x acc M, items[i]? = some x → I i acc M → g x (wipeL ρ vs) M fun ρ2 M2 => tt ρ2 M2 (fun b M3 => if b = true then te ρ2 M3 (fun y M4 => acc.length < sizeLine ∧ ∃ d, y = .dat d ∧ DropM M1.length (I (i + 1) (acc ++ [d])) M4) noX else DropM M1.length (I (i + 1) acc) M3) noX) ∧
  ∀ acc M, I items.length acc M → P (.dat (.lst acc)) M) PX

section
variable {C : Cn} {Z Z' : List Addr} {α : List Addr} {H H' : Hp} {M : Mem}
/-- other objects are named, what else is told stands -/
theorem VR.chg {v : V} {d : DV} (m : Mv ((C.wz Z).N α) H ((C.wz Z').N α) H') (r : VR (C.wz Z) α H v d) : VR (C.wz Z') α H' v d := by
  cases d with
  | dat d => exact VD.mv m r
  | obj n => exact r
theorem VRs.chg (m : Mv ((C.wz Z).N α) H ((C.wz Z').N α) H') : ∀ {vs : List V} {ds : List DV}, VRs (C.wz Z) α H vs ds → VRs (C.wz Z') α H' vs ds
  | _, _, .nil => .nil
  | _, _, .cons r t => .cons (r.chg m) (VRs.chg m t)
theorem KVR.chg {κ : Type} (m : Mv ((C.wz Z).N α) H ((C.wz Z').N α) H') : ∀ {vs : List (κ × V)} {ds : List (κ × DV)}, KVR (C.wz Z) α H vs ds → KVR (C.wz Z') α H' vs ds
  | _, _, .nil => .nil
  | _, _, .cons r t => .cons ⟨r.1, r.2.chg m⟩ (KVR.chg m t)
theorem MR.chg {a : Addr} {o : MO} (m : Mv ((C.wz Z).N α) H ((C.wz Z').N α) H') (e : H' a = H a) (r : MR (C.wz Z) α H a o) : MR (C.wz Z') α H' a o := by
  cases o with
  | lst ds => obtain ⟨xs, h, q⟩ := r; exact ⟨xs, by rw [e]; exact h, q.chg m⟩
  | dK ds => obtain ⟨xs, h, q⟩ := r; exact ⟨xs, by rw [e]; exact h, KVR.chg m q⟩
  | ins D ds => obtain ⟨dx, xs, h, q⟩ := r; exact ⟨dx, xs, by rw [e]; exact h, KVR.chg m q⟩
theorem RS.chg (r : RS (C.wz Z) α M H) (m : Mv ((C.wz Z).N α) H ((C.wz Z').N α) H') (ka : ∀ a ∈ α, H' a = H a) (kt : ∀ P ∈ C.T, H' P = H P) (kz : ∀ z ∈ Z', ∃ o, H' z = some o) : RS (C.wz Z') α M H' :=
  ⟨⟨r.hr.len, fun n a o h1 h2 => (r.hr.get n a o h1 h2).chg m (ka a (List.mem_of_getElem? h1))⟩, r.nd, fun P hP => by obtain ⟨ps, h1, h2⟩ := r.tb P hP; exact ⟨ps, by rw [kt P hP]; exact h1, h2⟩, kz, fun p hp => (r.tq p hp).keep (r.tabAt hp) (fun b o h q => by
    rcases q with q | ⟨q, rfl, z⟩
    · rw [q, kt _ (C.T.sub p hp), ← q]; exact h
    · exact m.keep _ _ h (fun y => y.elim (r.notCode h) fun y => y.elim (r.codeNotT h) z)) fun b q h z y => m.out _ _ h (fun y => y.elim (r.notCode h) fun y => y.elim (r.codeNotT h) z) (.inr (.inr y))⟩
theorem VS.chg {σ : L2.St} {ρ : Rho} (m : Mv ((C.wz Z).N α) H ((C.wz Z').N α) H') (v : VS (C.wz Z) α H σ ρ) : VS (C.wz Z') α H' σ ρ := ⟨v.len, fun i d h => let ⟨w, e, q⟩ := v.get i d h; ⟨w, e, q.chg m⟩⟩
theorem VR.pre {α' : List Addr} {v : V} {d : DV} (p : Pre C α H α' H') (r : VR C α H v d) : VR C α' H' v d := by
  cases d with
  | dat d => exact VD.mv p.mv r
  | obj n =>
    obtain ⟨b, h, e⟩ := r
    obtain ⟨β, e1⟩ := p.ext
    refine ⟨b, ?_, e⟩
    rw [e1, List.getElem?_append_left (List.getElem?_eq_some_iff.mp h).1]
    exact h
theorem VS.pre {α' : List Addr} {σ : L2.St} {ρ : Rho} (p : Pre C α H α' H') (v : VS C α H σ ρ) : VS C α' H' σ ρ := ⟨v.len, fun i d h => let ⟨w, e, q⟩ := v.get i d h; ⟨w, e, q.pre p⟩⟩
theorem wipe_vs {σ : L2.St} {ρ : Rho} (v : VS C α H σ ρ) : ∀ vs : List Nat, VS C α H (wipe σ vs) (wipeL ρ vs)
  | [] => v
  | n :: vs => by
    have q := wipe_vs v vs
    refine ⟨?_, fun i d h => ?_⟩
    · show ((wipe σ vs).set n none).length = ((wipeL ρ vs).set n none).length
      rw [List.length_set, List.length_set, q.len]
    · have h' : ((wipeL ρ vs).set n none)[i]? = some (some d) := h
      show ∃ w, ((wipe σ vs).set n none)[i]? = some (some w) ∧ _
      by_cases e : n = i
      · subst e
        rw [List.getElem?_set] at h'
        simp at h'
      · rw [List.getElem?_set_ne e] at h' ⊢
        exact q.get i d h'
/-- an object that others own changes -/
theorem mv_own {N : Addr → Prop} {D : Addr} {o : HO} (n : N D) : Mv N H N (upd H D o) := ⟨fun b u h k => by rw [upd_ne (fun e => k (by rw [e]; exact n))]; exact h, fun _ _ _ k => k⟩
theorem RS.own {D : Addr} {o : HO} (r : RS (C.wz (D :: Z)) α M H) (na : D ∉ α) (nt : D ∉ C.T) : RS (C.wz (D :: Z)) α M (upd H D o) :=
  r.chg (mv_own (.inr (.inr List.mem_cons_self))) (fun a ha => upd_ne fun e => na (by rw [← e]; exact ha)) (fun P hP => upd_ne fun e => nt (by rw [← e]; exact hP)) fun z hz => by
    by_cases e : z = D
    · subst e; exact ⟨o, upd_same⟩
    · obtain ⟨u, h⟩ := r.zd z hz
      exact ⟨u, by rw [upd_ne e]; exact h⟩
theorem Step.own {α0 : List Addr} {H0 : Hp} {D : Addr} {o : HO} (s : Step C α0 H0 α H) (hD : H0 D = none) : Step C α0 H0 α (upd H D o) :=
  ⟨s.ext, fun b u h n t => by rw [upd_ne (ne_of_none h hD)]; exact s.keep b u h n t, fun b u h => by
    by_cases e : b = D
    · subst e; exact ⟨o, upd_same⟩
    · obtain ⟨u', h'⟩ := s.dom b u h
      exact ⟨u', by rw [upd_ne e]; exact h'⟩⟩
end
theorem XR.any {C : Cn} {α : List Addr} {H : Hp} {σ : L2.St} : Wk C α H W0 σ noX := fun _ _ _ _ _ _ _ _ _ h => h.elim
/-- a target that stores in these slots alone -/
def Wg (g : TG) (ns : List Nat) : Prop := ∀ x σ H Q, g x σ H Q → g x σ H fun σ2 H2 => wipe σ2 ns = wipe σ ns ∧ Q σ2 H2
def Wgs (g : TGs) (ns : List Nat) : Prop := ∀ x σ H Q, g x σ H Q → g x σ H fun σ2 H2 => wipe σ2 ns = wipe σ ns ∧ Q σ2 H2
theorem wipe_set {σ : L2.St} {j : Nat} {v : Option V} : ∀ {ns : List Nat}, j ∈ ns → wipe (σ.set j v) ns = wipe σ ns
  | n :: ns, h => by
    show (wipe (σ.set j v) ns).set n none = (wipe σ ns).set n none
    by_cases e : j ∈ ns
    · rw [wipe_set e]
    · have en : j = n := (List.mem_cons.mp h).resolve_right e
      subst en
      have : ∀ (ns : List Nat), j ∉ ns → wipe (σ.set j v) ns = (wipe σ ns).set j v := by
        intro ns
        induction ns with
        | nil => intro _; rfl
        | cons k ns ih =>
          intro hk
          show (wipe (σ.set j v) ns).set k none = ((wipe σ ns).set k none).set j v
          rw [ih (fun z => hk (List.mem_cons_of_mem _ z)), List.set_comm _ _ (fun e => hk (by rw [e]; exact List.mem_cons_self))]
      rw [this ns e, List.set_set]
theorem wipe_idem {σ : L2.St} : ∀ {ns ms : List Nat}, (∀ n ∈ ns, n ∈ ms) → wipe (wipe σ ns) ms = wipe σ ms
  | [], _, _ => rfl
  | n :: ns, ms, h => by
    show wipe ((wipe σ ns).set n none) ms = _
    rw [wipe_set (h n List.mem_cons_self), wipe_idem fun k hk => h k (List.mem_cons_of_mem _ hk)]
theorem wg_name {j : Nat} {ns : List Nat} (h : j ∈ ns) : Wg (gName j) ns := fun x σ H Q q => ⟨wipe_set h, q⟩
theorem wgs_nil {ns : List Nat} : Wgs gNil ns := fun x σ H Q ⟨e, q⟩ => ⟨e, rfl, q⟩
theorem mono_g {g : TG} {ns : List Nat} : True := trivial
/-- .. and it goes on with what it is given -/
structure Wm (g : TG) (ns : List Nat) : Prop where
  wg : Wg g ns
  mono : ∀ x σ H Q Q', (∀ σ H, Q σ H → Q' σ H) → g x σ H Q → g x σ H Q'
structure Wms (g : TGs) (ns : List Nat) : Prop where
  wg : Wgs g ns
  mono : ∀ x σ H Q Q', (∀ σ H, Q σ H → Q' σ H) → g x σ H Q → g x σ H Q'
theorem wm_name {j : Nat} {ns : List Nat} (h : j ∈ ns) : Wm (gName j) ns := ⟨wg_name h, fun x σ H Q Q' f q => f _ _ q⟩
theorem wms_nil {ns : List Nat} : Wms gNil ns := ⟨wgs_nil, fun x σ H Q Q' f q => ⟨q.1, f _ _ q.2⟩⟩
theorem wms_cons {g : TG} {gs : TGs} {ns : List Nat} (h : Wm g ns) (hs : Wms gs ns) : Wms (gCons g gs) ns :=
  ⟨fun x σ H Q ⟨v, r, e, q⟩ => ⟨v, r, e, h.mono _ _ _ _ _ (fun σ2 H2 ⟨e2, q2⟩ => hs.mono _ _ _ _ _ (fun σ3 H3 ⟨e3, q3⟩ => ⟨e3.trans e2, q3⟩) (hs.wg _ _ _ _ q2)) (h.wg _ _ _ _ q)⟩,
   fun x σ H Q Q' f ⟨v, r, e, q⟩ => ⟨v, r, e, h.mono _ _ _ _ _ (fun σ2 H2 q2 => hs.mono _ _ _ _ _ f q2) q⟩⟩
theorem wm_tup {K : PySem.W.Frag} {n : Nat} {gs : TGs} {ns : List Nat} (hs : Wms gs ns) : Wm (gTup K n gs) ns :=
  ⟨fun x σ H Q ⟨a, xs, e, h1, h2, q⟩ => ⟨a, xs, e, h1, h2, hs.wg _ _ _ _ q⟩, fun x σ H Q Q' f ⟨a, xs, e, h1, h2, q⟩ => ⟨a, xs, e, h1, h2, hs.mono _ _ _ _ _ f q⟩⟩
theorem lo_lc {C : Cn} {W : WX} {wi : TI} {lw : LW} {g : TG} {lg : LG} {tt : TT} {lt : LT} {te : TE} {le : LE} {ns : List Nat} (hi : LoW C W wi lw) (hg : LoG C g lg) (hw : Wm g ns) (ht : LoT C W0 tt lt) (he : LoE C W0 te le) :
    LoE C W (tLc wi g tt te ns) (lLc lw lg lt le ns) := fun ρ M P PX h Z σ H α Q vs rs kt wk => by
  refine hi _ _ _ _ h Z σ H α _ vs rs wk fun J H1 α1 items okM M1 s1 r1 it ok1 h1 => fun D hD => ?_
  obtain ⟨I, i0, iok, turn, done⟩ := h1
  have nD := r1.fresh hD
  have naD : D ∉ α1 := fun z => nD (.inl z)
  have ntD : D ∉ C.T := fun z => nD (.inr (.inl z))
  have nzD : D ∉ Z := fun z => nD (.inr (.inr z))
  have m1 : Mv ((C.wz Z).N α1) H1 ((C.wz (D :: Z)).N α1) (upd H1 D (.lst [])) := ⟨fun b o h _ => by rw [upd_ne (ne_of_none h hD)]; exact h, fun b o h n z => by
    rcases z with z | z | z
    · exact n (.inl z)
    · exact n (.inr (.inl z))
    · rcases List.mem_cons.mp z with z | z
      · exact ne_of_none h hD z
      · exact n (.inr (.inr z))⟩
  have r1' : RS (C.wz (D :: Z)) α1 M1 (upd H1 D (.lst [])) := r1.chg m1 (fun a ha => upd_ne fun e => naD (by rw [← e]; exact ha)) (fun Q hQ => upd_ne fun e => ntD (by rw [← e]; exact hQ)) fun z hz => by
    by_cases e : z = D
    · subst e; exact ⟨_, upd_same⟩
    · obtain ⟨u, h⟩ := r1.zd z ((List.mem_cons.mp hz).resolve_left e)
      exact ⟨u, by rw [upd_ne e]; exact h⟩
  have it' := it (D :: Z) _ m1
  have vs1 : VS (C.wz (D :: Z)) α1 (upd H1 D (.lst [])) (wipe σ ns) (wipeL ρ ns) := wipe_vs ((vs.step s1).chg m1) ns
  refine ⟨fun i m H' => m = items.length - i ∧ i ≤ items.length ∧ ∃ α' M' xs acc, Pre (C.wz (D :: Z)) α1 (upd H1 D (.lst [])) α' H' ∧ Step (C.wz Z) α1 H1 α' H' ∧ RS (C.wz (D :: Z)) α' M' H' ∧ H' D = some (.lst xs) ∧ VDs C.K ((C.wz (D :: Z)).N α') H' xs acc ∧ D ∉ α' ∧ I i acc M',
    ⟨_, rfl, Nat.zero_le _, α1, M1, [], [], ⟨⟨[], by simp⟩, .refl⟩, Step.refl.own hD, r1', upd_same, .nil, naD, i0⟩, ?_⟩
  rintro i m H' ⟨rfl, hi', α', M', xs, acc, pre', s', r', hx, hd, na', p⟩
  by_cases hlt : i < items.length
  · obtain ⟨go, yld⟩ := it'.go i α' H' M' _ pre' r' (iok i acc M' p) (List.getElem?_eq_getElem hlt)
    refine .inr ⟨go, fun H2 => ∃ α2 M2 xs acc, Pre (C.wz (D :: Z)) α1 (upd H1 D (.lst [])) α2 H2 ∧ Step (C.wz Z) α1 H1 α2 H2 ∧ RS (C.wz (D :: Z)) α2 M2 H2 ∧ H2 D = some (.lst xs) ∧ VDs C.K ((C.wz (D :: Z)).N α2) H2 xs acc ∧ D ∉ α2 ∧ I (i + 1) acc M2, fun H2 q => ⟨items.length - (i + 1), by omega, rfl, hlt, q⟩, fun x H2 y => ?_⟩
    obtain ⟨r2, s2, q2⟩ := yld x H2 y
    have p2 := pre'.trans s2.pre
    have fin : ∀ α5 M5 H5 xs5 acc5, Pre (C.wz (D :: Z)) α1 (upd H1 D (.lst [])) α5 H5 → Step (C.wz Z) α1 H1 α5 H5 → RS (C.wz (D :: Z)) α5 M5 H5 → H5 D = some (.lst xs5) → VDs C.K ((C.wz (D :: Z)).N α5) H5 xs5 acc5 → D ∉ α5 → DropM M1.length (I (i + 1) acc5) M5 →
        ∃ α2 M2 xs acc, Pre (C.wz (D :: Z)) α1 (upd H1 D (.lst [])) α2 H5 ∧ Step (C.wz Z) α1 H1 α2 H5 ∧ RS (C.wz (D :: Z)) α2 M2 H5 ∧ H5 D = some (.lst xs) ∧ VDs C.K ((C.wz (D :: Z)).N α2) H5 xs acc ∧ D ∉ α2 ∧ I (i + 1) acc M2 := fun α5 M5 H5 xs5 acc5 pt st r5 h5 d5 na5 q5 => by
      rcases q5 with q5 | ⟨n, hn, hM, q5⟩
      · exact ⟨α5, M5, xs5, acc5, pt, st, r5, h5, d5, na5, q5⟩
      · rw [← r1.hr.len] at hn
        refine ⟨α5.take n, M5.take n, xs5, acc5, ⟨?_, pt.mv.trans Mv.take⟩, st.drop hn, r5.drop hM, h5, d5.mv Mv.take, fun z => na5 (List.mem_of_mem_take z), q5⟩
        obtain ⟨β, e⟩ := pt.ext
        exact ⟨β.take (n - α1.length), by rw [e, List.take_append, List.take_of_length_le hn]⟩
    have na_ : ∀ {α5 H5}, Step (C.wz (D :: Z)) α' H' α5 H5 → D ∉ α5 := fun {α5 H5} s5 z => by
      obtain ⟨β, e, fr⟩ := s5.ext
      rw [e] at z
      rcases List.mem_append.mp z with z | z
      · exact na' z
      · have := fr D z; rw [hx] at this; cases this
    have sz : ∀ {α5 H5}, Step (C.wz (D :: Z)) α' H' α5 H5 → Step (C.wz Z) α1 H1 α5 H5 := fun s5 => s'.trans ⟨s5.ext, s5.keep, s5.dom⟩
    refine hw.mono _ _ _ _ _ (fun σ3 H3 z => ⟨z.1.trans (wipe_idem fun _ h => h), z.2⟩) (hw.wg _ _ _ _ ?_)
    refine hg _ _ M' _ (turn i _ acc M' (List.getElem?_eq_getElem hlt) p) x (D :: Z) (wipe σ ns) H2 α' _ q2 (vs1.pre p2) r2 fun σ3 H3 α3 ρ3 M3 s3 vs3 r3 p3 => ?_
    have s23 := s2.trans s3
    refine ht.bind p3 vs3 r3 XR.any fun b H4 α4 M4 s4 r4 h4 vs4 wk4 => ?_
    have s24 := s23.trans s4
    have hD4 : H4 D = some (.lst xs) := s24.keep D _ hx na' ntD
    cases b with
    | false => exact fin α4 M4 H4 xs acc (pre'.trans s24.pre) (sz s24) r4 hD4 (hd.mv s24.mv) (na_ s24) h4
    | true =>
      refine he.bind h4 vs4 r4 XR.any fun v H5 α5 y M5 s5 r5 q5 h5 vs5 wk5 => ?_
      obtain ⟨hz, d, rfl, h5⟩ := h5
      have s25 := s24.trans s5
      have hD5 : H5 D = some (.lst xs) := s25.keep D _ hx na' ntD
      refine ⟨xs, hD5, by rw [hd.length]; exact hz, ?_⟩
      have mo : Mv ((C.wz (D :: Z)).N α5) H5 ((C.wz (D :: Z)).N α5) (upd H5 D (.lst (xs ++ [v]))) := mv_own (.inr (.inr List.mem_cons_self))
      have pp := pre'.trans s25.pre
      exact fin α5 M5 _ (xs ++ [v]) (acc ++ [d]) ⟨pp.ext, pp.mv.trans mo⟩ ((sz s25).own hD) (r5.own (na_ s25) ntD) upd_same (((hd.mv s25.mv).append (.cons q5 .nil)).mv mo) (na_ s25) h5
  · have e : i = items.length := by omega
    subst e
    refine .inl ⟨it'.stop α' H' M' pre' r' (iok _ acc M' p), ?_⟩
    have mw : Mv ((C.wz (D :: Z)).N α') H' ((C.wz Z).N α') H' := ⟨fun _ _ h _ => h, fun b o h n z => n (z.imp id fun z => z.imp id fun z => List.mem_cons_of_mem _ z)⟩
    refine kt _ H' α' (.dat (.lst acc)) M' (s1.trans s') (r'.chg mw (fun _ _ => rfl) (fun _ _ => rfl) fun z hz => r'.zd z (List.mem_cons_of_mem _ hz)) (.lst (.inl ⟨.inl hx, ?_⟩) (hd.mv mw)) (done acc M' p)
    rintro (z | z | z)
    · exact na' z
    · exact ntD z
    · exact nzD z
end L3

namespace L3
open PySem L2

section
variable {X : Cx} {C : Cn} {W : WX} {elt tg iter c : Expr} {ifs : List Expr} {scope : Scope} {own : List (Str × Nat)} {pos spos : Pos} {wi : TI} {lw : LW} {g : TG} {lg : LG} {tt : TT} {lt : LT} {te : TE} {le : LE}
theorem lpts_nil : LPTs X C W [] tYes lYes := ⟨pts_nil, fun ρ M P PX h Z σ H α Q vs rs k wk => k true H α M Step.refl rs h⟩
theorem lpts_one (h : LPT X C W c tt lt) : LPTs X C W [c] tt lt := ⟨pts_one h.pt, h.lo⟩
theorem lp_lc (hc : X.calm = true) (hN : X.N.Nodup) (hi : LPI X C W tg iter wi lw) (ok : BlkOk X.N X.env.scope scope own) (hw : Wm g (own.map (·.2)))
    (hg : ∀ (s : Shared) (H : Hp) (c : Addr) (cl : List (Str × Addr)) (fp : List Addr), LPG (X.blk s H scope (compEnvC scope cl c X.env) fp) C tg g lg) (ht : ∀ (s : Shared) (H : Hp) (c : Addr) (cl : List (Str × Addr)) (fp : List Addr), LPTs (X.blk s H scope (compEnvC scope cl c X.env) fp) C W0 ifs tt lt)
    (he : ∀ (s : Shared) (H : Hp) (c : Addr) (cl : List (Str × Addr)) (fp : List Addr), LPE (X.blk s H scope (compEnvC scope cl c X.env) fp) C W0 elt te le) (hs : ∀ x, foldedSetIterable iter X.env x = pure x := by intro _; rfl) :
    LPE X C W (.ListComp elt [⟨tg, iter, ifs, 0⟩] scope pos) (tLc wi g tt te (own.map (·.2))) (lLc lw lg lt le (own.map (·.2))) :=
  ⟨pe_lc hc hN hi.pi ok (fun s H c cl fp => (hg s H c cl fp).pg) (fun s H c cl fp => (ht s H c cl fp).pt) (fun s H c cl fp => (he s H c cl fp).pe) hs,
   lo_lc hi.lo (hg ({} : Shared) (fun _ => none) 0 [] []).lo hw (ht ({} : Shared) (fun _ => none) 0 [] []).lo (he ({} : Shared) (fun _ => none) 0 [] []).lo⟩
end

section
variable {X : Cx} {C : Cn} {W : WX} {elt tg iter c : Expr} {ifs : List Expr} {scope : Scope} {own : List (Str × Nat)} {pos spos py : Pos} {wi : TI} {lw : LW} {g : TG} {lg : LG} {tt : TT} {lt : LT} {te : TE} {le : LE} {i : Nat} {y : Str}
theorem lps_setLc (hc : X.calm = true) (hN : X.N.Nodup) (hy : X.N[i]? = some y) (hyl : X.env.scope.names.lookup y = some .local)
    (hsw : swapsWith (.ListComp elt [⟨tg, iter, ifs, 0⟩] scope pos) (some (.Name y py)) spos.line X.env = pure true) (hi : LPI X C W tg iter wi lw) (ok : BlkOk X.N X.env.scope scope own) (hw : Wm g (own.map (·.2)))
    (hg : ∀ (s : Shared) (H : Hp) (c : Addr) (cl : List (Str × Addr)) (fp : List Addr), LPG (X.blk s H scope (compEnvC scope cl c X.env) fp) C tg g lg) (ht : ∀ (s : Shared) (H : Hp) (c : Addr) (cl : List (Str × Addr)) (fp : List Addr), LPTs (X.blk s H scope (compEnvC scope cl c X.env) fp) C W0 ifs tt lt)
    (he : ∀ (s : Shared) (H : Hp) (c : Addr) (cl : List (Str × Addr)) (fp : List Addr), LPE (X.blk s H scope (compEnvC scope cl c X.env) fp) C W0 elt te le) (hs : ∀ x, foldedSetIterable iter X.env x = pure x := by intro _; rfl) :
    LPS X C W (.Assign [.Name y py] (.ListComp elt [⟨tg, iter, ifs, 0⟩] scope pos) spos) (tAsg (tLc wi g tt te (own.map (·.2))) (gName i)) (lSet i (lLc lw lg lt le (own.map (·.2)))) :=
  ⟨ps_setLc hc hN hy hyl hsw hi.pi ok (fun s H c cl fp => (hg s H c cl fp).pg) (fun s H c cl fp => (ht s H c cl fp).pt) (fun s H c cl fp => (he s H c cl fp).pe) hs,
   lo_set (lo_lc hi.lo (hg ({} : Shared) (fun _ => none) 0 [] []).lo hw (ht ({} : Shared) (fun _ => none) 0 [] []).lo (he ({} : Shared) (fun _ => none) 0 [] []).lo)⟩
end

/-! ### operations by values -/
/-- ints -/
def vI (Cd : Int → Int → Prop) (g : Int → Int → D) : DV → DV → Mem → PD → Prop := fun x y M P => ∃ i j, x = .int i ∧ y = .int j ∧ Cd i j ∧ P (.dat (g i j)) M
def vI0 (g : Int → Int → D) : DV → DV → Mem → PD → Prop := fun x y M P => ∃ i j, x = .int i ∧ y = .int j ∧ P (.dat (g i j)) M
section
variable {C : Cn}
theorem l2_I {Cd : Int → Int → Prop} {g : Int → Int → V} {g' : Int → Int → D} (h : ∀ K N H i j, VD K N H (g i j) (g' i j)) : Lo2 C (rI Cd g) (vI Cd g') := fun x y M P ⟨i, j, e1, e2, hc, p⟩ Z α H v u Q r q1 q2 k => by
  subst e1 e2
  cases q1; cases q2
  exact ⟨i, j, rfl, rfl, hc, k.now (d := .dat (g' i j)) r (h _ _ _ _ _) p⟩
theorem l2_I0 {g : Int → Int → V} {g' : Int → Int → D} (h : ∀ K N H i j, VD K N H (g i j) (g' i j)) : Lo2 C (rI0 g) (vI0 g') := fun x y M P ⟨i, j, e1, e2, p⟩ Z α H v u Q r q1 q2 k => by
  subst e1 e2
  cases q1; cases q2
  exact ⟨i, j, rfl, rfl, k.now (d := .dat (g' i j)) r (h _ _ _ _ _) p⟩
theorem l2_add : Lo2 C (rI0 fun i j => .int (i + j)) (vI0 fun i j => .int (i + j)) := l2_I0 fun _ _ _ i j => .int (i + j)
theorem l2_sub : Lo2 C (rI0 fun i j => .int (i - j)) (vI0 fun i j => .int (i - j)) := l2_I0 fun _ _ _ i j => .int (i - j)
theorem l2_mul : Lo2 C (rI CMul fun i j => .int (i * j)) (vI CMul fun i j => .int (i * j)) := l2_I fun _ _ _ i j => .int (i * j)
theorem l2_fdivN : Lo2 C (rI CDivN fun i j => .int (i.fdiv j)) (vI CDivN fun i j => .int (i.fdiv j)) := l2_I fun _ _ _ i j => .int (i.fdiv j)
theorem l2_modN : Lo2 C (rI (fun _ j => j ≠ 0) fun i j => .int (i.fmod j)) (vI (fun _ j => j ≠ 0) fun i j => .int (i.fmod j)) := l2_I fun _ _ _ i j => .int (i.fmod j)
theorem l2_pow : Lo2 C (rI CPow fun i j => .int (i ^ j.toNat)) (vI CPow fun i j => .int (i ^ j.toNat)) := l2_I fun _ _ _ i j => .int (i ^ j.toNat)
theorem l2_lt : Lo2 C (rI0 fun i j => .bl (decide (i < j))) (vI0 fun i j => .bl (decide (i < j))) := l2_I0 fun _ _ _ i j => .bl _
theorem l2_le : Lo2 C (rI0 fun i j => .bl (decide (i ≤ j))) (vI0 fun i j => .bl (decide (i ≤ j))) := l2_I0 fun _ _ _ i j => .bl _
theorem l2_gt : Lo2 C (rI0 fun i j => .bl (decide (j < i))) (vI0 fun i j => .bl (decide (j < i))) := l2_I0 fun _ _ _ i j => .bl _
theorem l2_ge : Lo2 C (rI0 fun i j => .bl (decide (j ≤ i))) (vI0 fun i j => .bl (decide (j ≤ i))) := l2_I0 fun _ _ _ i j => .bl _
def vNeg : DV → Mem → PD → Prop := fun x M P => ∃ i, x = .int i ∧ P (.int (-i)) M
theorem l1_neg : Lo1 C (rU fun i => .int (-i)) vNeg := fun x M P ⟨i, e, p⟩ Z α H v Q r q k => by
  subst e
  cases q
  exact ⟨i, rfl, k.now (d := .int (-i)) r (.int _) p⟩
/-- texts joined -/
def rAddS : R2 := fun x y H Q => ∃ i j, x = .str i ∧ y = .str j ∧ i.length + j.length ≤ sizeLine ∧ Q (.str (i ++ j)) H
def vAddS : DV → DV → Mem → PD → Prop := fun x y M P => ∃ i j, x = .str i ∧ y = .str j ∧ i.length + j.length ≤ sizeLine ∧ P (.str (i ++ j)) M
theorem l2_addS : Lo2 C rAddS vAddS := fun x y M P ⟨i, j, e1, e2, hc, p⟩ Z α H v u Q r q1 q2 k => by
  subst e1 e2
  cases q1; cases q2
  exact ⟨i, j, rfl, rfl, hc, k.now (d := .str (i ++ j)) r (.str _) p⟩
/-- two of them by a choice -/
theorem l2_or {r r' : R2} {l l' : DV → DV → Mem → PD → Prop} (h : Lo2 C r l) (h' : Lo2 C r' l') : Lo2 C (fun x y H Q => r x y H Q ∨ r' x y H Q) (fun x y M P => l x y M P ∨ l' x y M P) := fun x y M P g Z α H v u Q rs q1 q2 k =>
  g.imp (fun g => h x y M P g Z α H v u Q rs q1 q2 k) fun g => h' x y M P g Z α H v u Q rs q1 q2 k
theorem ll_or {r r' : List V → Hp → VK → Prop} {l l' : List DV → Mem → PD → Prop} (h : LoL C r l) (h' : LoL C r' l') : LoL C (fun x H Q => r x H Q ∨ r' x H Q) (fun x M P => l x M P ∨ l' x M P) := fun x M P g Z α H v Q rs q k =>
  g.imp (fun g => h x M P g Z α H v Q rs q k) fun g => h' x M P g Z α H v Q rs q k
/-- == and != of data -/
def scD : D → Option V
  | .non => some .non
  | .bl b => some (.bl b)
  | .int i => some (.int i)
  | .str x => some (.str x)
  | _ => none
theorem scD_of {K : PySem.W.Frag} {N : Addr → Prop} {H : Hp} {v w : V} {d : D} (h : VD K N H v d) (e : scD d = some w) : v = w := by
  cases h <;> first | (cases e; rfl) | (cases e)
mutual
def pyD : D → PyData
  | .non => .none
  | .bl b => .bool b
  | .int i => .int i
  | .str x => .str x
  | .ty _ => .none
  | .con _ => .none
  | .exc .. => .none
  | .tup ds => .tuple (pyDs ds)
  | .lst ds => .list (pyDs ds)
def pyDs : List D → List PyData
  | [] => []
  | d :: ds => pyD d :: pyDs ds
end
mutual
def pureD : D → Bool
  | .ty _ => false
  | .con _ => false
  | .exc .. => false
  | .tup ds => pureDs ds
  | .lst ds => pureDs ds
  | _ => true
def pureDs : List D → Bool
  | [] => true
  | d :: ds => pureD d && pureDs ds
end
mutual
theorem VD.dp {K : PySem.W.Frag} {N : Addr → Prop} {H : Hp} : ∀ {v : V} {d : D}, pureD d = true → VD K N H v d → Dp K H v (pyD d)
  | _, _, _, .non => .non
  | _, _, _, .bl b => .bl b
  | _, _, _, .int i => .int i
  | _, _, _, .str x => .str x
  | _, .ty _, p, _ => by cases p
  | _, .con _, p, _ => by cases p
  | _, .exc .., p, _ => by cases p
  | _, _, p, .tup h hs => .tup h.sq (VDs.dp p hs)
  | _, _, p, .lst h hs => .lst h.sq (VDs.dp p hs)
theorem VDs.dp {K : PySem.W.Frag} {N : Addr → Prop} {H : Hp} : ∀ {v : List V} {d : List D}, pureDs d = true → VDs K N H v d → DpAll K H v (pyDs d)
  | _, _, _, .nil => .nil
  | _, _, p, .cons h hs => by
    unfold pureDs at p
    rw [Bool.and_eq_true] at p
    exact .cons (VD.dp p.1 h) (VDs.dp p.2 hs)
end
def okD (d : D) : Bool := pureD d && SeqAt.shaped (pyD d)
def eqD (d e : D) : Bool := PyData.eqv (pyD d) (pyD e)
def vEq (neg : Bool) : DV → DV → Mem → PD → Prop := fun x y M P => (∃ d e v u, x = .dat d ∧ y = .dat e ∧ scD d = some v ∧ scD e = some u ∧ scal v u = true ∧ P (.bl (if neg then !decide (v = u) else decide (v = u))) M) ∨
  ∃ d e, x = .dat d ∧ y = .dat e ∧ okD d = true ∧ okD e = true ∧ P (.bl (if neg then !eqD d e else eqD d e)) M
def rEqA (K : PySem.W.Frag) : R2 := fun x y H Q => rEq x y H Q ∨ rEqD K x y H Q
def rNeA (K : PySem.W.Frag) : R2 := fun x y H Q => rNe x y H Q ∨ rNeD K x y H Q
theorem op_eqA {X : Cx} (hu : X.A.units + 64 < cLine) : OpR X (compareOp .Eq) (rEqA X.K) := op_eq.or (op_eqD hu)
theorem op_neA {X : Cx} (hu : X.A.units + 64 < cLine) : OpR X (compareOp .NotEq) (rNeA X.K) := op_ne.or (op_neD hu)
theorem l2_eq : Lo2 C (rEqA C.K) (vEq false) := fun x y M P g Z α H v u Q r q1 q2 k => by
  rcases g with ⟨d, e, v', u', rfl, rfl, h1, h2, h3, p⟩ | ⟨d, e, rfl, rfl, h1, h2, p⟩
  · have e1 := scD_of q1 h1
    have e2 := scD_of q2 h2
    subst e1 e2
    exact .inl ⟨h3, k.now (d := .bl _) r (.bl _) p⟩
  · unfold okD at h1 h2
    rw [Bool.and_eq_true] at h1 h2
    exact .inr ⟨pyD d, pyD e, VD.dp h1.1 q1, VD.dp h2.1 q2, h1.2, h2.2, k.now (d := .bl _) r (.bl _) p⟩
theorem l2_ne : Lo2 C (rNeA C.K) (vEq true) := fun x y M P g Z α H v u Q r q1 q2 k => by
  rcases g with ⟨d, e, v', u', rfl, rfl, h1, h2, h3, p⟩ | ⟨d, e, rfl, rfl, h1, h2, p⟩
  · have e1 := scD_of q1 h1
    have e2 := scD_of q2 h2
    subst e1 e2
    exact .inl ⟨h3, k.now (d := .bl _) r (.bl _) p⟩
  · unfold okD at h1 h2
    rw [Bool.and_eq_true] at h1 h2
    exact .inr ⟨pyD d, pyD e, VD.dp h1.1 q1, VD.dp h2.1 q2, h1.2, h2.2, k.now (d := .bl _) r (.bl _) p⟩
theorem vEq_int {neg : Bool} {i j : Int} {M : Mem} {P : PD} (p : P (.bl (if neg then !decide (i = j) else decide (i = j))) M) : vEq neg (.int i) (.int j) M P := .inl ⟨.int i, .int j, .int i, .int j, rfl, rfl, rfl, rfl, rfl, by
  have e : decide (V.int i = V.int j) = decide (i = j) := by simp
  rw [e]; exact p⟩
theorem vEq_str {neg : Bool} {i j : Str} {M : Mem} {P : PD} (p : P (.bl (if neg then !decide (i = j) else decide (i = j))) M) : vEq neg (.str i) (.str j) M P := .inl ⟨.str i, .str j, .str i, .str j, rfl, rfl, rfl, rfl, rfl, by
  have e : decide (V.str i = V.str j) = decide (i = j) := by simp
  rw [e]; exact p⟩
theorem vEq_bl {neg : Bool} {i j : Bool} {M : Mem} {P : PD} (p : P (.bl (if neg then !decide (i = j) else decide (i = j))) M) : vEq neg (.bl i) (.bl j) M P := .inl ⟨.bl i, .bl j, .bl i, .bl j, rfl, rfl, rfl, rfl, rfl, by
  have e : decide (V.bl i = V.bl j) = decide (i = j) := by simp
  rw [e]; exact p⟩
theorem vEq_dat {neg : Bool} {d e : D} {M : Mem} {P : PD} (h1 : okD d = true) (h2 : okD e = true) (p : P (.bl (if neg then !eqD d e else eqD d e)) M) : vEq neg (.dat d) (.dat e) M P := .inr ⟨d, e, rfl, rfl, h1, h2, p⟩
/-- is None -/
def isNon : DV → Bool
  | .dat .non => true
  | _ => false
def rIsN (neg : Bool) : R2 := fun x y H Q => y = .non ∧ Q (.bl (if neg then !decide (x = .non) else decide (x = .non))) H
def vIsN (neg : Bool) : DV → DV → Mem → PD → Prop := fun x y M P => y = .non ∧ P (.bl (if neg then !isNon x else isNon x)) M
theorem non_dec {C : Cn} {α : List Addr} {H : Hp} {v : V} {x : DV} (q : VR C α H v x) : decide (v = .non) = isNon x := by
  cases x with
  | obj n => obtain ⟨a, _, rfl⟩ := q; rfl
  | dat d => cases q <;> rfl
theorem op_isNA {X : Cx} : OpR X (compareOp .Is) (rIsN false) := op_isN
theorem op_notNA {X : Cx} : OpR X (compareOp .IsNot) (rIsN true) := op_notN
theorem l2_isN (neg : Bool) : Lo2 C (rIsN neg) (vIsN neg) := fun x y M P ⟨e, p⟩ Z α H v u Q r q1 q2 k => by
  subst e
  cases q2
  refine ⟨rfl, ?_⟩
  rw [non_dec q1]
  exact k.now (d := .bl _) r (.bl _) p
/-- texts compared -/
def rLtS : R2 := fun x y H Q => ∃ i j, x = .str i ∧ y = .str j ∧ Q (.bl (decide (i.cps.toList < j.cps.toList))) H
def rLeS : R2 := fun x y H Q => ∃ i j, x = .str i ∧ y = .str j ∧ Q (.bl (!decide (j.cps.toList < i.cps.toList))) H
def vLtS : DV → DV → Mem → PD → Prop := fun x y M P => ∃ i j, x = .str i ∧ y = .str j ∧ P (.bl (decide (i.cps.toList < j.cps.toList))) M
def vLeS : DV → DV → Mem → PD → Prop := fun x y M P => ∃ i j, x = .str i ∧ y = .str j ∧ P (.bl (!decide (j.cps.toList < i.cps.toList))) M
theorem l2_ltS : Lo2 C rLtS vLtS := fun x y M P ⟨i, j, e1, e2, p⟩ Z α H v u Q r q1 q2 k => by
  subst e1 e2
  cases q1; cases q2
  exact ⟨i, j, rfl, rfl, k.now (d := .bl _) r (.bl _) p⟩
theorem l2_leS : Lo2 C rLeS vLeS := fun x y M P ⟨i, j, e1, e2, p⟩ Z α H v u Q r q1 q2 k => by
  subst e1 e2
  cases q1; cases q2
  exact ⟨i, j, rfl, rfl, k.now (d := .bl _) r (.bl _) p⟩
/-- a text in a text -/
def rInT (neg : Bool) : R2 := fun x y H Q => ∃ i j, x = .str i ∧ y = .str j ∧ Q (.bl (if neg then !(!(Builtin.Str.occurrences j i 0 j.length 1).isEmpty) else !(Builtin.Str.occurrences j i 0 j.length 1).isEmpty)) H
def vInT (neg : Bool) : DV → DV → Mem → PD → Prop := fun x y M P => ∃ i j, x = .str i ∧ y = .str j ∧ P (.bl (if neg then !(!(Builtin.Str.occurrences j i 0 j.length 1).isEmpty) else !(Builtin.Str.occurrences j i 0 j.length 1).isEmpty)) M
theorem op_inT {X : Cx} : OpR X (compareOp .In) (rInT false) := op_in_str
theorem op_notInT {X : Cx} : OpR X (compareOp .NotIn) (rInT true) := op_notIn_str
theorem l2_inT (neg : Bool) : Lo2 C (rInT neg) (vInT neg) := fun x y M P ⟨i, j, e1, e2, p⟩ Z α H v u Q r q1 q2 k => by
  subst e1 e2
  cases q1; cases q2
  exact ⟨i, j, rfl, rfl, k.now (d := .bl _) r (.bl _) p⟩
/-- a sign in a text -/
def rInC (neg : Bool) : R2 := fun x y H Q => ∃ (c : Nat) (z : Str), x = .str ⟨#[c]⟩ ∧ y = .str z ∧ Q (.bl (if neg then !decide (c ∈ z.cps.toList) else decide (c ∈ z.cps.toList))) H
def vInC (neg : Bool) : DV → DV → Mem → PD → Prop := fun x y M P => ∃ (c : Nat) (z : Str), x = .str ⟨#[c]⟩ ∧ y = .str z ∧ P (.bl (if neg then !decide (c ∈ z.cps.toList) else decide (c ∈ z.cps.toList))) M
theorem op_inC {X : Cx} : OpR X (compareOp .In) (rInC false) := op_in_sign
theorem op_notInC {X : Cx} : OpR X (compareOp .NotIn) (rInC true) := op_notIn_sign
theorem l2_inC (neg : Bool) : Lo2 C (rInC neg) (vInC neg) := fun x y M P ⟨i, j, e1, e2, p⟩ Z α H v u Q r q1 q2 k => by
  subst e1 e2
  cases q1; cases q2
  exact ⟨i, j, rfl, rfl, k.now (d := .bl _) r (.bl _) p⟩
/-- a flat datum in a list, a tuple of flat data -/
def flatD : D → Bool
  | .non => true | .bl _ => true | .int _ => true | .str _ => true
  | _ => false
def inD (d : D) (ds : List D) : Bool := ds.any fun e => eqD e d
theorem flat_of {K : PySem.W.Frag} {N : Addr → Prop} {H : Hp} {v : V} {d : D} (h : VD K N H v d) (e : flatD d = true) : flatV v = true ∧ ∀ w e', VD K N H w e' → flatD e' = true → eqV v w = eqD d e' := by
  cases h <;> first
    | (refine ⟨rfl, fun w e' h' f => ?_⟩; cases h' <;> first | rfl | (cases f) | (simp [eqV, eqD, pyD, PyData.eqv] ; done) | (unfold eqV eqD pyD PyData.eqv; rfl))
    | (cases e)
end
end L3

/-! base rules of our own: tuple(d), text * int -/
namespace L2
open PySem PySem.Spec PyProof.Rows
section
variable {prog : Program} {w : World} {A : Around} {E : Value → Shared → Prop} {s : Shared} {T : String} {r d : Addr} {n : Nat} {P : Nat → Value → Prop} {OK : Heap → Prop}
theorem collect_src {Q : List Value → Shared → Prop} (K : PySem.W.KdlSrc prog w T r d n P OK) (hh : A.handled = none) (hok : OK s.heap) (hn : n ≤ sizeLine)
    (hQ : ∀ (h' : Heap) (tk : Nat) (acc : Array Value), (∀ b o, s.heap.get? b = some o → h'.get? b = some o) → ItemsOf P acc n → Q acc.toList { s with heap := h', toks := tk }) :
    wpAny (model prog w) A (collect (.ref r)) Q E s := by
  unfold collect
  refine wpAny_bind (wpAny_runValue (codeAny_builtin F.entry_proto_collect ?_))
  rw [Around.under_plainId F.plain_proto_collect _]
  show wpAny _ A.in1 (newList [] >>= fun l => again (.builtin "list.__iadd__" ⟨[l, .ref r], []⟩)) _ _ s
  refine wpAny_bind (wpAny_newObj_type ?_)
  refine wpAny_pure ⟨plainId_quiet F.plain_list_iadd _, codeAny_builtin F.entry_list_iadd ?_⟩
  rw [Around.under_plainId F.plain_list_iadd _]
  show wpAny _ A.in1 (Builtin.List.listExtendWith (.ref s.heap.objs.size) (.ref r) (.ref s.heap.objs.size)) _ _ _
  have hS : (s.heap.push { cls := .type "list", data := .seq ([] : List Value).toArray }).get? s.heap.objs.size = some { cls := .type "list", data := .seq #[] 0 } := Heap.get?_push_size _ rfl
  have hlt := K.there _ hok
  refine wpAny_mono (PySem.W.kdl_extend (A := A) (R := fun rr s' => rr = .ok (.ret (.ref s.heap.objs.size)) ∧ ∃ (h' : Heap) (tk : Nat) (acc : Array Value) (c' : Nat), s' = { s with heap := h', toks := tk } ∧
      (∀ b o, s.heap.get? b = some o → h'.get? b = some o) ∧ h'.get? s.heap.objs.size = some { cls := .type "list", dict := none, data := .seq acc c', slots := #[] } ∧ ItemsOf P acc n)
    (s := { s with heap := s.heap.push { cls := .type "list", data := .seq ([] : List Value).toArray } }) K hh (K.keep _ _ hok fun b _ o e => Heap.get?_push_of_some _ e) _ (Nat.ne_of_gt hlt.1) (Nat.ne_of_gt hlt.2) _ 0 hS
    (fun h' tk acc c' hk e hi => ⟨rfl, h', tk, acc, c', rfl, fun b o q => hk b o (Nat.ne_of_lt (Heap.lt_size q)) (Heap.get?_push_of_some _ q), e, hi⟩) hn) (fun fin s' h => ?_) (fun e s' h => ?_)
  · cases fin with
    | done f =>
      obtain ⟨e, h', tk, acc, c', rfl, hk, hS', hi⟩ := h
      cases e
      show wpAny _ A (load s.heap.objs.size >>= _) _ _ _
      exact wpAny_bind (wpAny_load hS' (wpAny_pure (hQ h' tk acc hk hi)))
    | again c' =>
      refine ⟨h.1, codeAny_mono h.2 fun rr s'' hr' => ?_⟩
      obtain ⟨rfl, h', tk, acc, c', rfl, hk, hS', hi⟩ := hr'
      show wpAny _ A (load s.heap.objs.size >>= _) _ _ _
      exact wpAny_bind (wpAny_load hS' (wpAny_pure (hQ h' tk acc hk hi)))
  · exact absurd h.1 (by simp)
theorem code_tuple_new_src {Q₁ : Value → Shared → Prop} (K : PySem.W.KdlSrc prog w T r d n P OK) (hh : A.handled = none) (hok : OK s.heap) (hn : n ≤ sizeLine)
    (h : ∀ (h' : Heap) (tk : Nat) (acc : Array Value), (∀ b o, s.heap.get? b = some o → h'.get? b = some o) → ItemsOf P acc n →
      Q₁ (.ref h'.objs.size) { s with heap := h'.push { cls := .type "tuple", data := .seq acc }, toks := tk }) :
    codeAny (model prog w) A (.call (.builtin "tuple.__new__") ⟨[.type "tuple", .ref r], []⟩) (wants Q₁ E) s := by
  refine codeAny_of_tree ?_
  show wpAny _ A.in1 (do checkBuiltinCall "tuple.__new__" ⟨[.type "tuple", .ref r], []⟩; again (.builtin "tuple.__new__" ⟨[.type "tuple", .ref r], []⟩)) _ _ s
  refine wpAny_bind (wpAny_of_eq (F.newCall_tuple_1 _) (wpAny_pure ⟨plainId_quiet F.plain_tuple_new _, codeAny_builtin F.entry_tuple_new ?_⟩))
  rw [Around.under_plainId F.plain_tuple_new _]
  have hsub := sub_tuple_self
  have hinit := init_tuple_lookup
  have hmh := madeHere_tuple
  have hTI : s.TypeIs (.ref r) T := K.type s hok
  have hnt := K.notTuple
  have hh1 : A.in1.handled = none := hh
  wp_walk using wpAny_typeOf hTI, collect_src (A := A.in1) K hh1 hok hn
  intro h' tk acc hk hacc
  show wpAny _ _ (Builtin.Tuple.tupleExact acc.toList.toArray >>= fun v => ret v) _ _ _
  unfold Builtin.Tuple.tupleExact
  refine wpAny_bind (wpAny_newObj_type ?_ (by show acc.toList.toArray.size ≤ sizeLine; simp only [Array.toArray_toList]; rw [hacc.1]; exact hn))
  refine wpAny_pure ?_
  have e : acc.toList.toArray = acc := by simp
  rw [e]
  exact h h' tk acc hk hacc
theorem call_tuple_src {Q : Value → Shared → Prop} (K : PySem.W.KdlSrc prog w T r d n P OK) (hh : A.handled = none) (hok : OK s.heap) (hn : n ≤ sizeLine)
    (hQ : ∀ (h' : Heap) (tk : Nat) (acc : Array Value), (∀ b o, s.heap.get? b = some o → h'.get? b = some o) → ItemsOf P acc n →
      Q (.ref h'.objs.size) { s with heap := h'.push { cls := .type "tuple", data := .seq acc }, toks := tk }) :
    wpAny (model prog w) A (call (.type "tuple") [.ref r]) Q E s := by
  refine callType_codes (Q₁ := fun obj s₁ => s₁.TypeIs obj "tuple" ∧ Q obj s₁) F.called_tuple (F.typeCall_tuple_1 _) F.entry_object_init
    (code_tuple_new_src (A := A.in1) K hh hok hn fun h' tk acc hk hacc => ⟨⟨_, Heap.get?_push_size _ rfl, rfl⟩, hQ h' tk acc hk hacc⟩) fun obj s₁ h₁ => ?_
  exact ⟨h₁.1, F.args_object_init_2 obj _, object_init_meets F.called_tuple.init.lookup F.called_tuple.made (by decide) prog w A.in1 _ s₁ ⟨h₁.1, rfl, h₁.2⟩⟩
end
def rTupD : List V → Hp → VK → Prop := fun xs H Q => ∃ p kvs, xs = [.ref p] ∧ H p = some (.dK kvs) ∧ ∀ q, H q = none → Q (.ref q) (upd H q (.tup (kvs.map fun kv => kV kv.1)))
theorem call_tuple_dK {X : Cx} (hc : X.calm = true) : CallR X (.type "tuple") rTupD := by
  intro pins s σ H xs us Q I r h
  obtain ⟨p, kvs, e, hk, q⟩ := h
  subst e
  obtain ⟨u, eu, rx⟩ := vals1 r
  subst eu
  obtain rfl : u = Value.ref p := rx
  obtain ⟨z, lo, vs, rk, hd⟩ := (show ObjOk X.prog X.w H s.heap p (.dK kvs) from I.hok p _ hk)
  obtain ⟨ep, hat⟩ := hd.dictAt
  have hl : kvs.length = vs.length := Paired.length rk
  refine call_tuple_src (PySem.W.kdl_dict (knd := mixKind X.prog X.w) (kvs := vs) (ep := ep) lo) (I.ok.hd hc) hat (by rw [← hl]; exact z) fun h' tk acc' hkeep hacc => ?_
  have I1 : Inv X pins σ H { s with heap := h', toks := tk } := I.kept hkeep
  refine ⟨.ref h'.objs.size, upd H h'.objs.size (.tup (kvs.map fun kv => kV kv.1)), I1.laid (t' := tk) (fun b o e => Heap.get?_push_of_some _ e) (Nat.le_refl _) (show ObjOk X.prog X.w _ _ _ (.tup (kvs.map fun kv => kV kv.1)) from ⟨?_, acc'.toList, ?_, ?_⟩), rfl, q _ (I1.hok.fresh (Nat.le_refl _))⟩
  · rw [List.length_map]; exact z
  · have el : acc'.toList.length = acc'.size := by simp
    refine vals_of_at (by rw [List.length_map, el, hacc.1, hl]) fun j x w h1 h2 => ?_
    obtain ⟨k, y, hky, hi⟩ := hacc.2 j w (by rw [← Array.getElem?_toList]; exact h2)
    have e1 : (kvs.map (·.1))[j]? = some k := by
      rw [KV.keys rk, List.getElem?_map, hky] <;> rfl
    have e2 : (kvs.map fun kv => kV kv.1)[j]? = some (kV k) := by
      have e3 : (kvs.map fun kv => kV kv.1) = (kvs.map (·.1)).map kV := by rw [List.map_map] <;> rfl
      rw [e3, List.getElem?_map, e1] <;> rfl
    rw [e2] at h1
    cases h1
    exact keyIs_rel hi
  · have e : acc'.toList.toArray = acc' := by simp
    rw [e]
    exact IsTup.new _ _
/-- text * int -/
def repS (z : Str) (n : Nat) : Str := ⟨((List.replicate n z.cps.toList).flatten).toArray⟩
def rMulS : R2 := fun x y H Q => ∃ z n, x = .str z ∧ y = .int n ∧ -(2 ^ 63) ≤ n ∧ n < 2 ^ 63 ∧ z.length * n.toNat ≤ sizeLine ∧ Q (.str (repS z n.toNat)) H
theorem repS_fold (z : Str) : ∀ (n : Nat) (acc : Array Nat), (List.replicate n z.cps).foldl (· ++ ·) acc = acc ++ ((List.replicate n z.cps.toList).flatten).toArray
  | 0, acc => by simp
  | n + 1, acc => by
    rw [List.replicate_succ, List.foldl_cons, repS_fold z n, List.replicate_succ, List.flatten_cons, Array.append_assoc]
    congr 1
    apply Array.ext'
    simp
theorem repS_length (z : Str) (n : Nat) : (repS z n).length = z.length * n := by
  show ((List.replicate n z.cps.toList).flatten).toArray.size = z.cps.size * n
  rw [List.size_toArray, List.length_flatten, List.map_replicate, List.sum_replicate_nat, Array.length_toList, Nat.mul_comm]
theorem op_mulS {X : Cx} : OpR X (binaryOp .Mult) rMulS := by
  intro pins s σ H x y v u Q I r1 r2 h
  obtain ⟨z, n, rfl, rfl, h1, h2, h3, q⟩ := h
  obtain ⟨t, rfl⟩ := r1
  obtain ⟨t', rfl⟩ := r2
  have hr : (decide (n < -(2 ^ 63 : Int)) || decide (n ≥ 2 ^ 63)) = false := by
    rw [decide_eq_false (by omega), decide_eq_false (by omega)]; rfl
  have line : (sizeLine : Nat) = 16777216 := sizeLine_eq
  refine PySem.P.mul_str hr (fun hn hz => ?_) (fun hn hz => ?_) ?_
  · have h4 : ((z.length * n.toNat : Nat) : Int) ≤ 16777216 := by rw [line] at h3; exact Int.ofNat_le.mpr h3
    have h5 : ((n.toNat : Nat) : Int) = n := Int.toNat_of_nonneg (by omega)
    have h6 : (z.length : Int) * n ≤ 16777216 := by rw [← h5]; rw [Int.natCast_mul] at h4; exact h4
    have h7 : (z.length : Int) ≤ (2 ^ 63 - 1) / n := (Int.le_ediv_iff_mul_le (by omega)).mpr (by omega)
    omega
  · show decide (z.length * n.toNat > sizeLine) = false
    exact decide_eq_false (by omega)
  · by_cases c1 : n < 1
    · rw [if_pos c1]
      refine ⟨by decide, ⟨.str Str.empty, H, I.tok _, ⟨_, rfl⟩, ?_⟩⟩
      have e : repS z n.toNat = Str.empty := by
        have : n.toNat = 0 := by omega
        rw [this]; rfl
      rw [← e]; exact q
    · rw [if_neg c1]
      by_cases c2 : (n == 1 || z.length == 0) = true
      · rw [if_pos c2]
        refine ⟨.str z, H, I, ⟨_, rfl⟩, ?_⟩
        have e : repS z n.toNat = z := by
          obtain ⟨cs⟩ := z
          unfold repS
          rw [Bool.or_eq_true] at c2
          rcases c2 with c2 | c2
          · have : n = 1 := by simpa using c2
            subst this
            simp
          · have : cs = #[] := by
              have e0 : cs.size = 0 := by simpa [Str.length] using c2
              simpa using e0
            subst this
            simp
        rw [← e]; exact q
      · rw [if_neg c2]
        have e : (⟨(List.replicate n.toNat z.cps).foldl (· ++ ·) #[]⟩ : Str) = repS z n.toNat := by
          rw [repS_fold]
          unfold repS
          congr 1
          simp
        rw [e]
        refine ⟨?_, ⟨.str _, H, I.tok _, ⟨_, rfl⟩, q⟩⟩
        rw [repS_length]; exact h3
end L2

namespace L3
open PySem L2

section
variable {C : Cn}
theorem flats_of {K : PySem.W.Frag} {N : Addr → Prop} {H : Hp} : ∀ {vs : List V} {ds : List D}, VDs K N H vs ds → ds.all flatD = true → vs.all flatV = true
  | _, _, .nil, _ => rfl
  | _, _, .cons h hs, e => by
    rw [List.all_cons, Bool.and_eq_true] at e
    rw [List.all_cons, (flat_of h e.1).1, flats_of hs e.2]
    rfl
theorem in_of {K : PySem.W.Frag} {N : Addr → Prop} {H : Hp} {v : V} {d : D} (h : VD K N H v d) (e : flatD d = true) : ∀ {vs : List V} {ds : List D}, VDs K N H vs ds → ds.all flatD = true → inV v vs = inD d ds
  | _, _, .nil, _ => rfl
  | _, _, .cons h0 hs, e0 => by
    rw [List.all_cons, Bool.and_eq_true] at e0
    unfold inV inD
    rw [List.any_cons, List.any_cons, (flat_of h0 e0.1).2 _ _ h e]
    have := in_of h e hs e0.2
    unfold inV inD at this
    rw [this]
/-- x in (a list, a tuple of flat data) -/
def vIn (neg : Bool) : DV → DV → Mem → PD → Prop := fun x y M P => ∃ d ds, x = .dat d ∧ (y = .dat (.lst ds) ∨ y = .dat (.tup ds) ∨ ∃ n, y = .obj n ∧ M[n]? = some (.lst (ds.map DV.dat))) ∧ flatD d = true ∧ ds.all flatD = true ∧ P (.bl (if neg then !inD d ds else inD d ds)) M
theorem l2_in (neg : Bool) : Lo2 C (rIn C.K neg) (vIn neg) := fun x y M P ⟨d, ds, e1, e2, f1, f2, p⟩ Z α H v u Q r q1 q2 k => by
  subst e1
  rcases e2 with rfl | rfl | ⟨n, rfl, hn⟩
  · obtain ⟨a, xs, rfl, hs, hd⟩ := VD.lst_inv q2
    refine ⟨a, xs, rfl, .inl hs.sq, (flat_of q1 f1).1, flats_of hd f2, ?_⟩
    rw [in_of q1 f1 hd f2]
    exact k.now (d := .bl _) r (.bl _) p
  · obtain ⟨a, xs, rfl, hs, hd⟩ := VD.tup_inv q2
    refine ⟨a, xs, rfl, .inr hs.sq, (flat_of q1 f1).1, flats_of hd f2, ?_⟩
    rw [in_of q1 f1 hd f2]
    exact k.now (d := .bl _) r (.bl _) p
  · obtain ⟨a, ea, rfl⟩ := q2
    obtain ⟨xs, eh, hd⟩ := r.hr.get n a _ ea hn
    have hd := VRs.data hd
    refine ⟨a, xs, rfl, .inl (SqL.of eh), (flat_of q1 f1).1, flats_of hd f2, ?_⟩
    rw [in_of q1 f1 hd f2]
    exact k.now (d := .bl _) r (.bl _) p
/-- len -/
def vLen : List DV → Mem → PD → Prop := fun xs M P => ∃ x, xs = [x] ∧ ∃ n : Nat, (match x with
  | .dat (.str z) => z.length ≤ sizeLine ∧ n = z.length
  | .dat (.lst ds) => n = ds.length
  | .dat (.tup ds) => n = ds.length
  | .obj k => ∃ ys, M[k]? = some (.lst ys) ∧ n = ys.length
  | _ => False) ∧ P (.int n) M
theorem one_inv {α : List Addr} {H : Hp} {vs : List V} {x : DV} (q : VRs C α H vs [x]) : ∃ v, vs = [v] ∧ VR C α H v x := by
  cases q with
  | cons a t => cases t; exact ⟨_, rfl, a⟩
theorem two_inv {α : List Addr} {H : Hp} {vs : List V} {x y : DV} (q : VRs C α H vs [x, y]) : ∃ v w, vs = [v, w] ∧ VR C α H v x ∧ VR C α H w y := by
  cases q with
  | cons a t => obtain ⟨w, rfl, b⟩ := one_inv t; exact ⟨_, _, rfl, a, b⟩
def rLen (K : PySem.W.Frag) : List V → Hp → VK → Prop := fun xs H Q => ∃ x n, xs = [x] ∧ LenV K x H n ∧ Q (.int n) H
theorem call_lenA {X : Cx} : CallR X (.builtin "len") (rLen X.K) := call_len
theorem ll_len : LoL C (rLen C.K) vLen := fun xs M P ⟨x, e, n, hx, p⟩ Z α H vs Q r q k => by
  subst e
  obtain ⟨v, rfl, q0⟩ := one_inv q
  refine ⟨v, n, rfl, ?_, k.now (d := .int n) r (.int _) p⟩
  cases x with
  | obj i =>
    obtain ⟨ys, hm, rfl⟩ := hx
    obtain ⟨a, ea, rfl⟩ := q0
    obtain ⟨zs, eh, hd⟩ := r.hr.get i a _ ea hm
    exact .inl ⟨zs, SqL.of eh, (VRs.length hd).symm⟩
  | dat d =>
    cases q0 with
    | str z => exact hx
    | tup hs hd => exact .inr ⟨_, hs.sq, by rw [hd.length]; exact hx⟩
    | lst hs hd => exact .inl ⟨_, hs.sq, by rw [hd.length]; exact hx⟩
    | _ => exact hx.elim
/-- len of a dict -/
def rLenD : List V → Hp → VK → Prop := fun xs H Q => ∃ p kvs, xs = [.ref p] ∧ H p = some (.dK kvs) ∧ Q (.int kvs.length) H
def vLenD : List DV → Mem → PD → Prop := fun xs M P => ∃ n kvs, xs = [.obj n] ∧ M[n]? = some (.dK kvs) ∧ P (.int kvs.length) M
/-- a[i] -/
def vIx : DV → DV → Mem → PD → Prop := fun x y M P => ∃ i, y = .int i ∧ match x with
  | .dat (.lst ds) => ∃ d, atI ds i = some d ∧ P (.dat d) M
  | .dat (.tup ds) => ∃ d, atI ds i = some d ∧ P (.dat d) M
  | .dat (.str z) => z.length ≤ sizeLine ∧ ∃ c, atI z.cps.toList i = some c ∧ P (.str ⟨#[c]⟩) M
  | .obj n => ∃ ys d, M[n]? = some (.lst ys) ∧ atI ys i = some d ∧ P d M
  | _ => False
theorem atI_get {β γ : Type} {xs : List β} {ys : List γ} (h : xs.length = ys.length) {i : Int} {y : γ} (e : atI ys i = some y) : ∃ j, ixN xs.length i = some j ∧ ys[j]? = some y := by
  unfold atI at e
  rw [← h] at e
  cases q : ixN xs.length i with
  | none => rw [q] at e; cases e
  | some j => rw [q] at e; exact ⟨j, rfl, e⟩
theorem atI_of {β : Type} {xs : List β} {i : Int} {j : Nat} {x : β} (h : ixN xs.length i = some j) (e : xs[j]? = some x) : atI xs i = some x := by
  unfold atI
  rw [h]
  exact e
theorem l2_ix : Lo2 C (rIx C.K) vIx := fun x y M P ⟨i, e, hx⟩ Z α H v u Q r q1 q2 k => by
  subst e
  cases q2
  cases x with
  | obj n =>
    obtain ⟨ys, d, hm, ha, p⟩ := hx
    obtain ⟨a, ea, rfl⟩ := q1
    obtain ⟨zs, eh, hd⟩ := r.hr.get n a _ ea hm
    obtain ⟨j, hj, hy⟩ := atI_get (VRs.length hd) ha
    obtain ⟨w, hw, qw⟩ := VRs.at hd hy
    exact .inl ⟨a, zs, i, w, rfl, rfl, SqL.of eh, atI_of hj hw, k.now r qw p⟩
  | dat d =>
    cases q1 with
    | str z =>
      obtain ⟨hz, c, hc, p⟩ := hx
      exact .inr (.inr ⟨z, i, c, rfl, rfl, hz, hc, k.now (d := .str ⟨#[c]⟩) r (.str _) p⟩)
    | tup hs hd =>
      obtain ⟨d, ha, p⟩ := hx
      obtain ⟨j, hj, hy⟩ := atI_get hd.length ha
      obtain ⟨w, hw, qw⟩ := hd.get hy
      exact .inr (.inl ⟨_, _, i, w, rfl, rfl, hs.sq, atI_of hj hw, k.now (d := .dat d) r qw p⟩)
    | lst hs hd =>
      obtain ⟨d, ha, p⟩ := hx
      obtain ⟨j, hj, hy⟩ := atI_get hd.length ha
      obtain ⟨w, hw, qw⟩ := hd.get hy
      exact .inl ⟨_, _, i, w, rfl, rfl, hs.sq, atI_of hj hw, k.now (d := .dat d) r qw p⟩
    | _ => exact hx.elim
theorem lp_ix_k0 {X : Cx} {W : WX} {a b : Expr} {ta tb : TE} {la lb : LE} {pos : Pos} (hK : X.K = C.K) (ha : LPE X C W a ta la) (hb : LPE X C W b tb lb) (hs : PlainIx b) : LPE X C W (.Subscript a b pos) (tOp (rIx X.K) ta tb) (lOp vIx la lb) := ⟨pe_ix ix_seq ha.pe hb.pe hs, by rw [hK]; exact lo_op l2_ix ha.lo hb.lo⟩
theorem lp_ix {X : Cx} {W : WX} {a b : Expr} {ta tb : TE} {la lb : LE} {pos : Pos} (hK : X.K = C.K) (ha : LPE X C W a ta la) (hb : LPE X C W b tb lb) (hs : PlainIx b) : LPE X C W (.Subscript a b pos) (tOp (rIx C.K) ta tb) (lOp vIx la lb) := by
  rw [← hK]
  apply lp_ix_k0 <;> assumption
/-- a[lo:hi] -/
def cutD {β : Type} (xs : List β) (lo hi : Option Int) : List β := (xs.drop (HT.sIx xs.length 0 lo)).take (HT.sIx xs.length xs.length hi - HT.sIx xs.length 0 lo)
abbrev LO := Rho → Mem → (Option Int → Mem → Prop) → PXn → Prop
def lNoPart : LO := fun _ M P _ => P none M
def lPart (l : LE) : LO := fun ρ M P PX => l ρ M (fun x M1 => ∃ i, x = .int i ∧ P (some i) M1) PX
def LoO (C : Cn) (W : WX) (to : TO) (l : LO) : Prop := ∀ ρ M P PX, l ρ M P PX → ∀ Z σ H α (Q : Option Int → Hp → Prop), VS (C.wz Z) α H σ ρ → RS (C.wz Z) α M H → (∀ o H' α' M', Step (C.wz Z) α H α' H' → RS (C.wz Z) α' M' H' → P o M' → Q o H') → Wk (C.wz Z) α H W σ PX → to σ H Q
structure LPO (X : Cx) (C : Cn) (W : WX) (e : Option Expr) (to : TO) (l : LO) : Prop where
  po : PO X e to
  lo : LoO C W to l
theorem lpo_none {X : Cx} {W : WX} : LPO X C W none tNoPart lNoPart := ⟨po_none, fun ρ M P PX h Z σ H α Q vs r k wk => k none H α M Step.refl r h⟩
theorem lpo_some {X : Cx} {W : WX} {e : Expr} {te : TE} {le : LE} (h : LPE X C W e te le) : LPO X C W (some e) (tPart te) (lPart le) := ⟨po_some h.pe, fun ρ M P PX g Z σ H α Q vs r k wk =>
  h.lo.bind g vs r wk fun v H1 α1 x M1 s1 r1 q1 h1 vs1 wk1 => by
    obtain ⟨i, rfl, p⟩ := h1
    cases q1
    exact ⟨i, rfl, k (some i) H1 α1 M1 s1 r1 p⟩⟩
/-- a slice: of a text, a list (a new one), -/
def vSl : DV → Option Int → Option Int → Mem → PD → Prop := fun x lo hi M P => match x with
  | .dat (.str z) => z.length ≤ sizeLine ∧ P (.str (cutS z lo hi)) M
  | .dat (.lst ds) => P (.dat (.lst (cutD ds lo hi))) M
  | .obj n => ∃ ds : List D, M[n]? = some (.lst (ds.map DV.dat)) ∧ P (.dat (.lst (cutD ds lo hi))) M
  | _ => False
def rSlA (K : PySem.W.Frag) : V → Option Int → Option Int → Hp → VK → Prop := fun x lo hi H Q => rSlL K x lo hi H Q ∨ rSlS x lo hi H Q
theorem sl_A {X : Cx} : SlR X (rSlA X.K) := sl_list.or sl_str
def lSl (ls : DV → Option Int → Option Int → Mem → PD → Prop) (le : LE) (ll lh : LO) : LE := fun ρ M P PX => le ρ M (fun x M1 => ll ρ M1 (fun a M2 => lh ρ M2 (fun b M3 => ls x a b M3 P) PX) PX) PX
theorem VDs.cut {K : PySem.W.Frag} {N : Addr → Prop} {H : Hp} {xs : List V} {ds : List D} (h : VDs K N H xs ds) (lo hi : Option Int) : VDs K N H (cutV xs lo hi) (cutD ds lo hi) := by
  unfold cutV cutD
  rw [h.length]
  exact (h.drop _).take _
theorem lo_sl {W : WX} {te : TE} {le : LE} {tl th : TO} {ll lh : LO} (he : LoE C W te le) (hl : LoO C W tl ll) (hh : LoO C W th lh) : LoE C W (tSl (rSlA C.K) te tl th) (lSl vSl le ll lh) := fun ρ M P PX g Z σ H α Q vs r k wk =>
  he.bind g vs r wk fun v H1 α1 x M1 s1 r1 q1 h1 vs1 wk1 => hl ρ M1 _ PX h1 Z σ H1 α1 _ vs1 r1 (fun a H2 α2 M2 s2 r2 h2 => hh ρ M2 _ PX h2 Z σ H2 α2 _ (vs1.step s2) r2 (fun b H3 α3 M3 s3 r3 h3 => by
    have st := s2.trans s3
    have q3 := q1.step st
    have k3 := k.step (s1.trans st)
    cases x with
    | obj n =>
      obtain ⟨ds, hm, p⟩ := h3
      obtain ⟨a0, ea, rfl⟩ := q3
      obtain ⟨zs, eh, hd⟩ := r3.hr.get n a0 _ ea hm
      have hd := VRs.data hd
      refine .inl ⟨a0, zs, rfl, SqL.of eh, fun p0 hp => ?_⟩
      obtain ⟨r4, s4⟩ := r3.new1 (o := .lst (cutV zs a b)) hp
      exact k3 _ _ α3 (.dat (.lst (cutD ds a b))) M3 s4 r4 (.lst (.inl ⟨.inl upd_same, r3.fresh hp⟩) ((hd.cut a b).mv s4.mv)) p
    | dat d =>
      cases q3 with
      | str z => exact .inr ⟨z, rfl, h3.1, k3.now (d := .str (cutS z a b)) r3 (.str _) h3.2⟩
      | lst hs hd =>
        refine .inl ⟨_, _, rfl, hs.sq, fun p0 hp => ?_⟩
        obtain ⟨r4, s4⟩ := r3.new1 (o := .lst (cutV _ a b)) hp
        exact k3 _ _ α3 (.dat (.lst (cutD _ a b))) M3 s4 r4 (.lst (.inl ⟨.inl upd_same, r3.fresh hp⟩) ((hd.cut a b).mv s4.mv)) h3
      | _ => exact h3.elim) (wk1.step s2)) wk1
theorem lp_sl_k0 {X : Cx} {W : WX} {e : Expr} {lo hi : Option Expr} {te : TE} {le : LE} {tl th : TO} {ll lh : LO} {pos p2 : Pos} (hK : X.K = C.K) (he : LPE X C W e te le) (hl : LPO X C W lo tl ll) (hh : LPO X C W hi th lh) : LPE X C W (.Subscript e (.Slice lo hi none p2) pos) (tSl (rSlA X.K) te tl th) (lSl vSl le ll lh) :=
  ⟨pe_slice sl_A he.pe hl.po hh.po, by rw [hK]; exact lo_sl he.lo hl.lo hh.lo⟩
theorem lp_sl {X : Cx} {W : WX} {e : Expr} {lo hi : Option Expr} {te : TE} {le : LE} {tl th : TO} {ll lh : LO} {pos p2 : Pos} (hK : X.K = C.K) (he : LPE X C W e te le) (hl : LPO X C W lo tl ll) (hh : LPO X C W hi th lh) : LPE X C W (.Subscript e (.Slice lo hi none p2) pos) (tSl (rSlA C.K) te tl th) (lSl vSl le ll lh) := by
  rw [← hK]
  apply lp_sl_k0 <;> assumption
/-- a[i] = v, a known list -/
def lSetIx (lo li lv : LE) : LS := fun L ρ M => lv ρ M (fun v M1 => lo ρ M1 (fun x M2 => li ρ M2 (fun y M3 => ∃ n ys i j, x = .obj n ∧ y = .int i ∧ M3[n]? = some (.lst ys) ∧ ixN ys.length i = some j ∧ L.nx ρ (M3.set n (.lst (ys.set j v)))) (L.px ρ)) (L.px ρ)) (L.px ρ)
theorem VRs.set {α : List Addr} {H : Hp} {v : V} {d : DV} (q : VR C α H v d) : ∀ {xs : List V} {ds : List DV} (j : Nat), VRs C α H xs ds → VRs C α H (xs.set j v) (ds.set j d)
  | _, _, _, .nil => .nil
  | _, _, 0, .cons _ t => .cons q t
  | _, _, j + 1, .cons r t => .cons r (VRs.set q j t)
theorem lps_setIx {X : Cx} {W : WX} {o i e : Expr} {to ti te : TE} {lo li le : LE} {pos tpos : Pos} (ho : LPE X C W o to lo) (hi : LPE X C W i ti li) (he : LPE X C W e te le) (hs : swapsWithSole [.Subscript o i tpos] e pos.line X.env = pure false := by rfl) (hw : swappedStores [.Subscript o i tpos] e X.env = pure none := by rfl)
    (ha : ∀ v, assign (.Subscript o i tpos) X.env v = (do
      let ov ← holding [v] (eval o X.env)
      let iv ← holding [v, ov] (eval i X.env)
      standAt tpos
      holding [v, ov, iv] (setItem ov iv v)
      release [v, ov, iv] []) := by intro _; rfl)
    (h1 : (assignEach [.Subscript o i tpos] X.env).map (·.2) = [assign (.Subscript o i tpos) X.env] := by rfl) : LPS X C W (.Assign [.Subscript o i tpos] e pos) (tAsg te (gSub to ti rSetL)) (lSetIx lo li le) :=
  ⟨ps_asg he.pe (pg_sub ho.pe hi.pe set_list ha) hs hw h1, fun L ρ M h Z D σ H α vs r d =>
    he.lo.bind h vs r (d.wk vs) fun v H1 α1 y M1 s1 r1 q1 h1 vs1 wk1 => ho.lo.bind h1 vs1 r1 wk1 fun u H2 α2 x M2 s2 r2 q2 h2 vs2 wk2 => hi.lo.bind h2 vs2 r2 wk2 fun w H3 α3 z M3 s3 r3 q3 h3 vs3 wk3 => by
      obtain ⟨n, ys, i0, j, rfl, rfl, hM, hj, p⟩ := h3
      obtain ⟨a, ea, rfl⟩ := q2.step s3
      cases q3
      obtain ⟨xs, eh, hd⟩ := r3.hr.get n a _ ea hM
      have st : Step (C.wz Z) α3 H3 α3 (upd H3 a (.lst (xs.set j v))) := put_step ea
      obtain ⟨r4, s4⟩ := r3.put (mo := .lst (ys.set j y)) ea ⟨_, upd_same, VRs.set ((q1.step (s2.trans s3)).step st) j (VRs.step hd st)⟩ (r3.noT ea hM)
      exact ⟨a, xs, i0, j, rfl, rfl, eh, by rw [VRs.length hd]; exact hj, d.nx σ _ α3 ρ _ (((s1.trans s2).trans s3).trans s4) (vs3.step s4) r4 p⟩⟩
/-- methods of built-in types: the receiver is told by what it is -/
def tyD (T : String) : DV → Mem → Prop
  | .dat (.str _), _ => T = "str"
  | .dat (.lst _), _ => T = "list"
  | .obj n, M => T = "list" ∧ ∃ xs, M[n]? = some (.lst xs)
  | _, _ => False
theorem tyD_of {Z : List Addr} {T : String} {α : List Addr} {H : Hp} {M : Mem} {v : V} {x : DV} (r : RS (C.wz Z) α M H) (q : VR (C.wz Z) α H v x) (h : tyD T x M) : tyV C.K T v H := by
  cases x with
  | obj n =>
    obtain ⟨e, xs, hm⟩ := h
    obtain ⟨a, ea, rfl⟩ := q
    obtain ⟨zs, eh, _⟩ := r.hr.get n a _ ea hm
    exact .inl ⟨e, zs, SqL.of eh⟩
  | dat d =>
    cases q with
    | str z => exact h
    | lst hs hd => exact .inl ⟨h, _, hs.sq⟩
    | _ => exact h.elim
def LoM (C : Cn) (r : V → List V → Hp → VK → Prop) (lr : DV → List DV → Mem → PD → Prop) : Prop := ∀ x xs M P, lr x xs M P → ∀ Z α H v vs Q, RS (C.wz Z) α M H → VR (C.wz Z) α H v x → VRs (C.wz Z) α H vs xs → Kt (C.wz Z) α H P Q → r v vs H Q
def lBM0 (T : String) (lr : DV → List DV → Mem → PD → Prop) (lo : LE) : LE := fun ρ M P PX => lo ρ M (fun x M1 => tyD T x M1 ∧ lr x [] M1 P) PX
def lBM (T : String) (lr : DV → List DV → Mem → PD → Prop) (lo : LE) (la : LA) : LE := fun ρ M P PX => lo ρ M (fun x M1 => tyD T x M1 ∧ la ρ M1 (fun xs M2 => lr x xs M2 P) PX) PX
theorem lo_bm0 {W : WX} {T : String} {r : V → List V → Hp → VK → Prop} {lr : DV → List DV → Mem → PD → Prop} {to : TE} {lo : LE} (hr : LoM C r lr) (ho : LoE C W to lo) : LoE C W (tBM0 C.K T r to) (lBM0 T lr lo) := fun ρ M P PX g Z σ H α Q vs rs k wk =>
  ho.bind g vs rs wk fun v H1 α1 x M1 s1 r1 q1 h1 vs1 wk1 => ⟨tyD_of r1 q1 h1.1, hr x [] M1 P h1.2 Z α1 H1 v [] Q r1 q1 .nil (k.step s1)⟩
theorem lo_bm {W : WX} {T : String} {r : V → List V → Hp → VK → Prop} {lr : DV → List DV → Mem → PD → Prop} {to : TE} {lo : LE} {ta : TA} {la : LA} (hr : LoM C r lr) (ho : LoE C W to lo) (ha : LoA C W ta la) : LoE C W (tBM C.K T r to ta) (lBM T lr lo la) := fun ρ M P PX g Z σ H α Q vs rs k wk =>
  ho.bind g vs rs wk fun v H1 α1 x M1 s1 r1 q1 h1 vs1 wk1 => ⟨tyD_of r1 q1 h1.1, ha.bind h1.2 vs1 r1 wk1 fun us H2 α2 ds M2 s2 r2 q2 h2 vs2 wk2 => hr x ds M2 P h2 Z α2 H2 v us Q r2 (q1.step s2) q2 (k.step (s1.trans s2))⟩
/-- xs.append(y) -/
def vAppend : DV → List DV → Mem → PD → Prop := fun x xs M P => ∃ n ys y, x = .obj n ∧ xs = [y] ∧ M[n]? = some (.lst ys) ∧ ys.length < sizeLine ∧ P .non (M.set n (.lst (ys ++ [y])))
theorem VRs.append {α : List Addr} {H : Hp} : ∀ {xs zs : List V} {ds es : List DV}, VRs C α H xs ds → VRs C α H zs es → VRs C α H (xs ++ zs) (ds ++ es)
  | _, _, _, _, .nil, h => h
  | _, _, _, _, .cons a b, h => .cons a (VRs.append b h)
theorem lm_append : LoM C rAppend vAppend := fun x xs M P ⟨n, ys, y, e1, e2, hm, hl, p⟩ Z α H v vs Q r q qs k => by
  subst e1 e2
  obtain ⟨w, rfl, qw⟩ := one_inv qs
  obtain ⟨a, ea, rfl⟩ := q
  obtain ⟨zs, eh, hd⟩ := r.hr.get n a _ ea hm
  have st : Step (C.wz Z) α H α (upd H a (.lst (zs ++ [w]))) := put_step ea
  obtain ⟨r4, s4⟩ := r.put (mo := .lst (ys ++ [y])) ea ⟨_, upd_same, VRs.append (VRs.step hd st) (.cons (qw.step st) .nil)⟩ (r.noT ea hm)
  exact ⟨a, zs, w, rfl, rfl, eh, by rw [VRs.length hd]; exact hl, k _ _ α .non _ s4 r4 .non p⟩
/-- methods of texts with a text: by their values -/
theorem lm_sb {g : Str → Str → Bool} : LoM C (fun x xs H Q => ∃ a b, x = .str a ∧ xs = [.str b] ∧ Q (.bl (g a b)) H) (fun x xs M P => ∃ a b, x = .str a ∧ xs = [.str b] ∧ P (.bl (g a b)) M) := fun x xs M P ⟨a, b, e1, e2, p⟩ Z α H v vs Q r q qs k => by
  subst e1 e2
  obtain ⟨w, rfl, qw⟩ := one_inv qs
  cases q; cases qw
  exact ⟨a, b, rfl, rfl, k.now (d := .bl _) r (.bl _) p⟩
theorem lm_si {g : Str → Str → Int} : LoM C (fun x xs H Q => ∃ a b, x = .str a ∧ xs = [.str b] ∧ Q (.int (g a b)) H) (fun x xs M P => ∃ a b, x = .str a ∧ xs = [.str b] ∧ P (.int (g a b)) M) := fun x xs M P ⟨a, b, e1, e2, p⟩ Z α H v vs Q r q qs k => by
  subst e1 e2
  obtain ⟨w, rfl, qw⟩ := one_inv qs
  cases q; cases qw
  exact ⟨a, b, rfl, rfl, k.now (d := .int _) r (.int _) p⟩
/-- s.split(t) -/
def vSplit : DV → List DV → Mem → PD → Prop := fun x xs M P => ∃ a b, x = .str a ∧ xs = [.str b] ∧ (b.length == 0) = false ∧ a.length + 2 ≤ sizeLine ∧ P (.dat (.lst ((Txt.split a b).map D.str))) M
theorem lm_split : LoM C (fun x xs H Q => ∃ a b, x = .str a ∧ xs = [.str b] ∧ (b.length == 0) = false ∧ a.length + 2 ≤ sizeLine ∧ rNewStrs (Txt.split a b) H Q) vSplit := fun x xs M P ⟨a, b, e1, e2, h1, h2, p⟩ Z α H v vs Q r q qs k => by
  subst e1 e2
  obtain ⟨w, rfl, qw⟩ := one_inv qs
  cases q; cases qw
  refine ⟨a, b, rfl, rfl, h1, h2, fun p0 hp => ?_⟩
  obtain ⟨r4, s4⟩ := r.new1 (o := .lst ((Txt.split a b).map V.str)) hp
  exact k _ _ α (.dat (.lst ((Txt.split a b).map D.str))) M s4 r4 (.lst (.inl ⟨.inl upd_same, r.fresh hp⟩) (VDs.map_str _)) p
/-- s.partition(t) -/
def vPartition : DV → List DV → Mem → PD → Prop := fun x xs M P => ∃ a b, x = .str a ∧ xs = [.str b] ∧ (b.length == 0) = false ∧ a.length ≤ sizeLine ∧ P (.dat (.tup [.str (Txt.partition a b).1, .str (Txt.partition a b).2.1, .str (Txt.partition a b).2.2])) M
theorem lm_partition : LoM C (fun x xs H Q => ∃ a b, x = .str a ∧ xs = [.str b] ∧ (b.length == 0) = false ∧ a.length ≤ sizeLine ∧
    ∀ p, H p = none → Q (.ref p) (upd H p (.tup [.str (Txt.partition a b).1, .str (Txt.partition a b).2.1, .str (Txt.partition a b).2.2]))) vPartition := fun x xs M P ⟨a, b, e1, e2, h1, h2, p⟩ Z α H v vs Q r q qs k => by
  subst e1 e2
  obtain ⟨w, rfl, qw⟩ := one_inv qs
  cases q; cases qw
  refine ⟨a, b, rfl, rfl, h1, h2, fun p0 hp => ?_⟩
  obtain ⟨r4, s4⟩ := r.new1 (o := .tup [.str (Txt.partition a b).1, .str (Txt.partition a b).2.1, .str (Txt.partition a b).2.2]) hp
  exact k _ _ α (.dat (.tup [.str (Txt.partition a b).1, .str (Txt.partition a b).2.1, .str (Txt.partition a b).2.2])) M s4 r4 (.tup (.inl ⟨.inl upd_same, r.fresh hp⟩) (.cons (.str _) (.cons (.str _) (.cons (.str _) .nil)))) p
/-- sep.join(texts) -/
def vJoin : DV → List DV → Mem → PD → Prop := fun x xs M P => ∃ a, ∃ ys : List Str, x = .str a ∧ (xs = [.dat (.lst (ys.map D.str))] ∨ xs = [.dat (.tup (ys.map D.str))] ∨ ∃ n, xs = [.obj n] ∧ M[n]? = some (.lst (ys.map DV.str))) ∧ (ys.map (·.length)).sum + ys.length * a.length ≤ 16777216 ∧ P (.str (Txt.join a ys)) M
theorem lm_join : LoM C (fun x xs H Q => ∃ a p, ∃ ys : List Str, x = .str a ∧ xs = [.ref p] ∧ (SqL C.K H p (ys.map V.str) ∨ SqT C.K H p (ys.map V.str)) ∧
    (ys.map (·.length)).sum + ys.length * a.length ≤ 16777216 ∧ Q (.str (Txt.join a ys)) H) vJoin := fun x xs M P ⟨a, ys, e1, e2, h1, p⟩ Z α H v vs Q r q qs k => by
  subst e1
  cases q
  have kk := k.now (d := .str (Txt.join a ys)) r (.str _) p
  rcases e2 with rfl | rfl | ⟨n, rfl, hn⟩
  · obtain ⟨w, rfl, qw⟩ := one_inv qs
    obtain ⟨b, zs, rfl, hs, hd⟩ := VD.lst_inv qw
    have := VDs.of_str hd
    subst this
    exact ⟨a, b, ys, rfl, rfl, .inl hs.sq, h1, kk⟩
  · obtain ⟨w, rfl, qw⟩ := one_inv qs
    obtain ⟨b, zs, rfl, hs, hd⟩ := VD.tup_inv qw
    have := VDs.of_str hd
    subst this
    exact ⟨a, b, ys, rfl, rfl, .inr hs.sq, h1, kk⟩
  · obtain ⟨w, rfl, qw⟩ := one_inv qs
    obtain ⟨b, eb, rfl⟩ := qw
    obtain ⟨zs, eh, hd⟩ := r.hr.get n b _ eb hn
    have hd : VRs (C.wz Z) α H zs ((ys.map D.str).map DV.dat) := by rw [List.map_map]; exact hd
    have := VDs.of_str (VRs.data hd)
    subst this
    exact ⟨a, b, ys, rfl, rfl, .inl (SqL.of eh), h1, kk⟩
/-- calls of classes and functions by values -/
def vInt1 : List DV → Mem → PD → Prop := fun xs M P => (∃ i, xs = [.int i] ∧ P (.int i) M) ∨ ∃ b, xs = [.bl b] ∧ P (.int (if b then 1 else 0)) M
theorem ll_int1 : LoL C (fun xs H Q => (∃ i, xs = [.int i] ∧ Q (.int i) H) ∨ ∃ k, xs = [.bl k] ∧ Q (.int (if k then 1 else 0)) H) vInt1 := fun xs M P g Z α H vs Q r q k => by
  rcases g with ⟨i, rfl, p⟩ | ⟨b, rfl, p⟩
  · obtain ⟨w, rfl, qw⟩ := one_inv q
    cases qw
    exact .inl ⟨i, rfl, k.now (d := .int i) r (.int _) p⟩
  · obtain ⟨w, rfl, qw⟩ := one_inv q
    cases qw
    exact .inr ⟨b, rfl, k.now (d := .int _) r (.int _) p⟩
def vAbs : List DV → Mem → PD → Prop := fun xs M P => ∃ i, xs = [.int i] ∧ P (.int (if i < 0 then -i else i)) M
theorem ll_abs : LoL C (fun xs H Q => ∃ i, xs = [.int i] ∧ Q (.int (if i < 0 then -i else i)) H) vAbs := fun xs M P ⟨i, e, p⟩ Z α H vs Q r q k => by
  subst e
  obtain ⟨w, rfl, qw⟩ := one_inv q
  cases qw
  exact ⟨i, rfl, k.now (d := .int _) r (.int _) p⟩
def vStrI : List DV → Mem → PD → Prop := fun xs M P => ∃ i, xs = [.int i] ∧ i.natAbs.log2 < 1920 ∧ P (.str (toString i)) M
theorem ll_strI : LoL C (fun xs H Q => ∃ i : Int, xs = [.int i] ∧ i.natAbs.log2 < 1920 ∧ Q (.str (toString i)) H) vStrI := fun xs M P ⟨i, e, h, p⟩ Z α H vs Q r q k => by
  subst e
  obtain ⟨w, rfl, qw⟩ := one_inv q
  cases qw
  exact ⟨i, rfl, h, k.now (d := .str _) r (.str _) p⟩
def vOrd : List DV → Mem → PD → Prop := fun xs M P => ∃ x, xs = [.str x] ∧ x.length = 1 ∧ P (.int (x.cps.getD 0 0 : Nat)) M
theorem ll_ord : LoL C (fun xs H Q => ∃ x, xs = [.str x] ∧ x.length = 1 ∧ Q (.int (x.cps.getD 0 0 : Nat)) H) vOrd := fun xs M P ⟨i, e, h, p⟩ Z α H vs Q r q k => by
  subst e
  obtain ⟨w, rfl, qw⟩ := one_inv q
  cases qw
  exact ⟨i, rfl, h, k.now (d := .int _) r (.int _) p⟩
theorem ll_lenD : LoL C (fun xs H Q => ∃ a kvs, xs = [V.ref a] ∧ H a = some (.dK kvs) ∧ Q (.int kvs.length) H) vLenD := fun xs M P ⟨n, kvs, e, hm, p⟩ Z α H vs Q r q k => by
  subst e
  obtain ⟨w, rfl, qw⟩ := one_inv q
  obtain ⟨a, ea, rfl⟩ := qw
  obtain ⟨ps, eh, kv⟩ := r.hr.get n a _ ea hm
  refine ⟨a, ps, rfl, eh, ?_⟩
  rw [KVR.length kv]
  exact k.now (d := .int _) r (.int _) p
/-- tuple(d) -/
def vTupD : List DV → Mem → PD → Prop := fun xs M P => ∃ n kvs, xs = [.obj n] ∧ M[n]? = some (.dK kvs) ∧ P (.dat (.tup (kvs.map fun kv => keyD kv.1))) M
theorem VDs.keys {κ : Type} {α : List Addr} {H : Hp} {N : Addr → Prop} {f : κ → V} {g : κ → D} (h : ∀ k, VD C.K N H (f k) (g k)) : ∀ {ps : List (κ × V)} {fs : List (κ × DV)}, KVR C α H ps fs → VDs C.K N H (ps.map fun p => f p.1) (fs.map fun p => g p.1)
  | _, _, .nil => .nil
  | (n, _) :: _, (n', _) :: _, .cons ⟨e, _⟩ t => by
    have e' : n = n' := e
    subst e'
    exact .cons (h n) (VDs.keys h t)
theorem key_vd {K : PySem.W.Frag} {N : Addr → Prop} {H : Hp} (k : Key) : VD K N H (kV k) (keyD k) := by
  cases k with
  | inl i => exact .int i
  | inr x => exact .str x
theorem ll_tupD : LoL C rTupD vTupD := fun xs M P ⟨n, kvs, e, hm, p⟩ Z α H vs Q r q k => by
  subst e
  obtain ⟨w, rfl, qw⟩ := one_inv q
  obtain ⟨a, ea, rfl⟩ := qw
  obtain ⟨ps, eh, kv⟩ := r.hr.get n a _ ea hm
  refine ⟨a, ps, rfl, eh, fun p0 hp => ?_⟩
  obtain ⟨r4, s4⟩ := r.new1 (o := .tup (ps.map fun kv => kV kv.1)) hp
  exact k _ _ α (.dat (.tup (kvs.map fun kv => keyD kv.1))) M s4 r4 (.tup (.inl ⟨.inl upd_same, r.fresh hp⟩) (VDs.keys (fun k => key_vd k) (KVR.step kv s4))) p
/-- text * int -/
def vMulS : DV → DV → Mem → PD → Prop := fun x y M P => ∃ z n, x = .str z ∧ y = .int n ∧ -(2 ^ 63) ≤ n ∧ n < 2 ^ 63 ∧ z.length * n.toNat ≤ sizeLine ∧ P (.str (repS z n.toNat)) M
theorem l2_mulS : Lo2 C rMulS vMulS := fun x y M P ⟨z, n, e1, e2, h1, h2, h3, p⟩ Z α H v u Q r q1 q2 k => by
  subst e1 e2
  cases q1; cases q2
  exact ⟨z, n, rfl, rfl, h1, h2, h3, k.now (d := .str _) r (.str _) p⟩
/-- two lists joined: a new list, data -/
def itsOf (M : Mem) : DV → Option (List D)
  | .obj n => match M[n]? with
    | some (.lst xs) => some (xs.filterMap fun x => match x with | .dat d => some d | .obj _ => none)
    | _ => none
  | .dat (.lst ds) => some ds
  | _ => none
/-- tuple(xs), list(xs) -/
def vTupL : DV → Mem → PD → Prop := fun x M P => (∃ ds, x = .dat (.lst ds) ∧ P (.dat (.tup ds)) M) ∨ (∃ ds, x = .dat (.tup ds) ∧ P (.dat (.tup ds)) M) ∨ ∃ n, ∃ ds : List D, x = .obj n ∧ M[n]? = some (.lst (ds.map DV.dat)) ∧ P (.dat (.tup ds)) M
def lThen (lr : DV → Mem → PD → Prop) (la : LE) : LE := fun ρ M P PX => la ρ M (fun x M1 => lr x M1 P) PX
theorem l1_tupL : Lo1 C (kTup C.K) vTupL := fun x M P g Z α H v Q r q k => by
  rcases g with ⟨ds, rfl, p⟩ | ⟨ds, rfl, p⟩ | ⟨n, ds, rfl, hn, p⟩
  · obtain ⟨a, xs, rfl, hs, hd⟩ := VD.lst_inv q
    refine .inl ⟨a, xs, rfl, hs.sq, fun p0 hp => ?_⟩
    obtain ⟨r4, s4⟩ := r.new1 (o := .tup xs) hp
    exact k _ _ α (.dat (.tup ds)) M s4 r4 (.tup (.inl ⟨.inl upd_same, r.fresh hp⟩) (hd.mv s4.mv)) p
  · obtain ⟨a, xs, e, hs, hd⟩ := VD.tup_inv q
    exact .inr ⟨a, xs, e, hs.sq, by rw [← e]; exact k.now (d := .dat (.tup ds)) r q p⟩
  · obtain ⟨a, ea, rfl⟩ := q
    obtain ⟨xs, eh, hd⟩ := r.hr.get n a _ ea hn
    have hd := VRs.data hd
    refine .inl ⟨a, xs, rfl, SqL.of eh, fun p0 hp => ?_⟩
    obtain ⟨r4, s4⟩ := r.new1 (o := .tup xs) hp
    exact k _ _ α (.dat (.tup ds)) M s4 r4 (.tup (.inl ⟨.inl upd_same, r.fresh hp⟩) (hd.mv s4.mv)) p
theorem lp_tupL_k0 {X : Cx} {W : WX} {a : Expr} {ta : TE} {la : LE} {p pos : Pos} (hK : X.K = C.K) (hg : Gl X "tuple") (hm : X.mg "tuple" = none) (ha : LPE X C W a ta la) (na : starEach [a] X.env = (false, eval a X.env) :: starEach [] X.env := by rfl) :
    LPE X C W (.Call (.Name "tuple" p) [a] [] pos) (tThen ta (kTup X.K)) (lThen vTupL la) := ⟨pe_tupleOf hg hm ha.pe na, by rw [hK]; exact lo_un l1_tupL ha.lo⟩
theorem lp_tupL {X : Cx} {W : WX} {a : Expr} {ta : TE} {la : LE} {p pos : Pos} (hK : X.K = C.K) (hg : Gl X "tuple") (hm : X.mg "tuple" = none) (ha : LPE X C W a ta la) (na : starEach [a] X.env = (false, eval a X.env) :: starEach [] X.env := by rfl) : LPE X C W (.Call (.Name "tuple" p) [a] [] pos) (tThen ta (kTup C.K)) (lThen vTupL la) := by
  rw [← hK]
  apply lp_tupL_k0 <;> assumption
/-- isinstance(x, a built-in type) -/
def tyN : D → String
  | .non => "NoneType" | .bl _ => "bool" | .int _ => "int" | .str _ => "str" | .tup _ => "tuple" | .lst _ => "list" | .ty _ => "" | .con _ => "" | .exc .. => ""
def isiD (d : D) (n : String) : Bool := tyN d == n || (tyN d == "bool" && n == "int")
def vIsi : List DV → Mem → PD → Prop := fun xs M P => ∃ d n, xs = [.dat d, .dat (.ty n)] ∧ (n = "int" ∨ n = "str" ∨ n = "bool" ∨ n = "tuple" ∨ n = "list") ∧ (tyN d == "") = false ∧ P (.bl (isiD d n)) M
theorem tyX_of {K : PySem.W.Frag} {N : Addr → Prop} {H : Hp} {v : V} {d : D} (q : VD K N H v d) (h : (tyN d == "") = false) : TyX K H v (.type (tyN d)) := by
  cases q with
  | non => exact .base .non
  | bl b => exact .base (.bl b)
  | int i => exact .base (.int i)
  | str x => exact .base (.str x)
  | ty n => cases h
  | con a => cases h
  | exc0 => cases h
  | excD => cases h
  | tup hs _ =>
    rcases hs with ⟨h | ⟨o, h⟩, _⟩ | ⟨o, its, n, h, c, _⟩
    · exact .base (.tup h)
    · exact .fTuple h
    · exact .kTuple h c
  | lst hs _ =>
    rcases hs with ⟨h | ⟨o, h⟩, _⟩ | ⟨o, its, n, h, c, _⟩
    · exact .base (.lst h)
    · exact .base (.frz h)
    · exact .kList h c
theorem kit_tab : ∀ t ∈ ["NoneType", "bool", "int", "str", "tuple", "list"], ∀ n ∈ ["int", "str", "bool", "tuple", "list"], kitB t n = some (t == n || (t == "bool" && n == "int")) := by decide +kernel
theorem ll_isi : LoL C (rIsi C.K) vIsi := fun xs M P ⟨d, n, e, hn, ht, p⟩ Z α H vs Q r q k => by
  subst e
  obtain ⟨v, w, rfl, q1, q2⟩ := two_inv q
  cases q2
  refine ⟨v, .ty n, .type (tyN d), .type n, isiD d n, rfl, .ty n, tyX_of q1 ht, kit_ty ?_, k.now (d := .bl _) r (.bl _) p⟩
  exact kit_tab _ (by cases d <;> first | (cases ht; done) | simp [tyN]) _ (by simpa using hn)
end
end L3

/-! base rules of our own, by values: + of read lists, d[k] and in as operators, what is walked -/
namespace L2
open PySem PySem.Spec PyProof.Rows
def rCatL (K : PySem.W.Frag) : R2 := fun x y H Q => ∃ l b xs zs, x = .ref l ∧ y = .ref b ∧ SqL K H l xs ∧ SqL K H b zs ∧ xs.length + zs.length ≤ sizeLine ∧ ∀ p, H p = none → Q (.ref p) (upd H p (.lst (xs ++ zs)))
theorem op_catL {X : Cx} : OpR X (binaryOp .Add) (rCatL X.K) := by
  intro pins s σ H x y v u Q I rx ry h
  obtain ⟨l, b, xs, zs, rfl, rfl, hH, hB, hz, q⟩ := h
  cases rx
  cases ry
  obtain ⟨its, r, ⟨⟨cls, dd, data, sl⟩, n, ho, hc, _, hd⟩, _⟩ := I.list hH
  obtain ⟨its2, r2, ⟨⟨cls2, dd2, data2, sl2⟩, n2, ho2, hc2, _, hd2⟩, _⟩ := I.list hB
  simp only at hc hd hc2 hd2
  subst hc hd hc2 hd2
  have hl := r.length
  have hl2 := r2.length
  have ea : its.toArray ++ its2.toArray = (its ++ its2).toArray := by simp
  refine concat_meets ⟨_, ho, rfl⟩ ⟨_, ho2, rfl⟩ noFill_list_add seq_list_add PySem.F.slot_list_add PySem.F.entry_list_add (PySem.F.args_list_add_2 _ _) (list_addW l b its.toArray its2.toArray n n2 dd dd2 sl sl2 (by rw [List.size_toArray, List.size_toArray]; omega)) ⟨ho, ho2, ?_⟩
  rw [ea]
  exact ⟨.ref _, _, I.lnew (t' := s.toks) (r.append r2) (by rw [List.length_append]; omega), rfl, q _ I.fresh⟩
def rAddA (K : PySem.W.Frag) : R2 := fun x y H Q => rI0 (fun i j => .int (i + j)) x y H Q ∨ (∃ i j, x = .str i ∧ y = .str j ∧ i.length + j.length ≤ sizeLine ∧ Q (.str (i ++ j)) H) ∨ rCatL K x y H Q ∨ rCatA K x y H Q
theorem op_addA {X : Cx} : OpR X (binaryOp .Add) (rAddA X.K) := op_add.or (op_add_str.or (op_catL.or op_catA))
def rMulA : R2 := fun x y H Q => rI CMul (fun i j => .int (i * j)) x y H Q ∨ rMulS x y H Q
theorem op_mulA {X : Cx} : OpR X (binaryOp .Mult) rMulA := op_mul.or op_mulS
/-- d[k] by values -/
def rIxDt : R2 := fun x y H Q => ∃ a v, x = .ref a ∧ DGet H a y (some v) ∧ Q v H
theorem ix_dict {X : Cx} (hu : X.A.units + 1 < cLine) : IxR X rIxDt := by
  intro value slice pins s σ H x y v u Q I rx ry h hs
  obtain ⟨a, v0, rfl, g, q⟩ := h
  obtain rfl : v = Value.ref a := rx
  exact tail_any (dict_typeIs I g) slot_dict_getitem.lookup (d_getItem hu I g ry fun w' s3 I3 rw' => ⟨v0, H, I3, rw', q⟩) hs
def rIxA (K : PySem.W.Frag) : R2 := fun x y H Q => rIx K x y H Q ∨ rIxDt x y H Q
theorem ix_A {X : Cx} (hu : X.A.units + 1 < cLine) : IxR X (rIxA X.K) := ix_seq.or (ix_dict hu)
def rInDt (neg : Bool) : R2 := fun y x H Q => ∃ a o, x = .ref a ∧ DGet H a y o ∧ Q (.bl (if neg then !o.isSome else o.isSome)) H
theorem op_inDt {X : Cx} (hu : X.A.units + 1 < cLine) : OpR X (compareOp .In) (rInDt false) := by
  intro pins s σ H x y v u Q I rx ry h
  obtain ⟨a, o, rfl, g, q⟩ := h
  obtain rfl : u = Value.ref a := ry
  exact d_in hu I g rx fun s3 I3 => ⟨.bl o.isSome, H, I3, rfl, q⟩
theorem op_notInDt {X : Cx} (hu : X.A.units + 1 < cLine) : OpR X (compareOp .NotIn) (rInDt true) := by
  intro pins s σ H x y v u Q I rx ry h
  obtain ⟨a, o, rfl, g, q⟩ := h
  obtain rfl : u = Value.ref a := ry
  exact d_notIn hu I g rx fun s3 I3 => ⟨.bl (!o.isSome), H, I3, rfl, q⟩
/-- what a for walks: a list, a tuple, a text -/
def iAny (K : PySem.W.Frag) (te : TE) : TI := fun σ H R => te σ H fun x H1 => (∃ a, x = .ref a ∧ (∃ xs, SqL K H1 a xs) ∧ R (Itl K a) H1) ∨ (∃ a, x = .ref a ∧ (∃ xs, SqT K H1 a xs) ∧ R (Itt K a) H1) ∨ ∃ z, x = .str z ∧ R (Its z) H1
theorem pi_any {X : Cx} {tg e : Expr} {te : TE} (he : PE X e te) : PI X tg e (iAny X.K te) := by
  refine ⟨fun pins s σ H R I h => ?_⟩
  refine thn (he.run pins s σ H _ I h) fun v s1 ⟨x, H1, I1, r1, q1⟩ => ?_
  rcases q1 with ⟨a, e, ⟨xs, hq⟩, q⟩ | ⟨a, e, ⟨xs, hq⟩, q⟩ | ⟨z, e, q⟩
  · subst e
    cases r1
    obtain ⟨its, rv, p, hz⟩ := I1.list hq
    refine wpAny_pyIter_list p.isList ?_
    refine ⟨s1.heap.objs.size, [s1.heap.objs.size], _, _, H1, rfl, I1.kept (t' := s1.toks) fun b o e => Heap.get?_push_of_some _ e, turn_list a _, ⟨_, Heap.get?_push_size _ rfl, rfl, rfl⟩, fun b hb => ?_, q⟩
    have e : b = s1.heap.objs.size := by simpa using hb
    subst e
    exact I1.fpOk (Nat.le_refl _) (I1.hok.fresh (Nat.le_refl _))
  · subst e
    cases r1
    obtain ⟨its, rv, p, hz⟩ := I1.tuple hq
    refine wpAny_pyIter_tuple (show s1.heap.IsTuple a its.toArray from p) ?_
    refine ⟨s1.heap.objs.size, [s1.heap.objs.size], _, _, H1, rfl, I1.kept (t' := s1.toks) fun b o e => Heap.get?_push_of_some _ e, turn_tuple a _, ⟨_, Heap.get?_push_size _ rfl, rfl, rfl⟩, fun b hb => ?_, q⟩
    have e : b = s1.heap.objs.size := by simpa using hb
    subst e
    exact I1.fpOk (Nat.le_refl _) (I1.hok.fresh (Nat.le_refl _))
  · subst e
    obtain ⟨t, rfl⟩ := r1
    cases ha : z.cps.all (· < 128)
    · exact wpAny_pyIter_wide ha (pi_one (tk := s1.toks) I1 _ (turn_str _ z t "str_iterator" (.inr rfl)) ⟨_, Heap.get?_push_size _ rfl, rfl, rfl⟩ q)
    · exact wpAny_pyIter_ascii ha (pi_one (tk := s1.toks) I1 _ (turn_str _ z t "str_ascii_iterator" (.inl rfl)) ⟨_, Heap.get?_push_size _ rfl, rfl, rfl⟩ q)
end L2

namespace L3
open PySem L2
section
variable {C : Cn}
/-- + by what the values are -/
def vAdd : DV → DV → Mem → PD → Prop := fun x y M P => match x, y with
  | .dat (.int i), .dat (.int j) => P (.int (i + j)) M
  | .dat (.str a), .dat (.str b) => a.length + b.length ≤ sizeLine ∧ P (.str (a ++ b)) M
  | .dat (.lst a), .dat (.lst b) => a.length + b.length ≤ sizeLine ∧ P (.dat (.lst (a ++ b))) M
  | .dat (.tup a), .dat (.tup b) => a.length + b.length ≤ sizeLine ∧ P (.dat (.tup (a ++ b))) M
  | .obj n, .dat (.lst b) => ∃ a : List D, M[n]? = some (.lst (a.map DV.dat)) ∧ a.length + b.length ≤ sizeLine ∧ P (.dat (.lst (a ++ b))) M
  | .dat (.lst a), .obj n => ∃ b : List D, M[n]? = some (.lst (b.map DV.dat)) ∧ a.length + b.length ≤ sizeLine ∧ P (.dat (.lst (a ++ b))) M
  | .obj n, .obj m => ∃ a b : List D, M[n]? = some (.lst (a.map DV.dat)) ∧ M[m]? = some (.lst (b.map DV.dat)) ∧ a.length + b.length ≤ sizeLine ∧ P (.dat (.lst (a ++ b))) M
  | _, _ => False
theorem seq_of {Z : List Addr} {α : List Addr} {H : Hp} {M : Mem} {n : Nat} {v : V} {a : List D} (r : RS (C.wz Z) α M H) (q : VR (C.wz Z) α H v (.obj n)) (h : M[n]? = some (.lst (a.map DV.dat))) : ∃ p xs, v = .ref p ∧ SqL C.K H p xs ∧ VDs C.K ((C.wz Z).N α) H xs a := by
  obtain ⟨p, ep, rfl⟩ := q
  obtain ⟨xs, eh, hd⟩ := r.hr.get n p _ ep h
  exact ⟨p, xs, rfl, SqL.of eh, VRs.data hd⟩
theorem new_lst {Z : List Addr} {α : List Addr} {H : Hp} {M : Mem} {P : PD} {Q : VK} {xs : List V} {ds : List D} (r : RS (C.wz Z) α M H) (k : Kt (C.wz Z) α H P Q) (hd : VDs C.K ((C.wz Z).N α) H xs ds) (p : P (.dat (.lst ds)) M) : ∀ p, H p = none → Q (.ref p) (upd H p (.lst xs)) := fun p0 hp => by
  obtain ⟨r4, s4⟩ := r.new1 (o := .lst xs) hp
  exact k _ _ α (.dat (.lst ds)) M s4 r4 (.lst (.inl ⟨.inl upd_same, r.fresh hp⟩) (hd.mv s4.mv)) p
theorem new_tup {Z : List Addr} {α : List Addr} {H : Hp} {M : Mem} {P : PD} {Q : VK} {xs : List V} {ds : List D} (r : RS (C.wz Z) α M H) (k : Kt (C.wz Z) α H P Q) (hd : VDs C.K ((C.wz Z).N α) H xs ds) (p : P (.dat (.tup ds)) M) : ∀ p, H p = none → Q (.ref p) (upd H p (.tup xs)) := fun p0 hp => by
  obtain ⟨r4, s4⟩ := r.new1 (o := .tup xs) hp
  exact k _ _ α (.dat (.tup ds)) M s4 r4 (.tup (.inl ⟨.inl upd_same, r.fresh hp⟩) (hd.mv s4.mv)) p
theorem catL {Z : List Addr} {α : List Addr} {H : Hp} {M : Mem} {P : PD} {Q : VK} {p q : Addr} {xs ys : List V} {a b : List D} (r : RS (C.wz Z) α M H) (k : Kt (C.wz Z) α H P Q) (h1 : SqL C.K H p xs) (h2 : SqL C.K H q ys) (d1 : VDs C.K ((C.wz Z).N α) H xs a) (d2 : VDs C.K ((C.wz Z).N α) H ys b)
    (hl : a.length + b.length ≤ sizeLine) (pp : P (.dat (.lst (a ++ b))) M) : rAddA C.K (.ref p) (.ref q) H Q := .inr (.inr (.inl ⟨p, q, xs, ys, rfl, rfl, h1, h2, by rw [d1.length, d2.length]; exact hl, new_lst r k (d1.append d2) pp⟩))
theorem l2_addA : Lo2 C (rAddA C.K) vAdd := fun x y M P g Z α H v u Q r q1 q2 k => by
  cases x with
  | obj n =>
    cases y with
    | obj m =>
      obtain ⟨a, b, h1, h2, hl, p⟩ := g
      obtain ⟨p1, xs, rfl, s1, d1⟩ := seq_of r q1 h1
      obtain ⟨p2, ys, rfl, s2, d2⟩ := seq_of r q2 h2
      exact catL r k s1 s2 d1 d2 hl p
    | dat e =>
      cases q2 with
      | lst hs hd =>
        obtain ⟨a, h1, hl, p⟩ := g
        obtain ⟨p1, xs, rfl, s1, d1⟩ := seq_of r q1 h1
        exact catL r k s1 hs.sq d1 hd hl p
      | _ => exact g.elim
  | dat d =>
    cases y with
    | obj m =>
      cases q1 with
      | lst hs hd =>
        obtain ⟨b, h2, hl, p⟩ := g
        obtain ⟨p2, ys, rfl, s2, d2⟩ := seq_of r q2 h2
        exact catL r k hs.sq s2 hd d2 hl p
      | _ => exact g.elim
    | dat e =>
      cases q1 with
      | int i => cases q2 with
        | int j => exact .inl ⟨i, j, rfl, rfl, k.now (d := .int _) r (.int _) g⟩
        | _ => exact g.elim
      | str i => cases q2 with
        | str j => exact .inr (.inl ⟨i, j, rfl, rfl, g.1, k.now (d := .str _) r (.str _) g.2⟩)
        | _ => exact g.elim
      | lst hs hd => cases q2 with
        | lst hs2 hd2 => exact catL r k hs.sq hs2.sq hd hd2 g.1 g.2
        | _ => exact g.elim
      | @tup a1 xs1 ds1 hs hd => cases q2 with
        | @tup a2 xs2 ds2 hs2 hd2 =>
          refine .inr (.inr (.inr ⟨_, _, _, _, rfl, rfl, hs.sq, hs2.sq, by rw [hd.length, hd2.length]; exact g.1, fun e => ?_, fun e e2 => ?_, fun e e2 => new_tup r k (hd.append hd2) g.2⟩))
          · subst e
            cases hd
            exact k.now (d := .dat (.tup ds2)) r (.tup hs2 hd2) g.2
          · subst e2
            cases hd2
            have p := g.2
            rw [List.append_nil] at p
            exact k.now (d := .dat (.tup ds1)) r (.tup hs hd) p
        | _ => exact g.elim
      | _ => cases q2 <;> exact g.elim
def vMul : DV → DV → Mem → PD → Prop := fun x y M P => match x, y with
  | .dat (.int i), .dat (.int j) => CMul i j ∧ P (.int (i * j)) M
  | .dat (.str z), .dat (.int n) => -(2 ^ 63) ≤ n ∧ n < 2 ^ 63 ∧ z.length * n.toNat ≤ sizeLine ∧ P (.str (repS z n.toNat)) M
  | _, _ => False
theorem l2_mulA : Lo2 C rMulA vMul := fun x y M P g Z α H v u Q r q1 q2 k => by
  cases x with
  | obj n => exact g.elim
  | dat d => cases y with
    | obj n => cases q1 <;> exact g.elim
    | dat e => cases q1 with
      | int i => cases q2 with
        | int j => exact .inl ⟨i, j, rfl, rfl, g.1, k.now (d := .int _) r (.int _) g.2⟩
        | _ => exact g.elim
      | str i => cases q2 with
        | int j => exact .inr ⟨i, j, rfl, rfl, g.1, g.2.1, g.2.2.1, k.now (d := .str _) r (.str _) g.2.2.2⟩
        | _ => exact g.elim
      | _ => cases q2 <;> exact g.elim
/-- order of ints, of texts -/
def rOrd (gi : Int → Int → Bool) (gs : List Nat → List Nat → Bool) : R2 := fun x y H Q => rI0 (fun i j => .bl (gi i j)) x y H Q ∨ ∃ i j, x = .str i ∧ y = .str j ∧ Q (.bl (gs i.cps.toList j.cps.toList)) H
def vOrdr (gi : Int → Int → Bool) (gs : List Nat → List Nat → Bool) : DV → DV → Mem → PD → Prop := fun x y M P => match x, y with
  | .dat (.int i), .dat (.int j) => P (.bl (gi i j)) M
  | .dat (.str a), .dat (.str b) => P (.bl (gs a.cps.toList b.cps.toList)) M
  | _, _ => False
theorem l2_ord {gi : Int → Int → Bool} {gs : List Nat → List Nat → Bool} : Lo2 C (rOrd gi gs) (vOrdr gi gs) := fun x y M P g Z α H v u Q r q1 q2 k => by
  cases x with
  | obj n => exact g.elim
  | dat d => cases y with
    | obj n => cases q1 <;> exact g.elim
    | dat e => cases q1 with
      | int i => cases q2 with
        | int j => exact .inl ⟨i, j, rfl, rfl, k.now (d := .bl _) r (.bl _) g⟩
        | _ => exact g.elim
      | str i => cases q2 with
        | str j => exact .inr ⟨i, j, rfl, rfl, k.now (d := .bl _) r (.bl _) g⟩
        | _ => exact g.elim
      | _ => cases q2 <;> exact g.elim
theorem op_ltA {X : Cx} : OpR X (compareOp .Lt) (rOrd (fun i j => decide (i < j)) fun a b => decide (a < b)) := op_lt.or op_lt_str
theorem op_leA {X : Cx} : OpR X (compareOp .LtE) (rOrd (fun i j => decide (i ≤ j)) fun a b => !decide (b < a)) := op_le.or op_le_str
theorem op_gtA {X : Cx} : OpR X (compareOp .Gt) (rOrd (fun i j => decide (j < i)) fun a b => decide (b < a)) := op_gt.or op_gt_str
theorem op_geA {X : Cx} : OpR X (compareOp .GtE) (rOrd (fun i j => decide (j ≤ i)) fun a b => !decide (a < b)) := op_ge.or op_ge_str
/-- a[i]: a list, a tuple, a text, a dict -/
def vIxA : DV → DV → Mem → PD → Prop := fun x y M P => vIx x y M P ∨ ∃ n kvs k d, x = .obj n ∧ M[n]? = some (.dK kvs) ∧ y = .dat (keyD k) ∧ valD kvs k = some d ∧ P d M
theorem l2_ixA : Lo2 C (rIxA C.K) vIxA := fun x y M P g Z α H v u Q r q1 q2 k => by
  rcases g with g | ⟨n, kvs, ky, d, rfl, hM, rfl, hv, p⟩
  · exact .inl (l2_ix x y M P g Z α H v u Q r q1 q2 k)
  · obtain ⟨a, ea, rfl⟩ := q1
    have ey := keyD_of q2
    subst ey
    obtain ⟨oo, hg, hh⟩ := dget_of (k := ky) r ea hM
    rcases hh with ⟨h3, h4⟩ | ⟨v3, d3, h3, h4, h5⟩
    · rw [hv] at h4; cases h4
    · rw [hv] at h4; cases h4
      subst h3
      exact .inr ⟨a, v3, rfl, hg, k.now r h5 p⟩
theorem lp_ixA_k0 {X : Cx} {W : WX} {a b : Expr} {ta tb : TE} {la lb : LE} {pos : Pos} (hu : X.A.units + 1 < cLine) (hK : X.K = C.K) (ha : LPE X C W a ta la) (hb : LPE X C W b tb lb) (hs : PlainIx b := by exact fun _ _ => rfl) : LPE X C W (.Subscript a b pos) (tOp (rIxA X.K) ta tb) (lOp vIxA la lb) := ⟨pe_ix (ix_A hu) ha.pe hb.pe hs, by rw [hK]; exact lo_op l2_ixA ha.lo hb.lo⟩
theorem lp_ixA {X : Cx} {W : WX} {a b : Expr} {ta tb : TE} {la lb : LE} {pos : Pos} (hu : X.A.units + 1 < cLine) (hK : X.K = C.K) (ha : LPE X C W a ta la) (hb : LPE X C W b tb lb) (hs : PlainIx b := by exact fun _ _ => rfl) : LPE X C W (.Subscript a b pos) (tOp (rIxA C.K) ta tb) (lOp vIxA la lb) := by
  rw [← hK]
  apply lp_ixA_k0 <;> assumption
/-- x in a list, a tuple, a dict, a text -/
def rInA (K : PySem.W.Frag) (neg : Bool) : R2 := fun x y H Q => rIn K neg x y H Q ∨ rInDt neg x y H Q ∨ rInT neg x y H Q ∨ rInC neg x y H Q
def vInA (neg : Bool) : DV → DV → Mem → PD → Prop := fun x y M P => vIn neg x y M P ∨ (∃ n kvs k, y = .obj n ∧ M[n]? = some (.dK kvs) ∧ x = .dat (keyD k) ∧ P (.bl (if neg then !(valD kvs k).isSome else (valD kvs k).isSome)) M) ∨ vInT neg x y M P ∨ vInC neg x y M P
theorem op_inA {X : Cx} (hu : X.A.units + 1 < cLine) : OpR X (compareOp .In) (rInA X.K false) := op_in_seq.or ((op_inDt hu).or (op_inT.or op_inC))
theorem op_notInA {X : Cx} (hu : X.A.units + 1 < cLine) : OpR X (compareOp .NotIn) (rInA X.K true) := op_notIn_seq.or ((op_notInDt hu).or (op_notInT.or op_notInC))
theorem l2_inA (neg : Bool) : Lo2 C (rInA C.K neg) (vInA neg) := fun x y M P g Z α H v u Q r q1 q2 k => by
  rcases g with g | ⟨n, kvs, ky, rfl, hM, rfl, p⟩ | g | g
  · exact .inl (l2_in neg x y M P g Z α H v u Q r q1 q2 k)
  · obtain ⟨a, ea, rfl⟩ := q2
    have ey := keyD_of q1
    subst ey
    obtain ⟨oo, hg, hh⟩ := dget_of (k := ky) r ea hM
    refine .inr (.inl ⟨a, oo, rfl, hg, k.now (d := .bl _) r (.bl _) ?_⟩)
    rcases hh with ⟨h3, h4⟩ | ⟨v3, d3, h3, h4, h5⟩
    · rw [h4] at p; rw [h3]; exact p
    · rw [h4] at p; rw [h3]; exact p
  · exact .inr (.inr (.inl (l2_inT neg x y M P g Z α H v u Q r q1 q2 k)))
  · exact .inr (.inr (.inr (l2_inC neg x y M P g Z α H v u Q r q1 q2 k)))
/-- len of anything -/
def rLenA (K : PySem.W.Frag) : List V → Hp → VK → Prop := fun xs H Q => rLen K xs H Q ∨ ∃ a kvs, xs = [V.ref a] ∧ H a = some (.dK kvs) ∧ Q (.int kvs.length) H
def vLenA : List DV → Mem → PD → Prop := fun xs M P => vLen xs M P ∨ vLenD xs M P
theorem call_lenAny {X : Cx} : CallR X (.builtin "len") (rLenA X.K) := CallR.or call_len call_lenD
theorem ll_lenA : LoL C (rLenA C.K) vLenA := ll_or ll_len ll_lenD
/-- tuple of a list, a tuple, a dict -/
def rTupA (K : PySem.W.Frag) : List V → Hp → VK → Prop := fun xs H Q => (∃ p ys, xs = [.ref p] ∧ ((SqL K H p ys ∧ ∀ l, H l = none → Q (.ref l) (upd H l (.tup ys))) ∨ (SqT K H p ys ∧ Q (.ref p) H))) ∨ rTupD xs H Q
theorem call_tupA {X : Cx} (hc : X.calm = true) : CallR X (.type "tuple") (rTupA X.K) := CallR.or call_tuple_of (call_tuple_dK hc)
def vTupA : List DV → Mem → PD → Prop := fun xs M P => (∃ x, xs = [x] ∧ vTupL x M P) ∨ vTupD xs M P
theorem ll_tupA : LoL C (rTupA C.K) vTupA := fun xs M P g Z α H vs Q r q k => by
  rcases g with ⟨x, rfl, g⟩ | g
  · obtain ⟨v, rfl, q0⟩ := one_inv q
    rcases l1_tupL x M P g Z α H v Q r q0 k with ⟨p, ys, rfl, h1, h2⟩ | ⟨p, ys, rfl, h1, h2⟩
    · exact .inl ⟨p, ys, rfl, .inl ⟨h1, h2⟩⟩
    · exact .inl ⟨p, ys, rfl, .inr ⟨h1, h2⟩⟩
  · exact .inr (ll_tupD xs M P g Z α H vs Q r q k)
/-- list(xs): data -/
def vLst : List DV → Mem → PD → Prop := fun xs M P => ∃ x, xs = [x] ∧ ((∃ ds, x = .dat (.lst ds) ∧ P (.dat (.lst ds)) M) ∨ (∃ ds, x = .dat (.tup ds) ∧ P (.dat (.lst ds)) M) ∨ ∃ n, ∃ ds : List D, x = .obj n ∧ M[n]? = some (.lst (ds.map DV.dat)) ∧ P (.dat (.lst ds)) M)
theorem ll_lst : LoL C (fun xs H Q => ∃ p ys, xs = [.ref p] ∧ (SqL C.K H p ys ∨ SqT C.K H p ys) ∧ ∀ l, H l = none → Q (.ref l) (upd H l (.lst ys))) vLst := fun xs M P ⟨x, e, g⟩ Z α H vs Q r q k => by
  subst e
  obtain ⟨v, rfl, q0⟩ := one_inv q
  rcases g with ⟨ds, rfl, p⟩ | ⟨ds, rfl, p⟩ | ⟨n, ds, rfl, hn, p⟩
  · obtain ⟨a, xs, rfl, hs, hd⟩ := VD.lst_inv q0
    exact ⟨a, xs, rfl, .inl hs.sq, new_lst r k hd p⟩
  · obtain ⟨a, xs, rfl, hs, hd⟩ := VD.tup_inv q0
    exact ⟨a, xs, rfl, .inr hs.sq, new_lst r k hd p⟩
  · obtain ⟨a, xs, rfl, hs, hd⟩ := seq_of r q0 hn
    exact ⟨a, xs, rfl, .inl hs, new_lst r k hd p⟩
/-- what a for walks -/
def lwAny (le : LE) : LW := fun ρ M P PX => le ρ M (fun x M1 => match x with
  | .dat (.lst ds) => P (ds.map DV.dat) (fun _ => True) M1
  | .dat (.tup ds) => P (ds.map DV.dat) (fun _ => True) M1
  | .dat (.str z) => P (signsD z) (fun _ => True) M1
  | .obj n => ∃ xs, M1[n]? = some (.lst xs) ∧ P xs (fun M => M[n]? = some (.lst xs)) M1
  | _ => False) PX
theorem lpi_any_k0 {X : Cx} {W : WX} {tg iter : Expr} {te : TE} {le : LE} (h : LPE X C W iter te le) (hK : X.K = C.K) : LPI X C W tg iter (iAny X.K te) (lwAny le) := ⟨pi_any h.pe, by
  rw [hK]
  exact fun ρ M P PX g Z σ H α R vs rs wk kt => h.lo.bind g vs rs wk fun v H1 α1 x M1 s1 r1 q1 h1 vs1 wk1 => by
    cases x with
    | obj n =>
      obtain ⟨xs, hM, p⟩ := h1
      obtain ⟨a, ea, rfl⟩ := q1
      obtain ⟨ys, eh, q⟩ := r1.hr.get n a _ ea hM
      exact .inl ⟨a, rfl, ⟨ys, SqL.of eh⟩, kt _ H1 α1 _ _ M1 s1 r1 (fun Z' H'' m => ItOk.obj (C := C.wz Z') ea) hM p⟩
    | dat d => cases q1 with
      | str z => exact .inr (.inr ⟨z, rfl, kt _ H1 α1 _ _ M1 s1 r1 (fun Z' H'' m => ItOk.str z) trivial h1⟩)
      | lst hs hd => exact .inl ⟨_, rfl, ⟨_, hs.sq⟩, kt _ H1 α1 _ _ M1 s1 r1 (fun Z' H'' m => ItOk.list (C := C.wz Z') (m.sl hs) (hd.mv m)) trivial h1⟩
      | tup hs hd => exact .inr (.inl ⟨_, rfl, ⟨_, hs.sq⟩, kt _ H1 α1 _ _ M1 s1 r1 (fun Z' H'' m => ItOk.tup (C := C.wz Z') (m.st hs) (hd.mv m)) trivial h1⟩)
      | _ => exact h1.elim⟩
theorem lpi_any {X : Cx} {W : WX} {tg iter : Expr} {te : TE} {le : LE} (h : LPE X C W iter te le) (hK : X.K = C.K) : LPI X C W tg iter (iAny C.K te) (lwAny le) := by
  rw [← hK]
  apply lpi_any_k0 <;> assumption
end
end L3

namespace L3
open PySem L2

section
variable {X : Cx} {C : Cn} {W : WX} {pos : Pos} {a b c o e : Expr} {ta tb tc to te : TE} {la lb lc lo le : LE}
/-- a type's name -/
theorem lp_bty {x : Str} {n : String} {p : Pos} (hg : Gl X x) (hm : X.mg x = none) (hv : bootBuiltins x = some (.type n)) (hn : x ≠ "__name__" := by decide) (hd : (x == ("__debug__" : Str)) = false := by decide) : LPE X C W (.Name x p) (tC (.ty n)) (lC (.ty n)) :=
  ⟨pe_bltn hg hm hv (r := rfl) hn hd, lo_c fun _ _ _ => .ty n⟩
theorem lp_gintE {x : Str} {i : Int} (hg : Gl X x) (hm : ∃ t, X.mg x = some (.int i t)) (hd : (x == ("__debug__" : Str)) = false := by decide) : LPE X C W (.Name x pos) (tC (.int i)) (lC (.int i)) := let ⟨_, h⟩ := hm; lp_gint hg h hd
theorem lp_gstrE {x : Str} {i : Str} (hg : Gl X x) (hm : ∃ t, X.mg x = some (.str i t)) (hd : (x == ("__debug__" : Str)) = false := by decide) : LPE X C W (.Name x pos) (tC (.str i)) (lC (.str i)) := let ⟨_, h⟩ := hm; lp_gstr hg h hd
/-! ### rules that hang on the written part -/
section
variable {R : PySem.W.Frag → R2} {RL : PySem.W.Frag → List V → Hp → VK → Prop} {lr : DV → DV → Mem → PD → Prop} {ll : List DV → Mem → PD → Prop}
theorem lp_opK (R : PySem.W.Frag → R2) (hK : X.K = C.K) {op : Operator} (ho : OpR X (binaryOp op) (R X.K)) (hr : Lo2 C (R C.K) lr) (ha : LPE X C W a ta la) (hb : LPE X C W b tb lb) : LPE X C W (.BinOp a op b pos) (tOp (R C.K) ta tb) (lOp lr la lb) := lp_op (by rw [← hK]; exact ho) hr ha hb
theorem lp_cmpK (R : PySem.W.Frag → R2) (hK : X.K = C.K) {op : CmpOp} (ho : OpR X (compareOp op) (R X.K)) (hr : Lo2 C (R C.K) lr) (ha : LPE X C W a ta la) (hb : LPE X C W b tb lb) (hm : behindInMarks op b = false) : LPE X C W (.Compare a [op] [b] pos) (tOp (R C.K) ta tb) (lOp lr la lb) := lp_cmp (by rw [← hK]; exact ho) hr ha hb hm
theorem lpt_cmpK (R : PySem.W.Frag → R2) (hK : X.K = C.K) {op : CmpOp} (ho : OpR X (compareOp op) (R X.K)) (hr : Lo2 C (R C.K) lr) (ha : LPE X C W a ta la) (hb : LPE X C W b tb lb) (hm : behindInMarks op b = false) : LPT X C W (.Compare a [op] [b] pos) (tTest (tOp (R C.K) ta tb)) (lTest (lOp lr la lb)) := lpt_cmp (by rw [← hK]; exact ho) hr ha hb hm
variable {x : Str} {id T : String} {p : Pos} {es : List Expr} {tas : TA} {las : LA}
theorem lp_callBK (R : PySem.W.Frag → List V → Hp → VK → Prop) (hK : X.K = C.K) (hc : CallR X (.builtin id) (R X.K)) (hl : LoL C (R C.K) ll) (hg : Gl X x) (hm : X.mg x = none) (hv : bootBuiltins x = some (.builtin id)) (ha : LPA X C W (e :: es) tas las) (hn : x ≠ "__name__" := by decide) (hdb : (x == ("__debug__" : Str)) = false := by decide)
    (he : starEach (e :: es) X.env = (false, eval e X.env) :: starEach es X.env := by rfl) (hpl : (backTo pos (starEach es X.env)).any (·.1) = false := by rfl) : LPE X C W (.Call (.Name x p) (e :: es) [] pos) (tCB (R C.K) tas) (lCB ll las) := lp_callB (by rw [← hK]; exact hc) hl hg hm hv ha hn hdb he hpl
theorem lp_callTyK (R : PySem.W.Frag → List V → Hp → VK → Prop) (hK : X.K = C.K) (hc : CallR X (.type T) (R X.K)) (hl : LoL C (R C.K) ll) (hg : Gl X x) (hm : X.mg x = none) (hv : bootBuiltins x = some (.type T)) (ha : LPA X C W (e :: es) tas las) (hn : x ≠ "__name__" := by decide) (hdb : (x == ("__debug__" : Str)) = false := by decide)
    (he : starEach (e :: es) X.env = (false, eval e X.env) :: starEach es X.env := by rfl) (hpl : (backTo pos (starEach es X.env)).any (·.1) = false := by rfl) : LPE X C W (.Call (.Name x p) (e :: es) [] pos) (tCB (R C.K) tas) (lCB ll las) := lp_callTy (by rw [← hK]; exact hc) hl hg hm hv ha hn hdb he hpl
end
def rLstA (K : PySem.W.Frag) : List V → Hp → VK → Prop := fun xs H Q => ∃ p ys, xs = [.ref p] ∧ (SqL K H p ys ∨ SqT K H p ys) ∧ ∀ l, H l = none → Q (.ref l) (upd H l (.lst ys))
/-- truth by value -/
def vTru (x : DV) (M : Mem) (k : Bool) : Prop := match x with
  | .dat .non => k = false
  | .dat (.bl b) => k = b
  | .dat (.int i) => k = (i != 0)
  | .dat (.str y) => y.length ≤ sizeLine ∧ k = ((y.length : Int) != 0)
  | .dat (.lst ds) => k = !ds.isEmpty
  | .dat (.tup ds) => k = !ds.isEmpty
  | .obj n => (∃ xs, M[n]? = some (.lst xs) ∧ k = !xs.isEmpty) ∨ ∃ kvs, M[n]? = some (.dK kvs) ∧ k = !kvs.isEmpty
  | _ => False
theorem emp_of {K : PySem.W.Frag} {N : Addr → Prop} {H : Hp} {vs : List V} {ds : List D} (h : VDs K N H vs ds) : (!vs.isEmpty) = !ds.isEmpty := by cases h <;> rfl
theorem emp_rs {α : List Addr} {H : Hp} {vs : List V} {ds : List DV} (h : VRs C α H vs ds) : (!vs.isEmpty) = !ds.isEmpty := by cases h <;> rfl
theorem emp_kv {κ : Type} {α : List Addr} {H : Hp} {vs : List (κ × V)} {ds : List (κ × DV)} (h : KVR C α H vs ds) : (!vs.isEmpty) = !ds.isEmpty := by cases h <;> rfl
theorem vTru_of {Z : List Addr} {α : List Addr} {H : Hp} {M : Mem} {v : V} {x : DV} {k : Bool} (r : RS (C.wz Z) α M H) (q : VR (C.wz Z) α H v x) (h : vTru x M k) : TruV C.K v H k := by
  cases x with
  | obj n =>
    obtain ⟨a, ea, rfl⟩ := q
    rcases h with ⟨xs, hM, e⟩ | ⟨kvs, hM, e⟩
    · obtain ⟨ys, eh, q⟩ := r.hr.get n a _ ea hM
      exact .inl ⟨ys, SqL.of eh, by rw [e, emp_rs q]⟩
    · obtain ⟨ys, eh, q⟩ := r.hr.get n a _ ea hM
      exact .inr (.inr ⟨ys, eh, by rw [e, emp_kv q]⟩)
  | dat d =>
    cases q with
    | non => exact h
    | bl b => exact h
    | int i => exact h
    | str z => exact h
    | lst hs hd => exact .inl ⟨_, hs.sq, by rw [(h : _ = _), emp_of hd]⟩
    | tup hs hd => exact .inr (.inl ⟨_, hs.sq, by rw [(h : _ = _), emp_of hd]⟩)
    | _ => exact h.elim
def lTru (l : LE) : LT := fun ρ M P PX => l ρ M (fun x M' => ∃ k, vTru x M' k ∧ P k M') PX
theorem lpt_tru_k0 (hK : X.K = C.K) (h : LPE X C W a ta la) (he : ∀ whole, isTrue a X.env whole = (do let v ← whole; standAt a.pos; holding [v] (truthy v)) := by intro _; rfl) : LPT X C W a (fun σ H Q => ta σ H fun x H' => ∃ k, TruV X.K x H' k ∧ Q k H') (lTru la) :=
  ⟨pt_truth h.pe he, fun ρ M P PX g Z σ H α Q vs rs k wk => h.lo.bind g vs rs wk fun v H1 α1 x M1 s1 r1 q1 h1 vs1 wk1 => by
    obtain ⟨b, hb, p⟩ := h1
    exact ⟨b, by rw [hK]; exact vTru_of r1 q1 hb, k b H1 α1 M1 s1 r1 p⟩⟩
theorem lpt_tru (hK : X.K = C.K) (h : LPE X C W a ta la) (he : ∀ whole, isTrue a X.env whole = (do let v ← whole; standAt a.pos; holding [v] (truthy v)) := by intro _; rfl) : LPT X C W a (fun σ H Q => ta σ H fun x H' => ∃ k, TruV C.K x H' k ∧ Q k H') (lTru la) := by
  rw [← hK]
  apply lpt_tru_k0 <;> assumption
def lNotT (l : LE) : LE := fun ρ M P PX => l ρ M (fun x M' => ∃ k, vTru x M' k ∧ P (.bl (!k)) M') PX
theorem lp_notT_k0 (hK : X.K = C.K) (h : LPE X C W a ta la) : LPE X C W (.UnaryOp .Not a pos) (tNotT X.K ta) (lNotT la) :=
  ⟨pe_notT h.pe, fun ρ M P PX g Z σ H α Q vs rs k wk => h.lo.bind g vs rs wk fun v H1 α1 x M1 s1 r1 q1 h1 vs1 wk1 => by
    obtain ⟨b, hb, p⟩ := h1
    exact ⟨b, by rw [hK]; exact vTru_of r1 q1 hb, (k.step s1).now r1 (d := .bl (!b)) (.bl _) p⟩⟩
theorem lp_notT (hK : X.K = C.K) (h : LPE X C W a ta la) : LPE X C W (.UnaryOp .Not a pos) (tNotT C.K ta) (lNotT la) := by
  rw [← hK]
  apply lp_notT_k0 <;> assumption
/-- a op b op' c -/
def lChain (lr lr' : DV → DV → Mem → PD → Prop) (la lb lc : LE) : LE := fun ρ M P PX => la ρ M (fun x M1 => lb ρ M1 (fun y M2 => lr x y M2 fun z M3 => ∃ k, z = .bl k ∧
  (if k = true then lc ρ M3 (fun w M4 => lr' y w M4 P) PX else P (.bl false) M3)) PX) PX
def lChainT (lr lr' : DV → DV → Mem → PD → Prop) (la lb lc : LE) : LT := lTest (lChain lr lr' la lb lc)
theorem lo_chain {r r' : R2} {lr lr' : DV → DV → Mem → PD → Prop} (hr : Lo2 C r lr) (hr' : Lo2 C r' lr') (ha : LoE C W ta la) (hb : LoE C W tb lb) (hc : LoE C W tc lc) : LoE C W (tChain r r' ta tb tc) (lChain lr lr' la lb lc) := fun ρ M P PX g Z σ H α Q vs rs kt wk =>
  ha.bind g vs rs wk fun v H1 α1 x M1 s1 r1 q1 h1 vs1 wk1 => hb.bind h1 vs1 r1 wk1 fun u H2 α2 y M2 s2 r2 q2 h2 vs2 wk2 =>
    hr x y M2 _ h2 _ α2 H2 v u _ r2 (q1.step s2) q2 fun z H3 α3 d M3 s3 r3 q3 h3 => by
      obtain ⟨k, e, h3⟩ := h3
      subst e
      cases q3
      refine ⟨k, rfl, ?_⟩
      cases k with
      | true => exact hc.bind h3 (vs2.step s3) r3 (wk2.step s3) fun w H4 α4 d M4 s4 r4 q4 h4 vs4 wk4 => hr' y d M4 P h4 _ α4 H4 u w Q r4 (q2.step (s3.trans s4)) q4 (kt.step (((s1.trans s2).trans s3).trans s4))
      | false => exact (kt.step ((s1.trans s2).trans s3)).now r3 (d := .bl false) (.bl false) h3
theorem lp_chain {op op' : CmpOp} {r r' : R2} {lr lr' : DV → DV → Mem → PD → Prop} (ho : OpR X (compareOp op) r) (hr : Lo2 C r lr) (ho' : OpR X (compareOp op') r') (hr' : Lo2 C r' lr') (ha : LPE X C W a ta la) (hb : LPE X C W b tb lb) (hc : LPE X C W c tc lc)
    (hm : lastMarks [op, op'] [b, c] = false := by with_unfolding_all rfl) : LPE X C W (.Compare a [op, op'] [b, c] pos) (tChain r r' ta tb tc) (lChain lr lr' la lb lc) := ⟨pe_chain ho ho' ha.pe hb.pe hc.pe hm, lo_chain hr hr' ha.lo hb.lo hc.lo⟩
theorem lpt_chain {op op' : CmpOp} {r r' : R2} {lr lr' : DV → DV → Mem → PD → Prop} (ho : OpR X (compareOp op) r) (hr : Lo2 C r lr) (ho' : OpR X (compareOp op') r') (hr' : Lo2 C r' lr') (ha : LPE X C W a ta la) (hb : LPE X C W b tb lb) (hc : LPE X C W c tc lc)
    (hm : lastMarks [op, op'] [b, c] = false := by with_unfolding_all rfl) : LPT X C W (.Compare a [op, op'] [b, c] pos) (tTest (tChain r r' ta tb tc)) (lChainT lr lr' la lb lc) := ⟨pt_chain ho ho' ha.pe hb.pe hc.pe hm, lo_test (lo_chain hr hr' ha.lo hb.lo hc.lo)⟩
/-- o[i] = v: a known list, a known dict -/
def lSetA (lo li lv : LE) : LS := fun L ρ M => lv ρ M (fun v M1 => lo ρ M1 (fun x M2 => li ρ M2 (fun y M3 => (∃ n ys i j, x = .obj n ∧ y = .int i ∧ M3[n]? = some (.lst ys) ∧ ixN ys.length i = some j ∧ L.nx ρ (M3.set n (.lst (ys.set j v)))) ∨
  ∃ n kvs k, x = .obj n ∧ M3[n]? = some (.dK kvs) ∧ y = .dat (keyD k) ∧ kvs.length < sizeLine ∧ L.nx ρ (M3.set n (.dK (putD kvs k v)))) (L.px ρ)) (L.px ρ)) (L.px ρ)
def rSetA : TSet := fun o i v H Q => rSetL o i v H Q ∨ rSetD o i v H Q
theorem set_A (hu : X.A.units + 1 < cLine) : PSet X rSetA := fun pins s σ H o i v ov iv u Q I ro ri rv h => h.elim (set_list pins s σ H o i v ov iv u Q I ro ri rv) (set_dict hu pins s σ H o i v ov iv u Q I ro ri rv)
theorem lps_setA {i : Expr} {ti : TE} {li : LE} {tpos : Pos} (hu : X.A.units + 1 < cLine) (ho : LPE X C W o to lo) (hi : LPE X C W i ti li) (he : LPE X C W e te le) (hs : swapsWithSole [.Subscript o i tpos] e pos.line X.env = pure false := by rfl) (hw : swappedStores [.Subscript o i tpos] e X.env = pure none := by rfl)
    (ha : ∀ v, assign (.Subscript o i tpos) X.env v = (do
      let ov ← holding [v] (eval o X.env)
      let iv ← holding [v, ov] (eval i X.env)
      standAt tpos
      holding [v, ov, iv] (setItem ov iv v)
      release [v, ov, iv] []) := by intro _; rfl)
    (h1 : (assignEach [.Subscript o i tpos] X.env).map (·.2) = [assign (.Subscript o i tpos) X.env] := by rfl) : LPS X C W (.Assign [.Subscript o i tpos] e pos) (tAsg te (gSub to ti rSetA)) (lSetA lo li le) :=
  ⟨ps_asg he.pe (pg_sub ho.pe hi.pe (set_A hu) ha) hs hw h1, fun L ρ M h Z D σ H α vs r d =>
    he.lo.bind h vs r (d.wk vs) fun v H1 α1 y M1 s1 r1 q1 h1 vs1 wk1 => ho.lo.bind h1 vs1 r1 wk1 fun u H2 α2 x M2 s2 r2 q2 h2 vs2 wk2 => hi.lo.bind h2 vs2 r2 wk2 fun w H3 α3 z M3 s3 r3 q3 h3 vs3 wk3 => by
      rcases h3 with ⟨n, ys, i0, j, rfl, rfl, hM, hj, p⟩ | ⟨n, kvs, ky, rfl, hM, rfl, hl, p⟩
      · obtain ⟨a, ea, rfl⟩ := q2.step s3
        cases q3
        obtain ⟨xs, eh, hd⟩ := r3.hr.get n a _ ea hM
        have st : Step (C.wz Z) α3 H3 α3 (upd H3 a (.lst (xs.set j v))) := put_step ea
        obtain ⟨r4, s4⟩ := r3.put (mo := .lst (ys.set j y)) ea ⟨_, upd_same, VRs.set ((q1.step (s2.trans s3)).step st) j (VRs.step hd st)⟩ (r3.noT ea hM)
        exact .inl ⟨a, xs, i0, j, rfl, rfl, eh, by rw [VRs.length hd]; exact hj, d.nx σ _ α3 ρ _ (((s1.trans s2).trans s3).trans s4) (vs3.step s4) r4 p⟩
      · obtain ⟨a, ea, rfl⟩ := q2.step s3
        have ey := keyD_of q3
        subst ey
        obtain ⟨ps, eh, kv⟩ := r3.hr.get n a _ ea hM
        have st : Step (C.wz Z) α3 H3 α3 (upd H3 a (.dK (putK ps ky v))) := put_step ea
        obtain ⟨r4, s4⟩ := r3.put (mo := .dK (putD kvs ky y)) ea ⟨_, upd_same, KVR.put ((q1.step (s2.trans s3)).step st) (KVR.step kv st)⟩ (r3.noT ea hM)
        exact .inr ⟨a, _, rfl, .k eh (by rw [KVR.length kv]; exact hl), d.nx σ _ α3 ρ _ (((s1.trans s2).trans s3).trans s4) (vs3.step s4) r4 p⟩⟩
/-- methods of built-in types -/
theorem lp_bm_k0 {T id : String} {name : Str} {apos cpos : Pos} {es : List Expr} {ta : TA} {la : LA} {r : V → List V → Hp → VK → Prop} {lr : DV → List DV → Mem → PD → Prop} (pa : PlainAttrs T) (slot : Slot T name id) (hty : typeOf (.builtin id) = pure (.type "method_descriptor")) (hm : MtR X id r) (hl : LoM C r lr) (hK : X.K = C.K)
    (ho : LPE X C W o to lo) (ha : LPA X C W (e :: es) ta la) (hbase : attributeBase o name X.env (eval o X.env) = eval o X.env := by rfl)
    (hfew : ((backTo cpos (starEach (e :: es) X.env)).all (fun x => !x.1) && (backToKw cpos (keywordEach [] X.env)).all (fun x => x.1.isSome)
      && decide ((e :: es).length + ([] : List Keyword).length + (if ([] : List Keyword).isEmpty then 0 else 1) < 30)) = true := by rfl)
    (hline : (apos.endLine == cpos.line) = true := by rfl) (hs : starEach (e :: es) X.env = (false, eval e X.env) :: starEach es X.env := by rfl) (hplain : (backTo cpos (starEach es X.env)).any (·.1) = false := by rfl) :
    LPE X C W (.Call (.Attribute o name apos) (e :: es) [] cpos) (tBM X.K T r to ta) (lBM T lr lo la) := ⟨pe_bm pa slot hty hm ho.pe ha.pa hbase hfew hline hs hplain, by rw [hK]; exact lo_bm hl ho.lo ha.lo⟩
theorem lp_bm {T id : String} {name : Str} {apos cpos : Pos} {es : List Expr} {ta : TA} {la : LA} {r : V → List V → Hp → VK → Prop} {lr : DV → List DV → Mem → PD → Prop} (pa : PlainAttrs T) (slot : Slot T name id) (hty : typeOf (.builtin id) = pure (.type "method_descriptor")) (hm : MtR X id r) (hl : LoM C r lr) (hK : X.K = C.K)
    (ho : LPE X C W o to lo) (ha : LPA X C W (e :: es) ta la) (hbase : attributeBase o name X.env (eval o X.env) = eval o X.env := by rfl)
    (hfew : ((backTo cpos (starEach (e :: es) X.env)).all (fun x => !x.1) && (backToKw cpos (keywordEach [] X.env)).all (fun x => x.1.isSome)
      && decide ((e :: es).length + ([] : List Keyword).length + (if ([] : List Keyword).isEmpty then 0 else 1) < 30)) = true := by rfl)
    (hline : (apos.endLine == cpos.line) = true := by rfl) (hs : starEach (e :: es) X.env = (false, eval e X.env) :: starEach es X.env := by rfl) (hplain : (backTo cpos (starEach es X.env)).any (·.1) = false := by rfl) : LPE X C W (.Call (.Attribute o name apos) (e :: es) [] cpos) (tBM C.K T r to ta) (lBM T lr lo la) := by
  rw [← hK]
  apply lp_bm_k0 <;> assumption
end

/-- the law is asked -/
theorem start_low {K : PySem.W.Frag} {H : Hp} {a : Addr} {ns : List Int} {lsp : LSp} (h : lsp [.dat (.lst (ns.map D.int))] [] (fun d _ => d = .bl true) fun _ _ => False) (hS : SqL K H a (ns.map V.int)) : low K noT lsp [.ref a] H (fun v _ => v = .bl true) fun _ _ _ => False := by
  have q : ∀ (N : Addr → Prop) (ns : List Int), VDs K N H (ns.map V.int) (ns.map D.int) := fun N ns => by
    induction ns with
    | nil => exact .nil
    | cons n ns ih => exact .cons (.int n) ih
  have rs : RS ⟨K, noT, []⟩ [] [] H := ⟨⟨rfl, fun n a o h1 h2 => (by simp at h1)⟩, .nil, fun _ z => absurd z not_noT, fun _ z => (by cases z), fun _ z => (by cases z)⟩
  have hl : SLi K (Cn.N ⟨K, noT, []⟩ []) H a (ns.map V.int) := hS.imp (fun z => ⟨z, by
    rintro (z | z | z)
    · cases z
    · exact absurd z not_noT
    · cases z⟩) id
  have vr : VRs ⟨K, noT, []⟩ [] H [.ref a] [.dat (.lst (ns.map D.int))] := .cons (show VD K _ H (.ref a) (.lst (ns.map D.int)) from .lst hl (q _ ns)) .nil
  refine ⟨[], [], _, [], _, _, rs, vr, h, fun v H' α' d M' s r q p => ?_, fun _ _ _ _ _ _ _ _ _ z => z.elim⟩
  subst p
  cases q
  rfl
/-- a def whose promise is empty -/
theorem ok_false {P : Program} {w : World} {K : PySem.W.Frag} {mg : Str → Option Value} {base : Heap} {k : Nat} {f : Addr} {fd : FuncData} {ps : List Str} {T : Tb} {CX : CXT} : FnOk P w K mg base CX k f fd ps (low K T fun _ _ _ _ => False) :=
  ⟨fun vs H Q E ⟨_, _, _, _, _, _, _, _, h, _⟩ => h.elim, fun A outer s H args us vs Q E _ _ _ _ ⟨_, _, _, _, _, _, _, _, h, _⟩ => h.elim⟩
end L3

/-! reading a lifted term, from the left -/
namespace L3
open PySem L2
section
variable {l m t u : LS} {le la lb lo li lv lc : LE} {as : LA} {lt lu : LT} {nx bk ct : Rho → Mem → Prop} {rt P : PD} {ex : LX → Rho → Mem → Prop} {PX : PXn} {ρ : Rho} {M : Mem} {i : Nat} {d : DV} {lw : LW} {g : LG} {L : LEnds}
theorem s_seq (h : l ⟨m ⟨nx, rt, bk, ct, ex⟩, rt, bk, ct, ex⟩ ρ M) : lSeq l m ⟨nx, rt, bk, ct, ex⟩ ρ M := h
theorem s_next (h : nx ρ M) : lNext ⟨nx, rt, bk, ct, ex⟩ ρ M := h
theorem s_break (h : bk ρ M) : lBreak ⟨nx, rt, bk, ct, ex⟩ ρ M := h
theorem s_cont (h : ct ρ M) : lCont ⟨nx, rt, bk, ct, ex⟩ ρ M := h
theorem s_drop (h : le ρ M (fun _ M1 => nx ρ M1) (fun x M => ex x ρ M)) : lDrop le ⟨nx, rt, bk, ct, ex⟩ ρ M := h
theorem s_ret (h : le ρ M rt (fun x M => ex x ρ M)) : lRet le ⟨nx, rt, bk, ct, ex⟩ ρ M := h
theorem s_retN (h : rt .non M) : lRetN ⟨nx, rt, bk, ct, ex⟩ ρ M := h
theorem s_ifS (h : lt ρ M (fun b M1 => if b = true then t ⟨nx, rt, bk, ct, ex⟩ ρ M1 else u ⟨nx, rt, bk, ct, ex⟩ ρ M1) (fun x M => ex x ρ M)) : lIfS lt t u ⟨nx, rt, bk, ct, ex⟩ ρ M := h
theorem s_set (h : le ρ M (fun x M1 => nx (ρ.set i (some x)) M1) (fun x M => ex x ρ M)) : lSet i le ⟨nx, rt, bk, ct, ex⟩ ρ M := h
theorem s_asg (h : le ρ M (fun x M1 => g x ρ M1 nx) (fun x M => ex x ρ M)) : lAsg le g ⟨nx, rt, bk, ct, ex⟩ ρ M := h
theorem s_gName {R : Rho → Mem → Prop} (h : R (ρ.set i (some d)) M) : lgName i d ρ M R := h
theorem s_gTup {n : Nat} {gs : LGs} {ds : List D} {R : Rho → Mem → Prop} (hn : ds.length = n) (h : gs (ds.map DV.dat) ρ M R) : lgTup n gs (.dat (.tup ds)) ρ M R := ⟨ds, rfl, hn, h⟩
theorem s_gCons {gs : LGs} {ds : List DV} {R : Rho → Mem → Prop} (h : g d ρ M fun ρ' M' => gs ds ρ' M' R) : lgCons g gs (d :: ds) ρ M R := ⟨d, ds, rfl, h⟩
theorem s_gNil {R : Rho → Mem → Prop} (h : R ρ M) : lgNil [] ρ M R := ⟨rfl, h⟩
theorem s_itT {A B : Prop} (h : A) : if true = true then A else B := h
theorem s_itF {A B : Prop} (h : B) : if false = true then A else B := h
theorem s_ite {b : Bool} {A B : Prop} (h1 : b = true → A) (h2 : b = false → B) : if b = true then A else B := by cases b with | true => exact h1 rfl | false => exact h2 rfl
theorem s_test' {R : Bool → Mem → Prop} (h : le ρ M (fun x M' => ∃ k, x = .bl k ∧ R k M') PX) : lTest le ρ M R PX := h
theorem s_exbl {R : Bool → Prop} {b : Bool} (h : R b) : ∃ k, DV.dat (.bl b) = DV.bl k ∧ R k := ⟨b, rfl, h⟩
theorem s_tru {R : Bool → Mem → Prop} (h : le ρ M (fun x M' => ∃ k, vTru x M' k ∧ R k M') PX) : lTru le ρ M R PX := h
theorem s_trubl {R : Bool → Prop} {b : Bool} (h : R b) : ∃ k, vTru (.dat (.bl b)) M k ∧ R k := ⟨b, rfl, h⟩
theorem s_truint {R : Bool → Prop} {b : Int} (h : R (b != 0)) : ∃ k, vTru (.dat (.int b)) M k ∧ R k := ⟨_, rfl, h⟩
theorem s_trulst {R : Bool → Prop} {ds : List D} (h : R (!ds.isEmpty)) : ∃ k, vTru (.dat (.lst ds)) M k ∧ R k := ⟨_, rfl, h⟩
theorem s_trutup {R : Bool → Prop} {ds : List D} (h : R (!ds.isEmpty)) : ∃ k, vTru (.dat (.tup ds)) M k ∧ R k := ⟨_, rfl, h⟩
theorem s_trunon {R : Bool → Prop} (h : R false) : ∃ k, vTru (.dat .non) M k ∧ R k := ⟨_, rfl, h⟩
theorem s_notT (h : le ρ M (fun x M' => ∃ k, vTru x M' k ∧ P (.bl (!k)) M') PX) : lNotT le ρ M P PX := h
theorem s_and {R : Bool → Mem → Prop} (h : lt ρ M (fun b M1 => if b = true then lu ρ M1 R PX else R false M1) PX) : lAnd lt lu ρ M R PX := h
theorem s_or {R : Bool → Mem → Prop} (h : lt ρ M (fun b M1 => if b = true then R true M1 else lu ρ M1 R PX) PX) : lOr lt lu ρ M R PX := h
theorem s_not {R : Bool → Mem → Prop} (h : lt ρ M (fun b M1 => R (!b) M1) PX) : lNot lt ρ M R PX := h
theorem s_andV (h : la ρ M (fun x M1 => ∃ c, x = .bl c ∧ if c = true then lb ρ M1 P PX else P (.bl false) M1) PX) : lAndV la lb ρ M P PX := h
theorem s_orV (h : la ρ M (fun x M1 => ∃ c, x = .bl c ∧ if c = true then P (.bl true) M1 else lb ρ M1 P PX) PX) : lOrV la lb ρ M P PX := h
theorem s_yes {R : Bool → Mem → Prop} (h : R true M) : lYes ρ M R PX := h
theorem s_if (h : lt ρ M (fun c M1 => if c = true then la ρ M1 P PX else lb ρ M1 P PX) PX) : lIf lt la lb ρ M P PX := h
theorem s_var (h : ρ[i]? = some (some d)) (p : P d M) : lVar i ρ M P PX := ⟨d, h, p⟩
theorem s_c {d : D} (p : P (.dat d) M) : lC d ρ M P PX := p
theorem s_op {lr : DV → DV → Mem → PD → Prop} (h : la ρ M (fun x M1 => lb ρ M1 (fun y M2 => lr x y M2 P) PX) PX) : lOp lr la lb ρ M P PX := h
theorem s_un {lr : DV → Mem → PD → Prop} (h : la ρ M (fun x M1 => lr x M1 P) PX) : lUn lr la ρ M P PX := h
theorem s_nil {R : List DV → Mem → Prop} (h : R [] M) : lNil ρ M R PX := h
theorem s_cons {R : List DV → Mem → Prop} (h : le ρ M (fun x M1 => as ρ M1 (fun xs M2 => R (x :: xs) M2) PX) PX) : lCons le as ρ M R PX := h
inductive Dats : List DV → List D → Prop
  | nil : Dats [] []
  | cons {d : D} {xs : List DV} {ds : List D} : Dats xs ds → Dats (.dat d :: xs) (d :: ds)
theorem Dats.eq {xs : List DV} {ds : List D} (h : Dats xs ds) : xs = ds.map DV.dat := by induction h with | nil => rfl | cons _ ih => rw [ih]; rfl
theorem s_tup (h : as ρ M (fun xs M1 => ∃ ds : List D, xs = ds.map DV.dat ∧ ds.length ≤ sizeLine ∧ P (.dat (.tup ds)) M1) PX) : lTup as ρ M P PX := h
theorem s_lst (h : as ρ M (fun xs M1 => ∃ ds : List D, xs = ds.map DV.dat ∧ ds.length ≤ sizeLine ∧ P (.dat (.lst ds)) M1) PX) : lLst as ρ M P PX := h
theorem s_exds {xs : List DV} {ds : List D} {R : List D → Prop} (hd : Dats xs ds) (hl : ds.length ≤ sizeLine) (h : R ds) : ∃ ds : List D, xs = ds.map DV.dat ∧ ds.length ≤ sizeLine ∧ R ds := ⟨ds, hd.eq, hl, h⟩
theorem s_lstM (h : as ρ M (fun xs M1 => xs.length ≤ sizeLine ∧ P (.obj M1.length) (M1 ++ [.lst xs])) PX) : lLstM as ρ M P PX := h
theorem s_cB {lr : List DV → Mem → PD → Prop} (h : as ρ M (fun xs M1 => lr xs M1 P) PX) : lCB lr as ρ M P PX := h
theorem s_call {lsp : LSp} (h : as ρ M (fun ds M1 => CallAt lsp ds M1 P fun _ _ => False) PX) : lCall lsp as ρ M P PX := h
theorem s_callX {lsp : LSp} (h : as ρ M (fun ds M1 => CallAt lsp ds M1 P PX) PX) : lCallX lsp as ρ M P PX := h
theorem s_meth {C : Addr} {mn : Str} {lsp : LSp} (h : lo ρ M (fun x M1 => ∃ n fs, x = .obj n ∧ M1[n]? = some (.ins C fs) ∧ fs.lookup mn = none ∧ as ρ M1 (fun ds M2 => CallAt lsp (.obj n :: ds) M2 P fun _ _ => False) PX) PX) : lMeth C mn lsp lo as ρ M P PX := h
theorem s_exmeth {C : Addr} {mn : Str} {n : Nat} {fs : List (Str × DV)} {R : Nat → Prop} (h1 : M[n]? = some (.ins C fs)) (h2 : fs.lookup mn = none) (h : R n) : ∃ n' fs, DV.obj n = .obj n' ∧ M[n']? = some (.ins C fs) ∧ fs.lookup mn = none ∧ R n' := ⟨n, fs, rfl, h1, h2, h⟩
theorem s_make {C : Addr} {lsp : LSp} (h : as ρ M (fun ds M1 => CallAt lsp (.obj M1.length :: ds) (M1 ++ [.ins C []]) (fun v M2 => v = .non ∧ P (.obj M1.length) M2) fun _ _ => False) PX) : lMake C lsp as ρ M P PX := h
theorem s_fld {C : Addr} {f : Str} (h : lo ρ M (fun x M1 => ∃ n fs d, x = .obj n ∧ M1[n]? = some (.ins C fs) ∧ fs.lookup f = some d ∧ P d M1) PX) : lFldOf C lo f ρ M P PX := h
theorem s_exfld {C : Addr} {f : Str} {n : Nat} {fs : List (Str × DV)} {R : DV → Prop} (h1 : M[n]? = some (.ins C fs)) (h2 : fs.lookup f = some d) (h : R d) : ∃ n' fs d, DV.obj n = .obj n' ∧ M[n']? = some (.ins C fs) ∧ fs.lookup f = some d ∧ R d := ⟨n, fs, d, rfl, h1, h2, h⟩
theorem s_setFld {C : Addr} {f : Str} (h : lv ρ M (fun y M1 => lo ρ M1 (fun x M2 => ∃ n fs, x = .obj n ∧ M2[n]? = some (.ins C fs) ∧ fs.length < 1000 ∧ nx ρ (M2.set n (.ins C (putFD f y fs)))) (fun x M => ex x ρ M)) (fun x M => ex x ρ M)) : lSetFld C lo lv f ⟨nx, rt, bk, ct, ex⟩ ρ M := h
theorem s_exsetFld {C : Addr} {n : Nat} {fs : List (Str × DV)} {R : Nat → List (Str × DV) → Prop} (h1 : M[n]? = some (.ins C fs)) (h2 : fs.length < 1000) (h : R n fs) : ∃ n' fs, DV.obj n = .obj n' ∧ M[n']? = some (.ins C fs) ∧ fs.length < 1000 ∧ R n' fs := ⟨n, fs, rfl, h1, h2, h⟩
theorem s_dnew (h : P (.obj M.length) (M ++ [.dK []])) : lDNew ρ M P PX := h
theorem s_dget1 (h : lo ρ M (fun x M1 => ∃ n kvs, x = .obj n ∧ M1[n]? = some (.dK kvs) ∧ li ρ M1 (fun y M2 => ∃ k kvs2, M2[n]? = some (.dK kvs2) ∧ y = .dat (keyD k) ∧ P ((valD kvs2 k).getD .non) M2) PX) PX) : lDGet1 lo li ρ M P PX := h
theorem s_exdict {n : Nat} {kvs : List (Key × DV)} {R : Nat → Prop} (h1 : M[n]? = some (.dK kvs)) (h : R n) : ∃ n' kvs, DV.obj n = .obj n' ∧ M[n']? = some (.dK kvs) ∧ R n' := ⟨n, kvs, rfl, h1, h⟩
theorem s_exkey {n : Nat} {kvs : List (Key × DV)} {k : Key} {R : Key → List (Key × DV) → Prop} (h1 : M[n]? = some (.dK kvs)) (h2 : d = .dat (keyD k)) (h : R k kvs) : ∃ k kvs2, M[n]? = some (.dK kvs2) ∧ d = .dat (keyD k) ∧ R k kvs2 := ⟨k, kvs, h1, h2, h⟩
theorem s_ddel (h : lo ρ M (fun x M1 => li ρ M1 (fun y M2 => ∃ n kvs k, x = .obj n ∧ M2[n]? = some (.dK kvs) ∧ y = .dat (keyD k) ∧ (valD kvs k).isSome = true ∧ nx ρ (M2.set n (.dK (dropD kvs k)))) (fun x M => ex x ρ M)) (fun x M => ex x ρ M)) : lDDel lo li ⟨nx, rt, bk, ct, ex⟩ ρ M := h
theorem s_setA (h : lv ρ M (fun v M1 => lo ρ M1 (fun x M2 => li ρ M2 (fun y M3 => (∃ n ys i j, x = .obj n ∧ y = .int i ∧ M3[n]? = some (.lst ys) ∧ ixN ys.length i = some j ∧ nx ρ (M3.set n (.lst (ys.set j v)))) ∨
  ∃ n kvs k, x = .obj n ∧ M3[n]? = some (.dK kvs) ∧ y = .dat (keyD k) ∧ kvs.length < sizeLine ∧ nx ρ (M3.set n (.dK (putD kvs k v)))) (fun x M => ex x ρ M)) (fun x M => ex x ρ M)) (fun x M => ex x ρ M)) : lSetA lo li lv ⟨nx, rt, bk, ct, ex⟩ ρ M := h
theorem s_sl {ls : DV → Option Int → Option Int → Mem → PD → Prop} {ll lh : LO} (h : le ρ M (fun x M1 => ll ρ M1 (fun a M2 => lh ρ M2 (fun b M3 => ls x a b M3 P) PX) PX) PX) : lSl ls le ll lh ρ M P PX := h
theorem s_noPart {R : Option Int → Mem → Prop} (h : R none M) : lNoPart ρ M R PX := h
theorem s_part {R : Option Int → Mem → Prop} (h : le ρ M (fun x M1 => ∃ i, x = .int i ∧ R (some i) M1) PX) : lPart le ρ M R PX := h
theorem s_exint {R : Int → Prop} {i : Int} (h : R i) : ∃ j, DV.dat (.int i) = .int j ∧ R j := ⟨i, rfl, h⟩
theorem s_slL {a b : Option Int} {ds : List D} (h : P (.dat (.lst (cutD ds a b))) M) : vSl (.dat (.lst ds)) a b M P := h
theorem s_bM {T : String} {lr : DV → List DV → Mem → PD → Prop} (h : lo ρ M (fun x M1 => tyD T x M1 ∧ as ρ M1 (fun xs M2 => lr x xs M2 P) PX) PX) : lBM T lr lo as ρ M P PX := h
/-! values -/
theorem s_I0 {gg : Int → Int → D} {a b : Int} (h : P (.dat (gg a b)) M) : vI0 gg (.dat (.int a)) (.dat (.int b)) M P := ⟨a, b, rfl, rfl, h⟩
theorem s_I {Cd : Int → Int → Prop} {gg : Int → Int → D} {a b : Int} (hc : Cd a b) (h : P (.dat (gg a b)) M) : vI Cd gg (.dat (.int a)) (.dat (.int b)) M P := ⟨a, b, rfl, rfl, hc, h⟩
theorem s_ordI {gi : Int → Int → Bool} {gs : List Nat → List Nat → Bool} {a b : Int} (h : P (.bl (gi a b)) M) : vOrdr gi gs (.dat (.int a)) (.dat (.int b)) M P := h
theorem s_addI {a b : Int} (h : P (.int (a + b)) M) : vAdd (.dat (.int a)) (.dat (.int b)) M P := h
theorem s_addS {a b : Str} (hl : a.length + b.length ≤ sizeLine) (h : P (.str (a ++ b)) M) : vAdd (.dat (.str a)) (.dat (.str b)) M P := ⟨hl, h⟩
theorem s_addL {a b : List D} (hl : a.length + b.length ≤ sizeLine) (h : P (.dat (.lst (a ++ b))) M) : vAdd (.dat (.lst a)) (.dat (.lst b)) M P := ⟨hl, h⟩
theorem s_mulI {a b : Int} (hc : CMul a b) (h : P (.int (a * b)) M) : vMul (.dat (.int a)) (.dat (.int b)) M P := ⟨hc, h⟩
theorem s_isN {b : Bool} {x : DV} (h : P (.bl (if b then !isNon x else isNon x)) M) : vIsN b x (.dat .non) M P := ⟨rfl, h⟩
theorem s_lenL {ds : List D} (h : P (.int (ds.length : Nat)) M) : vLenA [.dat (.lst ds)] M P := .inl ⟨_, rfl, _, rfl, h⟩
theorem s_lenT {ds : List D} (h : P (.int (ds.length : Nat)) M) : vLenA [.dat (.tup ds)] M P := .inl ⟨_, rfl, _, rfl, h⟩
theorem s_lenS {x : Str} (hl : x.length ≤ sizeLine) (h : P (.int (x.length : Nat)) M) : vLenA [.dat (.str x)] M P := .inl ⟨_, rfl, _, ⟨hl, rfl⟩, h⟩
theorem s_lenO {n : Nat} {ys : List DV} (hM : M[n]? = some (.lst ys)) (h : P (.int (ys.length : Nat)) M) : vLenA [.obj n] M P := .inl ⟨_, rfl, _, ⟨ys, hM, rfl⟩, h⟩
theorem s_lenD {n : Nat} {kvs : List (Key × DV)} (hM : M[n]? = some (.dK kvs)) (h : P (.int (kvs.length : Nat)) M) : vLenA [.obj n] M P := .inr ⟨n, kvs, rfl, hM, h⟩
theorem s_ixL {ds : List D} {e : D} {j : Int} (h1 : atI ds j = some e) (h : P (.dat e) M) : vIxA (.dat (.lst ds)) (.dat (.int j)) M P := .inl ⟨j, rfl, e, h1, h⟩
theorem s_ixT {ds : List D} {e : D} {j : Int} (h1 : atI ds j = some e) (h : P (.dat e) M) : vIxA (.dat (.tup ds)) (.dat (.int j)) M P := .inl ⟨j, rfl, e, h1, h⟩
theorem s_ixS {x : Str} {c : Nat} {j : Int} (hl : x.length ≤ sizeLine) (h1 : atI x.cps.toList j = some c) (h : P (.str ⟨#[c]⟩) M) : vIxA (.dat (.str x)) (.dat (.int j)) M P := .inl ⟨j, rfl, hl, c, h1, h⟩
theorem s_ixO {n : Nat} {ys : List DV} {e : DV} {j : Int} (hM : M[n]? = some (.lst ys)) (h1 : atI ys j = some e) (h : P e M) : vIxA (.obj n) (.dat (.int j)) M P := .inl ⟨j, rfl, ys, e, hM, h1, h⟩
theorem s_ixD {n : Nat} {kvs : List (Key × DV)} {k : Key} {e : DV} (hM : M[n]? = some (.dK kvs)) (hk : d = .dat (keyD k)) (h1 : valD kvs k = some e) (h : P e M) : vIxA (.obj n) d M P := .inr ⟨n, kvs, k, e, rfl, hM, hk, h1, h⟩
theorem s_isi {e : D} {n : String} {b : Bool} (hn : n = "int" ∨ n = "str" ∨ n = "bool" ∨ n = "tuple" ∨ n = "list") (ht : (tyN e == "") = false) (hb : isiD e n = b) (h : P (.bl b) M) : vIsi [.dat e, .dat (.ty n)] M P := ⟨e, n, rfl, hn, ht, by rw [hb]; exact h⟩
theorem s_int1 {j : Int} (h : P (.int j) M) : vInt1 [.dat (.int j)] M P := .inl ⟨j, rfl, h⟩
theorem s_int1b {b : Bool} (h : P (.int (if b then 1 else 0)) M) : vInt1 [.dat (.bl b)] M P := .inr ⟨b, rfl, h⟩
theorem s_abs {j : Int} (h : P (.int (if j < 0 then -j else j)) M) : vAbs [.dat (.int j)] M P := ⟨j, rfl, h⟩
theorem s_strI {j : Int} (hb : j.natAbs.log2 < 1920) (h : P (.str (toString j)) M) : vStrI [.dat (.int j)] M P := ⟨j, rfl, hb, h⟩
theorem s_tupL {ds : List D} (h : P (.dat (.tup ds)) M) : vTupA [.dat (.lst ds)] M P := .inl ⟨_, rfl, .inl ⟨ds, rfl, h⟩⟩
theorem s_tupT {ds : List D} (h : P (.dat (.tup ds)) M) : vTupA [.dat (.tup ds)] M P := .inl ⟨_, rfl, .inr (.inl ⟨ds, rfl, h⟩)⟩
theorem s_tupD {n : Nat} {kvs : List (Key × DV)} (hM : M[n]? = some (.dK kvs)) (h : P (.dat (.tup (kvs.map fun kv => keyD kv.1))) M) : vTupA [.obj n] M P := .inr ⟨n, kvs, rfl, hM, h⟩
theorem s_inD {b : Bool} {n : Nat} {kvs : List (Key × DV)} {k : Key} {c : Bool} (hM : M[n]? = some (.dK kvs)) (hk : d = .dat (keyD k)) (hc : (if b then !(valD kvs k).isSome else (valD kvs k).isSome) = c) (h : P (.bl c) M) : vInA b d (.obj n) M P := .inr (.inl ⟨n, kvs, k, rfl, hM, hk, by rw [hc]; exact h⟩)
theorem s_inL {b : Bool} {e : D} {ds : List D} {c : Bool} (h1 : flatD e = true) (h2 : ds.all flatD = true) (hc : (if b then !inD e ds else inD e ds) = c) (h : P (.bl c) M) : vInA b (.dat e) (.dat (.lst ds)) M P := .inl ⟨e, ds, rfl, .inl rfl, h1, h2, by rw [hc]; exact h⟩
theorem s_eqI {b : Bool} {x y : Int} (h : P (.bl (if b then !decide (x = y) else decide (x = y))) M) : vEq b (.dat (.int x)) (.dat (.int y)) M P := vEq_int h
theorem s_eqS {b : Bool} {x y : Str} (h : P (.bl (if b then !decide (x = y) else decide (x = y))) M) : vEq b (.dat (.str x)) (.dat (.str y)) M P := vEq_str h
theorem s_eqB {b : Bool} {x y : Bool} (h : P (.bl (if b then !decide (x = y) else decide (x = y))) M) : vEq b (.dat (.bl x)) (.dat (.bl y)) M P := vEq_bl h
theorem s_wRng1 {R : List DV → (Mem → Prop) → Mem → Prop} (h : as ρ M (fun xs M1 => ∃ j : Int, xs = [.int j] ∧ -(2 ^ 62) ≤ j ∧ j < 2 ^ 62 ∧ R (rangeD 0 j.toNat) (fun _ => True) M1) PX) : lwRng1 as ρ M R PX := h
theorem s_exrng {R : Int → Prop} {j : Int} (h1 : -(2 ^ 62) ≤ j) (h2 : j < 2 ^ 62) (h : R j) : ∃ k : Int, [DV.dat (.int j)] = [.int k] ∧ -(2 ^ 62) ≤ k ∧ k < 2 ^ 62 ∧ R k := ⟨j, rfl, h1, h2, h⟩
theorem s_wAnyL {R : List DV → (Mem → Prop) → Mem → Prop} {ds : List D} (hv : ρ[i]? = some (some (.dat (.lst ds)))) (h : R (ds.map DV.dat) (fun _ => True) M) : lwAny (lVar i) ρ M R PX := ⟨_, hv, h⟩
theorem s_wAnyT {R : List DV → (Mem → Prop) → Mem → Prop} {ds : List D} (hv : ρ[i]? = some (some (.dat (.tup ds)))) (h : R (ds.map DV.dat) (fun _ => True) M) : lwAny (lVar i) ρ M R PX := ⟨_, hv, h⟩
theorem s_for (h : lw ρ M (fun items okM M1 => ∃ I : Nat → Rho → Mem → Prop, I 0 ρ M1 ∧ (∀ i ρ M, I i ρ M → okM M) ∧
  (∀ i x ρ M, items[i]? = some x → I i ρ M → g x ρ M fun ρ' M' => l ⟨DropS M1.length (I (i + 1)), rt, nx, DropS M1.length (I (i + 1)), ex⟩ ρ' M') ∧ ∀ ρ M, I items.length ρ M → nx ρ M) (fun x M => ex x ρ M)) : lFor lw g l ⟨nx, rt, bk, ct, ex⟩ ρ M := h
/-! calls -/
theorem merge_nil (M : Mem) : merge [] M [] = M := by unfold merge putAll; simp
theorem call0 {lsp : LSp} {ds : List DV} {es : List D} (hd : Dats ds es) (h : lsp (es.map DV.dat) [] (fun d M' => (∃ e, d = .dat e) ∧ M' = [] ∧ P d M) fun _ _ => False) (mono : ∀ {ds M} {P P' : PD} {PX PX' : PXn}, (∀ d M, P d M → P' d M) → (∀ x M, PX x M → PX' x M) → lsp ds M P PX → lsp ds M P' PX') : CallAt lsp ds M P PX := by
  refine ⟨[], es.map DV.dat, [], List.nodup_nil, ?_, ?_, rfl, rfl, mono ?_ ?_ h⟩
  · simp [okDV]
  · rw [hd.eq, List.map_map]; exact List.map_congr_left fun e _ => rfl
  · rintro d M' ⟨⟨e, rfl⟩, rfl, p⟩
    rw [merge_nil]
    exact p
  · exact fun _ _ h => h.elim
end
end L3

/-! what the laws share -/
namespace L3
open PySem L2
theorem dropAll {k : Nat} {P : PD} {d : DV} {M : Mem} (hk : k ≤ M.length) (hd : okDV M.length d = true) (hM : M.all (okMO M.length) = true) (p : P d M) : DropD k P d M :=
  ⟨M.length, hk, hd, by rw [List.take_length]; exact hM, by rw [List.take_length]; exact p⟩
theorem atI_ex {α : Type} {xs : List α} {i : Int} (h0 : 0 ≤ i) (h1 : i < xs.length) : ∃ c, atI xs i = some c ∧ c ∈ xs := by
  obtain ⟨j, rfl⟩ : ∃ j : Nat, i = j := ⟨i.toNat, by omega⟩
  have hj : j < xs.length := by omega
  exact ⟨xs[j], atI_nat (List.getElem?_eq_getElem hj), List.getElem_mem hj⟩
theorem atI_int {ns : List Int} {i : Int} (h0 : 0 ≤ i) (h1 : i < ns.length) : ∃ c, atI (ns.map D.int) i = some (.int c) := by
  obtain ⟨d, h, hm⟩ := atI_ex (xs := ns.map D.int) h0 (by rw [List.length_map]; exact h1)
  obtain ⟨c, _, rfl⟩ := List.mem_map.mp hm
  exact ⟨c, h⟩
theorem rangeD_at {n i : Nat} {x : DV} (h : (rangeD 0 n)[i]? = some x) : i < n ∧ x = .int (i : Nat) := by
  unfold rangeD at h
  rw [List.getElem?_map] at h
  by_cases hi : i < n
  · rw [List.getElem?_range hi] at h
    simp at h
    exact ⟨hi, h.symm⟩
  · rw [List.getElem?_eq_none (by simp; omega)] at h
    simp at h
theorem map_at {ds : List D} {i : Nat} {x : DV} (h : (ds.map DV.dat)[i]? = some x) : ∃ d, ds[i]? = some d ∧ x = .dat d ∧ i < ds.length ∧ d ∈ ds := by
  rw [List.getElem?_map] at h
  cases e : ds[i]? with
  | none => rw [e] at h; cases h
  | some d =>
    rw [e] at h
    exact ⟨d, rfl, (Option.some.inj h).symm, (List.getElem?_eq_some_iff.mp e).1, List.mem_of_getElem? e⟩
theorem set_self {M : Mem} {n : Nat} {o : MO} (h : M[n]? = some o) : M.set n o = M := by
  obtain ⟨h1, h2⟩ := List.getElem?_eq_some_iff.mp h
  rw [← h2]
  exact List.set_getElem_self h1
/-- the state of the draws -/
def Dr (o : MO) : Prop := ∃ i p g : Int, o = .lst [.int i, .int p, .int g] ∧ 0 ≤ i ∧ 0 ≤ p ∧ 0 ≤ g ∧ g < 2147483647
def spDraw (pre : List D → Prop) (S : List D → D → Prop) : LSp := fun ds M P PX => ∃ (ns : List Int) (as : List D) (o : MO), ds = .obj 0 :: .dat (.lst (ns.map D.int)) :: as.map DV.dat ∧ ns.length ≤ 63 ∧ M = [o] ∧ Dr o ∧ pre as ∧ ∀ d o', S as d → Dr o' → P (.dat d) [o']
theorem call_draw {pre : List D → Prop} {S : List D → D → Prop} {n : Nat} {o : MO} {xs : List DV} {as : List D} {ns : List Int} {M : Mem} {P : PD} {PX : PXn} (hM : M[n]? = some o) (ho : Dr o) (hl : ns.length ≤ 63) (hd : Dats xs as) (hp : pre as) (k : ∀ d o', S as d → Dr o' → P (.dat d) (M.set n o')) :
    CallAt (spDraw pre S) (.obj n :: .dat (.lst (ns.map D.int)) :: xs) M P PX := by
  obtain ⟨i, p, g, rfl, ho1⟩ := id ho
  refine ⟨[n], .obj 0 :: .dat (.lst (ns.map D.int)) :: as.map DV.dat, [_], by simp, ?_, ?_, rfl, ?_, ns, as, _, rfl, hl, rfl, ho, hp, fun d o' hs ho' => ?_⟩
  · simp [okDV]
  · rw [hd.eq]
    show _ = renDV [n] M.length (.obj 0) :: renDV [n] M.length (.dat _) :: (as.map DV.dat).map (renDV [n] M.length)
    rw [List.map_map]
    congr 2
  · simp [hM, renMO, renDV]
  · obtain ⟨i', p', g', rfl, ho2⟩ := id ho'
    show P (.dat d) (merge [n] M [_])
    have e : merge [n] M [MO.lst [.int i', .int p', .int g']] = M.set n (MO.lst [.int i', .int p', .int g']) := by
      simp [merge, putAll, renMO, renDV]
    rw [e]
    exact k d _ hs ho'
def nextPre (as : List D) : Prop := ∃ m : Int, as = [.int m] ∧ 0 < m ∧ m < 1073741824
def nextS (as : List D) (d : D) : Prop := ∃ m r : Int, as = [.int m] ∧ d = .int r ∧ 0 ≤ r ∧ r < m
theorem call_next {n : Nat} {o : MO} {m : Int} {ns : List Int} {M : Mem} {P : PD} {PX : PXn} (hM : M[n]? = some o) (ho : Dr o) (hl : ns.length ≤ 63) (h0 : 0 < m) (h1 : m < 1073741824) (k : ∀ r o', 0 ≤ r → r < m → Dr o' → P (.dat (.int r)) (M.set n o')) :
    CallAt (spDraw nextPre nextS) [.obj n, .dat (.lst (ns.map D.int)), .dat (.int m)] M P PX :=
  call_draw hM ho hl (.cons .nil) ⟨m, rfl, h0, h1⟩ fun d o' ⟨m', r, e, hd, h2, h3⟩ ho' => by
    cases e
    subst hd
    exact k r o' h2 h3 ho'
/-- data in, data out -/
def spP (pre : List D → Prop) (S : List D → D → Prop) : LSp := fun ds M P PX => ∃ as : List D, ds = as.map DV.dat ∧ M = [] ∧ pre as ∧ ∀ r, S as r → P (.dat r) []
theorem call_P {pre : List D → Prop} {S : List D → D → Prop} {xs : List DV} {as : List D} {M : Mem} {P : PD} {PX : PXn} (hd : Dats xs as) (hp : pre as) (k : ∀ r, S as r → P (.dat r) M) : CallAt (spP pre S) xs M P PX := by
  refine ⟨[], as.map DV.dat, [], List.nodup_nil, by simp [okDV], ?_, rfl, rfl, as, rfl, rfl, hp, fun r hr => ?_⟩
  · rw [hd.eq, List.map_map]; exact List.map_congr_left fun e _ => rfl
  · show P (.dat r) (merge [] M [])
    rw [merge_nil]
    exact k r hr
/-- values that the laws compare with themselves -/
def okV : Nat → D → Prop
  | 0, _ => False
  | _ + 1, .non => True
  | _ + 1, .bl _ => True
  | _ + 1, .int _ => True
  | _ + 1, .str _ => True
  | n + 1, .tup ds => ds.length ≤ 1000000 ∧ ∀ d ∈ ds, okV n d
  | _ + 1, _ => False
def samePre (n : Nat) (as : List D) : Prop := ∃ d, as = [d, d] ∧ okV n d
def yesS (_ : List D) (r : D) : Prop := r = .bl true
def spSame : Nat → LSp
  | 0 => fun _ _ _ _ => False
  | n + 1 => spP (samePre (n + 1)) yesS
theorem call_same {n : Nat} {d : D} {M : Mem} {P : PD} {PX : PXn} (h : okV n d) (k : P (.dat (.bl true)) M) : CallAt (spSame n) [.dat d, .dat d] M P PX := by
  cases n with
  | zero => exact h.elim
  | succ n => exact call_P (.cons (.cons .nil)) ⟨d, rfl, h⟩ fun r e => by cases e; exact k
theorem okV_mono {n : Nat} : ∀ {d : D}, okV n d → okV (n + 1) d := by
  induction n with
  | zero => intro d h; exact h.elim
  | succ n ih =>
    intro d h
    cases d with
    | tup ds => exact ⟨h.1, fun d hd => ih (h.2 d hd)⟩
    | non => trivial
    | bl => trivial
    | int => trivial
    | str => trivial
    | lst => exact h.elim
    | ty => exact h.elim
    | con => exact h.elim
    | exc => exact h.elim
/-- a comprehension that draws nothing -/
theorem lc_pure {v kk : Nat} {lt : LT} {te : LE} {ρ : Rho} {M : Mem} {P : PD} {PX : PXn} {ds : List D} (p : D → Bool) (f : D → D) (hv : ρ[v]? = some (some (.dat (.lst ds)))) (hl : ds.length ≤ sizeLine)
    (ht : ∀ d ∈ ds, ∀ R : Bool → Mem → Prop, R (p d) M → lt ((ρ.set kk none).set kk (some (.dat d))) M R noX) (he : ∀ d ∈ ds, p d = true → ∀ R : PD, R (.dat (f d)) M → te ((ρ.set kk none).set kk (some (.dat d))) M R noX) (h : P (.dat (.lst ((ds.filter p).map f))) M) :
    lLc (lwAny (lVar v)) (lgName kk) lt te [kk] ρ M P PX := by
  refine ⟨_, hv, fun i acc M' => M' = M ∧ acc = ((ds.take i).filter p).map f, ⟨rfl, by simp⟩, fun _ _ _ _ => trivial, ?_, ?_⟩
  · rintro i x acc M' hx ⟨rfl, rfl⟩
    obtain ⟨d, hd, rfl, hi, hm⟩ := map_at hx
    have e : ((ds.take (i + 1)).filter p).map f = ((ds.take i).filter p).map f ++ (if p d = true then [f d] else []) := by
      rw [List.take_add_one, hd, List.filter_append, List.map_append]
      congr 1
      show ([d].filter p).map f = _
      cases hp : p d <;> simp [hp]
    refine ht d hm _ ?_
    show if p d = true then _ else _
    cases hp : p d with
    | false =>
      refine .inl ⟨rfl, ?_⟩
      rw [e, hp]
      simp
    | true =>
      refine he d hm hp _ ⟨?_, _, rfl, .inl ⟨rfl, ?_⟩⟩
      · rw [List.length_map]
        have h1 := List.length_filter_le p (ds.take i)
        have h2 : (ds.take i).length ≤ i := by rw [List.length_take]; omega
        omega
      · rw [e, hp]
        rfl
  · rintro acc M' ⟨rfl, rfl⟩
    rw [List.length_map, List.take_length]
    exact h
theorem s_itnF {A B : Prop} (h : A) : if (!false) = true then A else B := h
theorem s_itnT {A B : Prop} (h : B) : if (!true) = true then A else B := h
theorem s_isNT {b : Bool} {x : DV} {P : PD} {M : Mem} (e : (if b then !isNon x else isNon x) = true) (h : P (.bl true) M) : vIsN b x (.dat .non) M P := s_isN (by rw [e]; exact h)
theorem s_isNF {b : Bool} {x : DV} {P : PD} {M : Mem} (e : (if b then !isNon x else isNon x) = false) (h : P (.bl false) M) : vIsN b x (.dat .non) M P := s_isN (by rw [e]; exact h)
theorem s_isiT {e : D} {n : String} {P : PD} {M : Mem} (hn : n = "int" ∨ n = "str" ∨ n = "bool" ∨ n = "tuple" ∨ n = "list") (ht : (tyN e == "") = false) (hb : isiD e n = true) (h : P (.bl true) M) : vIsi [.dat e, .dat (.ty n)] M P := s_isi hn ht hb h
theorem s_isiF {e : D} {n : String} {P : PD} {M : Mem} (hn : n = "int" ∨ n = "str" ∨ n = "bool" ∨ n = "tuple" ∨ n = "list") (ht : (tyN e == "") = false) (hb : isiD e n = false) (h : P (.bl false) M) : vIsi [.dat e, .dat (.ty n)] M P := s_isi hn ht hb h
theorem s_eqST {x : Str} {P : PD} {M : Mem} (h : P (.bl true) M) : vEq false (.dat (.str x)) (.dat (.str x)) M P := s_eqS (by simpa using h)
theorem s_eqIT {x : Int} {P : PD} {M : Mem} (h : P (.bl true) M) : vEq false (.dat (.int x)) (.dat (.int x)) M P := s_eqI (by simpa using h)
theorem s_neIT {x : Int} {P : PD} {M : Mem} (h : P (.bl false) M) : vEq true (.dat (.int x)) (.dat (.int x)) M P := s_eqI (by simpa using h)
theorem s_eqBT {x : Bool} {P : PD} {M : Mem} (h : P (.bl true) M) : vEq false (.dat (.bl x)) (.dat (.bl x)) M P := s_eqB (by simpa using h)
end L3

/-! more steps: texts, loops -/
namespace L3
open PySem L2
section
variable {C : Cn}
def vFind3 : DV → List DV → Mem → PD → Prop := fun x xs M P => ∃ a b i, x = .str a ∧ xs = [.str b, .int i] ∧ P (.int (Txt.find3 a b i)) M
theorem lm_find3 : LoM C (fun x xs H Q => ∃ (a b : Str) (i : Int), x = .str a ∧ xs = [.str b, .int i] ∧ Q (.int (Txt.find3 a b i)) H) vFind3 := fun x xs M P ⟨a, b, i, e1, e2, p⟩ Z α H v vs Q r q qs k => by
  subst e1 e2
  cases q
  obtain ⟨v1, v2, rfl, q1, q2⟩ := two_inv qs
  cases q1
  cases q2
  exact ⟨a, b, i, rfl, rfl, k.now (d := .int _) r (.int _) p⟩
def vStarts : DV → List DV → Mem → PD → Prop := fun x xs M P => ∃ a b, x = .str a ∧ xs = [.str b] ∧ P (.bl (Txt.startswith a b)) M
def vEnds : DV → List DV → Mem → PD → Prop := fun x xs M P => ∃ a b, x = .str a ∧ xs = [.str b] ∧ P (.bl (Txt.endswith a b)) M
def vFind : DV → List DV → Mem → PD → Prop := fun x xs M P => ∃ a b, x = .str a ∧ xs = [.str b] ∧ P (.int (Txt.find a b)) M
def vCount : DV → List DV → Mem → PD → Prop := fun x xs M P => ∃ a b, x = .str a ∧ xs = [.str b] ∧ P (.int (Txt.count a b)) M
end
/-- a written tuple of texts -/
structure TupOk (K : PySem.W.Frag) (a : Addr) (xs : List Str) : Prop where
  ex : ∃ (o : Obj) (its : Array Value) (n : Nat), K.lookup a = some o ∧ o.cls = .type "tuple" ∧ o.data = .seq its n ∧ its.size ≤ sizeLine ∧ Vals (xs.map V.str) its.toList
theorem lp_gtupE {X : Cx} {C : Cn} {W : WX} {pos : Pos} {x : Str} {xs : List Str} {a : Addr} (hK : X.K = C.K) (hg : Gl X x) (hm : X.mg x = some (.ref a) ∧ TupOk X.K a xs) (hd : (x == ("__debug__" : Str)) = false := by decide) : LPE X C W (.Name x pos) (tC (.ref a)) (lC (.tup (xs.map D.str))) := by
  obtain ⟨h1, h2⟩ := hm
  rw [hK] at h2
  refine lp_glob hg h1 (rv := rfl) (fun Z α H => ?_) hd
  obtain ⟨o, its, n, e1, e2, e3, e4, e5⟩ := h2.ex
  refine .tup (.inr ⟨o, its, n, e1, e2, e3, e4, e5⟩) ?_
  clear e5 h2
  induction xs with
  | nil => exact .nil
  | cons x xs ih => exact .cons (.str x) ih
section
variable {l m t u : LS} {le la lb lo li lv lc : LE} {as : LA} {lt lu : LT} {nx bk ct : Rho → Mem → Prop} {rt P : PD} {ex : LX → Rho → Mem → Prop} {PX : PXn} {ρ : Rho} {M : Mem} {i : Nat} {d : DV} {lw : LW} {g : LG} {L : LEnds}
theorem s_while (h : ∃ (I : Nat → Rho → Mem → Prop), (∃ m, I m ρ M) ∧ ∀ m ρ1 M1, I m ρ1 M1 → lt ρ1 M1 (fun b M2 => if b = true then
  l ⟨DropS M.length (fun ρ' M' => ∃ m', m' < m ∧ I m' ρ' M'), rt, nx, DropS M.length (fun ρ' M' => ∃ m', m' < m ∧ I m' ρ' M'), ex⟩ ρ1 M2 else nx ρ1 M2) (fun x M => ex x ρ1 M)) : lWhile lt l ⟨nx, rt, bk, ct, ex⟩ ρ M := h
theorem s_gConsM {gs : LGs} {e : D} {ds : List D} {R : Rho → Mem → Prop} (h : g (.dat e) ρ M fun ρ' M' => gs (ds.map DV.dat) ρ' M' R) : lgCons g gs ((e :: ds).map DV.dat) ρ M R := ⟨.dat e, ds.map DV.dat, rfl, h⟩
theorem s_gNilM {R : Rho → Mem → Prop} (h : R ρ M) : lgNil (([] : List D).map DV.dat) ρ M R := ⟨rfl, h⟩
theorem s_inC {b : Bool} {x z : Str} {c : Nat} {k : Bool} (hx : x = ⟨#[c]⟩) (hk : (if b then !decide (c ∈ z.cps.toList) else decide (c ∈ z.cps.toList)) = k) (h : P (.bl k) M) : vInA b (.dat (.str x)) (.dat (.str z)) M P := .inr (.inr (.inr ⟨c, z, by rw [hx], rfl, by rw [hk]; exact h⟩))
theorem s_tyO {n : Nat} {xs : List DV} {R : Prop} (hM : M[n]? = some (.lst xs)) (h : R) : tyD "list" (.obj n) M ∧ R := ⟨⟨rfl, xs, hM⟩, h⟩
theorem s_tyS {x : Str} {R : Prop} (h : R) : tyD "str" (.dat (.str x)) M ∧ R := ⟨rfl, h⟩
theorem s_append {n : Nat} {ys : List DV} {y : DV} (hM : M[n]? = some (.lst ys)) (hl : ys.length < sizeLine) (h : P .non (M.set n (.lst (ys ++ [y])))) : vAppend (.obj n) [y] M P := ⟨n, ys, y, rfl, rfl, hM, hl, h⟩
theorem s_joinO {a : Str} {n : Nat} {ys : List Str} (hM : M[n]? = some (.lst (ys.map DV.str))) (hl : (ys.map (·.length)).sum + ys.length * a.length ≤ 16777216) (h : P (.str (Txt.join a ys)) M) : vJoin (.dat (.str a)) [.obj n] M P := ⟨a, ys, rfl, .inr (.inr ⟨n, rfl, hM⟩), hl, h⟩
theorem s_joinL {a : Str} {ys : List Str} (hl : (ys.map (·.length)).sum + ys.length * a.length ≤ 16777216) (h : P (.str (Txt.join a ys)) M) : vJoin (.dat (.str a)) [.dat (.lst (ys.map D.str))] M P := ⟨a, ys, rfl, .inl rfl, hl, h⟩
theorem s_neg {j : Int} (h : P (.int (-j)) M) : vNeg (.dat (.int j)) M P := ⟨j, rfl, h⟩
theorem s_slS {a b : Option Int} {z : Str} (hl : z.length ≤ sizeLine) (h : P (.str (cutS z a b)) M) : vSl (.dat (.str z)) a b M P := ⟨hl, h⟩
theorem s_tupO {n : Nat} {ds : List D} (hM : M[n]? = some (.lst (ds.map DV.dat))) (h : P (.dat (.tup ds)) M) : vTupA [.obj n] M P := .inl ⟨_, rfl, .inr (.inr ⟨n, ds, rfl, hM, h⟩)⟩
theorem s_mulS {z : Str} {n : Int} (h0 : 0 ≤ n) (h1 : n < 2 ^ 63) (hl : z.length * n.toNat ≤ sizeLine) (h : P (.str (repS z n.toNat)) M) : vMul (.dat (.str z)) (.dat (.int n)) M P := ⟨by omega, h1, hl, h⟩
theorem s_find3 {a b : Str} {j : Int} (h : P (.int (Txt.find3 a b j)) M) : vFind3 (.dat (.str a)) [.dat (.str b), .dat (.int j)] M P := ⟨a, b, j, rfl, rfl, h⟩
theorem s_starts {a b : Str} (h : P (.bl (Txt.startswith a b)) M) : vStarts (.dat (.str a)) [.dat (.str b)] M P := ⟨a, b, rfl, rfl, h⟩
theorem s_wAnyC {R : List DV → (Mem → Prop) → Mem → Prop} {ds : List D} (h : R (ds.map DV.dat) (fun _ => True) M) : lwAny (lC (.tup ds)) ρ M R PX := h
theorem s_wAnyS {R : List DV → (Mem → Prop) → Mem → Prop} {z : Str} (hv : ρ[i]? = some (some (.dat (.str z)))) (h : R (signsD z) (fun _ => True) M) : lwAny (lVar i) ρ M R PX := ⟨_, hv, h⟩
end
/-! texts by their signs -/
abbrev S (cs : List Nat) : Str := ⟨cs.toArray⟩
theorem S_cs (x : Str) : S x.cps.toList = x := by cases x; simp
theorem cs_S (cs : List Nat) : (S cs).cps.toList = cs := by simp
theorem len_cs (x : Str) : x.length = x.cps.toList.length := by show x.cps.size = _; simp
theorem cs_inj {x y : Str} (h : x.cps.toList = y.cps.toList) : x = y := by rw [← S_cs x, ← S_cs y, h]
theorem cs_app (x y : Str) : (x ++ y).cps.toList = x.cps.toList ++ y.cps.toList := by
  show (x.cps ++ y.cps).toList = _
  exact Array.toList_append
theorem S_app (a b : List Nat) : S a ++ S b = S (a ++ b) := cs_inj (by rw [cs_app])
theorem cutS_nat (z : Str) (i j : Nat) : cutS z (some (i : Int)) (some (j : Int)) = S ((z.cps.toList.drop i).take (j - i)) := by
  unfold cutS
  rw [HT.sIx_nat, HT.sIx_nat, len_cs]
  apply cs_inj
  simp only [cs_S]
  generalize z.cps.toList = l
  by_cases h1 : i ≤ l.length
  · have e1 : min i l.length = i := by omega
    rw [e1]
    by_cases h2 : j ≤ l.length
    · have e2 : min j l.length = j := by omega
      rw [e2]
    · have e2 : min j l.length = l.length := by omega
      rw [e2, List.take_of_length_le (by rw [List.length_drop]; omega), List.take_of_length_le (by rw [List.length_drop]; omega)]
  · have e1 : min i l.length = l.length := by omega
    rw [e1, List.drop_eq_nil_of_le (Nat.le_refl _), List.drop_eq_nil_of_le (by omega)]
    simp
theorem at_cs {z : Str} {i : Nat} {c : Nat} (h : z.cps.toList[i]? = some c) : atI z.cps.toList (i : Int) = some c := atI_nat h
theorem drop_cons {α : Type} {xs : List α} {i : Nat} {c : α} (h : xs[i]? = some c) : xs.drop i = c :: xs.drop (i + 1) := by
  obtain ⟨h1, h2⟩ := List.getElem?_eq_some_iff.mp h
  rw [List.drop_eq_getElem_cons h1, h2]
theorem at_lt {α : Type} {xs : List α} {i : Nat} (h : i < xs.length) : ∃ c, xs[i]? = some c := ⟨xs[i], List.getElem?_eq_getElem h⟩
end L3

/-! sorted, of data -/
namespace L3
open PySem L2 PySem.W PyProof.Rows
def rSortD (K : PySem.W.Frag) : List V → Hp → VK → Prop := fun xs H Q => ∃ (a : Addr) (bs : List (V × PyData)), xs = [.ref a] ∧ SqL K H a (bs.map (·.1)) ∧ (∀ b ∈ bs, Dp K H b.1 b.2) ∧ AllAlike (bs.map (·.2)) ∧ Sortable (bs.map (·.2)) ∧ (∀ b ∈ bs, b.2.depth ≤ 60) ∧
  ∀ p, H p = none → Q (.ref p) (upd H p (.lst ((bs.mergeSort (dataLe false fun b => b.2)).map (·.1))))
theorem each_of {R : Value → V × PyData → Prop} : ∀ {bs : List (V × PyData)} {its : List Value}, Vals (bs.map (·.1)) its → (∀ b ∈ bs, ∀ u, RelV b.1 u → R u b) → EachIs R its bs
  | [], _, r, _ => by cases r; exact .nil
  | b :: bs, _, r, h => by
    cases r with
    | cons r0 rt => exact .cons (h b List.mem_cons_self _ r0) (each_of rt fun b hb => h b (List.mem_cons_of_mem _ hb))
theorem vals_each : ∀ {bs : List (V × PyData)} {its : List Value}, EachIs (fun u b => RelV b.1 u) its bs → Vals (bs.map (·.1)) its
  | _, _, .nil => .nil
  | _, _, .cons h t => .cons h (vals_each t)
theorem cr_sortD {X : Cx} (hu : X.A.units + 64 < cLine) : CallR X (.builtin "sorted") (rSortD X.K) := by
  intro pins s σ H vs us Q I r h
  obtain ⟨a, bs, rfl, hs, hd, hal, hk, hdep, q⟩ := h
  obtain ⟨its, rv, hl, hz⟩ := I.list hs
  rw [Vals.ref1 r]
  rw [List.length_map] at hz
  have e : EachIs (fun u (b : V × PyData) => RelV b.1 u) its bs := each_of rv fun b _ u hr => hr
  have er : EachIs (fun u (b : V × PyData) => ∃ as, Reads s.heap u b.2 as) its bs := each_of rv fun b hb u hr => Dp.reads I b.2 b.1 u (hd b hb) hr
  refine sorted_data (enc := fun b => b.2) (bs := bs) (R := fun u (b : V × PyData) => RelV b.1 u) hl.isList e er hal hk hz (fun b hb => ?_) fun out ho eo => ?_
  · have := hdep b hb
    omega
  · obtain ⟨ep, he'⟩ := PyProof.Rows.sortedAll_at s.heap its out.toArray
    have hlen : ((bs.mergeSort (dataLe false fun b => b.2)).map (·.1)).length ≤ sizeLine := by rw [List.length_map, List.length_mergeSort]; exact hz
    exact ⟨.ref _, upd H (s.heap.objs.size + 1) (.lst ((bs.mergeSort (dataLe false fun b => b.2)).map (·.1))), I.laid (t' := s.toks) (fun _ _ => PyProof.Rows.sortedAll_old) (Nat.le_succ _) ⟨hlen, out, ep, vals_each eo, he'⟩, rfl, q _ (I.hok.fresh (Nat.le_succ _))⟩
section
variable {C : Cn}
def vSort : List DV → Mem → PD → Prop := fun xs M P => ∃ x, ∃ ds : List D, xs = [x] ∧ (x = .dat (.lst ds) ∨ ∃ n, x = .obj n ∧ M[n]? = some (.lst (ds.map DV.dat))) ∧ ds.all pureD = true ∧ AllAlike (ds.map pyD) ∧ Sortable (ds.map pyD) ∧ (∀ d ∈ ds, (pyD d).depth ≤ 60) ∧
  P (.dat (.lst (ds.mergeSort (dataLe false pyD)))) M
theorem VDs.zip {K : PySem.W.Frag} {N : Addr → Prop} {H : Hp} : ∀ {vs : List V} {ds : List D}, VDs K N H vs ds → ∃ ts : List (V × D), ts.map (·.1) = vs ∧ ts.map (·.2) = ds ∧ ∀ t ∈ ts, VD K N H t.1 t.2
  | _, _, .nil => ⟨[], rfl, rfl, by simp⟩
  | v :: vs, d :: ds, .cons h t => by
    obtain ⟨ts, e1, e2, h2⟩ := VDs.zip t
    refine ⟨(v, d) :: ts, by rw [List.map_cons, e1], by rw [List.map_cons, e2], fun t ht => ?_⟩
    rcases List.mem_cons.mp ht with rfl | h3
    · exact h
    · exact h2 t h3
theorem VDs.unzip {K : PySem.W.Frag} {N : Addr → Prop} {H : Hp} : ∀ {ts : List (V × D)}, (∀ t ∈ ts, VD K N H t.1 t.2) → VDs K N H (ts.map (·.1)) (ts.map (·.2))
  | [], _ => .nil
  | t :: ts, h => .cons (h t List.mem_cons_self) (VDs.unzip fun u hu => h u (List.mem_cons_of_mem _ hu))
theorem ll_sort : LoL C (rSortD C.K) vSort := fun xs M P ⟨x, ds, e, hx, hp, hal, hk, hdep, p⟩ Z α H vs Q r q k => by
  subst e
  obtain ⟨v, rfl, q0⟩ := one_inv q
  have go : ∀ a ws, v = .ref a → SqL C.K H a ws → VDs C.K ((C.wz Z).N α) H ws ds → rSortD C.K [v] H Q := by
    rintro a ws rfl hs hd
    obtain ⟨ts, rfl, rfl, ht⟩ := hd.zip
    have e1 : (ts.map fun t => (t.1, pyD t.2)).map (·.1) = ts.map (·.1) := by rw [List.map_map]; rfl
    have e2 : (ts.map fun t => (t.1, pyD t.2)).map (·.2) = (ts.map (·.2)).map pyD := by rw [List.map_map, List.map_map]; rfl
    have hpure : ∀ t ∈ ts, pureD t.2 = true := fun t h => List.all_eq_true.mp hp t.2 (List.mem_map.mpr ⟨t, h, rfl⟩)
    refine ⟨a, ts.map fun t => (t.1, pyD t.2), rfl, by rw [e1]; exact hs, fun b hb => ?_, by rw [e2]; exact hal, by rw [e2]; exact hk, fun b hb => ?_, ?_⟩
    · obtain ⟨t, h, rfl⟩ := List.mem_map.mp hb
      exact (ht t h).dp (hpure t h)
    · obtain ⟨t, h, rfl⟩ := List.mem_map.mp hb
      exact hdep t.2 (List.mem_map.mpr ⟨t, h, rfl⟩)
    · have m1 : ((ts.map fun t => (t.1, pyD t.2)).mergeSort (dataLe false fun b => b.2)) = (ts.mergeSort (dataLe false fun t => pyD t.2)).map fun t => (t.1, pyD t.2) := (List.map_mergeSort (r := dataLe false fun t : V × D => pyD t.2) (s := dataLe false fun b : V × PyData => b.2) (f := fun t : V × D => (t.1, pyD t.2)) (l := ts) (fun a _ b _ => rfl)).symm
      have m2 : (ts.map (·.2)).mergeSort (dataLe false pyD) = (ts.mergeSort (dataLe false fun t => pyD t.2)).map (·.2) := (List.map_mergeSort (r := dataLe false fun t : V × D => pyD t.2) (s := dataLe false pyD) (f := fun t : V × D => t.2) (l := ts) (fun a _ b _ => rfl)).symm
      rw [m1, List.map_map]
      rw [m2] at p
      refine new_lst r k (ds := (ts.mergeSort (dataLe false fun t => pyD t.2)).map (·.2)) ?_ p
      exact VDs.unzip fun t h => ht t ((List.mergeSort_perm _ _).mem_iff.mp h)
  rcases hx with rfl | ⟨n, rfl, hn⟩
  · obtain ⟨a, ws, rfl, hs, hd⟩ := VD.lst_inv q0
    exact go a ws rfl hs.sq hd
  · obtain ⟨a, ws, rfl, hs, hd⟩ := seq_of r q0 hn
    exact go a ws rfl hs hd
theorem s_sortL {ds : List D} {M : Mem} {P : PD} (hp : ds.all pureD = true) (hal : AllAlike (ds.map pyD)) (hk : Sortable (ds.map pyD)) (hdep : ∀ d ∈ ds, (pyD d).depth ≤ 60) (p : P (.dat (.lst (ds.mergeSort (dataLe false pyD)))) M) : vSort [.dat (.lst ds)] M P := ⟨_, ds, rfl, .inl rfl, hp, hal, hk, hdep, p⟩
theorem s_sortO {n : Nat} {ds : List D} {M : Mem} {P : PD} (hM : M[n]? = some (.lst (ds.map DV.dat))) (hp : ds.all pureD = true) (hal : AllAlike (ds.map pyD)) (hk : Sortable (ds.map pyD)) (hdep : ∀ d ∈ ds, (pyD d).depth ≤ 60) (p : P (.dat (.lst (ds.mergeSort (dataLe false pyD)))) M) : vSort [.obj n] M P := ⟨_, ds, rfl, .inr ⟨n, rfl, hM⟩, hp, hal, hk, hdep, p⟩
/-- sorted(d) of a dict with text keys -/
def rSortK : List V → Hp → VK → Prop := fun xs H Q => ∃ (a : Addr) (kvs : List (Key × V)) (ks : List Str), xs = [.ref a] ∧ Rd H a (.dK kvs) ∧ kvs.map (·.1) = ks.map Sum.inr ∧ ks.length < 64 ∧
    ∀ ys p, ys.Perm ks → sortedS ys = true → H p = none → Q (.ref p) (upd H p (.lst (ys.map V.str)))
def vSortK : List DV → Mem → PD → Prop := fun xs M P => ∃ n kvs, ∃ ks : List Str, xs = [.obj n] ∧ M[n]? = some (.dK kvs) ∧ kvs.map (·.1) = ks.map Sum.inr ∧ ks.length < 64 ∧ ∀ ys : List Str, ys.Perm ks → sortedS ys = true → P (.dat (.lst (ys.map D.str))) M
theorem KVR.keysEq {α : List Addr} {H : Hp} : ∀ {ps : List (Key × V)} {fs : List (Key × DV)}, KVR C α H ps fs → ps.map (·.1) = fs.map (·.1)
  | _, _, .nil => rfl
  | _, _, .cons h t => by rw [List.map_cons, List.map_cons, h.1, KVR.keysEq t]
theorem VDs.strs {K : PySem.W.Frag} {N : Addr → Prop} {H : Hp} : ∀ ys : List Str, VDs K N H (ys.map V.str) (ys.map D.str)
  | [] => .nil
  | y :: ys => .cons (.str y) (VDs.strs ys)
theorem ll_sortK : LoL C rSortK vSortK := fun xs M P ⟨n, kvs, ks, e, hM, hks, hl, p⟩ Z α H vs Q r q k => by
  subst e
  obtain ⟨v, rfl, q0⟩ := one_inv q
  obtain ⟨a, ea, rfl⟩ := q0
  obtain ⟨ps, eh, kv⟩ := r.hr.get n a _ ea hM
  exact ⟨a, ps, ks, rfl, .inl eh, by rw [KVR.keysEq kv]; exact hks, hl, fun ys p0 h1 h2 h3 => new_lst r k (VDs.strs ys) (p ys h1 h2) p0 h3⟩
def rSortA (K : PySem.W.Frag) : List V → Hp → VK → Prop := fun xs H Q => rSortD K xs H Q ∨ rSortK xs H Q
theorem call_sortA {X : Cx} (hc : X.calm = true) (hu : X.A.units + 64 < cLine) : CallR X (.builtin "sorted") (rSortA X.K) := CallR.or (cr_sortD hu) (call_sortedD hc)
def vSortA : List DV → Mem → PD → Prop := fun xs M P => vSort xs M P ∨ vSortK xs M P
theorem ll_sortA : LoL C (rSortA C.K) vSortA := ll_or ll_sort ll_sortK
end
/-! `in` a list of deep data -/
section
variable {C : Cn}
theorem hu65 {k : Nat} {A : Around} (r : Room k A) : A.units + 65 < cLine := by have := r.un; omega
def rInDp (K : PySem.W.Frag) (neg : Bool) : R2 := fun x y H Q => ∃ d ds, Dp K H x d ∧ Dp K H y (.list ds) ∧ SeqAt.shaped d = true ∧ SeqAt.shaped (.list ds) = true ∧ Q (.bl (if neg then !(ds.any fun z => PyData.eqv z d) else ds.any fun z => PyData.eqv z d)) H
theorem op_inDp {X : Cx} (hu : X.A.units + 65 < cLine) : OpR X (compareOp .In) (rInDp X.K false) := op_inD hu
theorem op_notInDp {X : Cx} (hu : X.A.units + 65 < cLine) : OpR X (compareOp .NotIn) (rInDp X.K true) := op_notInD hu
theorem pyDs_map : ∀ ds : List D, pyDs ds = ds.map pyD
  | [] => rfl
  | d :: ds => by show pyD d :: pyDs ds = _; rw [pyDs_map ds]; rfl
def vInDp (neg : Bool) : DV → DV → Mem → PD → Prop := fun x y M P => ∃ d ds, x = .dat d ∧ (y = .dat (.lst ds) ∨ ∃ n, y = .obj n ∧ M[n]? = some (.lst (ds.map DV.dat))) ∧ okD d = true ∧ okD (.lst ds) = true ∧ P (.bl (if neg then !inD d ds else inD d ds)) M
theorem l2_inDp (neg : Bool) : Lo2 C (rInDp C.K neg) (vInDp neg) := fun x y M P ⟨d, ds, e1, e2, h1, h2, p⟩ Z α H v u Q r q1 q2 k => by
  subst e1
  unfold okD at h1 h2
  rw [Bool.and_eq_true] at h1 h2
  have q1 : VD C.K _ H v d := q1
  have key : ∀ ws a, u = .ref a → SqL C.K H a ws → VDs C.K ((C.wz Z).N α) H ws ds → rInDp C.K neg v u H Q := by
    rintro ws a rfl hs hd
    refine ⟨pyD d, pyDs ds, q1.dp h1.1, .lst hs (hd.dp h2.1), h1.2, h2.2, ?_⟩
    have e : ((pyDs ds).any fun z => PyData.eqv z (pyD d)) = inD d ds := by
      rw [pyDs_map, List.any_map]
      rfl
    rw [e]
    exact k.now (d := .bl _) r (.bl _) p
  rcases e2 with rfl | ⟨n, rfl, hn⟩
  · obtain ⟨a, ws, e, hs, hd⟩ := VD.lst_inv q2
    exact key ws a e hs.sq hd
  · obtain ⟨a, ws, e, hs, hd⟩ := seq_of r q2 hn
    exact key ws a e hs hd
def rInX (K : PySem.W.Frag) (neg : Bool) : R2 := fun x y H Q => rInA K neg x y H Q ∨ rInDp K neg x y H Q
def vInX (neg : Bool) : DV → DV → Mem → PD → Prop := fun x y M P => vInA neg x y M P ∨ vInDp neg x y M P
theorem op_inX {X : Cx} (hu : X.A.units + 65 < cLine) : OpR X (compareOp .In) (rInX X.K false) := (op_inA (by omega)).or (op_inDp hu)
theorem op_notInX {X : Cx} (hu : X.A.units + 65 < cLine) : OpR X (compareOp .NotIn) (rInX X.K true) := (op_notInA (by omega)).or (op_notInDp hu)
theorem l2_inX (neg : Bool) : Lo2 C (rInX C.K neg) (vInX neg) := l2_or (l2_inA neg) (l2_inDp neg)
theorem s_inDpO {b : Bool} {n : Nat} {d : D} {ds : List D} {c : Bool} {M : Mem} {P : PD} (hM : M[n]? = some (.lst (ds.map DV.dat))) (h1 : okD d = true) (h2 : okD (.lst ds) = true) (hc : (if b then !inD d ds else inD d ds) = c) (h : P (.bl c) M) : vInX b (.dat d) (.obj n) M P := .inr ⟨d, ds, rfl, .inr ⟨n, rfl, hM⟩, h1, h2, by rw [hc]; exact h⟩
end
end L3

/-! startswith, partition, split at one sign, by signs -/
namespace L3
open PySem L2
theorem starts_eq (x y : Str) : Txt.startswith x y = decide (x.cps.toList.take y.cps.toList.length = y.cps.toList) := by
  unfold Txt.startswith
  rw [StrLaws.subAt_eq, Bool.eq_iff_iff, Bool.and_eq_true, decide_eq_true_iff, decide_eq_true_iff, List.drop_zero, beq_iff_eq, len_cs y]
  constructor
  · exact fun h => h.2
  · intro h
    refine ⟨?_, h⟩
    have := congrArg List.length h
    rw [List.length_take] at this
    rw [len_cs x]
    omega
theorem sub_cs (x : Str) (i j : Nat) : (PySem.Builtin.Str.strSub x i j).cps.toList = (x.cps.toList.take j).drop i := by
  show (x.cps.extract i j).toList = _
  rw [Array.toList_extract, List.extract_eq_drop_take, List.drop_take]
/-- before the first c, behind it -/
def headC (c : Nat) (xs : List Nat) : List Nat := xs.takeWhile fun x => !decide (x = c)
theorem head_at {c : Nat} {xs : List Nat} {k : Nat} (h : xs[k]? = some c) (hn : ∀ i, i < k → xs[i]? ≠ some c) : headC c xs = xs.take k := by
  induction xs generalizing k with
  | nil => simp at h
  | cons a xs ih =>
    unfold headC
    cases k with
    | zero =>
      have : a = c := by simpa using h
      rw [List.takeWhile_cons, this]
      simp
    | succ k =>
      have ha : a ≠ c := fun e => hn 0 (by omega) (by rw [e]; rfl)
      rw [List.takeWhile_cons]
      simp only [ha, decide_false, Bool.not_false, if_true]
      have := ih (k := k) (by simpa using h) fun i hi => by have := hn (i + 1) (by omega); simpa using this
      unfold headC at this
      rw [this]
      rfl
theorem head_none {c : Nat} {xs : List Nat} (h : c ∉ xs) : headC c xs = xs := by
  unfold headC
  induction xs with
  | nil => rfl
  | cons a xs ih =>
    have ha : a ≠ c := fun e => h (by rw [← e]; exact List.mem_cons_self)
    rw [List.takeWhile_cons]
    simp only [ha, decide_false, Bool.not_false, if_true]
    rw [ih fun hm => h (List.mem_cons_of_mem _ hm)]
theorem occ1 (x : Str) (c limit : Nat) (hl : 1 ≤ limit) : (PySem.Builtin.Str.occurrences x (S [c]) 0 x.length limit = [] ∧ c ∉ x.cps.toList) ∨
    ∃ i r, PySem.Builtin.Str.occurrences x (S [c]) 0 x.length limit = i :: r ∧ c ∈ x.cps.toList ∧ x.cps.toList.take i = headC c x.cps.toList ∧ x.cps.toList[i]? = some c := by
  rcases StrLaws.occ_head_from x (S [c]) 0 limit hl with ⟨h0, hn⟩ | ⟨i, r, h0, _, hi, hn⟩
  · refine .inl ⟨h0, fun hm => ?_⟩
    obtain ⟨j, hj⟩ := List.mem_iff_getElem?.mp hm
    exact hn j (Nat.zero_le _) ((StrLaws.subAt_one x c j).mpr hj)
  · have h1 := (StrLaws.subAt_one x c i).mp hi
    refine .inr ⟨i, r, h0, List.mem_of_getElem? h1, (head_at h1 fun j hj e => hn j (Nat.zero_le _) hj ((StrLaws.subAt_one x c j).mpr e)).symm, h1⟩
theorem part_eq (x : Str) (c : Nat) : ∃ z, Txt.partition x (S [c]) = (if c ∈ x.cps.toList then (S (headC c x.cps.toList), S [c], z) else (x, ("" : Str), ("" : Str))) := by
  unfold Txt.partition
  rcases occ1 x c 1 (Nat.le_refl _) with ⟨h0, hn⟩ | ⟨i, r, h0, hm, ht, _⟩
  · refine ⟨("" : Str), ?_⟩
    rw [h0, if_neg hn]
    rfl
  · refine ⟨PySem.Builtin.Str.strSub x (i + (S [c]).length) x.length, ?_⟩
    rw [h0, if_pos hm]
    have : PySem.Builtin.Str.strSub x 0 i = S (headC c x.cps.toList) := cs_inj (by rw [sub_cs, cs_S, List.drop_zero, ht])
    rw [← this]
theorem kind_le {x : Str} {c : Nat} (h : c ∈ x.cps.toList) : PySem.Builtin.Str.strKind (S [c]) ≤ PySem.Builtin.Str.strKind x := by
  have hm : c ∈ x.cps := by simpa using h
  unfold PySem.Builtin.Str.strKind
  have e1 : ∀ p : Nat → Bool, (S [c]).cps.all p = p c := fun p => by simp
  rw [e1, e1]
  by_cases h1 : x.cps.all (fun c => decide (c < 256)) = true
  · have := (Array.all_eq_true_iff_forall_mem.mp h1) c hm
    rw [h1, this]
    exact Nat.le_refl _
  · by_cases h2 : x.cps.all (fun c => decide (c < 65536)) = true
    · have := (Array.all_eq_true_iff_forall_mem.mp h2) c hm
      rw [if_neg h1, if_pos h2, this]
      split <;> simp
    · rw [if_neg h1, if_neg h2]
      split
      · decide
      · split <;> decide
/-- x.split(c): the first part, one part alone if c is not in x -/
theorem split_eq (x : Str) (c : Nat) : (c ∉ x.cps.toList ∧ Txt.split x (S [c]) = [x]) ∨ (c ∈ x.cps.toList ∧ ∃ y ys, Txt.split x (S [c]) = S (headC c x.cps.toList) :: y :: ys) := by
  unfold Txt.split
  by_cases hm : c ∈ x.cps.toList
  · right
    refine ⟨hm, ?_⟩
    have h1 : (decide (x.length < (S [c]).length) || decide (PySem.Builtin.Str.strKind x < PySem.Builtin.Str.strKind (S [c]))) = false := by
      have hk := kind_le hm
      have hl : 1 ≤ x.length := by
        rw [len_cs]
        exact List.length_pos_of_mem hm
      rw [Bool.or_eq_false_iff, decide_eq_false_iff_not, decide_eq_false_iff_not]
      exact ⟨by show ¬ x.length < 1; omega, by omega⟩
    rw [h1, if_neg (by decide)]
    rcases occ1 x c (x.length + 1) (by omega) with ⟨_, hn⟩ | ⟨i, r, h0, _, ht, _⟩
    · exact absurd hm hn
    · rw [h0, if_neg (by simp)]
      unfold PySem.Builtin.Str.partsBetween
      have e : PySem.Builtin.Str.strSub x 0 i = S (headC c x.cps.toList) := cs_inj (by rw [sub_cs, cs_S, List.drop_zero, ht])
      cases r with
      | nil => rw [← e]; exact ⟨_, _, rfl⟩
      | cons j r => rw [← e]; exact ⟨_, _, rfl⟩
  · left
    refine ⟨hm, ?_⟩
    split
    · rfl
    · rcases occ1 x c (x.length + 1) (by omega) with ⟨h0, _⟩ | ⟨i, r, _, hm', _⟩
      · rw [h0]
        rfl
      · exact absurd hm' hm
end L3

/-! any, all of a generator expression whose element is any expression -/
namespace L3
open PySem L2 PySem.Spec PyProof.Rows GenW
/-- the names of a generator expression: its own (with their places in N), or captured -/
structure GenOk (N : List Str) (sc scope : Scope) (own : List (Str × Nat)) : Prop where
  kind : scope.kind = .function
  co : scope.isCoroutine = false
  dot : scope.names.lookup (".0" : Str) = some NameKind.local
  cell : ∀ y ∈ scope.names, y.2 ≠ .cell
  uniq : ∀ y ∈ scope.names, scope.names.lookup y.1 = some y.2
  ix : ∀ p ∈ own, N[p.2]? = some p.1
  free : ∀ y ∈ scope.names, y.2 = .free → sc.names.lookup y.1 = some .cell ∨ sc.names.lookup y.1 = some .free
  own : ∀ y ∈ scope.names, y.2 = .local → y.1 ∈ own.map (·.1) ∨ y.1 ∉ N
/-- the context of the generator's frame -/
abbrev cxG (X : Cx) (s : Shared) (H : Hp) (cenv : Env) (Ag : Around) (fp : List Addr) : Cx :=
  { X with s_0 := s, H_0 := H, env := cenv, A := Ag, outer := X.stack, stack := cenv :: X.stack, ex := fp, fn := fun _ => false, pn := [], xe := fun _ _ => False }
section
variable {X : Cx} {pins : List (Addr × Obj)} {σ : L2.St} {H : Hp} {s : Shared}
theorem invSame {s' : Shared} (I : Inv X pins σ H s) (h : s'.heap = s.heap) (o : s'.os = s.os) (b : AllBare s'.gens) : Inv X pins σ H s' := by
  obtain ⟨hp, g, d, t, os⟩ := s'
  cases (show hp = s.heap from h)
  exact ⟨I.ok, o.trans I.os, b, I.base, I.loc, I.cell, I.free, I.freeC, I.pin, I.hok, I.len⟩
theorem gen_start {scope : Scope} {own : List (Str × Nat)} {fp : List Addr} {Ag : Around} {code : Value} {s' : Shared} {m : Str → Option Value} (I : Inv X pins σ H s) (ok : GenOk X.N X.env.scope scope own) (hN : X.N.Nodup)
    (hfp : ∀ b ∈ fp, FpOk X pins H b ∧ b < s.heap.objs.size) (hfr : Ag.frames = some (genEnv scope (cloFrom X.env.cells scope.names []) s.heap.objs.size code builtinsNs X.env :: X.stack)) (hh : Ag.handled = none)
    (os : s'.os = s.os) (hb : AllBare s'.gens) (kp : ∀ b o, s.heap.get? b = some o → s'.heap.get? b = some o) (hn : s'.heap.Ns s.heap.objs.size m) :
    Inv (cxG X s H (genEnv scope (cloFrom X.env.cells scope.names []) s.heap.objs.size code builtinsNs X.env) Ag fp) [] (wipe σ (own.map (·.2))) H s' := by
  have cm : ∀ {y c}, (cloFrom X.env.cells scope.names []).lookup y = some c → X.env.cells.lookup y = some c ∧ scope.names.lookup y = some .free := fun {y c} hm => by
    rcases cloFrom_mem (PySem.mem_of_lookup hm) with hm | ⟨h1, rfl⟩
    · cases hm
    · have hl := ok.uniq _ h1
      obtain ⟨c, hc⟩ : ∃ c, X.env.cells.lookup y = some c := by
        rcases ok.free _ h1 rfl with k | k
        · exact I.ok.has _ (.inl k)
        · exact I.ok.has _ (.inr k)
      rw [hc]
      exact ⟨rfl, hl⟩
  have look : ∀ {y}, scope.names.lookup y = some .free → ∃ c, (cloFrom X.env.cells scope.names []).lookup y = some c ∧ X.env.cells.lookup y = some c := fun {y} hl => by
    obtain ⟨c, e⟩ := mem_lookup (cloFrom_has (cells := X.env.cells) (acc := []) (PySem.mem_of_lookup hl))
    exact ⟨c, e, (cm e).1⟩
  have clt : ∀ {y c}, X.env.cells.lookup y = some c → c < s.heap.objs.size := fun {y c} e => by
    obtain ⟨w, z⟩ := I.cell _ _ e
    exact z.lt
  have okB : (cxG X s H (genEnv scope (cloFrom X.env.cells scope.names []) s.heap.objs.size code builtinsNs X.env) Ag fp).Ok := by
    refine ⟨I.ok.mod, ok.kind, I.ok.glob, rfl, Nat.le_refl _, fun y z c e1 e2 => I.ok.inj y z c (cm e1).1 (cm e2).1, fun y hy => ?_, fun y c z e => absurd (show false = true from z) Bool.false_ne_true, fun _ => hh, hfr, .inr ⟨rfl, rfl⟩, fun b hb => ⟨Nat.ne_of_lt (hfp b hb).2, fun y c e z => (hfp b hb).1.2.2.2.2.1 y c (cm e).1 z⟩,
      I.bs, Nat.le_trans I.ok.bsz I.sz, fun b o e hb => ?_, fun b hb z => ?_, I.stack, I.stkFree⟩
    · have key : scope.names.lookup y = some .free := by
        rcases hy with hy | hy
        · exact absurd rfl (ok.cell _ (PySem.mem_of_lookup hy))
        · exact hy
      obtain ⟨c, e, _⟩ := look key
      exact ⟨c, e⟩
    · rcases (hfp b hb).1.2.2.2.1 with z | z
      · exact I.ok.noex b o e z
      · exact absurd (Nat.lt_of_lt_of_le (Heap.lt_size e) (Nat.le_trans I.ok.bsz z)) (Nat.lt_irrefl _)
    · rcases List.mem_cons.mp (I.stkSub b z) with z | z
      · exact (hfp b hb).1.2.1 z
      · exact (hfp b hb).1.2.2.1 z
  refine ⟨okB, os, hb, Un.kept kp, ⟨m, hn, fun i y av e1 e2 e3 => ?_⟩, fun y c e => ?_, I.hok.fresh (Nat.le_refl _), fun y c e => I.freeC y c (cm e).1, fun p hp => absurd (show p ∈ ([] : List (Addr × Obj)) ++ [] from hp) (by simp), I.hok.kept kp, by rw [wipe_length]; exact I.len⟩
  · obtain ⟨e2, hne⟩ := wipe_some e2
    have hfree : scope.names.lookup y = some .free := by
      rcases (show Vis scope y from e3) with k | k | k
      · exfalso
        rcases ok.own _ (PySem.mem_of_lookup k) rfl with e' | e'
        · obtain ⟨p, hp, hpy⟩ := List.mem_map.mp e'
          have e3 := ok.ix p hp
          rw [show p.1 = y from hpy] at e3
          exact hne (List.mem_map.mpr ⟨p, hp, nodup_ix hN e3 e1⟩)
        · exact e' (List.mem_of_getElem? e1)
      · exact absurd rfl (ok.cell _ (PySem.mem_of_lookup k))
      · exact k
    obtain ⟨c, h1, h2⟩ := look hfree
    obtain ⟨m0, hn0, hl⟩ := I.loc
    have hvis : Vis X.env.scope y := (ok.free _ (PySem.mem_of_lookup hfree) rfl).elim (fun k => .inr (.inl k)) (fun k => .inr (.inr k))
    obtain ⟨w, r, q⟩ := hl i y av e1 e2 hvis
    refine ⟨w, r, .inr ⟨.inr hfree, c, h1, ?_⟩⟩
    rcases q with ⟨k, _⟩ | ⟨_, c', e', z⟩
    · have k : X.env.scope.names.lookup y = some .local := k
      rcases ok.free _ (PySem.mem_of_lookup hfree) rfl with k' | k' <;> rw [show X.env.scope.names.lookup y = _ from k'] at k <;> cases k
    · rw [h2] at e'
      cases e'
      exact z.keeps kp
  · obtain ⟨w, z⟩ := I.cell y c (cm e).1
    exact ⟨w, z.keeps kp⟩
end
/-! the generator's turns -/
section
variable {Xg : Cx} {σ0 : L2.St} {Q : Bool → Hp → Prop} {st : Bool} {pn0 : List (Addr × Obj)}
/-- it has ended -/
def RB (Xg : Cx) (pn0 : List (Addr × Obj)) (Q : Bool → Hp → Prop) (st : Bool) : GenEnd := fun _ _ r s1 => r = .ok .next ∧ ∃ σ' H', Inv Xg pn0 σ' H' s1 ∧ Q (!st) H'
/-- a truth is handed out -/
def YB (Xg : Cx) (pn0 : List (Addr × Obj)) (Q : Bool → Hp → Prop) (st : Bool) : Protocol := fun _ _ v s kap =>
  ∃ b : Bool, v = .bool b ∧ ∃ σ' H', Inv Xg pn0 σ' H' s ∧ (b = st → Q st H') ∧ (b ≠ st → ∀ s'' : Shared, s''.heap = s.heap → s''.os = s.os → AllBare s''.gens → kap (.send .none) s'')
theorem seg_turns {A : Around} {elt tg iter : Expr} {scope : Scope} {pos : Pos} {it : Addr} {g : TG} {te : TE} {vs : List Nat} {W : Nat → Nat → Hp → Prop} {J : It} {fp : List Addr} {tn : Nat → Heap → Prop}
    (hc : Xg.calm = true) (hA : A.over (.compLoop (.GeneratorExp elt [⟨tg, iter, [], 0⟩] scope pos) 0 (.ref it) .none Xg.env) [] = Xg.A) (hxe : Xg.xe = fun _ _ => False) (hco : Xg.env.scope.isCoroutine = false)
    (pg : PG Xg tg g) (pe : PE Xg elt te) (T : Turn Xg.prog Xg.w Xg.K tg J fp it tn) (stat : ∀ {σ' : L2.St} {H' : Hp} {s' : Shared}, Inv Xg pn0 σ' H' s' → (∀ b ∈ fp, H' b = none) → ∀ b ∈ fp, FpOk Xg pn0 H' b)
    (turn : ∀ i m H, W i m H → (J.stop i H ∧ Q (!st) H) ∨ (J.go i H ∧ ∃ Nx : Hp → Prop, (∀ H', Nx H' → ∃ m', m' < m ∧ W (i + 1) m' H') ∧ ∀ x H', J.yld i H x H' → g x σ0 H' fun σ2 H2 => wipe σ2 vs = σ0 ∧ te σ2 H2 fun y H4 => ∃ b, y = .bl b ∧ if b = st then Q st H4 else Nx H4)) :
    ∀ (m i n : Nat) (s0 s : Shared) (H : Hp), m < n → W i m H → Inv Xg pn0 σ0 H s → tn i s.heap → (∀ b ∈ fp, H b = none) →
      Seg (model Xg.prog Xg.w) A (RB Xg pn0 Q st) (YB Xg pn0 Q st) n s0 (.compLoop (.GeneratorExp elt [⟨tg, iter, [], 0⟩] scope pos) 0 (.ref it) .none Xg.env)
        ((model Xg.prog Xg.w).den (.compLoop (.GeneratorExp elt [⟨tg, iter, [], 0⟩] scope pos) 0 (.ref it) .none Xg.env)) [] s := by
  intro m
  induction m using Nat.strongRecOn with
  | ind m ih =>
    intro i n s0 s H hmn w I hst hfn
    show Seg _ A _ _ _ s0 _ ((compTurn (.GeneratorExp elt [⟨tg, iter, [], 0⟩] scope pos) 0 (.ref it) .none Xg.env).onRaise (leaving Xg.env)) [] s
    rw [compTurn_gen, Sem.onRaise_eq_wrap]
    refine seg_bind_wrap (wpAny_standAt ?_)
    rcases turn i m H w with ⟨stop, q⟩ | ⟨go, Nx, hNx, step⟩
    · refine seg_bind_wrap ?_
      rw [hA]
      refine thnF (T.done Xg rfl rfl rfl hc i pn0 s _ H (fun _ _ => False) I (stat I hfn) hst stop) fun r s1 ⟨hr, I1⟩ => ?_
      subst hr
      exact seg_end (.ok .next) ⟨rfl, _, H, I1, q⟩
    · refine seg_bind_wrap ?_
      rw [hA]
      refine thnF (T.item Xg rfl rfl rfl hc i pn0 s _ H (fun _ _ => False) I (stat I hfn) hst go) fun r s1 ⟨u, hr, h1⟩ => ?_
      subst hr
      refine seg_bind_wrap ?_
      rw [hA]
      refine thnF h1 fun _ s2 ⟨x, H2, I2, r2, y2, st2, n2⟩ => ?_
      have I2' := I2.pinned (stat I2 n2) (T.obj _ _ st2)
      refine seg_bind_wrap ?_
      rw [hA]
      have hg := pg.run _ s2 _ H2 x u _ I2' r2 (step x H2 y2)
      rw [hxe] at hg
      refine thnF hg fun _ s3 ⟨σ3, H3, I3, hw3, q3⟩ => ?_
      refine seg_bind_wrap (wpAny_pure ?_)
      simp only [if_true]
      have hy : ∀ v, yieldOut Xg.env v = yieldValue v := fun v => by simp only [yieldOut, hco, Bool.false_eq_true, if_false]
      simp only [hy]
      rw [Sem.bind_eq_wrap', Sem.bind_eq_wrap', Sem.wrap_wrap, Sem.wrap_wrap]
      refine seg_wrap ?_
      rw [hA]
      have he := pe.run _ s3 σ3 H3 _ I3 q3
      rw [hxe] at he
      refine thnF he fun yv s4 ⟨y, H4, I4, ry, b, ey, q4⟩ => ?_
      subst ey
      obtain rfl : yv = .bool b := ry
      obtain ⟨n, rfl⟩ : ∃ k, n = k + 1 := ⟨n - 1, by omega⟩
      refine seg_at (seg_yield rfl rfl rfl ⟨b, rfl, σ3, H4, I4.unpinned, fun e => ?_, fun e s5 e1 e2 e3 => ?_⟩)
      · rw [if_pos e] at q4
        exact q4
      · rw [if_neg e] at q4
        obtain ⟨m', hm, w'⟩ := hNx H4 q4
        have pin' : ∀ b ∈ fp, ∀ o, s2.heap.get? b = some o → s4.heap.get? b = some o ∧ H4 b = none := fun b hb o e =>
          let z := I4.pin (b, o) (List.mem_append_right _ (List.mem_append_right _ (mem_pinsAt hb e)))
          ⟨z.1, z.2.1⟩
        have hl : σ0.length = σ3.length := by rw [← hw3, wipe_length]
        have I5 : Inv Xg pn0 σ0 H4 s5 := invSame ((I4.unpinned (pins := pn0)).weak hl fun j v e => by
          rw [← hw3] at e
          exact (wipe_some e).1) e1 e2 e3
        refine seg_again rfl (ih m' hm (i + 1) n s5 s5 H4 (by omega) w' I5 ?_ fun b hb => ?_)
        · rw [e1]
          exact T.keep _ _ _ st2 fun b hb o e => (pin' b hb o e).1
        · obtain ⟨o, e, _⟩ := T.obj _ _ st2 b hb
          exact (pin' b hb o e).2
theorem seg_begin {A : Around} {elt tg iter : Expr} {scope : Scope} {pos : Pos} {it : Addr} {J : It} {fp : List Addr} {tn : Nat → Heap → Prop} {R : GenEnd} {Y : Protocol} {n : Nat} {s0 s : Shared} {cenv : Env} {prog : Program} {w : World} {K : PySem.W.Frag}
    (T : Turn prog w K tg J fp it tn) (hst : tn 0 s.heap)
    (loop : Seg (model prog w) A R Y n s0 (.compLoop (.GeneratorExp elt [⟨tg, iter, [], 0⟩] scope pos) 0 (.ref it) .none cenv) ((model prog w).den (.compLoop (.GeneratorExp elt [⟨tg, iter, [], 0⟩] scope pos) 0 (.ref it) .none cenv)) [] s) :
    Seg (model prog w) A R Y n s0 (.compStart (.GeneratorExp elt [⟨tg, iter, [], 0⟩] scope pos) 0 (.ref it) .none cenv) ((model prog w).den (.compStart (.GeneratorExp elt [⟨tg, iter, [], 0⟩] scope pos) 0 (.ref it) .none cenv)) [] s := by
  show Seg _ A _ _ _ s0 _ ((compStart (.GeneratorExp elt [⟨tg, iter, [], 0⟩] scope pos) 0 (.ref it) .none cenv).onRaise (leaving cenv)) [] s
  unfold compStart
  rw [Sem.onRaise_eq_wrap]
  show Seg _ A _ _ _ s0 _ ((ask >>= _).wrap _ _ _ _) [] s
  refine seg_bind_wrap (wpAny_askSetting ?_)
  split
  · exact seg_again rfl loop
  · first
      | exact seg_bind_wrap (wpAny_rule (seg_bind_wrap (wpAny_standAt (seg_bind_wrap (T.self _ 0 s _ _ hst (seg_again rfl loop))))))
      | (refine seg_bind_wrap (wpAny_rule ?_); show Seg _ A _ _ _ s0 _ ((standAt iter.pos >>= _).wrap _ _ _ _) [] s; exact seg_bind_wrap (wpAny_standAt (seg_bind_wrap (T.self _ 0 s _ _ hst (seg_again rfl loop)))))
theorem any_drain {A : Around} {R : Result → Shared → Prop} {a : Addr} {g : Nat} {go : Obj} (hh : A.handled = none) (hd : A.depth < recursionLimit) (hp0 : (a, go) ∈ pn0) (hgen : ∀ h : Heap, h.get? a = some go → h.IsGen a g)
    (hR : ∀ b σ' H' s', Inv Xg pn0 σ' H' s' → Q b H' → R (.ok (.ret (.bool b))) s') :
    ∀ (n : Nat) (s : Shared), s.heap.IsGen a g → s.heap.NoLimit → (∃ gs, s.gens[g]? = some gs ∧ gs.Goes (model Xg.prog Xg.w) A.in1.in1 (RB Xg pn0 Q true) (YB Xg pn0 Q true) n (.send .none) (s.setGen g .running)) →
      codeAny (model Xg.prog Xg.w) A (.builtin "any.loop" ⟨[.ref a], []⟩) R s := by
  intro n
  induction n with
  | zero =>
    intro s hg hl ⟨gs, hgs, hgo⟩
    refine codeAny_builtin F.entry_any_loop ?_
    rw [Around.under_plainId F.plain_any_loop _]
    show wpAny _ A.in1 (pyNext (.ref a) >>= _) _ _ s
    refine wpAny_bind (wpAny_pyNext_genexpQ (A := A.in1) (P := fun _ _ s1 => ∃ σ' H', Inv Xg pn0 σ' H' s1 ∧ Q (!true) H') hh hl hd hg hgs hgo (fun v s1 gs' hb hv => ?_) fun s1 hp h' hk => ?_)
    · obtain ⟨b, rfl, σ', H', I1, q1, q2⟩ := hv
      refine wpAny_bind (wpAny_holding (wpAny_truthy_bool ?_))
      refine wpAny_bind (wpAny_letGo ?_)
      by_cases hb1 : b = true
      · subst hb1
        refine (wpAny_bind (wpAny_rule (wpAny_pure ?_)))
        exact hR _ σ' H' _ (invSame I1 rfl rfl (allBare_setGen I1.bare hb)) (q1 rfl)
      · exact False.elim (q2 hb1 s1 rfl rfl I1.bare)
    · obtain ⟨σ', H', I1, q1⟩ := hp
      refine wpAny_bind (wpAny_rule (wpAny_pure ?_))
      exact hR _ σ' H' _ ((invSame (s' := s1.setGen g .finished) I1 rfl rfl (allBare_setGen I1.bare rfl)).kept (t' := s1.toks) hk) q1
  | succ n ih =>
    intro s hg hl ⟨gs, hgs, hgo⟩
    have hgl : g < s.gens.size := (Array.getElem?_eq_some_iff.mp hgs).1
    refine codeAny_builtin F.entry_any_loop ?_
    rw [Around.under_plainId F.plain_any_loop _]
    show wpAny _ A.in1 (pyNext (.ref a) >>= _) _ _ s
    refine wpAny_bind (wpAny_gsz (n := g + 1) hgl (wpAny_pyNext_genexpQ (A := A.in1) (P := fun _ _ s1 => ∃ σ' H', Inv Xg pn0 σ' H' s1 ∧ Q (!true) H') hh hl hd hg hgs hgo (fun v s1 gs' hb hv => ?_) fun s1 hp h' hk => ?_))
    · intro hsz
      obtain ⟨b, rfl, σ', H', I1, q1, q2⟩ := hv
      refine wpAny_bind (wpAny_holding (wpAny_truthy_bool ?_))
      refine wpAny_bind (wpAny_letGo ?_)
      have J1 : Inv Xg pn0 σ' H' (s1.setGen g gs') := invSame I1 rfl rfl (allBare_setGen I1.bare hb)
      by_cases hb1 : b = true
      · subst hb1
        refine (wpAny_bind (wpAny_rule (wpAny_pure ?_)))
        exact hR _ σ' H' _ J1 (q1 rfl)
      · have hb2 : b = !true := by cases b <;> simp_all
        subst hb2
        refine wpAny_pure ⟨plainId_quiet F.plain_any_loop _, ?_⟩
        have hsz1 : g < s1.gens.size := by
          have q : (s1.setGen g gs').gens.size = s1.gens.size := setGen_size _ _ _
          have hsz' : g + 1 ≤ (s1.setGen g gs').gens.size := hsz
          omega
        refine ih (s1.setGen g gs') (hgen _ (J1.pin (a, go) (List.mem_append_right _ hp0)).1) J1.nolimit ⟨gs', setGen_at hsz1, ?_⟩
        exact q2 hb1 _ rfl rfl (allBare_setGen (s := s1.setGen g gs') J1.bare rfl)
    · intro hsz
      obtain ⟨σ', H', I1, q1⟩ := hp
      refine wpAny_bind (wpAny_rule (wpAny_pure ?_))
      exact hR _ σ' H' _ ((invSame (s' := s1.setGen g .finished) I1 rfl rfl (allBare_setGen I1.bare rfl)).kept (t' := s1.toks) hk) q1
theorem all_drain {A : Around} {R : Result → Shared → Prop} {a : Addr} {g : Nat} {go : Obj} (hh : A.handled = none) (hd : A.depth < recursionLimit) (hp0 : (a, go) ∈ pn0) (hgen : ∀ h : Heap, h.get? a = some go → h.IsGen a g)
    (hR : ∀ b σ' H' s', Inv Xg pn0 σ' H' s' → Q b H' → R (.ok (.ret (.bool b))) s') :
    ∀ (n : Nat) (s : Shared), s.heap.IsGen a g → s.heap.NoLimit → (∃ gs, s.gens[g]? = some gs ∧ gs.Goes (model Xg.prog Xg.w) A.in1.in1 (RB Xg pn0 Q false) (YB Xg pn0 Q false) n (.send .none) (s.setGen g .running)) →
      codeAny (model Xg.prog Xg.w) A (.builtin "all.loop" ⟨[.ref a], []⟩) R s := by
  intro n
  induction n with
  | zero =>
    intro s hg hl ⟨gs, hgs, hgo⟩
    refine codeAny_builtin F.entry_all_loop ?_
    rw [Around.under_plainId F.plain_all_loop _]
    show wpAny _ A.in1 (pyNext (.ref a) >>= _) _ _ s
    refine wpAny_bind (wpAny_pyNext_genexpQ (A := A.in1) (P := fun _ _ s1 => ∃ σ' H', Inv Xg pn0 σ' H' s1 ∧ Q (!false) H') hh hl hd hg hgs hgo (fun v s1 gs' hb hv => ?_) fun s1 hp h' hk => ?_)
    · obtain ⟨b, rfl, σ', H', I1, q1, q2⟩ := hv
      refine wpAny_bind (wpAny_holding (wpAny_truthy_bool ?_))
      refine wpAny_bind (wpAny_letGo ?_)
      by_cases hb1 : b = false
      · subst hb1
        refine (wpAny_bind (wpAny_rule (wpAny_pure ?_)))
        exact hR _ σ' H' _ (invSame I1 rfl rfl (allBare_setGen I1.bare hb)) (q1 rfl)
      · exact False.elim (q2 hb1 s1 rfl rfl I1.bare)
    · obtain ⟨σ', H', I1, q1⟩ := hp
      refine wpAny_bind (wpAny_rule (wpAny_pure ?_))
      exact hR _ σ' H' _ ((invSame (s' := s1.setGen g .finished) I1 rfl rfl (allBare_setGen I1.bare rfl)).kept (t' := s1.toks) hk) q1
  | succ n ih =>
    intro s hg hl ⟨gs, hgs, hgo⟩
    have hgl : g < s.gens.size := (Array.getElem?_eq_some_iff.mp hgs).1
    refine codeAny_builtin F.entry_all_loop ?_
    rw [Around.under_plainId F.plain_all_loop _]
    show wpAny _ A.in1 (pyNext (.ref a) >>= _) _ _ s
    refine wpAny_bind (wpAny_gsz (n := g + 1) hgl (wpAny_pyNext_genexpQ (A := A.in1) (P := fun _ _ s1 => ∃ σ' H', Inv Xg pn0 σ' H' s1 ∧ Q (!false) H') hh hl hd hg hgs hgo (fun v s1 gs' hb hv => ?_) fun s1 hp h' hk => ?_))
    · intro hsz
      obtain ⟨b, rfl, σ', H', I1, q1, q2⟩ := hv
      refine wpAny_bind (wpAny_holding (wpAny_truthy_bool ?_))
      refine wpAny_bind (wpAny_letGo ?_)
      have J1 : Inv Xg pn0 σ' H' (s1.setGen g gs') := invSame I1 rfl rfl (allBare_setGen I1.bare hb)
      by_cases hb1 : b = false
      · subst hb1
        refine (wpAny_bind (wpAny_rule (wpAny_pure ?_)))
        exact hR _ σ' H' _ J1 (q1 rfl)
      · have hb2 : b = !false := by cases b <;> simp_all
        subst hb2
        refine wpAny_pure ⟨plainId_quiet F.plain_all_loop _, ?_⟩
        have hsz1 : g < s1.gens.size := by
          have q : (s1.setGen g gs').gens.size = s1.gens.size := setGen_size _ _ _
          have hsz' : g + 1 ≤ (s1.setGen g gs').gens.size := hsz
          omega
        refine ih (s1.setGen g gs') (hgen _ (J1.pin (a, go) (List.mem_append_right _ hp0)).1) J1.nolimit ⟨gs', setGen_at hsz1, ?_⟩
        exact q2 hb1 _ rfl rfl (allBare_setGen (s := s1.setGen g gs') J1.bare rfl)
    · intro hsz
      obtain ⟨σ', H', I1, q1⟩ := hp
      refine wpAny_bind (wpAny_rule (wpAny_pure ?_))
      exact hR _ σ' H' _ ((invSame (s' := s1.setGen g .finished) I1 rfl rfl (allBare_setGen I1.bare rfl)).kept (t' := s1.toks) hk) q1
end

open GxR in
section
variable {X : Cx} {pins : List (Addr × Obj)} {σ : L2.St} {H : Hp} {s : Shared}
theorem FpOk.to {H' : Hp} {b : Addr} (f : FpOk X pins H b) (h : H' b = none) : FpOk X pins H' b := ⟨h, f.2⟩
/-- what the turns of the generator keep -/
def TurnsG (st : Bool) (vs : List Nat) (g : TG) (te : TE) (σ : L2.St) (Q : Bool → Hp → Prop) (J : It) (H2 : Hp) : Prop := ∃ W : Nat → Nat → Hp → Prop, (∃ m, W 0 m H2) ∧ ∀ i m H, W i m H →
  (J.stop i H ∧ Q (!st) H) ∨ (J.go i H ∧ ∃ Nx : Hp → Prop, (∀ H', Nx H' → ∃ m', m' < m ∧ W (i + 1) m' H') ∧ ∀ x H', J.yld i H x H' → g x (wipe σ vs) H' fun σ2 H2 => wipe σ2 vs = wipe σ vs ∧ te σ2 H2 fun y H4 => ∃ b, y = .bl b ∧ if b = st then Q st H4 else Nx H4)
theorem gen_made {c P : Addr} {elt tg iter : Expr} {gpos : Pos} {scope : Scope} {own : List (Str × Nat)} {wi : TI} {g : TG} {te : TE} {k : Nat} {st : Bool} {Q : Bool → Hp → Prop} {Q' : Value → Shared → Prop}
    (hc : X.calm = true) (hN : X.N.Nodup) (hr : Room (k + 1) X.A) (TB : GxR.TabB X.base X.mg c P) (hcode : X.env.code = .ref c) (ok : GenOk X.N X.env.scope scope own) (hi : PI X tg iter wi)
    (hgt : ∀ (s : Shared) (H : Hp) (C : Addr) (code : Value) (Ag : Around) (fp : List Addr), PG (cxG X s H (genEnv scope (cloFrom X.env.cells scope.names []) C code builtinsNs X.env) Ag fp) tg g)
    (he : ∀ (s : Shared) (H : Hp) (C : Addr) (code : Value) (Ag : Around) (fp : List Addr), Room k Ag → PE (cxG X s H (genEnv scope (cloFrom X.env.cells scope.names []) C code builtinsNs X.env) Ag fp) elt te)
    (hs : ∀ v, genFold iter X.env v = pure v) (I : Inv X pins σ H s) (h : wi σ H fun J H1 => GxR.TabG H1 P ∧ ∀ H2, GxR.Tabbed P H1 H2 → TurnsG st (own.map (·.2)) g te σ Q J H2)
    (hQ : ∀ (a : Addr) (gi : Nat) (go : Obj) (s5 : Shared) (Xg : Cx) (pn0 : List (Addr × Obj)), Xg.prog = X.prog → Xg.w = X.w → (a, go) ∈ pn0 → (∀ h : Heap, h.get? a = some go → h.IsGen a gi) → s5.heap.IsGen a gi → s5.heap.NoLimit → AllBare s5.gens →
      (∃ gs n, s5.gens[gi]? = some gs ∧ ∀ s6 : Shared, s6.heap = s5.heap → s6.os = s5.os → AllBare s6.gens → gs.Goes (model X.prog X.w) X.A.in1.in1 (RB Xg pn0 Q st) (YB Xg pn0 Q st) n (.send .none) s6) →
      (∀ σ' H' s', Inv Xg pn0 σ' H' s' → Inv X pins σ H' s') → Q' (.ref a) s5) :
    wpAny (model X.prog X.w) X.A (eval (.GeneratorExp elt [⟨tg, iter, [], 0⟩] scope gpos) X.env) Q' X.xe s := by
  have hfree : ∀ y ∈ scope.names, y.2 = .free → ∃ c, X.env.cells.lookup y.1 = some c := fun y hy e => by
    rcases ok.free y hy e with k | k
    · exact I.ok.has _ (.inl k)
    · exact I.ok.has _ (.inr k)
  refine wpAny_GeneratorExp_make ok.co (closure_ok hfree) ok.cell ok.dot ok.kind (by have := hr.dp; omega) ?_ hs
  refine thn (hi.run pins s σ H _ I h) fun xv s1 h1 => thn h1 fun itv s2 h2 => ?_
  obtain ⟨it, fp, tn, J, H2, rfl, I2, T, st2, f2, ⟨ps, hP, ht⟩, q⟩ := h2
  have hPs : s2.heap.get? P = some { cls := .none, data := .fields ps } := I2.hok P _ hP
  have cd : PySem.W.CodeHd s2.heap c P := TB.code.keeps I2.bk
  have fpP : ∀ b ∈ fp, b ≠ P := fun b hb z => by
    have := (f2 b hb).1
    rw [z, hP] at this
    cases this
  have cont : ∀ (code : Value) (h3 : Heap) (tk : Nat) (ps' : Array Value), Heap.ExtBut P s2.heap h3 → s2.heap.objs.size ≤ h3.objs.size → h3.get? P = some { cls := .none, data := .fields ps' } → (∃ more, ps' = ps ++ more) → TriplesOk ps'.toList →
      wpAny (model X.prog X.w) X.A (builtinsFor X.env.globals X.env.builtins) (fun bi s4 => ∀ h', h'.Ns s4.heap.objs.size (fun y => if y = ".0" then some (.ref it) else none) → Heap.SameBut s4.heap.objs.size (s4.heap.push { cls := .type "frame", data := .dict #[] }) h' →
          Q' (.ref h'.objs.size) { s4 with
            gens := s4.gens.push (.fresh (.compStart (.GeneratorExp elt [⟨tg, iter, [], 0⟩] scope gpos) 0 (.ref it) .none (genEnv scope (cloFrom X.env.cells scope.names []) s4.heap.objs.size code bi X.env))),
            toks := s4.toks + 1 + 1 + 1,
            heap := h'.push { cls := .type "generator", data := .fields #[.int s4.gens.size 0, .str "<genexpr>" (s4.toks + 1), .str (X.env.qual ++ "<genexpr>") (s4.toks + 1 + 1)] } }) X.xe { s2 with heap := h3, toks := tk } := by
    intro code h3 tk ps' hx hsz hP3 hmore ht3
    obtain ⟨bm, ob, e1, e2, e3, e4, e5, e6, e7, e8⟩ := TB.bm
    have keep3 : ∀ b u, b ≠ P → s2.heap.get? b = some u → h3.get? b = some u := fun b u hb e => hx b u hb e
    refine wpAny_builtinsFor (m := X.mg) (by rw [I2.ok.glob]; exact (I2.mod.glob.keeps I2.bk).extBut hx TB.gP) e1 e2 (keep3 _ _ e4 (I2.bk _ _ e5)) e6 e7 e8 ?_
    obtain ⟨more, em⟩ := hmore
    subst em
    have I3 : Inv X pins σ (upd H2 P (.tbl (ps ++ more))) { s2 with heap := h3, toks := tk } := GxR.inv_tab (more := more) (h' := h3) (g' := s2.gens) (d' := s2.drawn) (t' := tk) I2 hP keep3 hP3 I2.bare
    obtain ⟨W, ⟨m0, w0⟩, turn⟩ := q _ ⟨⟨_, upd_same, ht3⟩, fun b hb => upd_ne hb⟩
    generalize hH3 : upd H2 P (.tbl (ps ++ more)) = H3 at I3 w0
    have n3 : ∀ b ∈ fp, H3 b = none := fun b hb => by rw [← hH3, upd_ne (fpP b hb)]; exact (f2 b hb).1
    have st3 : tn 0 h3 := T.keep _ _ _ st2 fun b hb o e => keep3 b o (fpP b hb) e
    generalize hs3 : ({ s2 with heap := h3, toks := tk } : Shared) = s3 at I3 ⊢
    have eh3 : s3.heap = h3 := by rw [← hs3]
    rw [← eh3] at st3
    intro h' hn' hs'
    have hsz' : h'.objs.size = s3.heap.objs.size + 1 := by rw [hs'.1, Heap.size_push]
    have keep' : ∀ b o, s3.heap.get? b = some o → h'.get? b = some o := fun b o e => hs'.extBut b o (Nat.ne_of_lt (Heap.lt_size e)) (Heap.get?_push_of_some _ e)
    generalize hgo : ({ cls := .type "generator", data := .fields #[.int s3.gens.size 0, .str "<genexpr>" (s3.toks + 1), .str (X.env.qual ++ "<genexpr>") (s3.toks + 1 + 1)] } : Obj) = go
    have keep5 : ∀ b o, s3.heap.get? b = some o → (h'.push go).get? b = some o := fun b o e => Heap.get?_push_of_some _ (keep' b o e)
    have hgen : ∀ h : Heap, h.get? h'.objs.size = some go → h.IsGen h'.objs.size s3.gens.size := fun h e => ⟨go, _, _, e, by rw [← hgo], by rw [← hgo], by rw [← hgo]⟩
    have hself : (h'.push go).get? h'.objs.size = some go := Heap.get?_push_size _ (by rw [← hgo]; rfl)
    have fsz : ∀ b ∈ fp, b < s3.heap.objs.size := fun b hb => by
      obtain ⟨o, e, _⟩ := T.obj _ _ st3 b hb
      exact Heap.lt_size e
    have f3 : ∀ b ∈ fp, FpOk X pins H3 b ∧ b < s3.heap.objs.size := fun b hb => ⟨FpOk.to (f2 b hb) (n3 b hb), fsz b hb⟩
    generalize hcenv : genEnv scope (cloFrom X.env.cells scope.names []) s3.heap.objs.size code builtinsNs X.env = cenv
    generalize hAg : X.A.in1.in1.over (.compLoop (.GeneratorExp elt [⟨tg, iter, [], 0⟩] scope gpos) 0 (.ref it) .none cenv) [] = Ag
    have hfr : Ag.frames = some (cenv :: X.stack) := by
      rw [← hAg]
      unfold Around.over
      simp only [pushEnvs_eq, I3.ok.frames]
      rfl
    have hrg : Room k Ag := by
      rw [← hAg]
      refine ⟨hr.hd, ?_, ?_⟩
      · have := hr.dp
        show X.A.depth + 1 + 3 * k + 5 < _
        omega
      · have := hr.un
        show X.A.units + 1 + 1 + 3 + 16 * k + 200 < _
        omega
    have hba : AllBare (s3.gens.push (.fresh (.compStart (.GeneratorExp elt [⟨tg, iter, [], 0⟩] scope gpos) 0 (.ref it) .none cenv))) := AllBare.push I3.bare rfl
    have Ig : Inv (cxG X s3 H3 cenv Ag fp) [] (wipe σ (own.map (·.2))) H3 { s3 with gens := s3.gens.push (.fresh (.compStart (.GeneratorExp elt [⟨tg, iter, [], 0⟩] scope gpos) 0 (.ref it) .none cenv)), toks := s3.toks + 1 + 1 + 1, heap := h'.push go } := by
      have := gen_start (code := code) (Ag := Ag) (s' := { s3 with gens := s3.gens.push (.fresh (.compStart (.GeneratorExp elt [⟨tg, iter, [], 0⟩] scope gpos) 0 (.ref it) .none cenv)), toks := s3.toks + 1 + 1 + 1, heap := h'.push go }) I3 ok hN f3 (by rw [hcenv]; exact hfr) hrg.hd rfl hba keep5 (hn'.push _)
      rw [hcenv] at this
      exact this
    have cL : cenv.locals = s3.heap.objs.size := by rw [← hcenv]; rfl
    have cC : ∀ y c, cenv.cells.lookup y = some c → c < s3.heap.objs.size := fun y c e => by
      obtain ⟨v, z⟩ := I3.cell y c (by
        rw [← hcenv] at e
        rcases cloFrom_mem (PySem.mem_of_lookup e) with hm | ⟨h1, rfl⟩
        · cases hm
        · obtain ⟨c, hc⟩ := hfree _ h1 rfl
          rw [hc]; rfl)
      exact z.lt
    have pinG : ∀ {σ' : L2.St} {H' : Hp} {s' : Shared}, Inv (cxG X s3 H3 cenv Ag fp) [] σ' H' s' → s'.heap.get? h'.objs.size = some go → H' h'.objs.size = none → Inv (cxG X s3 H3 cenv Ag fp) [(h'.objs.size, go)] σ' H' s' := fun {σ' H' s'} I' e n => I'.pins_of fun p hp => by
      rw [List.mem_singleton.mp hp]
      refine ⟨e, n, ?_, fun z => ?_, fun v z => by rw [← hgo] at z; cases z⟩
      · show h'.objs.size ≠ cenv.locals
        rw [cL, hsz']
        exact Nat.succ_ne_self _
      · obtain ⟨_, o, ho, _⟩ := I3.stack.mem z
        have := Heap.lt_size ho
        rw [hsz'] at this
        exact absurd (Nat.lt_trans (Nat.lt_succ_self _) this) (Nat.lt_irrefl _)
    have fin := hQ h'.objs.size s3.gens.size go { s3 with gens := s3.gens.push (.fresh (.compStart (.GeneratorExp elt [⟨tg, iter, [], 0⟩] scope gpos) 0 (.ref it) .none cenv)), toks := s3.toks + 1 + 1 + 1, heap := h'.push go }
      (cxG X s3 H3 cenv Ag fp) [(h'.objs.size, go)] rfl rfl (List.mem_singleton.mpr rfl) hgen (hgen _ hself) Ig.nolimit hba ?_ ?_
    · exact fin
    · refine ⟨_, m0 + 1, Array.getElem?_push_size .., fun s6 e1 e2 e3 => ⟨rfl, ?_⟩⟩
      have e1 : s6.heap = h'.push go := e1
      have I6 : Inv (cxG X s3 H3 cenv Ag fp) [(h'.objs.size, go)] (wipe σ (own.map (·.2))) H3 s6 := pinG (invSame Ig e1 e2 e3) (by rw [e1]; exact hself) (I3.hok.fresh (by rw [hsz']; exact Nat.le_succ _))
      have st6 : tn 0 s6.heap := by
        rw [e1]
        exact T.keep _ _ _ st3 fun b hb o e => keep5 b o e
      refine seg_begin T st6 ?_
      have hgt' := hgt s3 H3 s3.heap.objs.size code Ag fp
      have he' := he s3 H3 s3.heap.objs.size code Ag fp hrg
      rw [hcenv] at hgt' he'
      refine seg_turns (Xg := cxG X s3 H3 cenv Ag fp) (st := st) (Q := Q) (vs := own.map (·.2)) (W := W) (J := J) (fp := fp) hc hAg rfl (by rw [← hcenv]; exact ok.co) hgt' he' T ?_ turn m0 0 (m0 + 1) s6 s6 H3 (Nat.lt_succ_self _) w0 I6 st6 n3
      intro σ' H' s' I' hn b hb
      refine ⟨hn b hb, (I'.ok.exf b hb).1, I'.ok.exfs b hb, .inl hb, (I'.ok.exf b hb).2, fun p hp => ?_⟩
      rw [List.mem_singleton.mp (show p ∈ [(h'.objs.size, go)] from hp)]
      have := fsz b hb
      show h'.objs.size ≠ b
      exact Nat.ne_of_gt (by rw [hsz']; exact Nat.lt_succ_of_lt this)
    · intro σ' H' s' I'
      exact I3.call' (ch := fp) I'.os I'.base I'.hok I'.bare fun b hb => ⟨(f3 b hb).1.2.2.2.1, (f3 b hb).1.2.1, (f3 b hb).1.2.2.2.2.1, (f3 b hb).1.2.2.2.2.2⟩
  refine ⟨I2.nolimit, ?_⟩
  cases hf : codeAmong gpos ps.toList with
  | none =>
    refine wpAny_genexprCodeX hcode (cd.code hPs ht) (cd.tab hPs) hf fun c' h' tk hx hge hlt hco' _ htab' _ => ?_
    obtain ⟨o1, vs, f1, tf, fl, tg, inF, tx, tt, op, _, _, _, _, _, _, _, _, _, htr, _⟩ := hco'
    exact cont _ h' tk _ hx (Nat.le_trans hge (Nat.le_of_lt hlt)) htab'.2 ⟨_, rfl⟩ htr
  | some cv =>
    refine wpAny_genexprCode_hit hcode (cd.code hPs ht) hf ?_
    exact cont cv s2.heap s2.toks ps (Heap.ExtBut.refl _ _) (Nat.le_refl _) hPs ⟨#[], by simp⟩ ht
theorem pe_anyG {c P : Addr} {elt tg iter : Expr} {p pos gpos : Pos} {scope : Scope} {own : List (Str × Nat)} {wi : TI} {g : TG} {te : TE} {k : Nat}
    (hc : X.calm = true) (hN : X.N.Nodup) (hr : Room (k + 1) X.A) (hg : Gl X "any") (hm : X.mg "any" = none) (hb : bootBuiltins "any" = some (.builtin "any")) (TB : GxR.TabB X.base X.mg c P) (hcode : X.env.code = .ref c) (ok : GenOk X.N X.env.scope scope own) (hi : PI X tg iter wi)
    (hgt : ∀ (s : Shared) (H : Hp) (C : Addr) (code : Value) (Ag : Around) (fp : List Addr), PG (cxG X s H (genEnv scope (cloFrom X.env.cells scope.names []) C code builtinsNs X.env) Ag fp) tg g)
    (he : ∀ (s : Shared) (H : Hp) (C : Addr) (code : Value) (Ag : Around) (fp : List Addr), Room k Ag → PE (cxG X s H (genEnv scope (cloFrom X.env.cells scope.names []) C code builtinsNs X.env) Ag fp) elt te)
    (hs : ∀ v, genFold iter X.env v = pure v := by intro _; rfl)
    (hst : starEach [.GeneratorExp elt [⟨tg, iter, [], 0⟩] scope gpos] X.env = (false, eval (.GeneratorExp elt [⟨tg, iter, [], 0⟩] scope gpos) X.env) :: starEach [] X.env := by rfl) :
    PE X (.Call (.Name "any" p) [.GeneratorExp elt [⟨tg, iter, [], 0⟩] scope gpos] [] pos) (fun σ H Q => wi σ H fun J H1 => GxR.TabG H1 P ∧ ∀ H2, GxR.Tabbed P H1 H2 → TurnsG true (own.map (·.2)) g te σ (fun b H' => Q (.bl b) H') J H2) := by
  refine ⟨fun pins s σ H Q I h => ?_⟩
  refine wpAny_Call_Name_kw (ld_blt I hg hm hb ?_)
  refine PyProof.Rows.callWith_builtin1 ?_ hst (by rfl)
  rw [hst]
  show wpAny _ _ (spliced ((false, eval (.GeneratorExp elt [⟨tg, iter, [], 0⟩] scope gpos) X.env) :: backTo pos (starEach [] X.env))) _ _ s
  refine Calls.spliced_cons (gen_made (st := true) (Q := fun b H' => Q (.bl b) H') hc hN hr TB hcode ok hi hgt he hs I h fun a gi go s5 Xg pn0 e1 e2 hp0 hgen hg5 hl5 hb5 hgo hback => ?_)
  refine Calls.spliced_nil ?_
  refine call_function_tree F.kind_any F.plain_any F.entry_any (F.args_any1 _) ?_
  unfold Builtin.«any»
  refine wpAny_bind (m := oneArg "any" _) (wpAny_pure ?_)
  refine wpAny_bind (wpAny_pyIter_gen hg5 ?_)
  refine wpAny_pure ⟨plainId_quiet F.plain_any_loop _, ?_⟩
  obtain ⟨gs, n, hgs, hgo⟩ := hgo
  rw [← e1, ← e2]
  rw [← e1, ← e2] at hgo
  refine any_drain (Xg := Xg) (pn0 := pn0) (Q := fun b H' => Q (.bl b) H') hr.hd (by have := hr.dp; omega) hp0 hgen (fun b σ' H' s' I' q => ?_) n s5 hg5 hl5 ⟨gs, hgs, hgo _ rfl rfl (allBare_setGen hb5 rfl)⟩
  exact ⟨.bl b, H', hback _ _ _ I', rfl, q⟩
theorem pe_allG {c P : Addr} {elt tg iter : Expr} {p pos gpos : Pos} {scope : Scope} {own : List (Str × Nat)} {wi : TI} {g : TG} {te : TE} {k : Nat}
    (hc : X.calm = true) (hN : X.N.Nodup) (hr : Room (k + 1) X.A) (hg : Gl X "all") (hm : X.mg "all" = none) (hb : bootBuiltins "all" = some (.builtin "all")) (TB : GxR.TabB X.base X.mg c P) (hcode : X.env.code = .ref c) (ok : GenOk X.N X.env.scope scope own) (hi : PI X tg iter wi)
    (hgt : ∀ (s : Shared) (H : Hp) (C : Addr) (code : Value) (Ag : Around) (fp : List Addr), PG (cxG X s H (genEnv scope (cloFrom X.env.cells scope.names []) C code builtinsNs X.env) Ag fp) tg g)
    (he : ∀ (s : Shared) (H : Hp) (C : Addr) (code : Value) (Ag : Around) (fp : List Addr), Room k Ag → PE (cxG X s H (genEnv scope (cloFrom X.env.cells scope.names []) C code builtinsNs X.env) Ag fp) elt te)
    (hs : ∀ v, genFold iter X.env v = pure v := by intro _; rfl)
    (hst : starEach [.GeneratorExp elt [⟨tg, iter, [], 0⟩] scope gpos] X.env = (false, eval (.GeneratorExp elt [⟨tg, iter, [], 0⟩] scope gpos) X.env) :: starEach [] X.env := by rfl) :
    PE X (.Call (.Name "all" p) [.GeneratorExp elt [⟨tg, iter, [], 0⟩] scope gpos] [] pos) (fun σ H Q => wi σ H fun J H1 => GxR.TabG H1 P ∧ ∀ H2, GxR.Tabbed P H1 H2 → TurnsG false (own.map (·.2)) g te σ (fun b H' => Q (.bl b) H') J H2) := by
  refine ⟨fun pins s σ H Q I h => ?_⟩
  refine wpAny_Call_Name_kw (ld_blt I hg hm hb ?_)
  refine PyProof.Rows.callWith_builtin1 ?_ hst (by rfl)
  rw [hst]
  show wpAny _ _ (spliced ((false, eval (.GeneratorExp elt [⟨tg, iter, [], 0⟩] scope gpos) X.env) :: backTo pos (starEach [] X.env))) _ _ s
  refine Calls.spliced_cons (gen_made (st := false) (Q := fun b H' => Q (.bl b) H') hc hN hr TB hcode ok hi hgt he hs I h fun a gi go s5 Xg pn0 e1 e2 hp0 hgen hg5 hl5 hb5 hgo hback => ?_)
  refine Calls.spliced_nil ?_
  refine call_function_tree F.kind_all F.plain_all F.entry_all (F.args_all1 _) ?_
  unfold Builtin.«all»
  refine wpAny_bind (m := oneArg "all" _) (wpAny_pure ?_)
  refine wpAny_bind (wpAny_pyIter_gen hg5 ?_)
  refine wpAny_pure ⟨plainId_quiet F.plain_all_loop _, ?_⟩
  obtain ⟨gs, n, hgs, hgo⟩ := hgo
  rw [← e1, ← e2]
  rw [← e1, ← e2] at hgo
  refine all_drain (Xg := Xg) (pn0 := pn0) (Q := fun b H' => Q (.bl b) H') hr.hd (by have := hr.dp; omega) hp0 hgen (fun b σ' H' s' I' q => ?_) n s5 hg5 hl5 ⟨gs, hgs, hgo _ rfl rfl (allBare_setGen hb5 rfl)⟩
  exact ⟨.bl b, H', hback _ _ _ I', rfl, q⟩
end
end L3

namespace L3
open PySem L2 PySem.Spec PyProof.Rows
/-- any (true), all (false) of e for x in .. -/
def lAG (st : Bool) (lw : LW) (g : LG) (te : LE) (vs : List Nat) : LE := fun ρ M P PX => lw ρ M (fun items okM M1 => ∃ I : Nat → Mem → Prop, I 0 M1 ∧ (∀ i M, I i M → okM M) ∧
  (∀ i x M, items[i]? = some x → I i M → g x (wipeL ρ vs) M fun ρ2 M2 => te ρ2 M2 (fun y M3 => ∃ b, y = .bl b ∧ if b = st then P (.bl st) M3 else DropM M1.length (I (i + 1)) M3) noX) ∧
  ∀ M, I items.length M → P (.bl (!st)) M) PX
section
variable {C : Cn} {α : List Addr} {H H' : Hp} {M : Mem} {P0 : Addr}
theorem tab_step (h0 : P0 ∈ C.T) (r : RS C α M H) (t : GxR.Tabbed P0 H H') : Step C α H α H' := by
  obtain ⟨ps, e, _⟩ := r.tb P0 h0
  obtain ⟨⟨ps', e', _⟩, hn⟩ := t
  refine ⟨⟨[], by simp, by simp⟩, fun b o h _ nt => ?_, fun b o h => ?_⟩
  · rw [hn b fun z => nt (by rw [z]; exact h0)]
    exact h
  · by_cases z : b = P0
    · exact ⟨_, by rw [z]; exact e'⟩
    · exact ⟨o, by rw [hn b z]; exact h⟩
theorem tab_rs (h0 : P0 ∈ C.T) (hq : ∀ p ∈ C.T.qs, p.1 ≠ P0) (r : RS C α M H) (t : GxR.Tabbed P0 H H') : RS C α M H' := by
  have s := tab_step h0 r t
  obtain ⟨ps, e, _⟩ := r.tb P0 h0
  obtain ⟨⟨ps', e', ht⟩, hn⟩ := t
  refine ⟨⟨r.hr.len, fun n a o h1 h2 => ?_⟩, r.nd, fun P hP => ?_, fun z hz => ?_, fun p hp => (r.tq p hp).keep (r.tabAt hp) (fun b o h q => by
    rcases q with q | ⟨q, rfl, _⟩
    · rw [hn b (by rw [q]; exact hq p hp)]; exact h
    · rw [hn b (fun z => r.codeNotT h (by rw [z]; exact h0))]; exact h) fun _ _ _ z => z⟩
  · have q := r.hr.get n a o h1 h2
    have ne : a ≠ P0 := fun z => by
      subst z
      cases o with
      | lst ds => obtain ⟨xs, x, _⟩ := q; rw [e] at x; cases x
      | dK ds => obtain ⟨xs, x, _⟩ := q; rw [e] at x; cases x
      | ins D ds => obtain ⟨dx, xs, x, _⟩ := q; rw [e] at x; cases x
    cases o with
    | lst ds => obtain ⟨xs, x, q⟩ := q; exact ⟨xs, by rw [hn a ne]; exact x, VRs.step q s⟩
    | dK ds => obtain ⟨xs, x, q⟩ := q; exact ⟨xs, by rw [hn a ne]; exact x, KVR.step q s⟩
    | ins D ds => obtain ⟨dx, xs, x, q⟩ := q; exact ⟨dx, xs, by rw [hn a ne]; exact x, KVR.step q s⟩
  · by_cases z : P = P0
    · subst z; exact ⟨ps', e', ht⟩
    · obtain ⟨qs, h1, h2⟩ := r.tb P hP
      exact ⟨qs, by rw [hn P z]; exact h1, h2⟩
  · obtain ⟨o, h⟩ := r.zd z hz
    exact s.dom z o h
end
def tAG (st : Bool) (P0 : Addr) (wi : TI) (g : TG) (te : TE) (ns : List Nat) : TE := fun σ H Q => wi σ H fun J H1 => GxR.TabG H1 P0 ∧ ∀ H2, GxR.Tabbed P0 H1 H2 → TurnsG st ns g te σ (fun b H' => Q (.bl b) H') J H2
theorem lo_aG {C : Cn} {W : WX} {st : Bool} {P0 : Addr} {wi : TI} {lw : LW} {g : TG} {lg : LG} {te : TE} {le : LE} {ns : List Nat} (h0 : P0 ∈ C.T) (hq : ∀ p ∈ C.T.qs, p.1 ≠ P0) (hi : LoW C W wi lw) (hg : LoG C g lg) (hw : Wm g ns) (he : LoE C W0 te le) :
    LoE C W (tAG st P0 wi g te ns) (lAG st lw lg le ns) := fun ρ M P PX h Z σ H α Q vs rs kt wk => by
  refine hi _ _ _ _ h Z σ H α _ vs rs wk fun J H1 α1 items okM M1 s1 r1 it ok1 h1 => ?_
  obtain ⟨I, i0, iok, turn, done⟩ := h1
  refine ⟨r1.tb P0 h0, fun H2 ht => ?_⟩
  have s2 : Step (C.wz Z) α1 H1 α1 H2 := tab_step (C := C.wz Z) h0 r1 ht
  have r2 : RS (C.wz Z) α1 M1 H2 := tab_rs (C := C.wz Z) h0 hq r1 ht
  have it' := it Z H2 s2.mv
  have vs1 : VS (C.wz Z) α1 H2 (wipe σ ns) (wipeL ρ ns) := wipe_vs ((vs.step s1).step s2) ns
  refine ⟨fun i m H' => m = items.length - i ∧ i ≤ items.length ∧ ∃ α' M', Step (C.wz Z) α1 H2 α' H' ∧ RS (C.wz Z) α' M' H' ∧ I i M', ⟨_, rfl, Nat.zero_le _, α1, M1, Step.refl, r2, i0⟩, ?_⟩
  rintro i m H' ⟨rfl, hi', α', M', s', r', p⟩
  by_cases hlt : i < items.length
  · obtain ⟨go, yld⟩ := it'.go i α' H' M' _ s'.pre r' (iok i M' p) (List.getElem?_eq_getElem hlt)
    refine .inr ⟨go, fun H3 => ∃ α3 M3, Step (C.wz Z) α1 H2 α3 H3 ∧ RS (C.wz Z) α3 M3 H3 ∧ I (i + 1) M3, fun H3 q => ⟨items.length - (i + 1), by omega, rfl, hlt, q⟩, fun x H3 y => ?_⟩
    obtain ⟨r3, s3, q3⟩ := yld x H3 y
    refine hw.mono _ _ _ _ _ (fun σ3 H3 z => ⟨z.1.trans (wipe_idem fun _ h => h), z.2⟩) (hw.wg _ _ _ _ ?_)
    refine hg _ _ M' _ (turn i _ M' (List.getElem?_eq_getElem hlt) p) x Z (wipe σ ns) H3 α' _ q3 (vs1.step (s'.trans s3)) r3 fun σ4 H4 α4 ρ4 M4 s4 vs4 r4 p4 => ?_
    refine he.bind p4 vs4 r4 XR.any fun v H5 α5 y M5 s5 r5 q5 h5 vs5 wk5 => ?_
    obtain ⟨b, rfl, h5⟩ := h5
    cases q5
    have sz : Step (C.wz Z) α1 H2 α5 H5 := ((s'.trans s3).trans s4).trans s5
    refine ⟨b, rfl, ?_⟩
    by_cases hb : b = st
    · rw [if_pos hb] at h5 ⊢
      exact kt _ H5 α5 (.dat (.bl st)) M5 ((s1.trans s2).trans sz) r5 (.bl st) h5
    · rw [if_neg hb] at h5 ⊢
      rcases h5 with h5 | ⟨n, hn, hM, h5⟩
      · exact ⟨α5, M5, sz, r5, h5⟩
      · rw [← r1.hr.len] at hn
        exact ⟨α5.take n, M5.take n, sz.drop hn, r5.drop hM, h5⟩
  · have e : i = items.length := by omega
    subst e
    refine .inl ⟨it'.stop α' H' M' s'.pre r' (iok _ M' p), ?_⟩
    exact kt _ H' α' (.dat (.bl (!st))) M' ((s1.trans s2).trans s') r' (.bl _) (done M' p)
section
variable {X : Cx} {C : Cn} {W : WX} {c P0 : Addr} {elt tg iter : Expr} {p pos gpos : Pos} {scope : Scope} {own : List (Str × Nat)} {wi : TI} {lw : LW} {g : TG} {lg : LG} {te : TE} {le : LE} {k : Nat}
theorem lp_anyG (hc : X.calm = true) (hN : X.N.Nodup) (hr : Room (k + 1) X.A) (hg : Gl X "any") (hm : X.mg "any" = none) (TB : GxR.TabB X.base X.mg c P0) (h0 : P0 ∈ C.T) (hq : ∀ p ∈ C.T.qs, p.1 ≠ P0) (hcode : X.env.code = .ref c) (ok : GenOk X.N X.env.scope scope own) (hw : Wm g (own.map (·.2))) (hi : LPI X C W tg iter wi lw)
    (hgt : ∀ (s : Shared) (H : Hp) (D : Addr) (code : Value) (Ag : Around) (fp : List Addr), LPG (cxG X s H (genEnv scope (cloFrom X.env.cells scope.names []) D code builtinsNs X.env) Ag fp) C tg g lg)
    (he : ∀ (s : Shared) (H : Hp) (D : Addr) (code : Value) (Ag : Around) (fp : List Addr), Room k Ag → LPE (cxG X s H (genEnv scope (cloFrom X.env.cells scope.names []) D code builtinsNs X.env) Ag fp) C W0 elt te le)
    (hs : ∀ v, genFold iter X.env v = pure v := by intro _; rfl)
    (hst : starEach [.GeneratorExp elt [⟨tg, iter, [], 0⟩] scope gpos] X.env = (false, eval (.GeneratorExp elt [⟨tg, iter, [], 0⟩] scope gpos) X.env) :: starEach [] X.env := by rfl) :
    LPE X C W (.Call (.Name "any" p) [.GeneratorExp elt [⟨tg, iter, [], 0⟩] scope gpos] [] pos) (tAG true P0 wi g te (own.map (·.2))) (lAG true lw lg le (own.map (·.2))) :=
  ⟨pe_anyG hc hN hr hg hm (by decide +kernel) TB hcode ok hi.pi (fun s H D code Ag fp => (hgt s H D code Ag fp).pg) (fun s H D code Ag fp r => (he s H D code Ag fp r).pe) hs hst,
   lo_aG h0 hq hi.lo (hgt ({} : Shared) (fun _ => none) 0 .none X.A []).lo hw (he ({} : Shared) (fun _ => none) 0 .none X.A [] (hr.mono (Nat.le_succ k))).lo⟩
theorem lp_allG (hc : X.calm = true) (hN : X.N.Nodup) (hr : Room (k + 1) X.A) (hg : Gl X "all") (hm : X.mg "all" = none) (TB : GxR.TabB X.base X.mg c P0) (h0 : P0 ∈ C.T) (hq : ∀ p ∈ C.T.qs, p.1 ≠ P0) (hcode : X.env.code = .ref c) (ok : GenOk X.N X.env.scope scope own) (hw : Wm g (own.map (·.2))) (hi : LPI X C W tg iter wi lw)
    (hgt : ∀ (s : Shared) (H : Hp) (D : Addr) (code : Value) (Ag : Around) (fp : List Addr), LPG (cxG X s H (genEnv scope (cloFrom X.env.cells scope.names []) D code builtinsNs X.env) Ag fp) C tg g lg)
    (he : ∀ (s : Shared) (H : Hp) (D : Addr) (code : Value) (Ag : Around) (fp : List Addr), Room k Ag → LPE (cxG X s H (genEnv scope (cloFrom X.env.cells scope.names []) D code builtinsNs X.env) Ag fp) C W0 elt te le)
    (hs : ∀ v, genFold iter X.env v = pure v := by intro _; rfl)
    (hst : starEach [.GeneratorExp elt [⟨tg, iter, [], 0⟩] scope gpos] X.env = (false, eval (.GeneratorExp elt [⟨tg, iter, [], 0⟩] scope gpos) X.env) :: starEach [] X.env := by rfl) :
    LPE X C W (.Call (.Name "all" p) [.GeneratorExp elt [⟨tg, iter, [], 0⟩] scope gpos] [] pos) (tAG false P0 wi g te (own.map (·.2))) (lAG false lw lg le (own.map (·.2))) :=
  ⟨pe_allG hc hN hr hg hm (by decide +kernel) TB hcode ok hi.pi (fun s H D code Ag fp => (hgt s H D code Ag fp).pg) (fun s H D code Ag fp r => (he s H D code Ag fp r).pe) hs hst,
   lo_aG h0 hq hi.lo (hgt ({} : Shared) (fun _ => none) 0 .none X.A []).lo hw (he ({} : Shared) (fun _ => none) 0 .none X.A [] (hr.mono (Nat.le_succ k))).lo⟩
end
end L3

namespace L3
open PySem L2 PySem.Spec PyProof.Rows
/-! a def whose code object is known -/
section
variable {P : Program} {w : World} {K : PySem.W.Frag} {mg : Str → Option Value} {base : Heap}
theorem okLc {x qual : Str} {st : Stmt} {f c : Addr} {fd : FuncData} {N ps : List Str} {k : Nat} {T : Tb} {lsp : LSp} (F : Fun K x qual st f fd) (hc : fd.code = .ref c) (S : FnScope N ps (defScope st)) (len : ∀ ds M P PX, lsp ds M P PX → ds.length = ps.length)
    (hbody : ∀ (A : Around) (outer : List Env) (s : Shared) (H : Hp) (E : XK), Room k (A.deeper (PyProof.Rows.envOfC qual (defScope st) s.heap.objs.size f (.ref c))) →
      ∃ ts l, LPSs (cxOf CX0 P w K mg base N qual (defScope st) f (.ref c) A outer s H E).nox ⟨K, T, []⟩ W0 (defBody st) ts l ∧ ∀ ds M Pd PX, lsp ds M Pd PX → l { nx := fun _ M' => DropD M.length Pd .non M', rt := DropD M.length Pd } (startL N ds) M) :
    FnOk P w K mg base CX0 (k + 1) f fd ps (low K T lsp) := by
  obtain ⟨oc, od, kV, doc, pm, an, cdv, ct, osl, rfl, lk, hcd⟩ := F.ex
  cases (show cdv = .ref c from hc)
  refine fn_of lk hcd S (fun vs H Q E h => ?_) fun A outer s H vs Q E hr h => ?_
  · obtain ⟨Z, α, ds, M, Pd, PX, _, r, h, _⟩ := h
    rw [VRs.length r]
    exact len _ _ _ _ h
  · obtain ⟨Z, α, ds, M, Pd, PX, rs, r, h, kt, _⟩ := h
    obtain ⟨ts, l, hp, hl⟩ := hbody A outer s H E hr
    exact ⟨ts, hp.ps.nox, hp.lo _ _ _ (hl ds M Pd PX h) Z _ _ H α (start_vs r) rs (ends_top rs.hr.len kt W0 _ fun _ _ _ _ _ _ _ _ _ _ _ _ h => h)⟩
end
/-! the names of a generator expression, decided -/
def genOkB (N : List Str) (sc scope : Scope) (own : List (Str × Nat)) : Bool :=
  decide (scope.kind = .function) && (decide (scope.isCoroutine = false) && (decide (scope.names.lookup (".0" : Str) = some NameKind.local) && (scope.names.all (fun y => decide (y.2 ≠ .cell)) && (scope.names.all (fun y => decide (scope.names.lookup y.1 = some y.2)) &&
    (own.all (fun p => decide (N[p.2]? = some p.1)) && (scope.names.all (fun y => decide (y.2 = .free → sc.names.lookup y.1 = some .cell ∨ sc.names.lookup y.1 = some .free)) && scope.names.all (fun y => decide (y.2 = .local → y.1 ∈ own.map (·.1) ∨ y.1 ∉ N))))))))
theorem genOk_by {N : List Str} {sc scope : Scope} {own : List (Str × Nat)} (h : genOkB N sc scope own = true) : GenOk N sc scope own := by
  unfold genOkB at h
  simp only [Bool.and_eq_true, List.all_eq_true, decide_eq_true_eq] at h
  obtain ⟨h1, h2, h3, h4, h5, h6, h7, h8⟩ := h
  exact ⟨h1, h2, h3, h4, h5, h6, h7, h8⟩
/-! the written part without some objects -/
def dropA (ts : List Addr) (K : PySem.W.Frag) : PySem.W.Frag := K.filter fun q => !ts.contains q.1
theorem drop_lookup {ts : List Addr} {a : Addr} (h : a ∉ ts) : ∀ K : PySem.W.Frag, (dropA ts K).lookup a = K.lookup a
  | [] => rfl
  | (b, o) :: r => by
    have ih := drop_lookup h r
    unfold dropA at ih ⊢
    by_cases e : a = b
    · subst e
      have hn : (!ts.contains a) = true := by simpa using h
      rw [List.filter_cons_of_pos (by simpa using h), List.lookup_cons, List.lookup_cons]
      simp
    · have hb : (a == b) = false := by simpa using e
      rw [List.lookup_cons, hb]
      by_cases hq : (!ts.contains b) = true
      · rw [List.filter_cons_of_pos (by simpa using hq), List.lookup_cons, hb]
        exact ih
      · rw [List.filter_cons_of_neg (by simpa using hq)]
        exact ih
theorem drop_none {ts : List Addr} {a : Addr} (h : a ∈ ts) : ∀ K : PySem.W.Frag, (dropA ts K).lookup a = none
  | [] => rfl
  | (b, o) :: r => by
    have ih := drop_none h r
    unfold dropA at ih ⊢
    by_cases hq : b ∈ ts
    · rw [List.filter_cons_of_neg (by simpa using hq)]
      exact ih
    · have hb : (a == b) = false := by
        rw [beq_eq_false_iff_ne]
        intro e
        exact hq (by rw [← e]; exact h)
      rw [List.filter_cons_of_pos (by simpa using hq), List.lookup_cons, hb]
      exact ih
theorem drop_in {ts : List Addr} {K : PySem.W.Frag} {h : Heap} (X : K.In h) : (dropA ts K).In h := fun a o e => by
  by_cases ha : a ∈ ts
  · rw [drop_none ha] at e; cases e
  · rw [drop_lookup ha] at e
    exact X a o e
section
variable {ts : List Addr} {K : PySem.W.Frag} (ht : ∀ P ∈ ts, K.lookup P = some { cls := .none, data := .fields #[] })
include ht
theorem drop_at {a : Addr} {o : Obj} (h : K.lookup a = some o) (ne : o ≠ { cls := .none, data := .fields #[] }) : (dropA ts K).lookup a = some o := by
  rw [drop_lookup fun z => ?_]
  · exact h
  · have := ht a z
    rw [h] at this
    exact ne (Option.some.inj this)
theorem drop_fn {a : Addr} {oc : Value} {od : Option Addr} {fd : FuncData} {sl : Array (Option Value)} (h : K.lookup a = some ⟨oc, od, .func fd, sl⟩) : (dropA ts K).lookup a = some ⟨oc, od, .func fd, sl⟩ := drop_at ht h fun z => by cases z
theorem drop_keep {a : Addr} {oc : Value} {od : Option Addr} {fd : FuncData} {sl : Array (Option Value)} (h : K.lookup a = some ⟨oc, od, .func fd, sl⟩) : PySem.W.keepIn (dropA ts K) (.ref a) = true := by
  unfold PySem.W.keepIn
  dsimp only
  rw [drop_fn ht h]
theorem drop_code {cd : Value} {q : Str} (h : PySem.W.codeIn K cd q = true) : PySem.W.codeIn (dropA ts K) cd q = true := by
  cases cd with
  | ref c =>
    unfold PySem.W.codeIn at h ⊢
    dsimp only at h ⊢
    cases e : K.lookup c with
    | none => rw [e] at h; cases h
    | some o =>
      rw [e] at h
      rw [drop_at ht e fun z => by subst z; cases h]
      exact h
  | _ => cases h
theorem drop_ns {a : Addr} {x : Str} {r : Option Value} (h : PySem.W.nsIn K a x = some r) : PySem.W.nsIn (dropA ts K) a x = some r := by
  unfold PySem.W.nsIn at h ⊢
  cases e : K.lookup a with
  | none => rw [e] at h; cases h
  | some o =>
    rw [e] at h
    rw [drop_at ht e fun z => by subst z; cases h]
    exact h
end
theorem start_lowT {K : PySem.W.Frag} {H : Hp} {T : Tb} {a : Addr} {ns : List Int} {lsp : LSp} (h : lsp [.dat (.lst (ns.map D.int))] [] (fun d _ => d = .bl true) fun _ _ => False) (hT : ∀ P ∈ T, H P = some (.tbl #[])) (hS : SqL K H a (ns.map V.int)) : low K T lsp [.ref a] H (fun v _ => v = .bl true) fun _ _ _ => False := by
  have q : ∀ (N : Addr → Prop) (ns : List Int), VDs K N H (ns.map V.int) (ns.map D.int) := fun N ns => by
    induction ns with
    | nil => exact .nil
    | cons n ns ih => exact .cons (.int n) ih
  have rs : RS ⟨K, T, []⟩ [] [] H := ⟨⟨rfl, fun n a o h1 h2 => (by simp at h1)⟩, .nil, fun P hP => ⟨#[], hT P hP, by constructor⟩, fun _ z => (by cases z), fun p hp ps h pos cv hc => by
    rw [hT p.1 (T.sub p hp)] at h
    cases h
    have hc : codeAmong pos [] = some cv := hc
    simp [codeAmong] at hc⟩
  have hl : SLi K (Cn.N ⟨K, T, []⟩ []) H a (ns.map V.int) := hS.imp (fun z => ⟨z, by
    rintro (y | y | y)
    · cases y
    · have e := hT a y
      rcases z with z | ⟨o, z⟩ <;> rw [e] at z <;> cases z
    · cases y⟩) id
  have vr : VRs ⟨K, T, []⟩ [] H [.ref a] [.dat (.lst (ns.map D.int))] := .cons (show VD K _ H (.ref a) (.lst (ns.map D.int)) from .lst hl (q _ ns)) .nil
  refine ⟨[], [], _, [], _, _, rs, vr, h, fun v H' α' d M' s r q p => ?_, fun _ _ _ _ _ _ _ _ _ z => z.elim⟩
  subst p
  cases q
  rfl
/-! steps -/
section
variable {g : LG} {te : LE} {vs : List Nat} {ρ : Rho} {M : Mem} {P : PD} {PX : PXn} {lw : LW} {st : Bool}
theorem s_aG (h : lw ρ M (fun items okM M1 => ∃ I : Nat → Mem → Prop, I 0 M1 ∧ (∀ i M, I i M → okM M) ∧
  (∀ i x M, items[i]? = some x → I i M → g x (wipeL ρ vs) M fun ρ2 M2 => te ρ2 M2 (fun y M3 => ∃ b, y = .bl b ∧ if b = st then P (.bl st) M3 else DropM M1.length (I (i + 1)) M3) noX) ∧
  ∀ M, I items.length M → P (.bl (!st)) M) PX) : lAG st lw g te vs ρ M P PX := h
/-- an element that draws nothing -/
theorem s_exany {items : List DV} {okM : Mem → Prop} {PT PF : Mem → Prop} (p : Nat → Bool) (hok : okM M) (he : ∀ i x, items[i]? = some x → ∀ R : PD, R (.bl (p i)) M → g x (wipeL ρ vs) M fun ρ2 M2 => te ρ2 M2 R noX)
    (h1 : (∃ i, i < items.length ∧ p i = st) → PT M) (h2 : (∀ i, i < items.length → p i ≠ st) → PF M) :
    ∃ I : Nat → Mem → Prop, I 0 M ∧ (∀ i M, I i M → okM M) ∧ (∀ i x M', items[i]? = some x → I i M' → g x (wipeL ρ vs) M' fun ρ2 M2 => te ρ2 M2 (fun y M3 => ∃ b, y = .bl b ∧ if b = st then PT M3 else DropM M.length (I (i + 1)) M3) noX) ∧
      ∀ M', I items.length M' → PF M' := by
  refine ⟨fun i M' => M' = M ∧ ∀ j, j < i → p j ≠ st, ⟨rfl, fun j hj => absurd hj (Nat.not_lt_zero _)⟩, fun i M' h => by rw [h.1]; exact hok, ?_, fun M' h => by rw [h.1]; exact h2 h.2⟩
  rintro i x M' hx ⟨rfl, hn⟩
  refine he i x hx _ ⟨p i, rfl, ?_⟩
  by_cases e : p i = st
  · rw [if_pos e]
    exact h1 ⟨i, (List.getElem?_eq_some_iff.mp hx).1, e⟩
  · rw [if_neg e]
    refine .inl ⟨rfl, fun j hj => ?_⟩
    rcases Nat.lt_succ_iff_lt_or_eq.mp hj with h | h
    · exact hn j h
    · rw [h]; exact e
end
/-! list(x), then changed -/
section
variable {C : Cn}
theorem vds_vrs {α : List Addr} {H : Hp} : ∀ {us : List V} {ds : List D}, VDs C.K (C.N α) H us ds → VRs C α H us (ds.map DV.dat)
  | _, _, .nil => .nil
  | _, _, .cons a b => .cons a (vds_vrs b)
theorem new_obj {Z : List Addr} {α : List Addr} {H : Hp} {M : Mem} {P : PD} {Q : VK} {us : List V} {ds : List D} (r : RS (C.wz Z) α M H) (k : Kt (C.wz Z) α H P Q) (hd : VDs C.K ((C.wz Z).N α) H us ds) (p : P (.obj M.length) (M ++ [.lst (ds.map DV.dat)])) : ∀ p, H p = none → Q (.ref p) (upd H p (.lst us)) := fun p0 hp => by
  have st : Step (C.wz Z) α H (α ++ [p0]) (upd H p0 (.lst us)) := ⟨⟨[p0], rfl, by simpa using hp⟩, fun b o h _ _ => by rw [upd_ne (ne_of_none h hp)]; exact h, fun b o h => ⟨o, by rw [upd_ne (ne_of_none h hp)]; exact h⟩⟩
  have q1 : VRs (C.wz Z) (α ++ [p0]) (upd H p0 (.lst us)) us (ds.map DV.dat) := vds_vrs (hd.mv st.mv)
  obtain ⟨r2, s2⟩ := r.newM (o := .lst us) (mo := .lst (ds.map DV.dat)) hp ⟨us, upd_same, q1⟩
  exact k _ _ _ (.obj M.length) _ s2 r2 ⟨p0, by rw [← r.hr.len]; simp, rfl⟩ p
def vLstM : List DV → Mem → PD → Prop := fun xs M P => ∃ ds : List D, (xs = [.dat (.lst ds)] ∨ xs = [.dat (.tup ds)]) ∧ P (.obj M.length) (M ++ [.lst (ds.map DV.dat)])
theorem ll_lstM : LoL C (fun xs H Q => ∃ p ys, xs = [.ref p] ∧ (SqL C.K H p ys ∨ SqT C.K H p ys) ∧ ∀ l, H l = none → Q (.ref l) (upd H l (.lst ys))) vLstM := fun xs M P ⟨ds, e, p⟩ Z α H vs Q r q k => by
  rcases e with rfl | rfl
  · obtain ⟨v, rfl, q0⟩ := one_inv q
    obtain ⟨a, ws, rfl, hs, hd⟩ := VD.lst_inv q0
    exact ⟨a, ws, rfl, .inl hs.sq, new_obj r k hd p⟩
  · obtain ⟨v, rfl, q0⟩ := one_inv q
    obtain ⟨a, ws, rfl, hs, hd⟩ := VD.tup_inv q0
    exact ⟨a, ws, rfl, .inr hs.sq, new_obj r k hd p⟩
theorem s_lstMT {ds : List D} {M : Mem} {P : PD} (h : P (.obj M.length) (M ++ [.lst (ds.map DV.dat)])) : vLstM [.dat (.tup ds)] M P := ⟨ds, .inr rfl, h⟩
theorem s_lstML {ds : List D} {M : Mem} {P : PD} (h : P (.obj M.length) (M ++ [.lst (ds.map DV.dat)])) : vLstM [.dat (.lst ds)] M P := ⟨ds, .inl rfl, h⟩
theorem s_lstT {ds : List D} {M : Mem} {P : PD} (h : P (.dat (.lst ds)) M) : vLst [.dat (.tup ds)] M P := ⟨_, rfl, .inr (.inl ⟨ds, rfl, h⟩)⟩
theorem s_lstL {ds : List D} {M : Mem} {P : PD} (h : P (.dat (.lst ds)) M) : vLst [.dat (.lst ds)] M P := ⟨_, rfl, .inl ⟨ds, rfl, h⟩⟩
end
end L3

namespace L3
open PySem L2 PySem.Spec PyProof.Rows NdefX
/-! super().__init__(e, ..) within the __init__ of an own exception class over ValueError -/
section
variable {prog : Program} {w : World} {A : Around} {E : Value → Shared → Prop} {h : Heap} {g : Array GenState} {d : Drawn} {t : Nat} {os : OsState}
variable {nm q : Str} {C N : Addr} {bs bm : List Value} {hdct : Bool} {sn : List Str} {sub : List Value} {ab : Bool} {col : Option Bool} {dd : Option Addr} {k0 k1 k2 k3 k5 : Option Value}
theorem call_mwVE {u e t0 : Addr} {rest : List Value} {Q : Value → Shared → Prop}
    (hC : h.get? C = some (excClassObj nm q C N bs bm hdct sn sub ab col dd k0 k1 k2 k3 k5 "ValueError.__new__")) (he : h.get? e = some (HandSPX.excO C t0)) (hu : h.get? u = some (PySem.W.kxs_mw "ValueError.__init__" e)) (hrest : rest.length ≤ sizeLine)
    (hq : ∀ h' t1, (∀ b o, b ≠ e → h.get? b = some o → h'.get? b = some o) → h'.get? e = some (HandSPX.excO C t1) → Q .none ⟨h', g, d, t, os⟩) :
    wpAny (model prog w) A (call (.ref u) rest) Q E ⟨h, g, d, t, os⟩ := by
  refine wpAny_call (codeAny_of_tree ?_)
  show wpAny _ A.in1 (callAny (.ref u) ⟨rest, []⟩) _ _ _
  simp only [callAny]
  refine wpAny_bind (wpAny_load hu ?_)
  simp only [PySem.W.kxs_mw, show (Value.type "method-wrapper" == Value.type "method" || Value.type "method-wrapper" == Value.type "builtin_function_or_method" || Value.type "method-wrapper" == Value.type "method-wrapper") = true by decide, if_true]
  refine W.KFB.if_so (by decide) ?_
  refine wpAny_bind (ESX.check_bound F.excBase_ValueError hC he rfl ?_)
  refine wpAny_bind (wpAny_pure (wpAny_pure ?_))
  refine ⟨Code.quiet_builtin _ (by decide +kernel), codeAny_builtin F.excBase_ValueError.initEntry ?_⟩
  rw [Around.under_plainId F.excBase_ValueError.init.plain _]
  wp_walk
  refine hq _ h.objs.size (fun b o hb ho => ?_) ?_
  · rw [Heap.get?_update_other _ _ (Ne.symm hb)]
    exact Heap.get?_push_of_some _ ho
  · rw [Heap.get?_update_self _ (Heap.get?_push_of_some _ he) rfl]
    rfl
end
section
variable {X : Cx} {pins : List (Addr × Obj)} {σ : L2.St} {H : Hp} {s : Shared} {a C u : Addr}
theorem omw_ok {us : List Value} {Q : Value → Shared → Prop} (T : OexC X.K C) (I : Inv X pins σ H s) (hm : (u, PySem.W.kxs_mw "ValueError.__init__" a) ∈ pins) (e : H a = some (exo a C none)) (hl : us.length ≤ sizeLine) (h : ∀ s', Inv X pins σ H s' → Q .none s') {E : Value → Shared → Prop} :
    wpAny (model X.prog X.w) X.A (call (.ref u) us) Q E s := by
  obtain ⟨nm, q, N, bs, bm, sn, sub, ab, col, dd, k0, k1, k2, k3, k5, hC, hbm⟩ := T.cls
  obtain ⟨t1, ho⟩ := exo_at I.hok e
  have hu := (I.pin _ (List.mem_append_right _ hm)).1
  obtain ⟨hp, g, d, t, os⟩ := s
  refine call_mwVE (I.kIn _ _ hC) ho hu hl fun h' t2 k hx => ?_
  have J := I.write (t' := t) (x := a) (e := a) (o := exo a C none) (by rw [e]; exact True.intro) (.inl rfl) k ⟨_, hx⟩ (exo_ok hx)
  have eu : upd H a (exo a C none) = H := by
    funext b
    by_cases hb : b = a
    · rw [hb, upd_same, e]
    · rw [upd_ne hb]
  rw [eu] at J
  exact h _ J
end
/-- what the written part says of the class, for super().__init__ -/
structure SupC (P : Program) (K : PySem.W.Frag) (C cc c : Addr) : Prop where
  sup : PySem.W.ks_superIn K C C "__init__" = some (some (.builtin "ValueError.__init__"))
  opq : PySem.W.nsIn K cStatics "thirdparty.any" = some none
  ve : PySem.W.subIn K (.ref C) (.type "ValueError") = some true
  self : PySem.W.mroIn K C (.ref C) = some true
  cell : ∃ (cl : Value) (cld : Option Addr) (csl : Array (Option Value)), K.lookup cc = some ⟨cl, cld, .cell (some (.ref C)), csl⟩
  cls : ∃ cd, PySem.W.clsIn K C = some cd
  code : ∃ (ccl : Value) (cdd : Option Addr) (vs : Array Value) (ccs : Array (Option Value)) (file : Str) (tf : Tok), K.lookup c = some ⟨ccl, cdd, .fields vs, ccs⟩ ∧ vs[2]? = some (.str file tf) ∧ ((P.main.file : Str) == file) = true
  top : (P.main.scope.names.lookup ("super" : Str)).isSome = false
section
variable {CX : CXT} {P : Program} {w : World} {K : PySem.W.Frag} {mg : Str → Option Value} {base : Heap} {N ps : List Str} {F : NF} {f cc C : Addr} {k : Nat} {sp : Sp} {dV kV doc pm ct oc : Value} {an od : Option Addr} {osl : Array (Option Value)} {ar : Arg} {self : Str} {rest : List Stmt} {e : Expr} {es : List Expr} {p0 p1 p2 p3 p4 : Pos}
theorem fn_super (lk : K.lookup f = some ⟨oc, od, .func (PySem.W.fnX F.name F.qual F.params F.body F.scope F.cl dV kV doc pm an (.ref F.c) ct), osl⟩) (hcd : PySem.W.codeIn K (.ref F.c) F.qual = true) (S : NScope N (self :: ps) ["__class__"] F.scope)
    (hcl : F.cl = [(("__class__" : Str), cc)]) (SC : SupC P K C cc F.c) (hp : (F.params.posonlyargs ++ F.params.args).head? = some ar) (har : ar.arg = self) (hks : F.scope.names.lookup ("super" : Str) = some .globalImplicit) (hsup : mg "super" = none)
    (T : OexC K C) (hbd : F.body = .Expr (.Call (.Attribute (.Call (.Name "super" p0) [] [] p1) "__init__" p2) (e :: es) [] p3) p4 :: rest) (len : ∀ vs H Q E, sp vs H Q E → vs.length = (self :: ps).length)
    (hbody : ∀ (A : Around) (outer : List Env) (s : Shared) (H : Hp) (vs : List V) (Q : VK) (E : XK), Room k (A.deeper (envF F f s.heap.objs.size)) → sp vs H Q E →
      ∃ ta t a vt, vs = .ref a :: vt ∧ H a = some (exo a C none) ∧ PA (ncx CX P w K mg base N F f A outer s H E) (e :: es) ta ∧ PSs (ncx CX P w K mg base N F f A outer s H E) rest t ∧
        ta (startF N vs [none]) H fun us H1 => us.length ≤ 1000 ∧ H1 a = some (exo a C none) ∧ t { nx := fun _ H' => Q .non H', rt := Q } (startF N vs [none]) H1)
    {pl : Env → Sem Bool} (hev : ∀ env : Env, eval (.Call (.Attribute (.Call (.Name "super" p0) [] [] p1) "__init__" p2) (e :: es) [] p3) env = (do
      let ov ← attributeBase (.Call (.Name "super" p0) [] [] p1) "__init__" env (eval (.Call (.Name "super" p0) [] [] p1) env)
      standAt p2.atName
      let (f, first) ← holding [ov] (getMethod ov "__init__" (pl env))
      callWith p3 f first (backTo p3 (starEach (e :: es) env)) []))
    (hi : ∀ (A : Around) (outer : List Env) (s : Shared), interactive (envF F f s.heap.objs.size) = false) (hsw : ∀ (A : Around) (s : Shared), swapsWith (.Call (.Attribute (.Call (.Name "super" p0) [] [] p1) "__init__" p2) (e :: es) [] p3) none p4.line (envF F f s.heap.objs.size) = pure false)
    (hse : ∀ env : Env, starEach (e :: es) env = (false, eval e env) :: starEach es env) (hpl : ∀ env : Env, (backTo p3 (starEach es env)).any (·.1) = false) :
    FnOk P w K mg base CX (k + 1) f (PySem.W.fnX F.name F.qual F.params F.body F.scope F.cl dV kV doc pm an (.ref F.c) ct) (self :: ps) sp := by
  refine ⟨len, fun A outer s H args us vs Q E hr e0 hb r hsp => ?_⟩
  have KX : K.In s.heap := e0.mod.kin.keeps fun b o e => (e0.bs b o e).1
  have hl := len _ _ _ _ hsp
  have lim : s.heap.NoLimit := e0.mod.nolimit.keeps fun b o e => (e0.bs b o e).1
  refine codeAny_call_function hr.depth (KX _ _ lk) rfl S.co S.gen rfl (PySem.W.codeRec_of KX hcd) (hb _ _ _ _ ?_)
  refine wpAny_newFunctionEnv S.nocell (fun ⟨n, _⟩ hy => S.par n (List.of_mem_zip hy).1) (fun h₁ hns hsb => ⟨lim.fresh _ hsb, ?_⟩) S.kind
  show codeAny _ _ (.func F.body (envF F f s.heap.objs.size)) _ _
  refine ks_codeAny_funcAt ?_
  have kp : ∀ b o, s.heap.get? b = some o → h₁.get? b = some o := fun b o e => hsb.extBut b o (Nat.ne_of_lt (Heap.lt_size e)) (Heap.get?_push_of_some _ e)
  obtain ⟨ta, t, a, vt, ev, ea, hpa, hps, hq⟩ := hbody A outer s H vs Q E (hr.deeper _) hsp
  obtain ⟨cl, cld, csl, hcell⟩ := SC.cell
  obtain ⟨cdC, hcdC⟩ := SC.cls
  obtain ⟨ccl, cdd, cvs, ccs, file, tf, hco, hvs, hfile⟩ := SC.code
  have cells : CellsAt F.cl ["__class__"] [none] s.heap H := by
    rw [hcl]
    have hcc : base.get? cc = some ⟨cl, cld, .cell (some (.ref C)), csl⟩ := e0.mod.kin _ _ hcell
    have one : ∀ y c, ([("__class__", cc)] : List (Str × Addr)).lookup y = some c → y = "__class__" ∧ c = cc := fun y c z => by
      rw [List.lookup_cons] at z
      split at z
      · rename_i h1
        exact ⟨by simpa using h1, (Option.some.inj z).symm⟩
      · cases z
    refine ⟨rfl, fun y c z => ?_, fun x y c z1 z2 => by rw [(one x c z1).1, (one y c z2).1], fun i y z => ?_⟩
    · obtain ⟨_, rfl⟩ := one y c z
      exact ⟨(e0.bs _ _ hcc).2, _, _, (e0.bs _ _ hcc).1, rfl⟩
    · cases i with
      | zero =>
        cases z
        exact ⟨cc, by rw [List.lookup_cons_self], fun v z => by simp at z⟩
      | succ i => simp at z
  have I : Inv (ncx CX P w K mg base N F f A outer s H E) [] (startF N vs [none]) H { s with heap := h₁, toks := s.toks + ((self :: ps).zip us).length } := inv_startN S hr.hd e0 hl r cells hns kp
  obtain ⟨t0, hea⟩ := exo_at I.hok ea
  have hself : h₁.Ns s.heap.objs.size fun y => ((self :: ps).zip us).reverse.lookup y := hns
  have fin : ∀ {σ' : L2.St} {H' : Hp} {v : V} {u : Value} {s' : Shared}, Inv (ncx CX P w K mg base N F f A outer s H E) [] σ' H' s' → L2.RelV v u → Q v H' → CE outer P w H s Q u s' :=
    fun {σ' H' v u s'} J rv q => ⟨v, H', J.os, J.bare, J.base, J.hok, rv, q⟩
  rw [hbd]
  have hC : h₁.get? C = some _ := kp _ _ (KX _ _ T.cls.choose_spec.choose_spec.choose_spec.choose_spec.choose_spec.choose_spec.choose_spec.choose_spec.choose_spec.choose_spec.choose_spec.choose_spec.choose_spec.choose_spec.choose_spec.1)
  have hCc : ∃ oD, h₁.get? C = some oD ∧ oD.data = .cls cdC := by
    have z := hcdC
    unfold PySem.W.clsIn at z
    split at z
    · rename_i c d cd' sl ho
      cases z
      exact ⟨_, kp _ _ (KX _ _ ho), rfl⟩
    · cases z
  obtain ⟨oD, hD1, hD2⟩ := hCc
  have X1 : K.In h₁ := KX.keeps kp
  refine ks_wpAt_execs_cons (ks_wpAt_Expr_any (ks_wpAt_MethodCall (pl := pl _) ?_ (hev _)) (hi A outer s) (hsw A s))
  refine ks_wpAt_super_base (env := envF F f s.heap.objs.size) hks (S.frk _ (by simp)) (by decide) rfl (kp _ _ (KX _ _ lk)) rfl hp rfl (kp _ _ (KX _ _ hco)) rfl hvs hfile SC.top ?_
  obtain ⟨mb, hb1, hb2⟩ := e0.mod.blt
  have bk : ∀ b o, base.get? b = some o → h₁.get? b = some o := fun b o z => kp _ _ (e0.bs b o z).1
  refine PySem.W.ks_loadName_global S.kind hks (Calls.loadGlobal_builtin (env := envF F f s.heap.objs.size) (e0.mod.glob.keeps bk) hsup (hb1.keeps bk) ((hb2 _ (by decide +kernel)).trans (by kernel_rfl : bootBuiltins "super" = some (.type "super"))) ⟨rfl, ?_⟩)
  refine wpAny_loadName_free S.kind (S.frk _ (by simp)) (by show F.cl.lookup _ = _; rw [hcl]; rfl) ⟨_, kp _ _ (KX _ _ hcell), rfl⟩ ?_
  have hself1 : ((self :: ps).zip us).reverse.lookup ar.arg = some (.ref a) := by
    subst ev
    cases r with
    | @cons _ u0 _ ur ra rw' =>
      obtain rfl : u0 = Value.ref a := ra
      rw [har]
      have nd : (self :: ps).Nodup := by
        have z := S.nd.sublist (List.take_sublist ((self :: ps).length + 1) N)
        rw [show N.take ((self :: ps).length + 1) = _ from S.pre] at z
        exact (List.nodup_append.mp z).1
      exact zip_look (i := 0) nd rfl rfl
  refine wpAny_loadName_local S.kind (by rw [har]; exact S.par _ (by simp)) hns hself1 ?_
  refine ks_wpAny_isType_cls hD1 hD2 ⟨rfl, ?_⟩
  refine ks_wpAny_call_super hD1 hD2 hea rfl (fun c z => by cases z) (PySem.W.looks_mroIn X1 SC.self) (fun h2 ho2 k2 => ?_)
  have xC : a ≠ C := fun z => by
    rw [z, hD1] at hea
    cases hea
    cases hD2
  have X2 : K.In h2 := X1.keeps k2
  have hI : PySem.W.Looks (model P w) h2 (isInstance (.ref a) (.type "ValueError")) true := by
    have L1 : PySem.W.Looks (model P w) h2 (typeOf (.ref a)) (.ref C) := fun A Q E s k q => wpAny_typeOf_ref (k _ _ (k2 _ _ hea)) q
    exact L1.andThen (PySem.W.looks_subIn X2 SC.ve)
  have hsu := SC.sup
  unfold PySem.W.ks_superIn at hsu
  rw [hcdC] at hsu
  refine PySem.W.kxs_getMethod PySem.W.kxs_ValueError ho2 (PySem.W.looks_opaque X2 SC.opq) (l₀ := cdC.mro) (fun A Q E s k q => wpAny_bind ((PySem.W.looks_clsIn X2 hcdC) A _ E s k (wpAny_pure q))) rfl X2 hsu hI xC (by decide) ?_
  have k3 : ∀ b o, h₁.get? b = some o → (h2.push (PySem.W.kxs_mw "ValueError.__init__" a)).get? b = some o := fun b o z => Heap.get?_push_of_some _ (k2 _ _ z)
  have I3 := I.kept (h' := h2.push (PySem.W.kxs_mw "ValueError.__init__" a)) (t' := s.toks + ((self :: ps).zip us).length + 1) k3
  have hu : (h2.push (PySem.W.kxs_mw "ValueError.__init__" a)).get? h2.objs.size = some (PySem.W.kxs_mw "ValueError.__init__" a) := Heap.get?_push_size _ rfl
  have sz : h₁.objs.size ≤ h2.objs.size := Nat.le_of_lt (Heap.lt_size ho2)
  have I4 : Inv (ncx CX P w K mg base N F f A outer s H E) [(h2.objs.size, PySem.W.kxs_mw "ValueError.__init__" a)] (startF N vs [none]) H _ := Inv.pins_of I3 fun p hp => by
    obtain rfl : p = _ := by simpa using hp
    refine ⟨hu, I.hok.fresh sz, ?_, ?_, fun v z => by cases z⟩
    · exact fun z => absurd (Nat.lt_of_lt_of_le I.lt sz) (by show ¬ s.heap.objs.size < h2.objs.size; rw [show h2.objs.size = s.heap.objs.size from z]; exact Nat.lt_irrefl _)
    · exact I.nofs sz
  have hpl' : ((starEach (e :: es) (envF F f s.heap.objs.size) |> backTo p3).any (·.1)) = false := by
    rw [hse]
    show (false || (backTo p3 (starEach es (envF F f s.heap.objs.size))).any (·.1)) = false
    rw [hpl]
    rfl
  refine PySem.W.kxs_callWith (i := "ValueError.__init__") (x := a) hpl' ?_
  have hrun := hpa.run p3 _ _ _ _ _ I4 hq
  rw [show (ncx CX P w K mg base N F f A outer s H E).env = envF F f s.heap.objs.size from rfl, hse] at hrun
  rw [hse]
  refine Calls.evalArgs_plain (wpAny_mono hrun (fun us s4 ⟨vs', H4, I5, r5, hl5, ea5, q5⟩ => ⟨?_, ?_⟩) fun _ _ z => z)
  · exact (I5.pin (h2.objs.size, PySem.W.kxs_mw "ValueError.__init__" a) (List.mem_append_right _ (by simp))).1
  · refine omw_ok T I5 (by simp) ea5 (by show us.length ≤ sizeLine; rw [← Paired.length r5, sizeLine_eq]; omega) fun s5 I6 => ?_
    refine wpAt_of_wpAny (wpAny_mono (hps.run _ s5 _ H4 _ I6 q5) (fun fl s' hs => ?_) fun _ _ z => z)
    cases fl with
    | ret u =>
      obtain ⟨v, σ', H', J, rv, q⟩ := hs
      exact fin (J.pins_of (pins' := []) (fun p hp => absurd hp (by simp))) rv q
    | next =>
      obtain ⟨σ', H', J, q⟩ := hs
      exact fin (v := V.non) (u := Value.none) (J.pins_of (pins' := []) (fun p hp => absurd hp (by simp))) rfl q
    | brk =>
      obtain ⟨_, _, _, q⟩ := hs
      exact False.elim q
    | cont =>
      obtain ⟨_, _, _, q⟩ := hs
      exact False.elim q
end
end L3

namespace L3
open PySem L2 PySem.Spec PyProof.Rows NdefX
/-! an own exception with fields: its __init__, kept as a promise -/
/-- self.f1 = y1; ..: the dict at the end, the last field first -/
def spI (C : Addr) (fs : List Str) : Sp := fun vs H Q _ => ∃ (a : Addr) (ys : List V), vs = .ref a :: ys ∧ ys.length = fs.length ∧ H a = some (exo a C none) ∧
  ∀ (dx : Addr) (H2 : Hp), H dx = none → dx ≠ a → H2 = upd (upd H dx (exd dx (fs.zip ys).reverse)) a (exo a C (some dx)) → Q .non H2
/-- raise C(e, ..) -/
def lRaise (Cl : Addr) (fs : List Str) (la : LA) : LS := fun L ρ M => la ρ M (fun ds M1 => ∃ es : List D, ds = es.map DV.dat ∧ es.length = fs.length ∧ es.length ≤ 900 ∧ L.ex ⟨Cl, (fs.zip es).reverse⟩ ρ M1) (L.px ρ)
section
variable {C : Cn} {W : WX} {ta : TA} {la : LA} {Cl : Addr} {fs : List Str}
theorem zip_paired {K : PySem.W.Frag} {N : Addr → Prop} {H : Hp} : ∀ {fs : List Str} {ys : List V} {es : List D}, VDs K N H ys es → Paired (fun (p : Str × V) (q : Str × D) => p.1 = q.1 ∧ VD K N H p.2 q.2) (fs.zip ys) (fs.zip es)
  | [], _, _, _ => .nil
  | _ :: _, _, _, .nil => .nil
  | _ :: _, _, _, .cons a b => .cons ⟨rfl, a⟩ (zip_paired b)
theorem paired_app {α β : Type} {R : α → β → Prop} : ∀ {xs xs' : List α} {ys ys' : List β}, Paired R xs ys → Paired R xs' ys' → Paired R (xs ++ xs') (ys ++ ys')
  | _, _, _, _, .nil, h => h
  | _, _, _, _, .cons a b, h => .cons a (paired_app b h)
theorem paired_rev {α β : Type} {R : α → β → Prop} : ∀ {xs : List α} {ys : List β}, Paired R xs ys → Paired R xs.reverse ys.reverse
  | _, _, .nil => .nil
  | _, _, .cons a b => by
    rw [List.reverse_cons, List.reverse_cons]
    exact paired_app (paired_rev b) (.cons a .nil)
theorem lo_raise (ha : LoA C W ta la) : LoS C W (fun _ σ H => tMkO Cl (spI Cl fs) [] ta σ H fun cls d H' => W cls d σ H') (lRaise Cl fs la) := fun L ρ M h Z D σ H α vs r d =>
  ha.bind h vs r (d.wk vs) fun us H1 α1 ds M1 s1 r1 q1 h1 vs1 wk1 => by
    obtain ⟨es, rfl, hl, h9, p⟩ := h1
    have qd := VRs.data q1
    refine ⟨by rw [qd.length]; omega, fun a na => ⟨a, us, by rw [List.append_nil], by rw [qd.length]; exact hl, upd_same, fun dx H2 hdx ne e2 => ?_⟩⟩
    subst e2
    have nd1 : H1 dx = none := by rw [upd_ne ne] at hdx; exact hdx
    refine ⟨rfl, dx, (fs.zip us).reverse, upd_same, by rw [upd_ne ne, upd_same], nd1, ?_⟩
    have eH : upd (L2.del (upd (upd (upd H1 a (exo a Cl none)) dx (exd dx (fs.zip us).reverse)) a (exo a Cl (some dx))) a) dx (.xd (fs.zip us).reverse) = upd H1 dx (.xd (fs.zip us).reverse) := by
      funext b
      by_cases hb : b = dx
      · subst hb; rw [upd_same, upd_same]
      · rw [upd_ne hb, upd_ne hb]
        by_cases hba : b = a
        · subst hba; rw [L2.del_same]; exact na.symm
        · rw [L2.del_ne hba, upd_ne hba, upd_ne hb, upd_ne hba]
    rw [eH]
    obtain ⟨r2, s2⟩ := r1.new1 (o := .xd (fs.zip us).reverse) nd1
    refine d.ex _ _ σ _ α1 ρ M1 ⟨Cl, (fs.zip es).reverse⟩ (s1.trans s2) (vs1.step s2) r2 ⟨rfl, .inr ⟨dx, _, rfl, upd_same, r1.fresh nd1, ?_⟩⟩ p
    exact paired_rev (zip_paired (qd.mv s2.mv))
end
theorem Vals.nil_of {ds : List Value} : Vals ([] : List V) ([] : List Value) := .nil
/-- what a class of own exceptions with fields must have, to be made -/
structure OexM (X : Cx) (Cl fI : Addr) (fd : FuncData) (ps : List Str) (fs : List Str) (k : Nat) : Prop where
  T : OexC X.K Cl
  iC : PySem.W.findIn X.K (.ref Cl) "__init__" = some (some (.ref fI))
  tI : PySem.W.typeIn X.K (.ref fI) = some (.type "function")
  F : FnOk X.prog X.w X.K X.mg X.base CX0 k fI fd ps (spI Cl fs)
  B : Binds X.K fd ps []
section
variable {X : Cx} {C : Cn} {W : WX} {ta : TA} {la : LA} {Cl fI : Addr} {fd : FuncData} {ps fs : List Str} {k : Nat} {x : Str} {e : Expr} {es : List Expr} {p pos pos2 : Pos}
theorem lps_raise (hc : X.calm = true) (tk : Takes X W) (M : OexM X Cl fI fd ps fs k) (hr : Room (k + 1) X.A) (hg : Gl X x) (hm : X.mg x = some (.ref Cl)) (ha : LPA X C W (e :: es) ta la)
    (hdb : (x == ("__debug__" : Str)) = false := by decide) (he : starEach (e :: es) X.env = (false, eval e X.env) :: starEach es X.env := by rfl) (hpl : (backTo pos (starEach es X.env)).any (·.1) = false := by rfl) :
    LPS X C W (.Raise (some (.Call (.Name x p) (e :: es) [] pos)) none pos2) (fun _ σ H => tMkO Cl (spI Cl fs) [] ta σ H fun cls d H' => W cls d σ H') (lRaise Cl fs la) :=
  ⟨ps_raise hc tk (pmk_oex M.T M.iC M.tI M.F hr M.B .nil pass0 hg hm ha.pa hdb he hpl), lo_raise ha.lo⟩
end
/-! raise C() of an own class without fields -/
section
variable {X : Cx} {C : Cn} {W : WX} {Cl : Addr} {bmB : List Value} {B newId initId : String} {x : Str} {p pos pos2 : Pos}
theorem pmk_bare (F : ExcBaseFacts B newId initId bmB) (q : PySem.W.excIn X.K Cl bmB newId = true) (gC : X.mg x = some (.ref Cl)) (kC : PySem.W.keepIn X.K (.ref Cl) = true) (r : Raises X (.ref Cl)) (hg : Gl X x)
    (hdb : (x == ("__debug__" : Str)) = false := by decide) : PMk X (.Call (.Name x p) [] [] pos) (fun _ H Q => Q (.ref Cl) none H) := fun pins s σ H Q I h => by
  refine wpAny_Call_Name_kw (ld_glob I hg gC ?_ hdb)
  refine PySem.W.callWith_K0 I.kIn kC ?_
  obtain ⟨bm, N, nm, qn, bs, hdct, sn, sub, ab, col, dd, k0, k1, k2, k3, k5, mN, hC, hN, hni, T⟩ := exc_obj I.kIn q
  exact wpAny_call_exc_subT F T hC hN hni (fun h' e hm => mk_of I hm r h (I.hok.gone hm.new)) (by show 0 ≤ sizeLine; omega)
def lRaise0 (Cl : Addr) : LS := fun L ρ M => L.ex ⟨Cl, []⟩ ρ M
theorem lps_raise0 (hc : X.calm = true) (tk : Takes X W) (F : ExcBaseFacts B newId initId bmB) (q : PySem.W.excIn X.K Cl bmB newId = true) (gC : X.mg x = some (.ref Cl)) (kC : PySem.W.keepIn X.K (.ref Cl) = true) (r : Raises X (.ref Cl)) (hg : Gl X x)
    (hdb : (x == ("__debug__" : Str)) = false := by decide) : LPS X C W (.Raise (some (.Call (.Name x p) [] [] pos)) none pos2) (fun _ σ H => W (.ref Cl) none σ H) (lRaise0 Cl) :=
  ⟨ps_raise (t := fun _ H Q => Q (.ref Cl) none H) hc tk (pmk_bare F q gC kC r hg hdb), fun L ρ M h Z D σ H α vs r d => d.ex _ _ σ H α ρ M ⟨Cl, []⟩ Step.refl vs r ⟨rfl, .inl ⟨rfl, rfl⟩⟩ h⟩
end
end L3

namespace L3
open PySem L2 PySem.Spec PyProof.Rows NdefX
/-! try: body / except X as n: suite -/
/-- the slot's value: the caught exception -/
def excD (a : Addr) (x : LX) (d : Option Addr) : DV := .dat (.exc a x.cls d (x.fs.map (·.1)) (x.fs.map (·.2)))
def lTryAs (tab : List (Addr × Bool)) (i : Nat) (lb : LS) (ls : Addr → Value → Option Addr → LS) : LS := fun L ρ M => lb { L with ex := fun x ρ' M' => ∃ b, (x.cls, b) ∈ tab ∧
  (b = true → ∀ a d, ls a (.ref x.cls) d { nx := fun ρ2 M2 => L.nx (ρ2.set i none) M2, rt := L.rt, bk := fun ρ2 M2 => L.bk (ρ2.set i none) M2, ct := fun ρ2 M2 => L.ct (ρ2.set i none) M2 } (ρ'.set i (some (excD a x d))) M') ∧
  (b = false → L.ex x ρ' M') } ρ M
theorem VS.clr {C : Cn} {α : List Addr} {H : Hp} {σ : L2.St} {ρ : Rho} (vs : VS C α H σ ρ) (i : Nat) : VS C α H (σ.set i none) (ρ.set i none) := by
  refine ⟨by rw [List.length_set, List.length_set]; exact vs.len, fun j d h => ?_⟩
  by_cases e : j = i
  · subst e
    by_cases hl : j < ρ.length
    · rw [List.getElem?_set_self hl] at h; cases h
    · rw [List.getElem?_eq_none (by rw [List.length_set]; omega)] at h; cases h
  · rw [List.getElem?_set_ne (Ne.symm e)] at h
    rw [List.getElem?_set_ne (Ne.symm e)]
    exact vs.get j d h
theorem paired_vds {K : PySem.W.Frag} {N : Addr → Prop} {H : Hp} : ∀ {ps : List (Str × V)} {fs : List (Str × D)}, Paired (fun (p : Str × V) (q : Str × D) => p.1 = q.1 ∧ VD K N H p.2 q.2) ps fs →
    ps = (fs.map (·.1)).zip (ps.map (·.2)) ∧ (fs.map (·.1)).length = (ps.map (·.2)).length ∧ VDs K N H (ps.map (·.2)) (fs.map (·.2))
  | [], [], .nil => ⟨rfl, rfl, .nil⟩
  | (n, v) :: ps, (m, d) :: fs, .cons ⟨e, q⟩ t => by
    obtain ⟨h1, h2, h3⟩ := paired_vds t
    have e' : n = m := e
    subst e'
    refine ⟨?_, ?_, .cons q h3⟩
    · show (n, v) :: ps = (n, v) :: (fs.map (·.1)).zip (ps.map (·.2))
      rw [← h1]
    · show (fs.map (·.1)).length + 1 = (ps.map (·.2)).length + 1
      rw [h2]
theorem XR.val {C : Cn} {α : List Addr} {H : Hp} {cls : Value} {d : Option Addr} {x : LX} (r : XR C α H cls d x) (a : Addr) : VR C α H (.ref a) (excD a x d) := by
  obtain ⟨_, ⟨h1, h2⟩ | ⟨dd, ps, h1, h2, h3, h4⟩⟩ := r
  · subst h2
    show VD C.K (C.N α) H (.ref a) (.exc a x.cls none (x.fs.map (·.1)) (x.fs.map (·.2)))
    rw [h1]
    exact .exc0 a x.cls
  · subst h1
    obtain ⟨e1, e2, e3⟩ := paired_vds h4
    exact .excD h2 h3 e1 e2 e3
section
variable {X : Cx} {C : Cn} {Wout : WX} {x n : Str} {Cl : Addr} {i : Nat} {body suite : List Stmt} {b₀ : Stmt} {np pos pos' : Pos} {tb : WX → TS} {ts : Addr → Value → Option Addr → TS} {lb : LS} {ls : Addr → Value → Option Addr → LS} {tab : List (Addr × Bool)}
theorem takes_noOk {X : Cx} {W : WX} (h : ¬ X.Ok) : Takes X W := fun _ _ ⟨_, _, _, _, _, _, _, _, _, I, _⟩ => absurd I.ok h
theorem lps_tryAs (hs : X.stack = X.env :: X.outer) (hf : X.env.frame = some X.env.locals) (hN : X.N.Nodup) (hi : X.N[i]? = some n) (hln : X.env.kindOf n = some .local) (hc : Names X x (.ref Cl)) (tk : Takes X Wout) (hK : X.K = C.K)
    (htab : ∀ p ∈ tab, PySem.W.exmOne X.K (.ref p.1) (.ref Cl) = some p.2)
    (hb : ∀ (W : WX) (pn : List (Addr × Obj)) (xe : Value → Shared → Prop) (ex : List Addr), Takes { X with pn := pn, xe := xe, ex := ex } W → PassesOwn (model X.prog X.w) X.A X.env xe → LPSs { X with pn := pn, xe := xe, ex := ex } C W body (tb W) lb)
    (hsu : ∀ (a : Addr) (oe : Obj) (cls : Value) (d : Option Addr) (pn : List (Addr × Obj)), Zc cls d oe → (∃ vs, oe.data = .fields vs) → LPSs (X.suite a ((a, oe) :: pn)) C W0 (b₀ :: suite) (ts a cls d) (ls a cls d)) :
    LPS X C Wout (.Try body [.ExceptHandler (some (.Name x np)) (some n) (b₀ :: suite) pos'] [] [] pos) (fun D σ H => tb (wAs X.K (.ref Cl) i ts Wout D) D σ H) (lTryAs tab i lb ls) := by
  refine ⟨ps_try_as hs hf hN hi hln hc tk (fun W pn xe t p => (hb W pn xe X.ex t p).ps) (fun a oe cls d pn z f => (hsu a oe cls d pn z f).ps), fun L ρ M h Z D σ H α vs r d => ?_⟩
  have q := (hb (wAs X.K (.ref Cl) i ts Wout D) [] (fun _ _ => False) [X.env.locals] (takes_noOk fun ok => (ok.exf _ (List.mem_singleton.mpr rfl)).1 rfl) PassesOwn.never).lo
  refine q _ ρ M h Z D σ H α vs r ⟨d.nx, d.rt, d.bk, d.ct, fun cls dd σ1 H1 α1 ρ1 M1 y s1 vs1 r1 q1 g => ?_⟩
  obtain ⟨b, hm, hy, hn⟩ := g
  have ec := q1.1
  subst ec
  refine ⟨b, htab _ hm, fun e a na => ?_, fun e => d.ex _ _ σ1 H1 α1 ρ1 M1 y s1 vs1 r1 q1 (hn e)⟩
  refine (hsu a { cls := .ref y.cls, dict := dd, data := .fields #[] } _ dd [] ⟨rfl, rfl⟩ ⟨_, rfl⟩).lo _ _ M1 (hy e a dd) Z _ _ H1 α1 (vs1.set i (q1.val a)) r1 ⟨fun σ2 H2 α2 ρ2 M2 s2 vs2 r2 p2 => d.nx _ H2 α2 _ M2 (s1.trans s2) (vs2.clr i) r2 p2, fun v H2 α2 z M2 s2 r2 q2 p2 => d.rt v H2 α2 z M2 (s1.trans s2) r2 q2 p2,
    fun σ2 H2 α2 ρ2 M2 s2 vs2 r2 p2 => d.bk _ H2 α2 _ M2 (s1.trans s2) (vs2.clr i) r2 p2, fun σ2 H2 α2 ρ2 M2 s2 vs2 r2 p2 => d.ct _ H2 α2 _ M2 (s1.trans s2) (vs2.clr i) r2 p2, fun _ _ _ _ _ _ _ _ _ _ _ _ h => h.elim⟩
end
/-! err.f in the suite -/
def lXf (a : Addr) (cls : Value) (d : Option Addr) (Cl : Addr) (f : Str) (le : LE) : LE := fun ρ M P PX => le ρ M (fun x M1 => ∃ (ns : List Str) (ds : List D) (v : D), x = .dat (.exc a Cl d ns ds) ∧ cls = .ref Cl ∧ (ns.zip ds).lookup f = some v ∧ P (.dat v) M1) PX
theorem lookup_zip {K : PySem.W.Frag} {N : Addr → Prop} {H : Hp} {f : Str} {d : D} : ∀ {ns : List Str} {xs : List V} {ds : List D}, VDs K N H xs ds → (ns.zip ds).lookup f = some d → ∃ v, (ns.zip xs).lookup f = some v ∧ VD K N H v d
  | [], _, _, _, e => by cases e
  | _ :: _, _, _, .nil, e => by cases e
  | n :: ns, x :: xs, c :: ds, .cons q t, e => by
    rw [List.zip_cons_cons, List.lookup_cons] at e ⊢
    split at e
    · cases e; exact ⟨x, rfl, q⟩
    · exact lookup_zip t e
section
variable {X : Cx} {C : Cn} {a Cl : Addr} {oe : Obj} {cls : Value} {d : Option Addr} {pn : List (Addr × Obj)} {e : Expr} {te : TE} {le : LE} {pos : Pos} {f : Str} {W : WX}
theorem lo_xf (h : LoE C W te le) : LoE C W (tXf a cls d Cl f te) (lXf a cls d Cl f le) := fun ρ M P PX g Z σ H α Q vs r kt wk =>
  h.bind g vs r wk fun v H1 α1 y M1 s1 r1 q1 h1 vs1 wk1 => by
    obtain ⟨ns, ds, z, rfl, ec, el, p⟩ := h1
    cases q1 with
    | exc0 => simp at el
    | excD h1 h2 h3 h4 h5 =>
      rename_i dd ps xs
      obtain ⟨v, ev, qv⟩ := lookup_zip h5 el
      subst h3
      exact ⟨rfl, ec, dd, _, v, rfl, h1, ev, kt _ H1 α1 (.dat z) M1 s1 r1 qv p⟩
theorem lp_xf (T : XfC X.K Cl) (hno : PySem.W.findIn X.K (.ref Cl) f = some none) (hz : Zc cls d oe) (hf : ∃ vs, oe.data = .fields vs) (he : LPE (X.suite a ((a, oe) :: pn)) C W e te le) (hb : attributeBase e f X.env (eval e X.env) = eval e X.env := by rfl) :
    LPE (X.suite a ((a, oe) :: pn)) C W (.Attribute e f pos) (tXf a cls d Cl f te) (lXf a cls d Cl f le) := ⟨pe_xf T hno hz hf he.pe hb, lo_xf he.lo⟩
end
end L3

namespace L3
open PySem L2 PySem.Spec PyProof.Rows NdefX L2H
/-! a def that raises nothing and walks nothing: it may be called in an except suite, too -/
structure FnC (P : Program) (w : World) (K : PySem.W.Frag) (mg : Str → Option Value) (base : Heap) (k : Nat) (f : Addr) (fd : FuncData) (ps : List Str) (sp : Sp) : Prop where
  len : ∀ vs H Q E, sp vs H Q E → vs.length = ps.length
  run : ∀ (A : Around) (outer : List Env) (s : Shared) (H : Hp) (args : Args) (us : List Value) (vs : List V) (Q : VK) (E : XK), RoomH k A → Env0 P w K mg base A outer s H → BindsTo s fd args (ps.zip us) → Vals vs us → sp vs H Q E →
    codeAny (model P w) A (.call (.ref f) args) (CR CX0 outer P w H s Q E) s
section
variable {P : Program} {w : World} {K : PySem.W.Frag} {mg : Str → Option Value} {base : Heap}
/-- some object of the written part, as a pin -/
theorem some_pin {A : Around} {outer : List Env} {s : Shared} {H : Hp} (e0 : Env0 P w K mg base A outer s H) : ∃ p, PinOk outer H s p := by
  obtain ⟨o, es, ep, ho, hd, _⟩ := e0.mod.glob
  obtain ⟨h1, h2⟩ := e0.bs _ _ ho
  refine ⟨(mainGlobals, o), h1, h2, fun hm => ?_, fun v z => ?_⟩
  · obtain ⟨hn, _⟩ := e0.funs.mem hm
    rw [ho] at hn
    cases hn
  · have z' : o.data = .cell v := z
    rw [hd] at z'
    cases z'
theorem okLC {x qual : Str} {st : Stmt} {f : Addr} {fd : FuncData} {N ps : List Str} {k : Nat} {T : Tb} {lsp : LSp} (F : Fun K x qual st f fd) (S : FnScope N ps (defScope st)) (len : ∀ ds M P PX, lsp ds M P PX → ds.length = ps.length)
    (hbody : ∀ (cdv : Value) (A : Around) (outer : List Env) (s : Shared) (H : Hp) (E : XK) (p : Addr × Obj), RoomH k (A.deeper (PyProof.Rows.envOfC qual (defScope st) s.heap.objs.size f cdv)) →
      ∃ ts l, LPSs (cxH CX0 P w K mg base N qual (defScope st) f cdv A outer s H E p).nox ⟨K, T, []⟩ W0 (defBody st) ts l ∧ ∀ ds M Pd PX, lsp ds M Pd PX → l { nx := fun _ M' => DropD M.length Pd .non M', rt := DropD M.length Pd } (startL N ds) M) :
    FnC P w K mg base (k + 1) f fd ps (low K T lsp) := by
  obtain ⟨oc, od, kV, doc, pm, an, cdv, ct, osl, rfl, lk, hcd⟩ := F.ex
  have len' : ∀ vs H Q E, low K T lsp vs H Q E → vs.length = ps.length := fun vs H Q E h => by
    obtain ⟨Z, α, ds, M, Pd, PX, _, r, h, _⟩ := h
    rw [VRs.length r]
    exact len _ _ _ _ h
  refine ⟨len', fun A outer s H args us vs Q E hr e0 hb r hsp => ?_⟩
  obtain ⟨p, hpin⟩ := some_pin e0
  have hl := len' _ _ _ _ hsp
  have KX : K.In s.heap := e0.mod.kin.keeps fun b o e => (e0.bs b o e).1
  have lim : s.heap.NoLimit := e0.mod.nolimit.keeps fun b o e => (e0.bs b o e).1
  refine codeAny_call_function hr.depth (KX _ _ lk) rfl S.co S.gen rfl (PySem.W.codeRec_of KX hcd) (hb _ _ _ _ ?_)
  refine wpAny_newFunctionEnv_cells S.kind (fun y hy => (S.par y.1 (List.of_mem_zip hy).1).imp id fun q => ⟨q, PySem.W.cellsFrom_some _ _ _ (.inl q)⟩) fun env he s1 x => ?_
  subst he
  refine ⟨lim.keeps x.toInCall.keep, codeAny_func ?_⟩
  obtain ⟨Z, α, ds, M, Pd, PX, rs, rd, h, kt, _⟩ := hsp
  obtain ⟨ts, l, hp, hl2⟩ := hbody cdv A outer s H E p (hr.deeper _)
  have q := hp.lo _ _ _ (hl2 ds M Pd PX h) Z { nx := fun _ H' => Q .non H', rt := Q } _ H α (start_vs rd) rs (ends_top rs.hr.len kt W0 _ fun _ _ _ _ _ _ _ _ _ _ _ _ h => h)
  have I : Inv (cxH CX0 P w K mg base N qual (defScope st) f cdv A outer s H E p) [] (L2.start N vs) H s1 := inv_startH S hpin e0 hl r x
  refine wpAny_mono (hp.ps.nox.run [] s1 _ H _ I q) (fun fl s' hs => ?_) fun e s' hs => hs
  have fin : ∀ {σ' : L2.St} {H' : Hp} {v : V} {u : Value}, Inv (cxH CX0 P w K mg base N qual (defScope st) f cdv A outer s H E p) [] σ' H' s' → L2.RelV v u → Q v H' → CE outer P w H s Q u s' :=
    fun {σ' H' v u} J rv q => ⟨v, H', J.os, J.bare, J.base, J.hok, rv, q⟩
  rcases fl with _ | _ | _ | u
  · obtain ⟨σ', H', J, q⟩ := hs
    exact fin (v := V.non) (u := Value.none) J rfl q
  · obtain ⟨_, _, _, q⟩ := hs
    exact False.elim q
  · obtain ⟨_, _, _, q⟩ := hs
    exact False.elim q
  · obtain ⟨v, σ', H', J, rv, q⟩ := hs
    exact fin J rv q
theorem FnC.mono {j k : Nat} {f : Addr} {fd : FuncData} {ps : List Str} {sp : Sp} (F : FnC P w K mg base j f fd ps sp) (h : j ≤ k) : FnC P w K mg base k f fd ps sp := ⟨F.len, fun A outer s H args us vs Q E hr => F.run A outer s H args us vs Q E (hr.mono h)⟩
end
section
variable {X : Cx} {C : Cn} {W : WX} {k : Nat} {f : Addr} {fd : FuncData} {ps : List Str} {sp : Sp} {lsp : LSp} {x : Str} {q pos : Pos} {e : Expr} {es : List Expr} {t : TA} {la : LA}
theorem pe_callC (F : FnC X.prog X.w X.K X.mg X.base k f fd ps sp) (hr : RoomH k X.A) (hg : Gl X x) (hm : X.mg x = some (.ref f)) (hk : PySem.W.keepIn X.K (.ref f) = true) (hb : Binds X.K fd ps [])
    (ha : PA X (e :: es) t) (hdb : (x == ("__debug__" : Str)) = false := by decide) (he : starEach (e :: es) X.env = (false, eval e X.env) :: starEach es X.env := by rfl) (hpl : (backTo pos (starEach es X.env)).any (·.1) = false := by rfl) :
    PE X (.Call (.Name x q) (e :: es) [] pos) (tCall sp [] E0 t) := ⟨fun pins s σ H Q I h => wpAny_Call_Name_kw (ld_glob I hg hm
      (PySem.W.callWith_K (h₀ := X.base) I.ok.mod.kin hk (thn (ha.run pos pins s σ H _ I h) fun us s1 ⟨vs, H1, I1, r, z⟩ => ⟨I1.kIn, by
        have z : sp (vs ++ []) H1 Q E0 := z
        rw [List.append_nil] at z
        show wpAny _ _ (call (.ref f) us) _ _ _
        have hl : us.length = ps.length := by rw [← r.length]; exact F.len _ _ _ _ z
        have b := hb s1 us I1.kIn (by rw [List.append_nil]; exact hl)
        rw [List.append_nil] at b
        refine wpAny_call (codeAny_mono (F.run X.A X.stack s1 H1 ⟨us, []⟩ us vs Q E0 hr I1.env0 b r z) fun r s' hq => ?_)
        rcases r with er | (_ | _ | _ | u)
        · exact pass0 pins σ H1 s1 er s' I1 hq
        · exact False.elim hq
        · exact False.elim hq
        · exact False.elim hq
        · exact I1.after hq⟩) he hpl) hdb)⟩
theorem lp_callC_k0 (F : FnC X.prog X.w X.K X.mg X.base k f fd ps (low X.K C.T lsp)) (hK : X.K = C.K) (hr : RoomH k X.A) (hg : Gl X x) (hm : X.mg x = some (.ref f)) (hk : PySem.W.keepIn X.K (.ref f) = true) (hb : Binds X.K fd ps [])
    (ha : LPA X C W (e :: es) t la) (hdb : (x == ("__debug__" : Str)) = false := by decide) (he : starEach (e :: es) X.env = (false, eval e X.env) :: starEach es X.env := by rfl) (hpl : (backTo pos (starEach es X.env)).any (·.1) = false := by rfl) :
    LPE X C W (.Call (.Name x q) (e :: es) [] pos) (tCall (low X.K C.T lsp) [] E0 t) (lCall lsp la) := ⟨pe_callC F hr hg hm hk hb ha.pa hdb he hpl, by rw [hK]; exact lo_call ha.lo⟩
theorem lp_callC (F : FnC X.prog X.w X.K X.mg X.base k f fd ps (low X.K C.T lsp)) (hK : X.K = C.K) (hr : RoomH k X.A) (hg : Gl X x) (hm : X.mg x = some (.ref f)) (hk : PySem.W.keepIn X.K (.ref f) = true) (hb : Binds X.K fd ps [])
    (ha : LPA X C W (e :: es) t la) (hdb : (x == ("__debug__" : Str)) = false := by decide) (he : starEach (e :: es) X.env = (false, eval e X.env) :: starEach es X.env := by rfl) (hpl : (backTo pos (starEach es X.env)).any (·.1) = false := by rfl) :
    LPE X C W (.Call (.Name x q) (e :: es) [] pos) (tCall (low C.K C.T lsp) [] E0 t) (lCall lsp la) := by
  rw [← hK]
  apply lp_callC_k0 <;> assumption
end
theorem roomH_m {k : Nat} {A : Around} (r : Room k A) (h : Option Value) : RoomH k (A.mark h) := ⟨r.dp, r.un⟩
theorem huH_of {k : Nat} {A : Around} (r : RoomH k A) : A.units + 1 < cLine := by have := r.un; omega
theorem huH65 {k : Nat} {A : Around} (r : RoomH k A) : A.units + 65 < cLine := by have := r.un; omega
theorem RoomH_units {k : Nat} {A : Around} (r : RoomH k A) : A.units + 64 < cLine := by have := r.un; omega
end L3

namespace L3
open PySem L2 PySem.Spec PyProof.Rows NdefX L2H
/-! what the written part tells of a class of own exceptions over ValueError -/
structure ExC (K : PySem.W.Frag) (mg : Str → Option Value) (x : Str) (Cl : Addr) : Prop where
  g : mg x = some (.ref Cl)
  T : OexC K Cl
  xf : XfC K Cl
theorem ExC.raises {X : Cx} {x : Str} {Cl : Addr} (E : ExC X.K X.mg x Cl) : Raises X (.ref Cl) := raises_own E.T.exC E.T.tyC
/-- .. with an own __init__(self, p) that says super().__init__(p), self.p = p -/
structure Ex1 (P : Program) (K : PySem.W.Frag) (mg : Str → Option Value) (st : Stmt) (x qual p : Str) (Cl f : Addr) (fd : FuncData) : Prop where
  ex : ∃ (oc dV kV doc pm ct : Value) (od an : Option Addr) (osl : Array (Option Value)) (cc c : Addr), fd = PySem.W.fnX "__init__" qual (defArgs st) (defBody st) (defScope st) [(("__class__" : Str), cc)] dV kV doc pm an (.ref c) ct ∧
    K.lookup f = some ⟨oc, od, .func fd, osl⟩ ∧ PySem.W.codeIn K (.ref c) qual = true ∧ SupC P K Cl cc c
  tI : PySem.W.typeIn K (.ref f) = some (.type "function")
  iC : PySem.W.findIn K (.ref Cl) "__init__" = some (some (.ref f))
  hno : PySem.W.findIn K (.ref Cl) p = some none
  B : Binds K fd ["self", p] []
section
variable {P : Program} {w : World} {K : PySem.W.Frag} {mg : Str → Option Value} {base : Heap} {st : Stmt} {x qual p : Str} {Cl f : Addr} {fd : FuncData} {k : Nat} {ar : Arg} {p0 p1 p2 p3 p4 q1 q2 q3 q4 q5 : Pos}
theorem Ex1.ok (E : Ex1 P K mg st x qual p Cl f fd) (G : ExC K mg x Cl) (S : NScope ["self", p, "__class__"] ["self", p] ["__class__"] (defScope st)) (hsup : mg "super" = none) (hks : (defScope st).names.lookup ("super" : Str) = some .globalImplicit)
    (hp : ((defArgs st).posonlyargs ++ (defArgs st).args).head? = some ar) (har : ar.arg = "self") (hd : (p == ("__debug__" : Str)) = false) (hd2 : (p == ("__classdict__" : Str)) = false)
    (hb : defBody st = [.Expr (.Call (.Attribute (.Call (.Name "super" p0) [] [] p1) "__init__" p2) [.Name p q1] [] p3) p4, .Assign [.Attribute (.Name "self" q2) p q3] (.Name p q4) q5])
    {pl : Env → Sem Bool} (hev : ∀ env : Env, eval (.Call (.Attribute (.Call (.Name "super" p0) [] [] p1) "__init__" p2) [.Name p q1] [] p3) env = (do
      let ov ← attributeBase (.Call (.Name "super" p0) [] [] p1) "__init__" env (eval (.Call (.Name "super" p0) [] [] p1) env)
      standAt p2.atName
      let (f, first) ← holding [ov] (getMethod ov "__init__" (pl env))
      callWith p3 f first (backTo p3 (starEach [.Name p q1] env)) [])) :
    FnOk P w K mg base CX0 (k + 1) f fd ["self", p] (spI Cl [p]) := by
  obtain ⟨oc, dV, kV, doc, pm, ct, od, an, osl, cc, c, rfl, lk, hcd, SC⟩ := E.ex
  refine fn_super (F := ⟨"__init__", qual, defArgs st, defBody st, defScope st, [(("__class__" : Str), cc)], c⟩) (ps := [p]) lk hcd S rfl SC hp har hks hsup G.T hb (fun vs H Q E h => ?_) (fun A outer s H vs Q Ex hr h => ?_) hev (fun _ _ _ => by show ((defScope st).kind == .module && _) = false; rw [S.kind]; rfl) (fun _ _ => rfl) (fun _ => rfl) (fun _ => rfl)
  · obtain ⟨a, ys, rfl, hl, _⟩ := h
    rw [List.length_cons, hl]
    rfl
  · obtain ⟨a, ys, rfl, hl, ea, h⟩ := h
    match ys, hl with
    | [y], _ =>
      have l0 : (defScope st).names.lookup ("self" : Str) = some .local := S.par _ (by simp)
      have l1 : (defScope st).names.lookup p = some .local := S.par _ (by simp)
      refine ⟨_, _, a, _, rfl, ea, pa_cons (pv 1 rfl (.inl l1) hd hd2) pa_nil rfl, pss_one (ps_ost (pv 0 rfl (.inl l0) (by decide) (by decide)) (pv 1 rfl (.inl l1) hd hd2) rfl), ?_⟩
      refine ⟨y, rfl, by show 1 ≤ 1000; decide, ea, ?_⟩
      refine ⟨y, rfl, .ref a, rfl, a, Cl, rfl, G.T, E.hno, .inl ⟨ea, fun dx nd ne => h dx _ nd ne rfl⟩⟩
theorem Ex1.m {X : Cx} (E : Ex1 X.prog X.K X.mg st x qual p Cl f fd) (G : ExC X.K X.mg x Cl) (S : NScope ["self", p, "__class__"] ["self", p] ["__class__"] (defScope st)) (hsup : X.mg "super" = none) (hks : (defScope st).names.lookup ("super" : Str) = some .globalImplicit)
    (hp : ((defArgs st).posonlyargs ++ (defArgs st).args).head? = some ar) (har : ar.arg = "self") (hd : (p == ("__debug__" : Str)) = false) (hd2 : (p == ("__classdict__" : Str)) = false)
    (hb : defBody st = [.Expr (.Call (.Attribute (.Call (.Name "super" p0) [] [] p1) "__init__" p2) [.Name p q1] [] p3) p4, .Assign [.Attribute (.Name "self" q2) p q3] (.Name p q4) q5])
    {pl : Env → Sem Bool} (hev : ∀ env : Env, eval (.Call (.Attribute (.Call (.Name "super" p0) [] [] p1) "__init__" p2) [.Name p q1] [] p3) env = (do
      let ov ← attributeBase (.Call (.Name "super" p0) [] [] p1) "__init__" env (eval (.Call (.Name "super" p0) [] [] p1) env)
      standAt p2.atName
      let (f, first) ← holding [ov] (getMethod ov "__init__" (pl env))
      callWith p3 f first (backTo p3 (starEach [.Name p q1] env)) [])) : OexM X Cl f fd ["self", p] [p] 1 :=
  ⟨G.T, E.iC, E.tI, E.ok (k := 0) G S hsup hks hp har hd hd2 hb hev, E.B⟩
end
/-! a def with a known code object that may raise -/
section
variable {P : Program} {w : World} {K : PySem.W.Frag} {mg : Str → Option Value} {base : Heap}
theorem okLXc {x qual : Str} {st : Stmt} {f c : Addr} {fd : FuncData} {N ps : List Str} {k : Nat} {T : Tb} {lsp : LSp} (F : Fun K x qual st f fd) (hc : fd.code = .ref c) (S : FnScope N ps (defScope st)) (len : ∀ ds M P PX, lsp ds M P PX → ds.length = ps.length)
    (hbody : ∀ (A : Around) (outer : List Env) (s : Shared) (H : Hp) (E : XK), Room k (A.deeper (PyProof.Rows.envOfC qual (defScope st) s.heap.objs.size f (.ref c))) →
      ∃ ts l, LPSs (cxOf (L2.CX P w) P w K mg base N qual (defScope st) f (.ref c) A outer s H E) ⟨K, T, []⟩ (WF E) (defBody st) ts l ∧ ∀ ds M Pd PX, lsp ds M Pd PX → l { nx := fun _ M' => DropD M.length Pd .non M', rt := DropD M.length Pd, ex := DropX M.length PX } (startL N ds) M) :
    FnOk P w K mg base (L2.CX P w) (k + 1) f fd ps (low K T lsp) := by
  obtain ⟨oc, od, kV, doc, pm, an, cdv, ct, osl, rfl, lk, hcd⟩ := F.ex
  cases (show cdv = .ref c from hc)
  refine fn_of lk hcd S (fun vs H Q E h => ?_) fun A outer s H vs Q E hr h => ?_
  · obtain ⟨Z, α, ds, M, Pd, PX, _, r, h, _⟩ := h
    rw [VRs.length r]
    exact len _ _ _ _ h
  · obtain ⟨Z, α, ds, M, Pd, PX, rs, r, h, kt, kx⟩ := h
    obtain ⟨ts, l, hp, hl⟩ := hbody A outer s H E hr
    exact ⟨ts, hp.ps, hp.lo _ _ _ (hl ds M Pd PX h) Z _ _ H α (start_vs r) rs (ends_top rs.hr.len kt (WF E) _ fun cls d σ H' α' ρ M' x s _ r q ⟨n, hn, hM, p⟩ =>
      kx cls d H' (α'.take n) (M'.take n) x (s.drop (by rw [rs.hr.len]; exact hn)) (r.drop hM) q.drop p)⟩
end
theorem tab_nil {K : PySem.W.Frag} {c : Value} : ∀ p ∈ ([] : List (Addr × Bool)), PySem.W.exmOne K (.ref p.1) c = some p.2 := fun _ h => absurd h (by simp)
theorem tab_cons {K : PySem.W.Frag} {c : Value} {a : Addr} {b : Bool} {r : List (Addr × Bool)} (h : PySem.W.exmOne K (.ref a) c = some b) (t : ∀ p ∈ r, PySem.W.exmOne K (.ref p.1) c = some p.2) : ∀ p ∈ (a, b) :: r, PySem.W.exmOne K (.ref p.1) c = some p.2 := fun p hp => by
  rcases List.mem_cons.mp hp with rfl | hp
  · exact h
  · exact t p hp
/-- data in; data out, or an exception -/
def spX (pre : List D → Prop) (S : List D → D → Prop) (SX : List D → LX → Prop) : LSp := fun ds M P PX => ∃ as : List D, ds = as.map DV.dat ∧ M = [] ∧ pre as ∧ (∀ r, S as r → P (.dat r) []) ∧ ∀ x, SX as x → PX x []
theorem call_X {pre : List D → Prop} {S : List D → D → Prop} {SX : List D → LX → Prop} {xs : List DV} {as : List D} {M : Mem} {P : PD} {PX : PXn} (hd : Dats xs as) (hp : pre as) (k : ∀ r, S as r → P (.dat r) M) (kx : ∀ x, SX as x → PX x M) : CallAt (spX pre S SX) xs M P PX := by
  refine ⟨[], as.map DV.dat, [], List.nodup_nil, by simp [okDV], ?_, rfl, rfl, as, rfl, rfl, hp, fun r hr => ?_, fun x hx => ?_⟩
  · rw [hd.eq, List.map_map]; exact List.map_congr_left fun e _ => rfl
  · show P (.dat r) (merge [] M [])
    rw [merge_nil]
    exact k r hr
  · show PX x (merge [] M [])
    rw [merge_nil]
    exact kx x hx
/-- scalars compared with themselves, in an except suite -/
def scV : D → Prop
  | .non => True
  | .bl _ => True
  | .int _ => True
  | .str _ => True
  | _ => False
def samePreH (as : List D) : Prop := ∃ d, as = [d, d] ∧ scV d
def spSameH : LSp := spP samePreH yesS
theorem call_sameH {d : D} {M : Mem} {P : PD} {PX : PXn} (h : scV d) (k : P (.dat (.bl true)) M) : CallAt spSameH [.dat d, .dat d] M P PX := call_P (.cons (.cons .nil)) ⟨d, rfl, h⟩ fun r e => by cases e; exact k
/-! steps -/
section
variable {ρ : Rho} {M : Mem} {L : LEnds} {P : PD} {PX : PXn}
theorem s_raise {Cl : Addr} {fs : List Str} {la : LA} (h : la ρ M (fun ds M1 => ∃ es : List D, ds = es.map DV.dat ∧ es.length = fs.length ∧ es.length ≤ 900 ∧ L.ex ⟨Cl, (fs.zip es).reverse⟩ ρ M1) (L.px ρ)) : lRaise Cl fs la L ρ M := h
theorem s_raise0 {Cl : Addr} (h : L.ex ⟨Cl, []⟩ ρ M) : lRaise0 Cl L ρ M := h
theorem s_exR1 {Cl : Addr} {f : Str} {d : D} (h : L.ex ⟨Cl, [(f, d)]⟩ ρ M) : ∃ es : List D, [DV.dat d] = es.map DV.dat ∧ es.length = ([f] : List Str).length ∧ es.length ≤ 900 ∧ L.ex ⟨Cl, (([f] : List Str).zip es).reverse⟩ ρ M := ⟨[d], rfl, rfl, by show 1 ≤ 900; decide, h⟩
theorem s_tryAs {tab : List (Addr × Bool)} {i : Nat} {lb : LS} {ls : Addr → Value → Option Addr → LS} (h : lb { L with ex := fun x ρ' M' => ∃ b, (x.cls, b) ∈ tab ∧
  (b = true → ∀ a d, ls a (.ref x.cls) d { nx := fun ρ2 M2 => L.nx (ρ2.set i none) M2, rt := L.rt, bk := fun ρ2 M2 => L.bk (ρ2.set i none) M2, ct := fun ρ2 M2 => L.ct (ρ2.set i none) M2 } (ρ'.set i (some (excD a x d))) M') ∧
  (b = false → L.ex x ρ' M') } ρ M) : lTryAs tab i lb ls L ρ M := h
theorem s_xf {a : Addr} {d : Option Addr} {Cl : Addr} {f : Str} {i : Nat} {ns : List Str} {ds : List D} {v : D} (e : ρ[i]? = some (some (.dat (.exc a Cl d ns ds)))) (hl : (ns.zip ds).lookup f = some v) (h : P (.dat v) M) : lXf a (.ref Cl) d Cl f (lVar i) ρ M P PX := ⟨_, e, ns, ds, v, rfl, rfl, hl, h⟩
end
theorem cls_in {K : PySem.W.Frag} {nm q : Str} {Cl N : Addr} {bs bm : List Value} {hdct : Bool} {sn : List Str} {sub : List Value} {ab : Bool} {col : Option Bool} {dd : Option Addr} {k0 k1 k2 k3 k5 : Option Value} {newId : String}
    (h : K.lookup Cl = some (excClassObj nm q Cl N bs bm hdct sn sub ab col dd k0 k1 k2 k3 k5 newId)) : ∃ cd, PySem.W.clsIn K Cl = some cd := by
  unfold PySem.W.clsIn
  rw [h]
  exact ⟨_, rfl⟩
end L3

namespace L3
open PySem L2 PySem.Spec PyProof.Rows NdefX
/-! isinstance(e, c) of the caught exception, its dict there or not -/
def rIsEd (K : PySem.W.Frag) (D a : Addr) (cls : Value) (d : Option Addr) (cv : Value) (b : Bool) : List V → Hp → VK → Prop := fun xs H Q => ∃ c : V, xs = [.ref a, c] ∧ (∀ u, RelV c u → u = cv) ∧ cls = .ref D ∧ PySem.W.kitOne K (.ref D) cv = some b ∧
  (d = none ∨ ∃ (dd : Addr) (ps : List (Str × V)), d = some dd ∧ H dd = some (.xd ps)) ∧ Q (.bl b) H
theorem call_isEd {X : Cx} {a D : Addr} {cls : Value} {d : Option Addr} {cv : Value} {b : Bool} {oe : Obj} {pn : List (Addr × Obj)} (C : ExcC X.K D) (hz : Zc cls d oe) (hf : ∃ vs, oe.data = .fields vs) : CallR (X.suite a ((a, oe) :: pn)) (.builtin "isinstance") (rIsEd X.K D a cls d cv b) := by
  intro pins s σ H xs us Q I r h
  obtain ⟨c, rfl, hcv, rfl, e, hd, q⟩ := h
  cases r with
  | cons rx rr =>
    cases rr with
    | cons rt rr =>
      cases rr
      cases rx
      have ec := hcv _ rt
      subst ec
      obtain ⟨hget, _⟩ := I.pin (a, oe) (List.mem_append.mpr (.inl List.mem_cons_self))
      obtain ⟨vs, hv⟩ := hf
      have J : ∃ od, PySem.W.InstAt s.heap a oe D od := by
        obtain ⟨oc, od, oda, osl⟩ := oe
        obtain ⟨h1, h2⟩ := hz
        dsimp only at h1 h2 hv
        subst h1 h2 hv
        rcases hd with rfl | ⟨dd, ps, rfl, hx⟩
        · exact ⟨none, hget, rfl, rfl, trivial⟩
        · obtain ⟨mA, hns, _⟩ := (show ObjOk X.prog X.w H s.heap dd (.xd ps) from I.hok dd _ hx)
          obtain ⟨o, es, ep, ho, _⟩ := hns
          exact ⟨some o, hget, rfl, rfl, ho⟩
      obtain ⟨od, J⟩ := J
      obtain ⟨cdD, hcD, _⟩ := PySem.W.any_some C.hd
      exact PySem.W.kia_one (PySem.W.kitx_exc (x := a) (ox := oe) (od := od) (by rw [hcD]; rfl) C.hg C.hk C.hs C.ha C.hn C.ht C.hm) I.kIn J e (fun z => nomatch z) fun tk => ⟨.bl b, H, I.kept (t' := tk) fun _ _ z => z, rfl, q⟩
def lIsE (a : Addr) (cls : Value) (d : Option Addr) (Cl : Addr) (b : Bool) (le : LE) : LE := fun ρ M P PX => le ρ M (fun x M1 => ∃ (ns : List Str) (ds : List D), x = .dat (.exc a Cl d ns ds) ∧ cls = .ref Cl ∧ P (.bl b) M1) PX
section
variable {X : Cx} {C : Cn} {W : WX} {a Cl : Addr} {oe : Obj} {cls : Value} {d : Option Addr} {pn : List (Addr × Obj)} {e c : Expr} {te : TE} {le : LE} {p pos : Pos} {v : V} {cv : Value} {b : Bool} {dc : D}
theorem lp_isE (E : ExcC X.K Cl) (hk : PySem.W.kitOne X.K (.ref Cl) cv = some b) (hz : Zc cls d oe) (hf : ∃ vs, oe.data = .fields vs) (hg : Gl X "isinstance") (hm : X.mg "isinstance" = none) (he : LPE (X.suite a ((a, oe) :: pn)) C W e te le)
    (hc : PE (X.suite a ((a, oe) :: pn)) c (tC v)) (hv : ∀ u, RelV v u → u = cv) (hb : bootBuiltins "isinstance" = some (.builtin "isinstance"))
    (hs : starEach [e, c] X.env = (false, eval e X.env) :: starEach [c] X.env := by rfl) (hs2 : starEach [c] X.env = (false, eval c X.env) :: starEach [] X.env := by rfl) (hpl : (backTo pos (starEach [c] X.env)).any (·.1) = false := by rfl) :
    LPE (X.suite a ((a, oe) :: pn)) C W (.Call (.Name "isinstance" p) [e, c] [] pos) (tCB (rIsEd X.K Cl a cls d cv b) (tCons te (tCons (tC v) tNil))) (lIsE a cls d Cl b le) :=
  ⟨pe_callB (call_isEd E hz hf) hg hm hb (pa_cons he.pe (pa_cons hc pa_nil hs2) hs) (by decide) (by decide) hs hpl, fun ρ M P PX g Z σ H α Q vs r kt wk =>
    he.lo.bind g vs r wk fun u H1 α1 y M1 s1 r1 q1 h1 vs1 wk1 => by
      obtain ⟨ns, ds, rfl, ec, pp⟩ := h1
      refine ⟨v, ?_, hv, ec, hk, ?_, kt _ H1 α1 (.bl b) M1 s1 r1 (.bl b) pp⟩
      · cases q1 <;> rfl
      · cases q1 with
        | exc0 => exact .inl rfl
        | excD h1 => exact .inr ⟨_, _, rfl, h1⟩⟩
end
section
variable {ρ : Rho} {M : Mem} {P : PD} {PX : PXn}
theorem s_isE {a : Addr} {d : Option Addr} {Cl : Addr} {b : Bool} {i : Nat} {ns : List Str} {ds : List D} (e : ρ[i]? = some (some (.dat (.exc a Cl d ns ds)))) (h : P (.bl b) M) : lIsE a (.ref Cl) d Cl b (lVar i) ρ M P PX := ⟨_, e, ns, ds, rfl, rfl, h⟩
end
end L3

namespace L3
open PySem L2 PySem.Spec PyProof.Rows NdefX
/-! try with a first clause that takes nothing of what the body raises, then 'except C as n' -/
def wSkip (K : PySem.W.Frag) (c1 : Value) (W : WX) : WX := fun cls d σ H => PySem.W.exmOne K cls c1 = some false ∧ W cls d σ H
/-- the exception as it lies before the clauses -/
structure Lies (X : Cx) (pins : List (Addr × Obj)) (a : Addr) (cls : Value) (d : Option Addr) (σ : L2.St) (H : Hp) (B : Heap) (sI s' : Shared) (h3 : Heap) : Prop where
  inv : Inv X pins σ H sI
  nb : ∀ b o, sI.heap.get? b = some o → b ∉ frs X.stack → B.get? b = some o
  up : sI.heap.UpToSlots h3
  os : s'.os = sI.os
  ag : AllBare s'.gens
  na : H a = none
  fl : HandSPX.FlyingZ B (X.env :: X.outer) a (Zc cls d) h3
section
variable {X : Cx} {pins : List (Addr × Obj)} {a : Addr} {cls : Value} {d : Option Addr} {σ : L2.St} {H : Hp} {B : Heap} {sI s' : Shared} {h3 : Heap}
theorem Lies.j (L : Lies X pins a cls d σ H B sI s' h3) : Inv X pins σ H { s' with heap := h3 } := L.inv.landed L.nb L.fl.1 L.up L.os L.ag
theorem Lies.away (L : Lies X pins a cls d σ H B sI s' h3) (hf : X.env.frame = some X.env.locals) : a ≠ X.env.locals ∧ a ∉ X.fs := by
  obtain ⟨oe, vs, he, _, hd⟩ := L.fl.there
  have no : a ∉ frs (X.env :: X.outer) := fun hm => by
    obtain ⟨_, o, e, hnf⟩ := L.fl.2.2.1.mem hm
    rw [he] at e
    cases e
    exact hnf _ hd
  refine ⟨fun z => no (List.mem_filterMap.mpr ⟨X.env, List.mem_cons_self, by rw [hf, z]⟩), fun hm => ?_⟩
  obtain ⟨e, he2, q⟩ := List.mem_filterMap.mp hm
  exact no (List.mem_filterMap.mpr ⟨e, List.mem_cons_of_mem _ he2, q⟩)
theorem Lies.suite (L : Lies X pins a cls d σ H B sI s' h3) (hf : X.env.frame = some X.env.locals) : ∃ oe, Zc cls d oe ∧ (∃ vs, oe.data = .fields vs) ∧ s'.heap = s'.heap ∧ Inv (X.suite a ((a, oe) :: (X.pn ++ pins))) [] σ H { s' with heap := h3 } ∧ h3.get? a = some oe := by
  obtain ⟨oe, vs, he, hz, hd⟩ := L.fl.there
  exact ⟨oe, hz, ⟨vs, hd⟩, rfl, L.j.suite he hd L.na (L.away hf).1 (L.away hf).2, he⟩
/-- what a clause's name is -/
theorem Lies.name (L : Lies X pins a cls d σ H B sI s' h3) (hf : X.env.frame = some X.env.locals) {x : Str} {c : Value} {np : Pos} (hc : Names X x c) {Q : Value → Shared → Prop} {E : Value → Shared → Prop} (q : Q c { s' with heap := h3 }) :
    wpAny (model X.prog X.w) (X.A.mark (some (.ref a))) (eval (.Name x np) X.env) Q E { s' with heap := h3 } := by
  obtain ⟨oe, _, _, _, S, _⟩ := L.suite hf
  obtain ⟨hg, hdb, hm | ⟨hm, hv, hnn⟩⟩ := hc
  · exact ld_glob S hg hm q hdb
  · exact ld_blt S hg hm hv q hnn hdb
theorem Lies.asks (L : Lies X pins a cls d σ H B sI s' h3) {c : Value} {b : Bool} (e : PySem.W.exmOne X.K cls c = some b) : PySem.W.Looks (model X.prog X.w) h3 (excMatches (.ref a) c) b := by
  obtain ⟨oe, vs, he, hz, hd⟩ := L.fl.there
  exact PySem.W.exm_one (M := model X.prog X.w) L.j.kIn (fun A Q E s k q => wpAny_typeOf_ref (k _ _ he) (by rw [hz.1]; exact q)) e
end
section
variable {X : Cx} {x1 x n : Str} {c1 c : Value} {i : Nat} {body suite s1 : List Stmt} {b₀ : Stmt} {n1 : Option Str} {np1 np pos1 pos pos' : Pos} {tb : WX → TS} {ts : Addr → Value → Option Addr → TS} {Wout : WX}
theorem ps_try_two (hs : X.stack = X.env :: X.outer) (hf : X.env.frame = some X.env.locals) (hN : X.N.Nodup) (hi : X.N[i]? = some n) (hln : X.env.kindOf n = some .local) (hc1 : Names X x1 c1) (hc : Names X x c) (tk : Takes X Wout)
    (hb : ∀ (W : WX) (pn : List (Addr × Obj)) (xe : Value → Shared → Prop), Takes (X.tr pn xe) W → PassesOwn (model X.prog X.w) X.A X.env xe → PSs (X.tr pn xe) body (tb W))
    (hsu : ∀ (a : Addr) (oe : Obj) (cls : Value) (d : Option Addr) (pn : List (Addr × Obj)), Zc cls d oe → (∃ vs, oe.data = .fields vs) → PSs (X.suite a ((a, oe) :: pn)) (b₀ :: suite) (ts a cls d)) :
    PS X (.Try body [.ExceptHandler (some (.Name x1 np1)) n1 s1 pos1, .ExceptHandler (some (.Name x np)) (some n) (b₀ :: suite) pos'] [] [] pos) (fun D σ H => tb (wSkip X.K c1 (wAs X.K c i ts Wout D)) D σ H) := ⟨fun pins s σ H D I h => by
  refine wpAny_Try_except (wpAny_mono ((hb (wSkip X.K c1 (wAs X.K c i ts Wout D)) (X.pn ++ pins) _ (fun u s' xx => ?_) PassesOwn.looking).run [] s σ H D (I.toTry _) h) (fun f s2 hsp => ?_) fun e s2 he => he)
  · obtain ⟨a, B, sI, pins', σ', H', cls, d, rfl, J', nb, up, sky, na, os, ag, hc1f, b, hb1, hyes, hno⟩ := xx
    have hfr : X.A.frames = some (X.env :: X.outer) := by rw [I.ok.frames, hs]
    refine Sky.land Zc.steady hfr hf (by rw [← hs]; exact sky) fun h3 fl3 up3 => ?_
    have L3' : Lies X pins a cls d σ' H' B sI s' h3 := ⟨J'.ofTry I.ok, nb, up.trans up3, os, ag, na, fl3⟩
    refine wpAny_handleBy_cons (codeAny_handlers_test (L3'.name hf hc1 ((L3'.asks hc1f).here ?_))) (by intro q; cases q)
    show wpAny _ X.A (handleBy (.ref a) X.env [_]) _ _ _
    refine wpAny_handleBy_cons (codeAny_handlers_test (L3'.name hf hc ((L3'.asks hb1).here ?_))) (by intro q; cases q)
    cases b with
    | true =>
      refine codeAny_handlers_suite_as (HandSPX.lands_againZ fl3 fun h4 fl4 up4 => ?_)
      have L4 : Lies X pins a cls d σ' H' B sI s' h4 := ⟨L3'.inv, nb, L3'.up.trans up4, os, ag, na, fl4⟩
      obtain ⟨oe, hz, hd, _, S4, _⟩ := L4.suite hf
      refine store_ok (X := X.suite a ((a, oe) :: (X.pn ++ pins))) (v := .ref a) S4 hN hi (.inl hln) rfl (fun s5 S5 => ?_) (.inr hln)
      refine wpAny_mono ((hsu a oe cls d (X.pn ++ pins) hz hd).run [] s5 _ H' _ S5 (hyes rfl a na)) (fun f s6 hsp => ?_) fun _ _ z => False.elim z
      have fin : ∀ {σ6 : L2.St} {H6 : Hp} {Q : Shared → Prop}, Inv (X.suite a ((a, oe) :: (X.pn ++ pins))) [] σ6 H6 s6 → (∀ s7, Inv X pins (σ6.set i none) H6 s7 → Q s7) → wpAny (model X.prog X.w) X.A (do bindName X.env n .none; unbindBehindTheSuite X.env n pos') (fun _ s7 => Q s7) X.xe s6 :=
        fun {σ6 H6 Q} S6 hq => gone_ok (S6.unsuite I.ok) hN hi hln hq
      cases f with
      | ret u =>
        obtain ⟨v, σ6, H6, S6, r6, q6⟩ := hsp
        exact fin S6 fun s7 J7 => ⟨v, _, _, J7, r6, q6⟩
      | _ =>
        obtain ⟨σ6, H6, S6, q6⟩ := hsp
        exact fin S6 fun s7 J7 => ⟨_, _, J7, q6⟩
    | false =>
      show wpAny _ X.A (handleBy (.ref a) X.env []) _ _ _
      refine wpAny_handleBy_nil ?_
      obtain ⟨k1, k2, k3, oe, vs, T, oT, tsv, he, hz, hd, h1, hr⟩ := id fl3
      unfold PySem.passOn
      refine wpAny_bind (wpAny_field he hd h1 ?_)
      rw [if_neg (show ¬ ((Value.ref T == Value.none) = true) from by simp)]
      have go : wpAny (model X.prog X.w) X.A (setFlight (.ref a) X.env.frame) (fun _ s4 => wpAny (model X.prog X.w) X.A (throw (.ref a) : Sem Flow) (SP X pins D) X.xe s4) X.xe { s' with heap := h3 } := by
        rw [hf]
        exact HandSPX.setFlight_upZ fl3 fun h4 hh4 up4 => wpAny_throw (tk _ _ ⟨a, B, sI, pins, σ', H', cls, d, rfl, L3'.inv, nb, L3'.up.trans up4, .inr (.inr (by rw [hs]; exact hh4)), na, os, ag, hno rfl⟩)
      first | exact wpAny_bind (wpAny_pure (wpAny_bind go)) | exact wpAny_bind go
  · cases f with
    | next =>
      obtain ⟨σ', H', J', q⟩ := hsp
      exact wpAny_execs_nil ⟨σ', H', J'.ofTry I.ok, q⟩
    | ret u =>
      obtain ⟨v, σ', H', J', r, q⟩ := hsp
      exact ⟨v, σ', H', J'.ofTry I.ok, r, q⟩
    | _ =>
      obtain ⟨σ', H', J', q⟩ := hsp
      exact ⟨σ', H', J'.ofTry I.ok, q⟩⟩
end
section
variable {X : Cx} {C : Cn} {Wout : WX} {x1 x n : Str} {C1 Cl : Addr} {i : Nat} {body suite s1 : List Stmt} {b₀ : Stmt} {n1 : Option Str} {np1 np pos1 pos pos' : Pos} {tb : WX → TS} {ts : Addr → Value → Option Addr → TS} {lb : LS} {ls : Addr → Value → Option Addr → LS} {tab : List (Addr × Bool)}
theorem lps_tryTwo (hs : X.stack = X.env :: X.outer) (hf : X.env.frame = some X.env.locals) (hN : X.N.Nodup) (hi : X.N[i]? = some n) (hln : X.env.kindOf n = some .local) (hc1 : Names X x1 (.ref C1)) (hc : Names X x (.ref Cl)) (tk : Takes X Wout) (hK : X.K = C.K)
    (ht1 : ∀ p ∈ tab, PySem.W.exmOne X.K (.ref p.1) (.ref C1) = some false) (htab : ∀ p ∈ tab, PySem.W.exmOne X.K (.ref p.1) (.ref Cl) = some p.2)
    (hb : ∀ (W : WX) (pn : List (Addr × Obj)) (xe : Value → Shared → Prop) (ex : List Addr), Takes { X with pn := pn, xe := xe, ex := ex } W → PassesOwn (model X.prog X.w) X.A X.env xe → LPSs { X with pn := pn, xe := xe, ex := ex } C W body (tb W) lb)
    (hsu : ∀ (a : Addr) (oe : Obj) (cls : Value) (d : Option Addr) (pn : List (Addr × Obj)), Zc cls d oe → (∃ vs, oe.data = .fields vs) → LPSs (X.suite a ((a, oe) :: pn)) C W0 (b₀ :: suite) (ts a cls d) (ls a cls d)) :
    LPS X C Wout (.Try body [.ExceptHandler (some (.Name x1 np1)) n1 s1 pos1, .ExceptHandler (some (.Name x np)) (some n) (b₀ :: suite) pos'] [] [] pos) (fun D σ H => tb (wSkip X.K (.ref C1) (wAs X.K (.ref Cl) i ts Wout D)) D σ H) (lTryAs tab i lb ls) := by
  refine ⟨ps_try_two hs hf hN hi hln hc1 hc tk (fun W pn xe t p => (hb W pn xe X.ex t p).ps) (fun a oe cls d pn z f => (hsu a oe cls d pn z f).ps), fun L ρ M h Z D σ H α vs r d => ?_⟩
  have q := (hb (wSkip X.K (.ref C1) (wAs X.K (.ref Cl) i ts Wout D)) [] (fun _ _ => False) [X.env.locals] (takes_noOk fun ok => (ok.exf _ (List.mem_singleton.mpr rfl)).1 rfl) PassesOwn.never).lo
  refine q _ ρ M h Z D σ H α vs r ⟨d.nx, d.rt, d.bk, d.ct, fun cls dd σ1 H1 α1 ρ1 M1 y s1 vs1 r1 q1 g => ?_⟩
  obtain ⟨b, hm, hy, hn⟩ := g
  have ec := q1.1
  subst ec
  refine ⟨ht1 _ hm, b, htab _ hm, fun e a na => ?_, fun e => d.ex _ _ σ1 H1 α1 ρ1 M1 y s1 vs1 r1 q1 (hn e)⟩
  refine (hsu a { cls := .ref y.cls, dict := dd, data := .fields #[] } _ dd [] ⟨rfl, rfl⟩ ⟨_, rfl⟩).lo _ _ M1 (hy e a dd) Z _ _ H1 α1 (vs1.set i (q1.val a)) r1 ⟨fun σ2 H2 α2 ρ2 M2 s2 vs2 r2 p2 => d.nx _ H2 α2 _ M2 (s1.trans s2) (vs2.clr i) r2 p2, fun v H2 α2 z M2 s2 r2 q2 p2 => d.rt v H2 α2 z M2 (s1.trans s2) r2 q2 p2,
    fun σ2 H2 α2 ρ2 M2 s2 vs2 r2 p2 => d.bk _ H2 α2 _ M2 (s1.trans s2) (vs2.clr i) r2 p2, fun σ2 H2 α2 ρ2 M2 s2 vs2 r2 p2 => d.ct _ H2 α2 _ M2 (s1.trans s2) (vs2.clr i) r2 p2, fun _ _ _ _ _ _ _ _ _ _ _ _ h => h.elim⟩
end
theorem tabF_nil {K : PySem.W.Frag} {c : Value} : ∀ p ∈ ([] : List (Addr × Bool)), PySem.W.exmOne K (.ref p.1) c = some false := fun _ h => absurd h (by simp)
theorem tabF_cons {K : PySem.W.Frag} {c : Value} {a : Addr} {b : Bool} {r : List (Addr × Bool)} (h : PySem.W.exmOne K (.ref a) c = some false) (t : ∀ p ∈ r, PySem.W.exmOne K (.ref p.1) c = some false) : ∀ p ∈ (a, b) :: r, PySem.W.exmOne K (.ref p.1) c = some false := fun p hp => by
  rcases List.mem_cons.mp hp with rfl | hp
  · exact h
  · exact t p hp
/-! xs.insert(i, y); a list of data == a known list of data -/
section
variable {C : Cn}
theorem VRs.take {α : List Addr} {H : Hp} : ∀ {xs : List V} {ds : List DV} (n : Nat), VRs C α H xs ds → VRs C α H (xs.take n) (ds.take n)
  | _, _, 0, _ => .nil
  | _, _, _ + 1, .nil => .nil
  | _, _, n + 1, .cons a b => .cons a (VRs.take n b)
theorem VRs.drop2 {α : List Addr} {H : Hp} : ∀ {xs : List V} {ds : List DV} (n : Nat), VRs C α H xs ds → VRs C α H (xs.drop n) (ds.drop n)
  | _, _, 0, h => h
  | _, _, _ + 1, .nil => .nil
  | _, _, n + 1, .cons _ b => VRs.drop2 n b
def vInsert : DV → List DV → Mem → PD → Prop := fun x xs M P => ∃ n ys i y, x = .obj n ∧ xs = [.int i, y] ∧ M[n]? = some (.lst ys) ∧ ys.length < sizeLine ∧ 0 ≤ i ∧ i < 2 ^ 63 ∧ P .non (M.set n (.lst (ys.take i.toNat ++ [y] ++ ys.drop i.toNat)))
theorem lm_insert : LoM C (fun x vs H Q => ∃ (l : Addr) (xs : List V) (i : Int) (y : V), x = .ref l ∧ vs = [.int i, y] ∧ H l = some (.lst xs) ∧ xs.length < sizeLine ∧ 0 ≤ i ∧ i < 2 ^ 63 ∧
    Q .non (upd H l (.lst (xs.take i.toNat ++ [y] ++ xs.drop i.toNat)))) vInsert := fun x xs M P ⟨n, ys, i, y, e1, e2, hm, hl, h0, h1, p⟩ Z α H v vs Q r q qs k => by
  subst e1 e2
  obtain ⟨v1, w, rfl, q1, qw⟩ := two_inv qs
  cases q1
  obtain ⟨a, ea, rfl⟩ := q
  obtain ⟨zs, eh, hd⟩ := r.hr.get n a _ ea hm
  have st : Step (C.wz Z) α H α (upd H a (.lst (zs.take i.toNat ++ [w] ++ zs.drop i.toNat))) := put_step ea
  have hd' := VRs.step hd st
  obtain ⟨r4, s4⟩ := r.put (mo := .lst (ys.take i.toNat ++ [y] ++ ys.drop i.toNat)) ea ⟨_, upd_same, VRs.append (VRs.append (VRs.take _ hd') (.cons (qw.step st) .nil)) (VRs.drop2 _ hd')⟩ (r.noT ea hm)
  exact ⟨a, zs, i, w, rfl, rfl, eh, by rw [VRs.length hd]; exact hl, h0, h1, k _ _ α .non _ s4 r4 .non p⟩
def vEqO : DV → DV → Mem → PD → Prop := fun x y M P => vEq false x y M P ∨ ∃ (ds : List D) (n : Nat) (es : List D), x = .dat (.lst ds) ∧ y = .obj n ∧ M[n]? = some (.lst (es.map DV.dat)) ∧ okD (.lst ds) = true ∧ okD (.lst es) = true ∧ P (.bl (eqD (.lst ds) (.lst es))) M
theorem l2_eqO : Lo2 C (rEqA C.K) vEqO := fun x y M P g Z α H v u Q r q1 q2 k => by
  rcases g with g | ⟨ds, n, es, rfl, rfl, hM, h1, h2, p⟩
  · exact l2_eq _ _ M P g Z α H v u Q r q1 q2 k
  · unfold okD at h1 h2
    rw [Bool.and_eq_true] at h1 h2
    obtain ⟨b, xs, rfl, hs, hd⟩ := seq_of r q2 hM
    have h3 : pureDs es = true := by have := h2.1; unfold pureD at this; exact this
    exact .inr ⟨pyD (.lst ds), .list (pyDs es), VD.dp h1.1 q1, .lst hs (VDs.dp h3 hd), h1.2, h2.2, k.now (d := .bl _) r (.bl _) p⟩
end
section
variable {M : Mem} {P : PD}
theorem s_insert {n : Nat} {ys : List DV} {i : Int} {y : DV} (hM : M[n]? = some (.lst ys)) (hl : ys.length < sizeLine) (h0 : 0 ≤ i) (h1 : i < 2 ^ 63) (h : P .non (M.set n (.lst (ys.take i.toNat ++ [y] ++ ys.drop i.toNat)))) : vInsert (.obj n) [.dat (.int i), y] M P := ⟨n, ys, i, y, rfl, rfl, hM, hl, h0, h1, h⟩
end
end L3

/-! sets of texts: made, one text more, sorted -/
namespace L3
open PySem PySem.Spec L2 PyProof.Rows

def keyT (v : Value) : Str := match v with | .str k _ => k | _ => default
def insT (k : Str) (l : List Str) : List Str := if k ∈ l then l else k :: l
theorem insT_len (k : Str) (l : List Str) : (insT k l).length ≤ l.length + 1 := by
  unfold insT; split <;> simp
theorem insT_mem (k : Str) (l : List Str) (x : Str) : x ∈ insT k l ↔ x = k ∨ x ∈ l := by
  unfold insT
  split
  · rename_i h
    exact ⟨.inr, fun e => e.elim (fun e => e ▸ h) id⟩
  · exact List.mem_cons
theorem insT_nodup (k : Str) {l : List Str} (h : l.Nodup) : (insT k l).Nodup := by
  unfold insT
  split
  · exact h
  · rename_i c
    exact List.nodup_cons.mpr ⟨c, h⟩

/-- the payload behind an add -/
theorem tl_perm (ep : Nat) (es : Array (Int × Value)) (t : SetTable) (b : Bool) : (Froz.tailTx ep es t b).1.toList.Perm es.toList := by
  unfold Froz.tailTx
  split
  · exact relayAll_perm _ _ _
  · exact .refl _
theorem tl_ris (ep : Nat) (es : Array (Int × Value)) (t : SetTable) (b : Bool) (r : Ris t.place.toList) : Ris (Froz.tailTx ep es t b).2.2.place.toList := by
  unfold Froz.tailTx
  split
  · exact relayAll_ris _ _ _
  · exact r
theorem tl_led (ep : Nat) (es : Array (Int × Value)) (t : SetTable) (b : Bool) : (Froz.tailTx ep es t b).2.2.led = t.led := by
  unfold Froz.tailTx
  split
  · exact relayAll_led _ _ _
  · rfl
theorem off_place (t : SetTable) : (if t.plain = true then { t with plain := false } else t).place = t.place := by split <;> rfl
theorem off_led (t : SetTable) : (if t.plain = true then { t with plain := false } else t).led = t.led := by split <;> rfl
theorem addTx_perm (h : Int) (v : Value) (D : Froz.SD) : (Froz.addTx h v D).1.toList.Perm ((h, v) :: D.1.toList) := by
  have p := layNew_perm D.2.2 D.1 h v
  rw [Array.toList_push] at p
  exact (tl_perm _ _ _ _).trans (p.trans (List.perm_append_singleton (h, v) D.1.toList))
theorem addTx_ris (h : Int) (v : Value) (D : Froz.SD) (r : Ris D.2.2.place.toList) : Ris (Froz.addTx h v D).2.2.place.toList :=
  tl_ris _ _ _ _ (by rw [off_place]; exact layNew_ris D.2.2 D.1 h v r)
theorem addTx_led (h : Int) (v : Value) (D : Froz.SD) : (Froz.addTx h v D).2.2.led = D.2.2.led :=
  (tl_led _ _ _ _).trans ((off_led _).trans (layNew_led D.2.2 D.1 h v))

/-- the set of the texts l lies at a -/
def TxAt (P : Program) (w : World) (h : Heap) (a : Addr) (l : List Str) : Prop :=
  ∃ D : Froz.SD, h.get? a = some (Froz.sObj "set" D) ∧ Froz.TxOk P w D l ∧ Ris D.2.2.place.toList ∧ (w.params.followText "set-order" = true ∨ D.2.2.led = true) ∧ (D.1.toList.map fun e => keyT e.2).Perm l
theorem TxAt.at {P : Program} {w : World} {h h' : Heap} {a : Addr} {l : List Str} (R : TxAt P w h a l) (k : ∀ o, h.get? a = some o → h'.get? a = some o) : TxAt P w h' a l := by
  obtain ⟨D, ho, r⟩ := R
  exact ⟨D, k _ ho, r⟩

section
variable {P : Program} {w : World} {A : Around} {E : Value → Shared → Prop} {s : Shared} {a : Addr} {l : List Str}
theorem tx_hashed {k : Str} {u : Tok} {Q : Bool → Shared → Prop} (R : TxAt P w s.heap a l) (room : l.length + 1 < scanBound)
    (hQ : ∀ b h', Heap.SameBut a s.heap h' → TxAt P w h' a (insT k l) → Q b { s with heap := h' }) : wpAny (model P w) A (setAddHashed a (.str k u) (hashStr w k)) Q E s := by
  obtain ⟨D, ho, F, hr, hl, pk⟩ := R
  by_cases hk : k ∈ l
  · have e : insT k l = l := if_pos hk
    rw [e] at hQ
    have q := hQ false s.heap (Heap.SameBut.refl a s.heap) ⟨D, ho, F, hr, hl, pk⟩
    obtain ⟨es, ep, t⟩ := D
    have hd : (Froz.sObj "set" (es, ep, t)).data = .set es ep t := rfl
    have hsz : es.size = l.length := F.sz
    have hb0 : es.size < scanBound := by omega
    obtain ⟨e0, he0, is0⟩ := (F.mem k).mp hk
    unfold setAddHashed setAddHashedIn
    refine wpAny_holding (wpAny_bind (wpAny_setState_of ho hd F.fit ?_))
    dsimp only
    rw [byScan_of (knd := strKind P w) rfl hb0 F.el]
    simp only [↓reduceIte]
    unfold setAddByScan
    refine wpAny_bind (wpAny_bind (wpAny_rule (wpAny_bind (wpAny_setScan_of (knd := strKind P w) (k := k) (Froz.is_str k u) ho hd F.fit F.el ?_))))
    cases hf : List.findIdx? (fun e => (strKind P w).is k e.2) es.toList with
    | none =>
      have c := List.findIdx?_eq_none_iff.mp hf e0 he0
      rw [is0] at c
      cases c
    | some j => exact wpAny_pure (wpAny_pure q)
  · have e : insT k l = k :: l := if_neg hk
    rw [e] at hQ
    refine Froz.add_x ho F hk room (hQ true _ (Heap.SameBut.update s.heap a _) ⟨_, Froz.get_upd _ ho rfl, Froz.add_ok u F, addTx_ris _ _ _ hr, hl.imp id fun z => by rw [addTx_led]; exact z, ?_⟩)
    have q := (addTx_perm (hashStr w k) (.str k u) D).map fun e => keyT e.2
    exact q.trans (show (k :: D.1.toList.map fun e => keyT e.2).Perm (k :: l) from pk.cons k)
/-- found.add(k) -/
theorem tx_add {k : Str} {u : Tok} {Q : Value → Shared → Prop} (R : TxAt P w s.heap a l) (room : l.length + 1 < scanBound)
    (hQ : ∀ h', Heap.SameBut a s.heap h' → TxAt P w h' a (insT k l) → Q .none { s with heap := h', toks := s.toks + 1 }) : wpAny (model P w) A (call (.builtin "set.add") [.ref a, .str k u]) Q E s := by
  have hT : s.TypeIs (.ref a) "set" := let ⟨_, ho, _⟩ := R; ⟨_, ho, rfl⟩
  refine wpAny_call_entry F.slot_set_add hT F.entry_set_add ?_ (F.args_set_add_2 _ _)
  unfold Builtin.«set.add» Builtin.Frozenset.oneOther Builtin.Frozenset.addrOf setAdd
  simp only [List.isEmpty_nil, bind_assoc]
  refine wpAny_bind (wpAny_pure (wpAny_bind (wpAny_pure (wpAny_bind (wpAny_holding (wpAny_bind ((strKind P w).pyHash (Froz.is_str k u) ?_)))))))
  exact tx_hashed (s := { s with toks := s.toks + 1 }) R room fun b h' sb r => wpAny_pure ⟨_, rfl, hQ h' sb r⟩
theorem tx_fresh {h : Heap} (P : Program) (w : World) : TxAt P w (h.push { cls := .type "set", dict := none, data := .set #[] 0 (.fresh 0 0 (!w.params.followText "set-order")) }) h.objs.size [] := by
  refine ⟨(#[], 0, .fresh 0 0 (!w.params.followText "set-order")), Heap.get?_push_size _ rfl, Froz.TxOk.nil (by rfl), List.Pairwise.nil, ?_, List.Perm.nil⟩
  show _ ∨ (!w.params.followText "set-order") = true
  cases w.params.followText "set-order"
  · exact .inr rfl
  · exact .inl rfl
theorem strs_of : ∀ vs : List Value, (∀ v ∈ vs, ∃ k t, v = Value.str k t) → StrsAre vs (vs.map keyT)
  | [], _ => .nil
  | v :: vs, h => by
    obtain ⟨k, t, e⟩ := h v List.mem_cons_self
    subst e
    exact .cons _ _ (strs_of vs fun u hu => h u (List.mem_cons_of_mem _ hu))
/-- sorted(found) -/
theorem tx_sorted {Q : Value → Shared → Prop} (R : TxAt P w s.heap a l) (hh : A.handled = none) (hb : l.length < scanBound)
    (hQ : ∀ s' p (out : Array Value) (c : Nat) (ys : List Str), (∀ b o, s.heap.get? b = some o → s'.heap.get? b = some o) → s'.gens = s.gens → s'.os = s.os → s.heap.objs.size ≤ p →
      s'.heap.get? p = some (seqObj "list" out c) → StrsAre out.toList ys → ys.Perm l → sortedS ys = true → Q (.ref p) s') :
    wpAny (model P w) A (call (.builtin "sorted") [.ref a]) Q E s := by
  obtain ⟨⟨es, ep, t⟩, ho, F, hr, hl, pk⟩ := R
  have hsz : es.size = l.length := F.sz
  have hb0 : es.size < scanBound := by omega
  refine Calls.call_function_entry kind_sorted plain_sorted entry_sorted (args_sorted1 _) ?_
  unfold Builtin.«sorted»
  refine wpAny_bind (m := checkCount "sorted" 1 1 _) (wpAny_pure (wpAny_bind (collect_set (A := A.in1) hh ⟨_, ho, rfl, rfl⟩ F.fit hb0 hr hl fun s1 vs k1 hz g1 o1 pm => ?_)))
  have hvl : vs.length = l.length := by rw [pm.length_eq, List.length_map, Array.length_toList]; exact hsz
  have hS : StrsAre vs (vs.map keyT) := strs_of vs fun v hv => by
    obtain ⟨e, he, q⟩ := List.mem_map.mp (pm.mem_iff.mp hv)
    obtain ⟨⟨k, h1, _⟩, _⟩ := F.el e he
    obtain ⟨tk, h2⟩ := Value.isStrOf_shape h1
    exact ⟨k, tk, by rw [← q]; exact h2⟩
  have pp : (vs.map keyT).Perm l := by
    have q := pm.map keyT
    rw [List.map_map] at q
    exact q.trans pk
  have hL : vs.length ≤ sizeLine := by rw [hvl]; exact fits_of_scanBound hb
  refine wpAny_bind (wpAny_newList ?_ (by simpa using hL))
  have hoL : (s1.heap.push (seqObj "list" vs.toArray 0)).get? s1.heap.objs.size = some (seqObj "list" vs.toArray 0) := Heap.get?_push_size _ rfl
  refine wpAny_bind (wpAny_holding (wpAny_call_entry slot_list_sort ⟨_, hoL, rfl⟩ entry_list_sort (list_sort_treeKAny strKind_oneLt hoL hS.keysOf (fun v₁ v₂ rest e => keyKind_strs (by rw [← e]; exact hS)) hL fun st' hp hs => ⟨_, rfl, ?_⟩) (args_list_sort _)))
  obtain ⟨ys, a1, a2, a3⟩ := sorted_out_str hS hp hs
  obtain ⟨c, hc⟩ := sortedHeap_at (vs := vs) (out := (arrOf st').map (·.2)) hoL
  refine wpAny_pure ⟨_, rfl, hQ _ s1.heap.objs.size _ c ys (fun b u e => ?_) g1 o1 hz hc a1 (a2.trans pp) a3⟩
  have q := k1 b u e
  have lt := Heap.lt_size q
  show (sortedHeap (s1.heap.push (seqObj "list" vs.toArray 0)) s1.heap.objs.size vs _).get? b = some u
  rw [sortedHeap_old (Nat.ne_of_lt lt) (by rw [size_push']; exact Nat.lt_succ_of_lt lt)]
  exact Heap.get?_push_of_some _ q
end

/-! ### as a tracked thing -/
def TxO (P : Program) (w : World) (a : Addr) (l : List Str) : HO := .ext fun h => TxAt P w h a l
theorem txO_new {w : World} {P : Program} {H : Hp} {h : Heap} {a : Addr} {l : List Str} (R : TxAt P w h a l) : ObjOk P w H h a (TxO P w a l) :=
  ⟨R, let ⟨_, ho, _⟩ := R; ⟨_, ho⟩, fun h1 h2 p k => TxAt.at p k⟩
section
variable {X : Cx} {pins : List (Addr × Obj)} {σ : L2.St} {H : Hp} {s : Shared}
theorem txO_get {a : Addr} {l : List Str} (I : Inv X pins σ H s) (ha : H a = some (TxO X.prog X.w a l)) : TxAt X.prog X.w s.heap a l := (I.hok a _ ha).1
theorem txO_add {E : Value → Shared → Prop} {D : Addr} {l : List Str} {k : Str} {u : Tok} {Q : Value → Shared → Prop} (I : Inv X pins σ H s) (hD : H D = some (TxO X.prog X.w D l)) (room : l.length + 1 < scanBound)
    (h : ∀ s', Inv X pins σ (upd H D (TxO X.prog X.w D (insT k l))) s' → Q .none s') : wpAny (model X.prog X.w) X.A (call (.builtin "set.add") [.ref D, .str k u]) Q E s :=
  tx_add (txO_get I hD) room fun h' sb new =>
    h _ (I.write (e := D) (t' := s.toks + 1) (by rw [hD]; trivial) (.inl rfl) (fun b u hb hu => (sb.2 b hb).trans hu) (let ⟨_, ho, _⟩ := new; ⟨_, ho⟩) (txO_new new))
/-- sorted(found), as a call's rule -/
def rSortX (P : Program) (w : World) : List V → Hp → VK → Prop := fun vs H Q => ∃ (a : Addr) (l : List Str), vs = [V.ref a] ∧ H a = some (TxO P w a l) ∧ l.length < scanBound ∧
  ∀ (ys : List Str) (p : Addr), ys.Perm l → sortedS ys = true → H p = none → Q (.ref p) (upd H p (.lst (ys.map V.str)))
theorem cr_sortX (hc : X.calm = true) : CallR X (.builtin "sorted") (rSortX X.prog X.w) := by
  intro pins s σ H vs us Q I r h
  obtain ⟨a, l, rfl, ha, hb, q⟩ := h
  rw [Vals.ref1 r]
  refine tx_sorted (txO_get I ha) (I.ok.hd hc) hb fun s' p out c ys k g o hp hg hi hm hs => ?_
  have hlen : (ys.map V.str).length ≤ sizeLine := by rw [List.length_map, hm.length_eq]; exact fits_of_scanBound hb
  have hn : H p = none := I.hok.fresh hp
  have J : Inv X pins σ (upd H p (.lst (ys.map V.str))) { s with heap := s'.heap, gens := s'.gens, drawn := s'.drawn, toks := s'.toks } :=
    I.call (ch := []) (Un.laid k hp hn) (I.hok.laid k hp ⟨hlen, out.toList, c, vals_of_strs hi, hg⟩) (by rw [g]; exact I.bare) (fun _ z => nomatch z)
  have e : s' = { s with heap := s'.heap, gens := s'.gens, drawn := s'.drawn, toks := s'.toks } := by
    cases s'; cases s; cases o; rfl
  rw [e]
  exact ⟨.ref p, _, J, rfl, q ys p hm hs hn⟩
end
end L3

/-! sorted({e for t in xs if c}), e a text -/
namespace L3
open PySem PySem.Spec L2 PyProof.Rows

/-- the set's making, by terms: D is the new set -/
def tSx (P : Program) (w : World) (wi : TI) (g : TG) (tt : TT) (te : TE) (vs : List Nat) : TE := fun σ H Q => wi σ H fun J H1 => ∀ D, H1 D = none → ∃ W : Nat → Nat → Hp → Prop, (∃ m, W 0 m (upd H1 D (TxO P w D []))) ∧
  ∀ i m H, W i m H → (J.stop i H ∧ Q (.ref D) H) ∨ (J.go i H ∧ ∃ Nx : Hp → Prop, (∀ H', Nx H' → ∃ m', m' < m ∧ W (i + 1) m' H') ∧ ∀ x H', J.yld i H x H' → g x (wipe σ vs) H' fun σ2 H2 => wipe σ2 vs = wipe σ vs ∧ tt σ2 H2 fun b H3 =>
    if b = true then te σ2 H3 fun y H4 => ∃ (k : Str) (l : List Str), y = .str k ∧ H4 D = some (TxO P w D l) ∧ l.length + 1 < scanBound ∧ Nx (upd H4 D (TxO P w D (insT k l))) else Nx H3)
section
variable {X : Cx}
theorem pe_sx {elt tg iter : Expr} {ifs : List Expr} {scope : Scope} {own : List (PySem.Str × Nat)} {pos : Pos} {wi : TI} {g : TG} {tt : TT} {te : TE} (hc : X.calm = true) (hN : X.N.Nodup) (hi : PI X tg iter wi) (ok : BlkOk X.N X.env.scope scope own)
    (hg : ∀ (s : Shared) (H : Hp) (c : Addr) (cl : List (PySem.Str × Addr)) (fp : List Addr), PG (X.blk s H scope (compEnvC scope cl c X.env) fp) tg g) (ht : ∀ (s : Shared) (H : Hp) (c : Addr) (cl : List (PySem.Str × Addr)) (fp : List Addr), PTs (X.blk s H scope (compEnvC scope cl c X.env) fp) ifs tt)
    (he : ∀ (s : Shared) (H : Hp) (c : Addr) (cl : List (PySem.Str × Addr)) (fp : List Addr), PE (X.blk s H scope (compEnvC scope cl c X.env) fp) elt te) (hs : ∀ x, foldedSetIterable iter X.env x = pure x := by intro _; rfl) :
    PE X (.SetComp elt [⟨tg, iter, ifs, 0⟩] scope pos) (tSx X.prog X.w wi g tt te (own.map (·.2))) := by
  refine ⟨fun pins s σ H Q I h => ?_⟩
  rw [PpSet.eval_SetComp]
  have hfree : ∀ y ∈ scope.names, y.2 = .free → ∃ c, X.env.cells.lookup y.1 = some c := fun y hy e => (ok.free y hy e).elim (fun k => I.ok.has _ (.inl k)) fun k => I.ok.has _ (.inr k)
  refine wpAny_comprehension_free (use := none) rfl hs (closure_ok hfree) ok.kind (fun y hy e => by rw [ok.uniq y hy, e]) (thn (hi.run pins s σ H _ I h) fun xv sA hx => thn hx fun itv sB hB => ?_)
  obtain ⟨it, fp, tn, J, HB, rfl, IB, T, stB, fB, qB⟩ := hB
  refine PpSet.newSet_ok (newEnv_comp ?_)
  generalize eD : sB.heap.objs.size = D
  obtain ⟨W, ⟨m0, w0⟩, turn⟩ := qB D (IB.hok.fresh (Nat.le_of_eq eD))
  -- the set is there
  generalize eC : ({ sB with heap := sB.heap.push { cls := .type "set", dict := none, data := .set #[] 0 (.fresh 0 0 (!X.w.params.followText "set-order")) } } : Shared) = sC
  have hC : sC.heap = sB.heap.push { cls := .type "set", dict := none, data := .set #[] 0 (.fresh 0 0 (!X.w.params.followText "set-order")) } := by rw [← eC]
  have IC : Inv X pins σ (upd HB D (TxO X.prog X.w D [])) sC := by
    subst eD; subst eC
    exact IB.laid (t' := sB.toks) (fun b o e => Heap.get?_push_of_some _ e) (Nat.le_refl _) (txO_new (tx_fresh X.prog X.w))
  have fC : ∀ b ∈ fp, FpOk X pins (upd HB D (TxO X.prog X.w D [])) b ∧ b < sC.heap.objs.size := fun b hb => by
    obtain ⟨o, e, _⟩ := T.obj _ _ stB b hb
    have lt := Heap.lt_size e
    exact ⟨⟨by rw [upd_ne (Nat.ne_of_lt (eD ▸ lt))]; exact (fB b hb).1, (fB b hb).2⟩, by rw [hC, Heap.size_push]; exact Nat.lt_succ_of_lt lt⟩
  have stC : tn 0 sC.heap := T.keep _ _ _ stB fun b _ o e => by rw [hC]; exact Heap.get?_push_of_some _ e
  -- the block
  have IL := block_start IC ok hN fC
  generalize eH : upd HB D (TxO X.prog X.w D []) = HC at IC IL w0 fC
  generalize eE : compEnvC scope (cellsFrom (sC.heap.objs.size + 1) scope.names (cloFrom X.env.cells scope.names [])) sC.heap.objs.size X.env = ce at IL
  have pg : PG (X.blk sC HC scope ce fp) tg g := eE ▸ hg sC HC _ _ fp
  have pt : PTs (X.blk sC HC scope ce fp) ifs tt := eE ▸ ht sC HC _ _ fp
  have pe : PE (X.blk sC HC scope ce fp) elt te := eE ▸ he sC HC _ _ fp
  have cL : ce.locals = sC.heap.objs.size := by rw [← eE]; rfl
  show codeAny _ _ (.compStart (.SetComp elt [⟨tg, iter, ifs, 0⟩] scope pos) 0 (.ref it) (.ref D) (compEnvC scope (cellsFrom (sC.heap.objs.size + 1) scope.names (cloFrom X.env.cells scope.names [])) sC.heap.objs.size X.env)) (compPost (model X.prog X.w) X.A X.xe none _ (.ref D) sC.heap.objs.size) { sC with heap := pushCells (sC.heap.push { cls := .type "dict", data := .dict #[] }) scope.names }
  rw [eE]
  generalize eS : ({ sC with heap := pushCells (sC.heap.push { cls := .type "dict", data := .dict #[] }) scope.names } : Shared) = sL at IL ⊢
  have stL : tn 0 sL.heap := T.keep _ _ _ stC fun b _ o e => by rw [← eS]; exact pushCells_keeps _ _ _ _ (Heap.get?_push_of_some _ e)
  have stat : ∀ {σ' : L2.St} {H' : Hp} {s' : Shared}, Inv (X.blk sC HC scope ce fp) [] σ' H' s' → (∀ b ∈ fp, H' b = none) → ∀ b ∈ fp, FpOk (X.blk sC HC scope ce fp) [] H' b := fun {σ' H' s'} I' hn b hb =>
    ⟨hn b hb, (I'.ok.exf b hb).1, I'.ok.exfs b hb, .inl hb, fun x c e => (I'.ok.exf b hb).2 x c e, fun p hp => absurd (show p ∈ ([] : List (Addr × Obj)) ++ [] from hp) (by simp)⟩
  refine (fun loop => PpSet.codeAny_compStart_set loop (T.self X.A 0 _ _ _ stL loop)) (?_ : codeAny (model X.prog X.w) X.A (.compLoop (.SetComp elt [⟨tg, iter, ifs, 0⟩] scope pos) 0 (.ref it) (.ref D) ce) _ sL)
  refine PpSet.compLoopS_any (fun n s' => ∃ i H', Inv (X.blk sC HC scope ce fp) [] (wipe σ (own.map (·.2))) H' s' ∧ tn i s'.heap ∧ (∀ b ∈ fp, H' b = none) ∧ W i n H') ?_ m0 ⟨0, HC, IL, stL, fun b hb => (fC b hb).1.1, w0⟩
  rintro n s5 ⟨i, H5, I5, st5, n5, w5⟩
  rcases turn i n H5 w5 with ⟨stop, qq⟩ | ⟨go, Nx, hNx, step⟩
  · refine thnF (T.done (X.blk sC HC scope ce fp) rfl rfl rfl hc i [] s5 _ H5 (fun _ _ => False) I5 (stat I5 n5) st5 stop) fun r s6 ⟨hr, I6⟩ => ?_
    subst hr
    have I7 : Inv X pins σ H5 s6 := IC.call' (ch := fp) I6.os I6.base I6.hok I6.bare fun b hb => ⟨(fC b hb).1.2.2.2.1, (fC b hb).1.2.1, (fC b hb).1.2.2.2.2.1, (fC b hb).1.2.2.2.2.2⟩
    have nC : H5 sC.heap.objs.size = none := cL ▸ I6.free
    obtain ⟨m, hn, _⟩ := I6.loc
    have hn' : s6.heap.Ns sC.heap.objs.size m := cL ▸ hn
    obtain ⟨f0, f1, f2, f3, f4, f5⟩ := IC.fpOk (Nat.le_refl _) nC
    exact ⟨m, hn', fun h'' sb => ⟨.ref D, H5, I7.turned (t' := s6.toks) (fun b o hb e => (sb.2 b hb).trans e) f0 f1 f3 f4 f5, rfl, qq⟩⟩
  · refine thnF (T.item (X.blk sC HC scope ce fp) rfl rfl rfl hc i [] s5 _ H5 (fun _ _ => False) I5 (stat I5 n5) st5 go) fun r s6 ⟨u, hr, h6⟩ => ?_
    subst hr
    refine thnF h6 fun _ s7 ⟨x, H7, I7, r7, y7, st7, n7⟩ => thnF (pg.run _ s7 _ H7 x u _ (I7.pinned (stat I7 n7) (T.obj _ _ st7)) r7 (step x H7 y7)) fun _ s8 ⟨σ8, H8, I8, hw8, q8⟩ => thnF (pt.run _ s8 σ8 H8 _ I8 q8) fun b s9 ⟨H9, I9, q9⟩ => ?_
    have fin : ∀ {s' : Shared} {H' : Hp}, Inv (X.blk sC HC scope ce fp) ([] ++ pinsAt fp s7.heap) σ8 H' s' → Nx H' → ∃ m, m < n ∧ ∃ i H', Inv (X.blk sC HC scope ce fp) [] (wipe σ (own.map (·.2))) H' s' ∧ tn i s'.heap ∧ (∀ b ∈ fp, H' b = none) ∧ W i m H' := fun {s' H'} I' nx => by
      obtain ⟨m', hm, w'⟩ := hNx H' nx
      have pin : ∀ b ∈ fp, ∀ o, s7.heap.get? b = some o → s'.heap.get? b = some o ∧ H' b = none := fun b hb o e =>
        let z := I'.pin (b, o) (List.mem_append_right _ (List.mem_append_right _ (mem_pinsAt hb e)))
        ⟨z.1, z.2.1⟩
      refine ⟨m', hm, i + 1, H', (I'.unpinned (pins := [])).weak (by rw [← hw8, wipe_length]) (fun j v e => (wipe_some (hw8 ▸ e)).1), T.keep _ _ _ st7 fun b hb o e => (pin b hb o e).1, fun b hb => ?_, w'⟩
      obtain ⟨o, e, _⟩ := T.obj _ _ st7 b hb
      exact (pin b hb o e).2
    cases b with
    | false => exact fin I9 (by simpa using q9)
    | true =>
      simp only [if_true] at q9 ⊢
      refine thnF (pe.run _ s9 σ8 H9 _ I9 q9) fun z s10 ⟨yv, H10, I10, r10, k, l, ey, hD10, hz10, nx⟩ => ?_
      subst ey
      obtain ⟨tk, rfl⟩ := (show ∃ t, z = Value.str k t from r10)
      exact txO_add (X := X.blk sC HC scope ce fp) I10 hD10 hz10 fun s11 I11 => fin I11 nx
end

/-! ### lifted -/
/-- sorted({e for t in xs if c}): the texts, each once, ascending -/
def lSx (lw : LW) (g : LG) (tt : LT) (te : LE) (vs : List Nat) : LE := fun ρ M P PX => lw ρ M (fun items okM M1 => ∃ I : Nat → List Str → Mem → Prop, I 0 [] M1 ∧ (∀ i acc M, I i acc M → okM M) ∧
  (∀ i x acc M, items[i]? = some x → I i acc M → g x (wipeL ρ vs) M fun ρ2 M2 => tt ρ2 M2 (fun b M3 => if b = true then te ρ2 M3 (fun y M4 => acc.length + 1 < scanBound ∧ ∃ k, y = .str k ∧ DropM M1.length (I (i + 1) (insT k acc)) M4) noX else DropM M1.length (I (i + 1) acc) M3) noX) ∧
  ∀ acc M, I items.length acc M → acc.length < scanBound ∧ ∀ ys : List Str, ys.Perm acc → sortedS ys = true → P (.dat (.lst (ys.map D.str))) M) PX
theorem lo_sx {C : Cn} {W : WX} {Pg : Program} {w : World} {wi : TI} {lw : LW} {g : TG} {lg : LG} {tt : TT} {lt : LT} {te : TE} {le : LE} {ns : List Nat} (hi : LoW C W wi lw) (hg : LoG C g lg) (hw : Wm g ns) (ht : LoT C W0 tt lt) (he : LoE C W0 te le) :
    LoE C W (tCB (rSortX Pg w) (tCons (tSx Pg w wi g tt te ns) tNil)) (lSx lw lg lt le ns) := fun ρ M P PX h Z σ H α Q vs rs kt wk => by
  refine hi _ _ _ _ h Z σ H α _ vs rs wk fun J H1 α1 items okM M1 s1 r1 it ok1 h1 => fun D hD => ?_
  obtain ⟨I, i0, iok, turn, done⟩ := h1
  have nD := r1.fresh hD
  have naD : D ∉ α1 := fun z => nD (.inl z)
  have ntD : D ∉ C.T := fun z => nD (.inr (.inl z))
  have m1 : Mv ((C.wz Z).N α1) H1 ((C.wz (D :: Z)).N α1) (upd H1 D (TxO Pg w D [])) := ⟨fun b o h _ => by rw [upd_ne (ne_of_none h hD)]; exact h, fun b o h n z => by
    rcases z with z | z | z
    · exact n (.inl z)
    · exact n (.inr (.inl z))
    · rcases List.mem_cons.mp z with z | z
      · exact ne_of_none h hD z
      · exact n (.inr (.inr z))⟩
  have r1' : RS (C.wz (D :: Z)) α1 M1 (upd H1 D (TxO Pg w D [])) := r1.chg m1 (fun a ha => upd_ne fun e => naD (by rw [← e]; exact ha)) (fun Q hQ => upd_ne fun e => ntD (by rw [← e]; exact hQ)) fun z hz => by
    by_cases e : z = D
    · subst e; exact ⟨_, upd_same⟩
    · obtain ⟨u, h⟩ := r1.zd z ((List.mem_cons.mp hz).resolve_left e)
      exact ⟨u, by rw [upd_ne e]; exact h⟩
  have it' := it (D :: Z) _ m1
  have vs1 : VS (C.wz (D :: Z)) α1 (upd H1 D (TxO Pg w D [])) (wipe σ ns) (wipeL ρ ns) := wipe_vs ((vs.step s1).chg m1) ns
  refine ⟨fun i m H' => m = items.length - i ∧ i ≤ items.length ∧ ∃ α' M' acc, Pre (C.wz (D :: Z)) α1 (upd H1 D (TxO Pg w D [])) α' H' ∧ Step (C.wz Z) α1 H1 α' H' ∧ RS (C.wz (D :: Z)) α' M' H' ∧ H' D = some (TxO Pg w D acc) ∧ D ∉ α' ∧ I i acc M',
    ⟨_, rfl, Nat.zero_le _, α1, M1, [], ⟨⟨[], by simp⟩, .refl⟩, Step.refl.own hD, r1', upd_same, naD, i0⟩, ?_⟩
  rintro i m H' ⟨rfl, hi', α', M', acc, pre', s', r', hx, na', p⟩
  by_cases hlt : i < items.length
  · obtain ⟨go, yld⟩ := it'.go i α' H' M' _ pre' r' (iok i acc M' p) (List.getElem?_eq_getElem hlt)
    refine .inr ⟨go, fun H2 => ∃ α2 M2 acc, Pre (C.wz (D :: Z)) α1 (upd H1 D (TxO Pg w D [])) α2 H2 ∧ Step (C.wz Z) α1 H1 α2 H2 ∧ RS (C.wz (D :: Z)) α2 M2 H2 ∧ H2 D = some (TxO Pg w D acc) ∧ D ∉ α2 ∧ I (i + 1) acc M2, fun H2 q => ⟨items.length - (i + 1), by omega, rfl, hlt, q⟩, fun x H2 y => ?_⟩
    obtain ⟨r2, s2, q2⟩ := yld x H2 y
    have p2 := pre'.trans s2.pre
    have fin : ∀ α5 M5 H5 acc5, Pre (C.wz (D :: Z)) α1 (upd H1 D (TxO Pg w D [])) α5 H5 → Step (C.wz Z) α1 H1 α5 H5 → RS (C.wz (D :: Z)) α5 M5 H5 → H5 D = some (TxO Pg w D acc5) → D ∉ α5 → DropM M1.length (I (i + 1) acc5) M5 →
        ∃ α2 M2 acc, Pre (C.wz (D :: Z)) α1 (upd H1 D (TxO Pg w D [])) α2 H5 ∧ Step (C.wz Z) α1 H1 α2 H5 ∧ RS (C.wz (D :: Z)) α2 M2 H5 ∧ H5 D = some (TxO Pg w D acc) ∧ D ∉ α2 ∧ I (i + 1) acc M2 := fun α5 M5 H5 acc5 pt st r5 h5 na5 q5 => by
      rcases q5 with q5 | ⟨n, hn, hM, q5⟩
      · exact ⟨α5, M5, acc5, pt, st, r5, h5, na5, q5⟩
      · rw [← r1.hr.len] at hn
        refine ⟨α5.take n, M5.take n, acc5, ⟨?_, pt.mv.trans Mv.take⟩, st.drop hn, r5.drop hM, h5, fun z => na5 (List.mem_of_mem_take z), q5⟩
        obtain ⟨β, e⟩ := pt.ext
        exact ⟨β.take (n - α1.length), by rw [e, List.take_append, List.take_of_length_le hn]⟩
    have na_ : ∀ {α5 H5}, Step (C.wz (D :: Z)) α' H' α5 H5 → D ∉ α5 := fun {α5 H5} s5 z => by
      obtain ⟨β, e, fr⟩ := s5.ext
      rw [e] at z
      rcases List.mem_append.mp z with z | z
      · exact na' z
      · have := fr D z; rw [hx] at this; cases this
    have sz : ∀ {α5 H5}, Step (C.wz (D :: Z)) α' H' α5 H5 → Step (C.wz Z) α1 H1 α5 H5 := fun s5 => s'.trans ⟨s5.ext, s5.keep, s5.dom⟩
    refine hw.mono _ _ _ _ _ (fun σ3 H3 z => ⟨z.1.trans (wipe_idem fun _ h => h), z.2⟩) (hw.wg _ _ _ _ ?_)
    refine hg _ _ M' _ (turn i _ acc M' (List.getElem?_eq_getElem hlt) p) x (D :: Z) (wipe σ ns) H2 α' _ q2 (vs1.pre p2) r2 fun σ3 H3 α3 ρ3 M3 s3 vs3 r3 p3 => ?_
    have s23 := s2.trans s3
    refine ht.bind p3 vs3 r3 XR.any fun b H4 α4 M4 s4 r4 h4 vs4 wk4 => ?_
    have s24 := s23.trans s4
    have hD4 : H4 D = some (TxO Pg w D acc) := s24.keep D _ hx na' ntD
    cases b with
    | false => exact fin α4 M4 H4 acc (pre'.trans s24.pre) (sz s24) r4 hD4 (na_ s24) h4
    | true =>
      refine he.bind h4 vs4 r4 XR.any fun v H5 α5 y M5 s5 r5 q5 h5 vs5 wk5 => ?_
      obtain ⟨hz, k, rfl, h5⟩ := h5
      have ev : v = .str k := by cases q5; rfl
      have s25 := s24.trans s5
      have hD5 : H5 D = some (TxO Pg w D acc) := s25.keep D _ hx na' ntD
      refine ⟨k, acc, ev, hD5, hz, ?_⟩
      have mo : Mv ((C.wz (D :: Z)).N α5) H5 ((C.wz (D :: Z)).N α5) (upd H5 D (TxO Pg w D (insT k acc))) := mv_own (.inr (.inr List.mem_cons_self))
      have pp := pre'.trans s25.pre
      exact fin α5 M5 _ (insT k acc) ⟨pp.ext, pp.mv.trans mo⟩ ((sz s25).own hD) (r5.own (na_ s25) ntD) upd_same (na_ s25) h5
  · have e : i = items.length := by omega
    subst e
    refine .inl ⟨it'.stop α' H' M' pre' r' (iok _ acc M' p), ?_⟩
    have mw : Mv ((C.wz (D :: Z)).N α') H' ((C.wz Z).N α') H' := ⟨fun _ _ h _ => h, fun b o h n z => n (z.imp id fun z => z.imp id fun z => List.mem_cons_of_mem _ z)⟩
    have rZ : RS (C.wz Z) α' M' H' := r'.chg mw (fun _ _ => rfl) (fun _ _ => rfl) fun z hz => r'.zd z (List.mem_cons_of_mem _ hz)
    obtain ⟨hb, fin⟩ := done acc M' p
    exact ⟨D, acc, rfl, hx, hb, fun ys p0 h1 h2 h3 => new_lst rZ (kt.step (s1.trans s')) (VDs.strs ys) (fin ys h1 h2) p0 h3⟩
section
variable {X : Cx} {C : Cn} {W : WX} {elt tg iter : Expr} {ifs : List Expr} {scope : Scope} {own : List (Str × Nat)} {cpos pos np : Pos} {wi : TI} {lw : LW} {g : TG} {lg : LG} {tt : TT} {lt : LT} {te : TE} {le : LE}
theorem lp_sx (hc : X.calm = true) (hN : X.N.Nodup) (hgl : Gl X "sorted") (hm : X.mg "sorted" = none) (hv : bootBuiltins "sorted" = some (.builtin "sorted")) (hi : LPI X C W tg iter wi lw) (ok : BlkOk X.N X.env.scope scope own) (hw : Wm g (own.map (·.2)))
    (hg : ∀ (s : Shared) (H : Hp) (c : Addr) (cl : List (Str × Addr)) (fp : List Addr), LPG (X.blk s H scope (compEnvC scope cl c X.env) fp) C tg g lg) (ht : ∀ (s : Shared) (H : Hp) (c : Addr) (cl : List (Str × Addr)) (fp : List Addr), LPTs (X.blk s H scope (compEnvC scope cl c X.env) fp) C W0 ifs tt lt)
    (he : ∀ (s : Shared) (H : Hp) (c : Addr) (cl : List (Str × Addr)) (fp : List Addr), LPE (X.blk s H scope (compEnvC scope cl c X.env) fp) C W0 elt te le) (hs : ∀ x, foldedSetIterable iter X.env x = pure x := by intro _; rfl) :
    LPE X C W (.Call (.Name "sorted" np) [.SetComp elt [⟨tg, iter, ifs, 0⟩] scope pos] [] cpos) (tCB (rSortX X.prog X.w) (tCons (tSx X.prog X.w wi g tt te (own.map (·.2))) tNil)) (lSx lw lg lt le (own.map (·.2))) :=
  ⟨pe_callB (cr_sortX hc) hgl hm hv (pa_cons (pe_sx hc hN hi.pi ok (fun s H c cl fp => (hg s H c cl fp).pg) (fun s H c cl fp => (ht s H c cl fp).pt) (fun s H c cl fp => (he s H c cl fp).pe) hs) pa_nil) (by decide) (by decide) rfl rfl,
   lo_sx hi.lo (hg ({} : Shared) (fun _ => none) 0 [] []).lo hw (ht ({} : Shared) (fun _ => none) 0 [] []).lo (he ({} : Shared) (fun _ => none) 0 [] []).lo⟩
end
/-- over data, without conditions: what comes is written down -/
theorem sx_pure {lg : LG} {te : LE} {vs : List Nat} {ρ : Rho} {M : Mem} {P : PD} {ds : List D} {okM : Mem → Prop} (f : D → Str) (hok : okM M) (hb : ds.length < scanBound)
    (he : ∀ d ∈ ds, ∀ R : PD, R (.str (f d)) M → lg (.dat d) (wipeL ρ vs) M fun ρ2 M2 => te ρ2 M2 R noX)
    (h : ∀ ys : List Str, (∀ x, x ∈ ys ↔ ∃ d ∈ ds, f d = x) → ys.Nodup → sortedS ys = true → P (.dat (.lst (ys.map D.str))) M) :
    ∃ I : Nat → List Str → Mem → Prop, I 0 [] M ∧ (∀ i acc M, I i acc M → okM M) ∧
      (∀ i x acc M', (ds.map DV.dat)[i]? = some x → I i acc M' → lg x (wipeL ρ vs) M' fun ρ2 M2 => lYes ρ2 M2 (fun b M3 => if b = true then te ρ2 M3 (fun y M4 => acc.length + 1 < scanBound ∧ ∃ k, y = .str k ∧ DropM M.length (I (i + 1) (insT k acc)) M4) noX else DropM M.length (I (i + 1) acc) M3) noX) ∧
      ∀ acc M', I (ds.map DV.dat).length acc M' → acc.length < scanBound ∧ ∀ ys : List Str, ys.Perm acc → sortedS ys = true → P (.dat (.lst (ys.map D.str))) M' := by
  refine ⟨fun i acc M' => M' = M ∧ acc.Nodup ∧ acc.length ≤ i ∧ ∀ x, x ∈ acc ↔ ∃ d ∈ ds.take i, f d = x, ⟨rfl, List.nodup_nil, Nat.le_refl _, fun x => by simp⟩, fun i acc M' h => h.1 ▸ hok, ?_, ?_⟩
  · rintro i x acc M' hx ⟨rfl, nd, hl, hm⟩
    obtain ⟨d, hd, rfl, hi, hdm⟩ := map_at hx
    show lg (.dat d) (wipeL ρ vs) M' fun ρ2 M2 => te ρ2 M2 _ noX
    refine he d hdm _ ⟨?_, f d, rfl, .inl ⟨rfl, insT_nodup _ nd, Nat.le_trans (insT_len _ _) (by omega), fun y => ?_⟩⟩
    · omega
    · rw [insT_mem, hm, List.take_add_one, hd]
      simp only [Option.toList_some, List.mem_append, List.mem_singleton]
      constructor
      · rintro (e | ⟨d', h1, h2⟩)
        · exact ⟨d, .inr rfl, e.symm⟩
        · exact ⟨d', .inl h1, h2⟩
      · rintro ⟨d', h1 | h1, h2⟩
        · exact .inr ⟨d', h1, h2⟩
        · subst h1; exact .inl h2.symm
  · rintro acc M' ⟨rfl, nd, hl, hm⟩
    rw [List.length_map] at hl
    refine ⟨by omega, fun ys p s => h ys (fun x => ?_) (p.nodup_iff.mpr nd) s⟩
    rw [p.mem_iff, hm, List.length_map, List.take_length]
theorem s_sxL {ρ : Rho} {M : Mem} {P : PD} {PX : PXn} {lg : LG} {te : LE} {vs : List Nat} {ds : List D} (f : D → Str) (hb : ds.length < scanBound)
    (he : ∀ d ∈ ds, ∀ R : PD, R (.str (f d)) M → lg (.dat d) (wipeL ρ vs) M fun ρ2 M2 => te ρ2 M2 R noX)
    (h : ∀ ys : List Str, (∀ x, x ∈ ys ↔ ∃ d ∈ ds, f d = x) → ys.Nodup → sortedS ys = true → P (.dat (.lst (ys.map D.str))) M) (le : LE)
    (hl : ∀ R : PD, R (.dat (.lst ds)) M → le ρ M R PX) : lSx (lwAny le) lg lYes te vs ρ M P PX := hl _ (sx_pure f trivial hb he h)
theorem s_sxT {ρ : Rho} {M : Mem} {P : PD} {PX : PXn} {lg : LG} {te : LE} {vs : List Nat} {ds : List D} (f : D → Str) (hb : ds.length < scanBound)
    (he : ∀ d ∈ ds, ∀ R : PD, R (.str (f d)) M → lg (.dat d) (wipeL ρ vs) M fun ρ2 M2 => te ρ2 M2 R noX)
    (h : ∀ ys : List Str, (∀ x, x ∈ ys ↔ ∃ d ∈ ds, f d = x) → ys.Nodup → sortedS ys = true → P (.dat (.lst (ys.map D.str))) M) (le : LE)
    (hl : ∀ R : PD, R (.dat (.tup ds)) M → le ρ M R PX) : lSx (lwAny le) lg lYes te vs ρ M P PX := hl _ (sx_pure f trivial hb he h)
end L3

/-! sorted(e, key=lambda v: v[0]): rows with a text ahead -/
namespace L3
open PySem PySem.Spec L2 PySem.W PyProof.Rows LamX

/-- a lambda was made: its code object is new, or found in the table -/
structure LamStep (P : Addr) (q : Str) (H H1 : Hp) : Prop where
  tab : ∃ ps : Array Value, H1 P = some (.tbl ps) ∧ TriplesOk ps.toList ∧ ∀ (pos : Pos) (cv : Value), codeAmong pos ps.toList = some cv → ∃ c, cv = .ref c ∧ H1 c = some (CodeO c q) ∧ (H c = none ∨ ∃ ps0 : Array Value, H P = some (.tbl ps0) ∧ ∃ pos0, codeAmong pos0 ps0.toList = some (.ref c))
  keep : ∀ b o, b ≠ P → H b = some o → H1 b = some o
section
variable {X : Cx} {pins : List (Addr × Obj)} {σ : L2.St} {H : Hp} {s : Shared}
theorem lam_make3 {c P : Addr} {params : Arguments} {body : Expr} {scope : Scope} {pos : Pos} {E : Value → Shared → Prop} {Q : Value → Shared → Prop} (I : Inv X pins σ H s) (TB : LamX.TabB X.base X.mg c P) (hcode : X.env.code = .ref c)
    (hT : TabS H P (X.env.qual ++ "<lambda>")) (hdef : defaultsOf params X.env = ([], [])) (hfree : ∀ y ∈ scope.names, y.2 = .free → ∃ c, X.env.cells.lookup y.1 = some c)
    (h : ∀ (f c' : Addr) (pm ctv : Value) (H1 : Hp) (s' : Shared), Inv X pins σ H1 s' → LamStep P (X.env.qual ++ "<lambda>") H H1 →
      s'.heap.get? f = some (PySem.W.kla_obj "<lambda>" (X.env.qual ++ "<lambda>") params body scope (cloFrom X.env.cells scope.names []) pm c' ctv) → H1 c' = some (CodeO c' (X.env.qual ++ "<lambda>")) → Q (.ref f) s') :
    wpAny (model X.prog X.w) X.A (eval (.Lambda params body scope pos) X.env) Q E s := by
  obtain ⟨ps, hP, ht, ha⟩ := hT
  refine PySem.W.kla_eval hdef ?_
  have bP : s.heap.BuiltinsAt X.mg P := TB.bm.keeps I.bk
  have hP' : s.heap.get? P = some { cls := .none, data := .fields ps } := I.hok P _ hP
  cases hc : codeAmong pos ps.toList with
  | none =>
    refine PySem.W.kla_makeFunction (mg := X.mg) (c := c) (P := P) (ps := ps) (closure_ok hfree) I.ok.glob (I.mod.glob.keeps I.bk) hcode (TB.code.keeps I.bk) hP' ht hc TB.gP bP fun c' ctv h' tk hx hge hlt hrec htb => ?_
    obtain ⟨c2, oc, vs, t, e2, hoc, hd, hv⟩ := hrec
    cases e2
    have nC : H c' = none := I.hok.fresh hge
    have I1 := inv_table (t' := tk) (more := #[rawInt pos.line, rawInt pos.col, .ref c']) (h' := h'.push (PySem.W.kla_obj "<lambda>" (X.env.qual ++ "<lambda>") params body scope (cloFrom X.env.cells scope.names []) ((X.mg "__name__").getD .none) c' ctv)) I hP
      (fun b o hb e => Heap.get?_push_of_some _ (hx b o hb e)) (Heap.get?_push_of_some _ htb) hge ⟨oc, vs, t, Heap.get?_push_of_some _ hoc, hd, hv⟩
    have kp : ∀ b o, b ≠ P → H b = some o → (upd (upd H P (.tbl (ps ++ #[rawInt pos.line, rawInt pos.col, .ref c']))) c' (CodeO c' (X.env.qual ++ "<lambda>"))) b = some o := fun b o n e => by
      rw [upd_ne (ne_of_none e nC), upd_ne n]
      exact e
    have eL : (ps ++ #[rawInt pos.line, rawInt pos.col, .ref c']).toList = ps.toList ++ [rawInt pos.line, rawInt pos.col, .ref c'] := by simp
    refine h h'.objs.size c' ((X.mg "__name__").getD .none) ctv _ _ I1 ⟨⟨_, by rw [upd_ne (ne_of_none hP nC), upd_same], by rw [eL]; exact PySem.TriplesOk_snoc _ _ _ _ ht, fun p' cv hcv => ?_⟩, kp⟩ (Heap.get?_push_size _ rfl) upd_same
    rw [eL] at hcv
    rcases among_app _ ht hcv with z | z
    · obtain ⟨c0, e1, e2⟩ := ha p' cv z
      refine ⟨c0, e1, kp _ _ (fun n => ?_) e2, .inr ⟨ps, hP, p', by rw [← e1]; exact z⟩⟩
      rw [n, hP] at e2
      exact codeO_ne ps (Option.some.inj e2).symm
    · exact ⟨c', z, upd_same, .inl nC⟩
  | some cv =>
    obtain ⟨c', e, hco⟩ := ha pos cv hc
    subst e
    refine PySem.W.kla_makeFunctionHit (mg := X.mg) (c := c) (P := P) (ps := ps) (closure_ok hfree) I.ok.glob (I.mod.glob.keeps I.bk) hcode (TB.code.keeps I.bk) hP' ht hc bP fun ctv h' tk hx hsz => ?_
    have I1 : Inv X pins σ H { s with heap := h'.push (PySem.W.kla_obj "<lambda>" (X.env.qual ++ "<lambda>") params body scope (cloFrom X.env.cells scope.names []) ((X.mg "__name__").getD .none) c' ctv), toks := tk } := I.kept fun b o e => Heap.get?_push_of_some _ (hx b o e)
    refine h h'.objs.size c' ((X.mg "__name__").getD .none) ctv H _ I1 ⟨⟨ps, hP, ht, fun p' cv hcv => ?_⟩, fun _ _ _ e => e⟩ (Heap.get?_push_size _ rfl) hco
    obtain ⟨c0, e1, e2⟩ := ha p' cv hcv
    exact ⟨c0, e1, e2, .inr ⟨ps, hP, p', by rw [← e1]; exact hcv⟩⟩
end
/-- the lambda's one parameter; no captured name -/
structure Lam1 (scope : Scope) (v : Str) : Prop where
  kind : scope.kind = .function
  co : scope.isCoroutine = false
  gen : scope.isGenerator = false
  cell : ∀ y ∈ scope.names, y.2 ≠ .cell
  free : ∀ y ∈ scope.names, y.2 ≠ .free
  par : scope.names.lookup v = some .local
def lam1B (scope : Scope) (v : Str) : Bool :=
  decide (scope.kind = .function) && (!scope.isCoroutine && (!scope.isGenerator && (scope.names.all (fun y => !decide (y.2 = .cell)) && (scope.names.all (fun y => !decide (y.2 = .free)) && decide (scope.names.lookup v = some .local)))))
theorem lam1_by {scope : Scope} {v : Str} (h : lam1B scope v = true) : Lam1 scope v := by
  unfold lam1B at h
  simp only [Bool.and_eq_true, Bool.not_eq_true', decide_eq_true_eq, decide_eq_false_iff_not, List.all_eq_true] at h
  obtain ⟨h1, h2, h3, h4, h5, h6⟩ := h
  exact ⟨h1, h2, h3, h4, h5, h6⟩
/-- the rows: tuples with a text ahead -/
def RowsA (K : PySem.W.Frag) (v : V) (H : Hp) (bs : List (V × Str)) : Prop := ∃ a, v = .ref a ∧ SqL K H a (bs.map (·.1)) ∧ ∀ b ∈ bs, ∃ t xs, b.1 = .ref t ∧ SqT K H t xs ∧ xs[0]? = some (.str b.2)
def tSortLam (K : PySem.W.Frag) (P0 : Addr) (qn : Str) (te : TE) : TE := fun σ H Q => te σ H fun v H1 => TabS H1 P0 qn ∧ ∃ bs, RowsA K v H1 bs ∧
  ∀ H2, LamStep P0 qn H1 H2 → ∀ p, H2 p = none → Q (.ref p) (upd H2 p (.lst ((bs.mergeSort (dataLe false fun b => .str b.2)).map (·.1))))
section
variable {P : Addr} {q : Str} {H H1 : Hp} {K : PySem.W.Frag}
theorem LamStep.rd (t : LamStep P q H H1) (hP : ∃ ps, H P = some (.tbl ps)) {a : Addr} {u : HO} (h : Rd H a u) (n : ∀ ps, u ≠ .tbl ps) : Rd H1 a u := by
  obtain ⟨ps, hP⟩ := hP
  rcases h with h | ⟨o, h⟩
  · refine .inl (t.keep _ _ (fun z => ?_) h)
    rw [z, hP] at h
    exact n ps (Option.some.inj h).symm
  · refine .inr ⟨o, t.keep _ _ (fun z => ?_) h⟩
    rw [z, hP] at h
    cases h
theorem LamStep.sqL (t : LamStep P q H H1) (hP : ∃ ps, H P = some (.tbl ps)) {a : Addr} {xs : List V} (h : SqL K H a xs) : SqL K H1 a xs := h.imp (fun h => t.rd hP h fun _ z => by cases z) id
theorem LamStep.sqT (t : LamStep P q H H1) (hP : ∃ ps, H P = some (.tbl ps)) {a : Addr} {xs : List V} (h : SqT K H a xs) : SqT K H1 a xs := h.imp (fun h => t.rd hP h fun _ z => by cases z) id
theorem LamStep.rows (t : LamStep P q H H1) (hP : ∃ ps, H P = some (.tbl ps)) {v : V} {bs : List (V × Str)} (h : RowsA K v H bs) : RowsA K v H1 bs := by
  obtain ⟨a, e, h1, h2⟩ := h
  exact ⟨a, e, t.sqL hP h1, fun b hb => let ⟨u, xs, e1, e2, e3⟩ := h2 b hb; ⟨u, xs, e1, t.sqT hP e2, e3⟩⟩
end
theorem eachS {R : Value → V × Str → Prop} : ∀ {bs : List (V × Str)} {its : List Value}, Vals (bs.map (·.1)) its → (∀ b ∈ bs, ∀ u, RelV b.1 u → R u b) → EachIs R its bs
  | [], _, r, _ => by cases r; exact .nil
  | b :: bs, _, r, h => by
    cases r with
    | cons r0 rt => exact .cons (h b List.mem_cons_self _ r0) (eachS rt fun b hb => h b (List.mem_cons_of_mem _ hb))
theorem valsS {R : Value → V × Str → Prop} (hR : ∀ u b, R u b → RelV b.1 u) : ∀ {bs : List (V × Str)} {its : List Value}, EachIs R its bs → Vals (bs.map (·.1)) its
  | _, _, .nil => .nil
  | _, _, .cons h t => .cons (hR _ _ h) (valsS hR t)
/-- a row, over the heap -/
def RowH (h : Heap) (u : Value) (b : V × Str) : Prop := RelV b.1 u ∧ ∃ t its tk, u = .ref t ∧ IsTup h t its ∧ its[0]? = some (.str b.2 tk)
section
variable {X : Cx} {pins : List (Addr × Obj)} {σ : L2.St} {H : Hp} {s : Shared}
/-- the lambda, called with a row -/
theorem lam_turn {A : Around} {scope : Scope} {v q : Str} {params : Arguments} {f c' : Addr} {pm ctv : Value} {cl : List (Str × Addr)} {j : Nat} {p1 p2 p3 : Pos} {u : Value} {b : V × Str} {h : Heap} {tk : Nat} (I : Inv X pins σ H s) (L : Lam1 scope v) (hd : A.depth < recursionLimit)
    (hf : s.heap.get? f = some (PySem.W.kla_obj "<lambda>" q params (.Subscript (.Name v p1) (.Constant (.int 0) j p2) p3) scope cl pm c' ctv)) (hc : H c' = some (CodeO c' q))
    (hb : bindArgs (PySem.W.kla_fn "<lambda>" q params (.Subscript (.Name v p1) (.Constant (.int 0) j p2) p3) scope cl pm (.ref c') ctv) ⟨[u], []⟩ = pure [(v, u)]) (hdv : (v == ("__debug__" : Str)) = false)
    (hr : RowH s.heap u b) (kp : ∀ b o, s.heap.get? b = some o → h.get? b = some o) :
    wpAny (model X.prog X.w) A (call (.ref f) [u]) (KeyPure (.str b.2) { s with heap := h, toks := tk }) (fun _ _ => False) { s with heap := h, toks := tk } := by
  obtain ⟨_, t, its, tq, rfl, ⟨ot, ht, htc, htd⟩, hx⟩ := hr
  obtain ⟨⟨oc, vs, t', hoc, hdc, hvc⟩, _, _⟩ := I.hok c' _ hc
  refine wpAny_call ?_
  refine PySem.W.kla_callFunE (body := .Subscript (.Name v p1) (.Constant (.int 0) j p2) p3) hd (kp _ _ hf) rfl L.co L.gen rfl ⟨c', oc, vs, t', rfl, kp _ _ hoc, hdc, hvc⟩ ?_
  rw [hb]
  refine wpAny_pure (wpAny_newFunctionEnv L.cell (fun y hy => ?_) (fun h₁ hns hsb => ⟨(I.nolimit.keeps kp).fresh _ hsb, ?_⟩) L.kind)
  · obtain rfl : y = (v, .ref t) := by simpa using hy
    exact L.par
  · have k2 : ∀ b o, h.get? b = some o → h₁.get? b = some o := fun b o e => hsb.extBut b o (Nat.ne_of_lt (Heap.lt_size e)) (Heap.get?_push_of_some _ e)
    refine PySem.W.kla_codeExpr ?_
    refine Subscript_ (wpAny_Name (wpAny_loadName_local L.kind L.par hns (v := .ref t) (by simp [List.lookup]) ?_) hdv)
    refine wpAny_Constant_int ?_
    refine item_tuple (items := its) (j := 0) ⟨ot, k2 _ _ (kp _ _ ht), htc, htd⟩ (by decide) (by decide) ?_ hx ?_
    · have : 0 < its.size := (Array.getElem?_eq_some_iff.mp hx).1
      unfold seqIndex?
      simp [this]
    · exact ⟨h₁, _, rfl, k2, .str _ _⟩
end
section
variable {X : Cx}
theorem pe_sortLam {c P0 : Addr} {e : Expr} {te : TE} {scope : Scope} {v : Str} {params : Arguments} {j : Nat} {p lpos kpos pos p1 p2 p3 : Pos} (hu : X.A.units + 64 < cLine) (hdp : X.A.depth < recursionLimit) (hg : Gl X "sorted") (hm : X.mg "sorted" = none) (TB : LamX.TabB X.base X.mg c P0) (hcode : X.env.code = .ref c) (L : Lam1 scope v)
    (he : PE X e te) (hdef : defaultsOf params X.env = ([], []))
    (hbind : ∀ (q : Str) (cl : List (Str × Addr)) (pm cv ctv u : Value), bindArgs (PySem.W.kla_fn "<lambda>" q params (.Subscript (.Name v p1) (.Constant (.int 0) j p2) p3) scope cl pm cv ctv) ⟨[u], []⟩ = pure [(v, u)])
    (hdv : (v == ("__debug__" : Str)) = false := by decide)
    (hst : starEach [e] X.env = (false, eval e X.env) :: starEach [] X.env := by rfl) :
    PE X (.Call (.Name "sorted" p) [e] [⟨some "key", .Lambda params (.Subscript (.Name v p1) (.Constant (.int 0) j p2) p3) scope lpos, kpos⟩] pos) (tSortLam X.K P0 (X.env.qual ++ "<lambda>") te) := by
  refine ⟨fun pins s σ H Q I h => ?_⟩
  refine wpAny_Call_Name_kw (ld_blt I hg hm (u := .builtin "sorted") (by first | rfl | decide +kernel) ?_ (by first | decide +kernel | decide) (by first | decide +kernel | decide))
  refine PyProof.Rows.callWith_kw ?_ (by rw [hst]; rfl) (by rw [hst]; rfl)
  refine thn ((pa_cons he pa_nil hst).run pos pins s σ H (fun vs H1 => match vs with
    | [v0] => TabS H1 P0 (X.env.qual ++ "<lambda>") ∧ ∃ bs, RowsA X.K v0 H1 bs ∧ ∀ H2, LamStep P0 (X.env.qual ++ "<lambda>") H1 H2 → ∀ p, H2 p = none → Q (.ref p) (upd H2 p (.lst ((bs.mergeSort (dataLe false fun b => .str b.2)).map (·.1))))
    | _ => False) I h) fun us s1 ⟨vs, H1, I1, r1, q1⟩ => ?_
  obtain ⟨v0, rfl, hT, bs, hR, hQ⟩ : ∃ v0, vs = [v0] ∧ TabS H1 P0 (X.env.qual ++ "<lambda>") ∧ ∃ bs, RowsA X.K v0 H1 bs ∧ ∀ H2, LamStep P0 (X.env.qual ++ "<lambda>") H1 H2 → ∀ p, H2 p = none → Q (.ref p) (upd H2 p (.lst ((bs.mergeSort (dataLe false fun b => .str b.2)).map (·.1)))) := by
    match vs, q1 with
    | [v0], q1 => exact ⟨v0, rfl, q1⟩
  show wpAny _ _ (evalAll ((do let v ← eval (.Lambda params (.Subscript (.Name v p1) (.Constant (.int 0) j p2) p3) scope lpos) X.env; standAt pos; pure v) :: [])) _ _ s1
  refine wpAny_evalAll_cons (wpAny_bind (lam_make3 I1 TB hcode hT hdef (fun y hy e => absurd e (L.free y hy)) fun f c' pm ctv H2 s2 I2 st hf hc => wpAny_bind (wpAny_standAt (wpAny_pure (wpAny_evalAll_nil ?_)))))
  have hP : ∃ ps, H1 P0 = some (.tbl ps) := hT.imp fun _ z => z.1
  obtain ⟨a, rfl, hs, hrow⟩ := st.rows hP hR
  obtain rfl := Vals.ref1 r1
  obtain ⟨its, rv, hl, hz⟩ := I2.list hs
  rw [List.length_map] at hz
  have e1 : EachIs (RowH s2.heap) its bs := eachS rv fun b hb u hru => ⟨hru, by
    obtain ⟨t, xs, eb, ht, hx⟩ := hrow b hb
    obtain ⟨tis, rt, pt, _⟩ := I2.tuple ht
    obtain ⟨w, ew, rw'⟩ := rt.get hx
    obtain ⟨tk, rfl⟩ := rw'
    rw [eb] at hru
    exact ⟨t, tis.toArray, tk, hru, pt, by simpa using ew⟩⟩
  show wpAny _ _ (call (.builtin "sorted") [.ref a] [(Str.ofString "key", .ref f)]) _ _ s2
  refine sorted_key_data (s := s2) (b := false) (fun b : V × Str => PyData.str b.2) hl.isList e1 (AllAlike.of fun _ _ => by simp [alike]) (Sortable.others fun _ => ⟨(by intro z; cases z), fun xs z => by cases z⟩) hz (fun b hb => ?_) (ksk_s1 _ _) (fun _ => ksk_l1 _ _) (fun _ => ksk_t1 _ _)
    (fun u b hR' hb h tk kp => lam_turn I2 L hdp hf hc (hbind _ _ _ _ _ _) hdv hR' kp) fun out ep h' tk kp hfr he' ho eo => ?_
  · have : (PyData.str b.2).depth = 0 := by simp [PyData.depth]
    rw [this]
    omega
  · have hlen : ((bs.mergeSort (dataLe false fun b => PyData.str b.2)).map (·.1)).length ≤ sizeLine := by rw [List.length_map, List.length_mergeSort]; exact hz
    exact ⟨.ref _, upd H2 (s2.heap.objs.size + 1) (.lst ((bs.mergeSort (dataLe false fun b => PyData.str b.2)).map (·.1))), I2.laid (t' := tk) kp (Nat.le_succ _) ⟨hlen, out, ep, valsS (fun _ _ z => z.1) eo, he'⟩, rfl, hQ H2 st _ (I2.hok.fresh (Nat.le_succ _))⟩
end
/-! ### lifted -/
def headK : D → PyData
  | .tup (.str p :: _) => .str p
  | _ => .none
def lSortLam (le : LE) : LE := fun ρ M P PX => le ρ M (fun x M1 => ∃ ds : List D, (x = .dat (.lst ds) ∨ ∃ n, x = .obj n ∧ M1[n]? = some (.lst (ds.map DV.dat))) ∧ (∀ d ∈ ds, ∃ p r, d = .tup (.str p :: r)) ∧ P (.dat (.lst (ds.mergeSort (dataLe false headK)))) M1) PX
section
variable {C : Cn} {α : List Addr} {H H1 : Hp} {M : Mem} {P0 : Addr} {q : Str}
theorem LamStep.step (h0 : P0 ∈ C.T) (r : RS C α M H) (t : LamStep P0 q H H1) : Step C α H α H1 := by
  obtain ⟨ps', e', _⟩ := t.tab
  refine ⟨⟨[], by simp, by simp⟩, fun b o h _ nt => t.keep b o (fun z => nt (by rw [z]; exact h0)) h, fun b o h => ?_⟩
  by_cases z : b = P0
  · exact ⟨_, by rw [z]; exact e'⟩
  · exact ⟨o, t.keep b o z h⟩
theorem LamStep.rs (hm : (P0, q) ∈ C.T.qs) (hu : ∀ p ∈ C.T.qs, p.1 = P0 → p.2 = q) (r : RS C α M H) (t : LamStep P0 q H H1) : RS C α M H1 := by
  have h0 : P0 ∈ C.T := C.T.sub _ hm
  have s := t.step h0 r
  obtain ⟨ps, e, _⟩ := r.tb P0 h0
  obtain ⟨ps', e', ht, hc'⟩ := t.tab
  refine ⟨⟨r.hr.len, fun n a o h1 h2 => ?_⟩, r.nd, fun P hP => ?_, fun z hz => ?_, fun p hp => ?_⟩
  · have q := r.hr.get n a o h1 h2
    have ne : a ≠ P0 := fun z => r.noT h1 h2 (by rw [z]; exact h0)
    obtain ⟨u, eu⟩ := q.some
    exact q.step s (by rw [eu, t.keep a u ne eu])
  · by_cases z : P = P0
    · subst z; exact ⟨ps', e', ht⟩
    · obtain ⟨qs, h1, h2⟩ := r.tb P hP
      exact ⟨qs, t.keep _ _ z h1, h2⟩
  · obtain ⟨o, h⟩ := r.zd z hz
    exact s.dom z o h
  · by_cases z : p.1 = P0
    · intro ps1 h pos cv hc
      rw [z, e'] at h
      cases h
      obtain ⟨c, e1, e2, e3⟩ := hc' pos cv hc
      refine ⟨c, e1, fun hz => ?_, by rw [hu p hp z]; exact e2⟩
      rcases e3 with e3 | ⟨ps0, h0', pos0, hc0⟩
      · obtain ⟨o, h⟩ := r.zd c hz
        rw [e3] at h; cases h
      · obtain ⟨c1, e4, e5, _⟩ := r.tq _ hm ps0 h0' pos0 _ hc0
        cases e4
        exact e5 hz
    · refine (r.tq p hp).keep (r.tabAt hp) (fun b o h y => t.keep b o ?_ h) fun _ _ _ z => z
      rcases y with y | ⟨q, rfl, _⟩
      · rw [y]; exact z
      · exact fun z => r.codeNotT h (by rw [z]; exact h0)
end
theorem lo_sortLam {C : Cn} {W : WX} {P0 : Addr} {q : Str} {te : TE} {le : LE} (hm : (P0, q) ∈ C.T.qs) (hu : ∀ p ∈ C.T.qs, p.1 = P0 → p.2 = q) (he : LoE C W te le) : LoE C W (tSortLam C.K P0 q te) (lSortLam le) := fun ρ M P PX h Z σ H α Q vs rs kt wk =>
  he.bind h vs rs wk fun v H1 α1 x M1 s1 r1 q1 h1 vs1 wk1 => by
    obtain ⟨ds, hx, hd, p⟩ := h1
    obtain ⟨ps, e0, ht0⟩ := r1.tb P0 (C.T.sub _ hm)
    refine ⟨⟨ps, e0, ht0, fun pos cv hc => ?_⟩, ?_⟩
    · obtain ⟨c, e1, _, e2⟩ := r1.tq _ hm ps e0 pos cv hc
      exact ⟨c, e1, e2⟩
    have go : ∀ a ws, v = .ref a → SqL C.K H1 a ws → VDs C.K ((C.wz Z).N α1) H1 ws ds → ∃ bs, RowsA C.K v H1 bs ∧ ∀ H2, LamStep P0 q H1 H2 → ∀ p, H2 p = none → Q (.ref p) (upd H2 p (.lst ((bs.mergeSort (dataLe false fun b => .str b.2)).map (·.1)))) := by
      rintro a ws rfl hs hds
      obtain ⟨ts, rfl, rfl, ht⟩ := hds.zip
      let hk : V × D → V × Str := fun t => (t.1, match t.2 with | .tup (.str p :: _) => p | _ => "")
      refine ⟨ts.map hk, ⟨a, rfl, by rw [List.map_map]; exact hs, fun b hb => ?_⟩, fun H2 st => ?_⟩
      · obtain ⟨t, h, rfl⟩ := List.mem_map.mp hb
        obtain ⟨tv, td⟩ := t
        obtain ⟨p0, r0, e⟩ := hd td (List.mem_map.mpr ⟨_, h, rfl⟩)
        have e : td = .tup (.str p0 :: r0) := e
        subst e
        have h9 := ht _ h
        obtain ⟨b, xs, e, hst, hvs⟩ := VD.tup_inv h9
        have e : tv = .ref b := e
        subst e
        cases hvs with
        | cons h10 _ => cases h10; exact ⟨b, _, rfl, hst.sq, rfl⟩
      · have s2 : Step (C.wz Z) α1 H1 α1 H2 := st.step (C := C.wz Z) (C.T.sub _ hm) r1
        have r2 : RS (C.wz Z) α1 M1 H2 := st.rs (C := C.wz Z) hm hu r1
        have m2 : (ts.map (·.2)).mergeSort (dataLe false headK) = (ts.mergeSort (dataLe false fun t => headK t.2)).map (·.2) := (List.map_mergeSort (r := dataLe false fun t : V × D => headK t.2) (s := dataLe false headK) (f := fun t : V × D => t.2) (l := ts) (fun a _ b _ => rfl)).symm
        have m1 : ((ts.map hk).mergeSort (dataLe false fun b => .str b.2)) = (ts.mergeSort (dataLe false fun t => headK t.2)).map hk := (List.map_mergeSort (r := dataLe false fun t : V × D => headK t.2) (s := dataLe false fun b : V × Str => .str b.2) (f := hk) (l := ts) (fun a ha b hb => by
          obtain ⟨p1, r1, e1⟩ := hd a.2 (List.mem_map.mpr ⟨_, ha, rfl⟩)
          obtain ⟨p2, r2, e2⟩ := hd b.2 (List.mem_map.mpr ⟨_, hb, rfl⟩)
          obtain ⟨a1, a2⟩ := a
          obtain ⟨b1, b2⟩ := b
          have e1 : a2 = _ := e1
          have e2 : b2 = _ := e2
          subst e1 e2
          rfl)).symm
        rw [m1, List.map_map]
        rw [m2] at p
        refine new_lst r2 (kt.step (s1.trans s2)) (ds := (ts.mergeSort (dataLe false fun t => headK t.2)).map (·.2)) ?_ p
        exact (VDs.unzip fun t h => ht t ((List.mergeSort_perm _ _).mem_iff.mp h)).mv s2.mv
    rcases hx with rfl | ⟨n, rfl, hn⟩
    · obtain ⟨a, ws, rfl, hs, hds⟩ := VD.lst_inv q1
      exact go a ws rfl hs.sq hds
    · obtain ⟨a, ws, rfl, hs, hds⟩ := seq_of r1 q1 hn
      exact go a ws rfl hs hds
section
variable {X : Cx} {C : Cn} {W : WX} {c P0 : Addr} {q : Str} {e : Expr} {te : TE} {le : LE} {scope : Scope} {v : Str} {params : Arguments} {j : Nat} {p lpos kpos pos p1 p2 p3 : Pos} {k : Nat}
theorem lp_sortLam_k0 (hK : X.K = C.K) (hr : Room k X.A) (hu : X.A.units + 64 < cLine) (hg : Gl X "sorted") (hm : X.mg "sorted" = none) (TB : LamX.TabB X.base X.mg c P0) (hcode : X.env.code = .ref c) (hq : X.env.qual ++ "<lambda>" = q) (hT : (P0, q) ∈ C.T.qs) (hT2 : ∀ p ∈ C.T.qs, p.1 = P0 → p.2 = q) (L : Lam1 scope v)
    (he : LPE X C W e te le) (hdef : defaultsOf params X.env = ([], []) := by rfl)
    (hbind : ∀ (q : Str) (cl : List (Str × Addr)) (pm cv ctv u : Value), bindArgs (PySem.W.kla_fn "<lambda>" q params (.Subscript (.Name v p1) (.Constant (.int 0) j p2) p3) scope cl pm cv ctv) ⟨[u], []⟩ = pure [(v, u)] := by intro _ _ _ _ _ _; rfl)
    (hdv : (v == ("__debug__" : Str)) = false := by decide)
    (hst : starEach [e] X.env = (false, eval e X.env) :: starEach [] X.env := by rfl) :
    LPE X C W (.Call (.Name "sorted" p) [e] [⟨some "key", .Lambda params (.Subscript (.Name v p1) (.Constant (.int 0) j p2) p3) scope lpos, kpos⟩] pos) (tSortLam X.K P0 q te) (lSortLam le) := by
  subst hq
  exact ⟨pe_sortLam hu hr.depth hg hm TB hcode L he.pe hdef hbind hdv hst, by rw [hK]; exact lo_sortLam hT hT2 he.lo⟩
theorem lp_sortLam (hK : X.K = C.K) (hr : Room k X.A) (hu : X.A.units + 64 < cLine) (hg : Gl X "sorted") (hm : X.mg "sorted" = none) (TB : LamX.TabB X.base X.mg c P0) (hcode : X.env.code = .ref c) (hq : X.env.qual ++ "<lambda>" = q) (hT : (P0, q) ∈ C.T.qs) (hT2 : ∀ p ∈ C.T.qs, p.1 = P0 → p.2 = q) (L : Lam1 scope v)
    (he : LPE X C W e te le) (hdef : defaultsOf params X.env = ([], []) := by rfl)
    (hbind : ∀ (q : Str) (cl : List (Str × Addr)) (pm cv ctv u : Value), bindArgs (PySem.W.kla_fn "<lambda>" q params (.Subscript (.Name v p1) (.Constant (.int 0) j p2) p3) scope cl pm cv ctv) ⟨[u], []⟩ = pure [(v, u)] := by intro _ _ _ _ _ _; rfl)
    (hdv : (v == ("__debug__" : Str)) = false := by decide)
    (hst : starEach [e] X.env = (false, eval e X.env) :: starEach [] X.env := by rfl) :
    LPE X C W (.Call (.Name "sorted" p) [e] [⟨some "key", .Lambda params (.Subscript (.Name v p1) (.Constant (.int 0) j p2) p3) scope lpos, kpos⟩] pos) (tSortLam C.K P0 q te) (lSortLam le) := by
  rw [← hK]
  apply lp_sortLam_k0 <;> assumption
end
theorem s_sortLam {le : LE} {ρ : Rho} {M : Mem} {P : PD} {PX : PXn} (h : le ρ M (fun x M1 => ∃ ds : List D, (x = .dat (.lst ds) ∨ ∃ n, x = .obj n ∧ M1[n]? = some (.lst (ds.map DV.dat))) ∧ (∀ d ∈ ds, ∃ p r, d = .tup (.str p :: r)) ∧ P (.dat (.lst (ds.mergeSort (dataLe false headK)))) M1) PX) : lSortLam le ρ M P PX := h
section
variable {X : Cx} {C : Cn} {W : WX} {tg e e2 : Expr} {ta : TA} {la : LA} {p pos : Pos}
theorem lpi_range2 (h : LPA X C W [e, e2] ta la) (hg : Gl X "range") (hm : X.mg "range" = none) (hs : starEach [e, e2] X.env = [(false, eval e X.env), (false, eval e2 X.env)] := by rfl) (hs2 : starEach [e2] X.env = [(false, eval e2 X.env)] := by rfl) : LPI X C W tg (.Call (.Name "range" p) [e, e2] [] pos) (iRng2 ta) (lwRng2 la) := ⟨pi_range2 hg hm h.pa hs hs2,
  fun ρ M P PX g Z σ H α R vs rs wk kt => h.lo.bind g vs rs wk fun v H1 α1 x M1 s1 r1 q1 h1 vs1 wk1 => by
    obtain ⟨i, j, rfl, hb, p⟩ := h1
    cases q1 with
    | cons a t =>
      cases t with
      | cons b t =>
        cases t
        cases a
        cases b
        exact ⟨i, j, rfl, hb, kt _ H1 α1 _ _ M1 s1 r1 (fun Z' H'' m => ItOk.range i (j - i).toNat) trivial p⟩⟩
end
end L3

/-! f-strings; int of a text; pop at a place; split into a list that is changed -/
namespace L3
open PySem L2
section
variable {X : Cx} {C : Cn} {W : WX} {e v1 v2 : Expr} {es rest : List Expr} {te : TE} {le : LE} {ts : List TE} {ls : List LE} {pos : Pos}
/-- {x}: a text, an int -/
def lFmt (le : LE) : LE := fun ρ M P PX => le ρ M (fun x M1 => (∃ y : Str, x = .str y ∧ y.length ≤ sizeLine ∧ P (.str y) M1) ∨ ∃ i : Int, x = .int i ∧ i.natAbs.log2 < 1920 ∧ P (.str (toString i)) M1) PX
theorem lp_fmt (h : LPE X C W e te le) : LPE X C W (.FormattedValue e (-1) none pos) (tFmt te) (lFmt le) := ⟨pe_fmt h.pe, fun ρ M P PX g Z σ H α Q vs rs kt wk =>
  h.lo.bind g vs rs wk fun v H1 α1 x M1 s1 r1 q1 h1 vs1 wk1 => by
    rcases h1 with ⟨y, rfl, hz, p⟩ | ⟨i, rfl, hz, p⟩
    · cases q1
      exact .inl ⟨y, rfl, hz, (kt.step s1).now r1 (d := .str y) (.str _) p⟩
    · cases q1
      exact .inr ⟨i, rfl, hz, (kt.step s1).now r1 (d := .str (toString i)) (.str _) p⟩⟩
/-- the parts one behind the other -/
def lJs : List LE → Str → Rho → Mem → (Str → Mem → Prop) → PXn → Prop
  | [], acc, _, M, Q, _ => Q acc M
  | l :: ls, acc, ρ, M, Q, PX => l ρ M (fun x M1 => ∃ y : Str, x = .str y ∧ (acc ++ y).length ≤ sizeLine ∧ lJs ls (acc ++ y) ρ M1 Q PX) PX
structure LPJ (X : Cx) (C : Cn) (W : WX) (es : List Expr) (ts : List TE) (ls : List LE) : Prop where
  pj : PJ X es ts
  lo : ∀ (acc : Str) (ρ : Rho) (M : Mem) (Q : Str → Mem → Prop) (PX : PXn), lJs ls acc ρ M Q PX → ∀ (Z : List Addr) (σ : L2.St) (H : Hp) (α : List Addr) (R : Str → Hp → Prop), VS (C.wz Z) α H σ ρ → RS (C.wz Z) α M H →
    (∀ out H' α' M', Step (C.wz Z) α H α' H' → RS (C.wz Z) α' M' H' → Q out M' → R out H') → Wk (C.wz Z) α H W σ PX → tJs ts acc σ H R
theorem lpj_nil : LPJ X C W [] [] [] := ⟨.nil, fun acc ρ M Q PX h Z σ H α R vs rs k wk => k acc H α M .refl rs h⟩
theorem lpj_cons (h : LPE X C W e te le) (t : LPJ X C W es ts ls) : LPJ X C W (e :: es) (te :: ts) (le :: ls) := ⟨.cons h.pe t.pj, fun acc ρ M Q PX g Z σ H α R vs rs k wk =>
  h.lo.bind g vs rs wk fun v H1 α1 x M1 s1 r1 q1 h1 vs1 wk1 => by
    obtain ⟨y, rfl, hz, p⟩ := h1
    cases q1
    exact ⟨y, rfl, hz, t.lo _ ρ M1 Q PX p Z σ H1 α1 R vs1 r1 (fun out H' α' M' s r q => k out H' α' M' (s1.trans s) r q) wk1⟩⟩
def lFs (ls : List LE) : LE := fun ρ M P PX => lJs ls Str.empty ρ M (fun out M1 => P (.str out) M1) PX
theorem lp_fs (h : LPJ X C W (v1 :: v2 :: rest) ts ls) : LPE X C W (.JoinedStr (v1 :: v2 :: rest) pos) (fun σ H Q => tJs ts Str.empty σ H fun out H1 => Q (.str out) H1) (lFs ls) := ⟨pe_joined h.pj, fun ρ M P PX g Z σ H α Q vs rs kt wk =>
  h.lo Str.empty ρ M _ PX g Z σ H α _ vs rs (fun out H' α' M' s r q => (kt.step s).now r (d := .str out) (.str _) q) wk⟩
theorem lp_fs1 (h : LPE X C W e te le) : LPE X C W (.JoinedStr [e] pos) te le := ⟨pe_joined1 h.pe, h.lo⟩
end
section
variable {C : Cn}
def vIntS : List DV → Mem → PD → Prop := fun xs M P => ∃ a n, xs = [.str a] ∧ PySem.intText? a = some n ∧ a.length ≤ 640 ∧ P (.int n) M
theorem ll_intS : LoL C (fun xs H Q => ∃ a n, xs = [V.str a] ∧ PySem.intText? a = some n ∧ a.length ≤ 640 ∧ Q (.int n) H) vIntS := fun xs M P ⟨a, n, e, h1, h2, p⟩ Z α H vs Q r q k => by
  subst e
  obtain ⟨w, rfl, qw⟩ := one_inv q
  cases qw
  exact ⟨a, n, rfl, h1, h2, k.now (d := .int n) r (.int _) p⟩
def vIntA : List DV → Mem → PD → Prop := fun xs M P => vInt1 xs M P ∨ vIntS xs M P
theorem call_intA {X : Cx} : CallR X (.type "int") (fun xs H Q => ((∃ i, xs = [.int i] ∧ Q (.int i) H) ∨ ∃ k, xs = [.bl k] ∧ Q (.int (if k then 1 else 0)) H) ∨ ∃ a n, xs = [V.str a] ∧ PySem.intText? a = some n ∧ a.length ≤ 640 ∧ Q (.int n) H) := call_int1.or call_int_str
theorem ll_intA : LoL C (fun xs H Q => ((∃ i, xs = [.int i] ∧ Q (.int i) H) ∨ ∃ k, xs = [.bl k] ∧ Q (.int (if k then 1 else 0)) H) ∨ ∃ a n, xs = [V.str a] ∧ PySem.intText? a = some n ∧ a.length ≤ 640 ∧ Q (.int n) H) vIntA := ll_or ll_int1 ll_intS
def vSplitM : DV → List DV → Mem → PD → Prop := fun x xs M P => ∃ a b, x = .str a ∧ xs = [.str b] ∧ (b.length == 0) = false ∧ a.length + 2 ≤ sizeLine ∧ P (.obj M.length) (M ++ [.lst (((Txt.split a b).map D.str).map DV.dat)])
theorem lm_splitM : LoM C (fun x xs H Q => ∃ a b, x = .str a ∧ xs = [.str b] ∧ (b.length == 0) = false ∧ a.length + 2 ≤ sizeLine ∧ rNewStrs (Txt.split a b) H Q) vSplitM := fun x xs M P ⟨a, b, e1, e2, h1, h2, p⟩ Z α H v vs Q r q qs k => by
  subst e1 e2
  obtain ⟨w, rfl, qw⟩ := one_inv qs
  cases q; cases qw
  exact ⟨a, b, rfl, rfl, h1, h2, new_obj r k (VDs.map_str _) p⟩
theorem VRs.erase {α : List Addr} {H : Hp} : ∀ {xs : List V} {ds : List DV} (n : Nat), VRs C α H xs ds → VRs C α H (xs.eraseIdx n) (ds.eraseIdx n)
  | _, _, _, .nil => .nil
  | _, _, 0, .cons _ b => b
  | _, _, n + 1, .cons a b => .cons a (VRs.erase n b)
def vPopAt : DV → List DV → Mem → PD → Prop := fun x xs M P => ∃ n ys i k y, x = .obj n ∧ xs = [.int i] ∧ M[n]? = some (.lst ys) ∧ -(2 ^ 63) ≤ i ∧ i < 2 ^ 63 ∧ seqIndex? i ys.length = some k ∧ ys[k]? = some y ∧ P y (M.set n (.lst (ys.eraseIdx k)))
theorem lm_popAt : LoM C rPopAt vPopAt := fun x xs M P ⟨n, ys, i, j, y, e1, e2, hm, h0, h1, hj, hy, p⟩ Z α H v vs Q r q qs k => by
  subst e1 e2
  obtain ⟨w, rfl, qw⟩ := one_inv qs
  cases qw
  obtain ⟨a, ea, rfl⟩ := q
  obtain ⟨zs, eh, hd⟩ := r.hr.get n a _ ea hm
  have st : Step (C.wz Z) α H α (upd H a (.lst (zs.eraseIdx j))) := put_step ea
  obtain ⟨u, hu, ru⟩ := hd.at hy
  obtain ⟨r4, s4⟩ := r.put (mo := .lst (ys.eraseIdx j)) ea ⟨_, upd_same, VRs.erase j (VRs.step hd st)⟩ (r.noT ea hm)
  exact ⟨a, zs, i, j, u, rfl, rfl, eh, h0, h1, by rw [VRs.length hd]; exact hj, hu, k _ _ α y _ s4 r4 (ru.step s4) p⟩
end
section
variable {ρ : Rho} {M : Mem} {P : PD} {PX : PXn} {le : LE} {ls : List LE} {acc : Str} {Q : Str → Mem → Prop}
theorem s_fs (h : lJs ls Str.empty ρ M (fun out M1 => P (.str out) M1) PX) : lFs ls ρ M P PX := h
theorem s_jsNil (h : Q acc M) : lJs [] acc ρ M Q PX := h
theorem s_jsCons {l : LE} (h : l ρ M (fun x M1 => ∃ y : Str, x = .str y ∧ (acc ++ y).length ≤ sizeLine ∧ lJs ls (acc ++ y) ρ M1 Q PX) PX) : lJs (l :: ls) acc ρ M Q PX := h
theorem s_fmt (h : le ρ M (fun x M1 => (∃ y : Str, x = .str y ∧ y.length ≤ sizeLine ∧ P (.str y) M1) ∨ ∃ i : Int, x = .int i ∧ i.natAbs.log2 < 1920 ∧ P (.str (toString i)) M1) PX) : lFmt le ρ M P PX := h
theorem s_intAi {j : Int} (h : P (.int j) M) : vIntA [.dat (.int j)] M P := .inl (s_int1 h)
theorem s_intAb {b : Bool} (h : P (.int (if b then 1 else 0)) M) : vIntA [.dat (.bl b)] M P := .inl (s_int1b h)
theorem s_intAs {a : Str} {n : Int} (h1 : PySem.intText? a = some n) (h2 : a.length ≤ 640) (h : P (.int n) M) : vIntA [.dat (.str a)] M P := .inr ⟨a, n, rfl, h1, h2, h⟩
theorem s_splitM {a b : Str} (h1 : (b.length == 0) = false) (h2 : a.length + 2 ≤ sizeLine) (h : P (.obj M.length) (M ++ [.lst (((Txt.split a b).map D.str).map DV.dat)])) : vSplitM (.dat (.str a)) [.dat (.str b)] M P := ⟨a, b, rfl, rfl, h1, h2, h⟩
theorem s_popAt {n k : Nat} {ys : List DV} {i : Int} {y : DV} (hM : M[n]? = some (.lst ys)) (h0 : -(2 ^ 63) ≤ i) (h1 : i < 2 ^ 63) (hk : seqIndex? i ys.length = some k) (hy : ys[k]? = some y) (h : P y (M.set n (.lst (ys.eraseIdx k)))) : vPopAt (.obj n) [.dat (.int i)] M P := ⟨n, ys, i, k, y, rfl, rfl, hM, h0, h1, hk, hy, h⟩
end
end L3

namespace K73
open PySem L2 L3
def topS (i : Nat) : Stmt := PySem.Challenge.pw_truemill_k73_keys_and_claims_of_all_word.main.body.getD i (.Pass ⟨0, 0, 0, 0⟩)
abbrev s_is_allowed : Stmt := topS 6
abbrev N_is_allowed : List Str := ["letter"]
theorem sc_is_allowed : FnScope N_is_allowed ["letter"] (defScope s_is_allowed) := ⟨rfl, rfl, rfl, by decide +kernel, rfl, by decide +kernel, by decide +kernel⟩
abbrev s_text_fault : Stmt := topS 7
abbrev N_text_fault : List Str := ["text", "letter"]
theorem sc_text_fault : FnScope N_text_fault ["text"] (defScope s_text_fault) := ⟨rfl, rfl, rfl, by decide +kernel, rfl, by decide +kernel, by decide +kernel⟩
abbrev s_is_number : Stmt := topS 17
abbrev N_is_number : List Str := ["text", "letter"]
theorem sc_is_number : FnScope N_is_number ["text"] (defScope s_is_number) := ⟨rfl, rfl, rfl, by decide +kernel, rfl, by decide +kernel, by decide +kernel⟩
abbrev s_is_word : Stmt := topS 18
abbrev N_is_word : List Str := ["text", "letter"]
theorem sc_is_word : FnScope N_is_word ["text"] (defScope s_is_word) := ⟨rfl, rfl, rfl, by decide +kernel, rfl, by decide +kernel, by decide +kernel⟩
abbrev s_key_text : Stmt := topS 19
abbrev N_key_text : List Str := ["key", "tool", "args", "names", "lines", "arg", "name", "line"]
theorem sc_key_text : FnScope N_key_text ["key"] (defScope s_key_text) := ⟨rfl, rfl, rfl, by decide +kernel, rfl, by decide +kernel, by decide +kernel⟩
abbrev s_read_key : Stmt := topS 20
abbrev N_read_key : List Str := ["text", "lines", "args", "names", "line", "arg"]
theorem sc_read_key : FnScope N_read_key ["text"] (defScope s_read_key) := ⟨rfl, rfl, rfl, by decide +kernel, rfl, by decide +kernel, by decide +kernel⟩
abbrev s_claim_text : Stmt := topS 21
abbrev N_claim_text : List Str := ["result"]
theorem sc_claim_text : FnScope N_claim_text ["result"] (defScope s_claim_text) := ⟨rfl, rfl, rfl, by decide +kernel, rfl, by decide +kernel, by decide +kernel⟩
abbrev s_read_claim : Stmt := topS 22
abbrev N_read_claim : List Str := ["text", "word", "newline", "rest", "fault"]
theorem sc_read_claim : FnScope N_read_claim ["text"] (defScope s_read_claim) := ⟨rfl, rfl, rfl, by decide +kernel, rfl, by decide +kernel, by decide +kernel⟩
abbrev s_x_next : Stmt := topS 24
abbrev N_x_next : List Str := ["_law_state", "_law_script", "_law_many", "_law_answer", "_law_cell"]
theorem sc_x_next : FnScope N_x_next ["_law_state", "_law_script", "_law_many"] (defScope s_x_next) := ⟨rfl, rfl, rfl, by decide +kernel, rfl, by decide +kernel, by decide +kernel⟩
abbrev s_x_same : Stmt := topS 25
abbrev N_x_same : List Str := ["_law_actual", "_law_due", "_law_k"]
theorem sc_x_same : FnScope N_x_same ["_law_actual", "_law_due"] (defScope s_x_same) := ⟨rfl, rfl, rfl, by decide +kernel, rfl, by decide +kernel, by decide +kernel⟩
abbrev s_x_char : Stmt := topS 26
abbrev N_x_char : List Str := ["_law_number", "_law_chars"]
theorem sc_x_char : FnScope N_x_char ["_law_number"] (defScope s_x_char) := ⟨rfl, rfl, rfl, by decide +kernel, rfl, by decide +kernel, by decide +kernel⟩
abbrev s_x_reserved : Stmt := topS 27
abbrev N_x_reserved : List Str := ["_law_words"]
theorem sc_x_reserved : FnScope N_x_reserved [] (defScope s_x_reserved) := ⟨rfl, rfl, rfl, by decide +kernel, rfl, by decide +kernel, by decide +kernel⟩
abbrev s_x_drawn_tool : Stmt := topS 28
abbrev N_x_drawn_tool : List Str := ["_law_state", "_law_script", "_law_choice", "_law_word", "_law_at"]
theorem sc_x_drawn_tool : FnScope N_x_drawn_tool ["_law_state", "_law_script"] (defScope s_x_drawn_tool) := ⟨rfl, rfl, rfl, by decide +kernel, rfl, by decide +kernel, by decide +kernel⟩
abbrev s_x_is_word : Stmt := topS 29
abbrev N_x_is_word : List Str := ["_law_word", "_law_letters", "_law_letter"]
theorem sc_x_is_word : FnScope N_x_is_word ["_law_word"] (defScope s_x_is_word) := ⟨rfl, rfl, rfl, by decide +kernel, rfl, by decide +kernel, by decide +kernel⟩
abbrev s_x_told : Stmt := topS 30
abbrev N_x_told : List Str := ["_law_text", "_law_found", "problem"]
theorem sc_x_told : FnScope N_x_told ["_law_text"] (defScope s_x_told) := ⟨rfl, rfl, rfl, by decide +kernel, rfl, by decide +kernel, by decide +kernel⟩
abbrev s_x_turned : Stmt := topS 31
abbrev N_x_turned : List Str := ["_law_state", "_law_script", "_law_tool", "_law_lines", "_law_choice", "_law_rows", "_law_text", "_law_line"]
theorem sc_x_turned : FnScope N_x_turned ["_law_state", "_law_script", "_law_tool", "_law_lines"] (defScope s_x_turned) := ⟨rfl, rfl, rfl, by decide +kernel, rfl, by decide +kernel, by decide +kernel⟩
abbrev s_x_key_right : Stmt := topS 32
abbrev N_x_key_right : List Str := ["_law_state", "_law_script", "_law_tool", "_law_many", "_law_args", "_law_k", "_law_names", "_law_lines", "_law_arg", "_law_name", "_law_text", "_law_line", "_law_good", "_law_told_here"]
theorem sc_x_key_right : FnScope N_x_key_right ["_law_state", "_law_script"] (defScope s_x_key_right) := ⟨rfl, rfl, rfl, by decide +kernel, rfl, by decide +kernel, by decide +kernel⟩
abbrev s_x_claim_right : Stmt := topS 33
abbrev N_x_claim_right : List Str := ["_law_state", "_law_script", "_law_word", "_law_text", "_law_k", "_law_whole", "_law_result", "_law_good", "_law_actual", "problem"]
theorem sc_x_claim_right : FnScope N_x_claim_right ["_law_state", "_law_script"] (defScope s_x_claim_right) := ⟨rfl, rfl, rfl, by decide +kernel, rfl, by decide +kernel, by decide +kernel⟩
abbrev s_x_claim_refused : Stmt := topS 34
abbrev N_x_claim_refused : List Str := ["_law_state", "_law_script", "_law_word", "_law_at", "_law_ways", "problem"]
theorem sc_x_claim_refused : FnScope N_x_claim_refused ["_law_state", "_law_script"] (defScope s_x_claim_refused) := ⟨rfl, rfl, rfl, by decide +kernel, rfl, by decide +kernel, by decide +kernel⟩
abbrev s_law : Stmt := topS 35
abbrev N_law : List Str := ["_law_script", "_law_state", "_law_turn"]
theorem sc_law : FnScope N_law ["_law_script"] (defScope s_law) := ⟨rfl, rfl, rfl, by decide +kernel, rfl, by decide +kernel, by decide +kernel⟩
abbrev s_BadText_init : Stmt := inClass (topS 2) 0
theorem nsc_BadText_init : NdefX.NScope ["self", "reason", "__class__"] ["self", "reason"] ["__class__"] (defScope s_BadText_init) := NdefX.nscope_by (by decide +kernel)
structure Adr where
  BadMessage : Addr
  BadText : Addr
  MillError : Addr

def sp_x_next (A : Adr) : LSp := spDraw nextPre nextS
def sp_x_same (A : Adr) (n : Nat) : LSp := spSame n
def spF (R : List D → D → Prop) : LSp := fun ds M P PX => ∃ (as : List D) (r : D), ds = as.map DV.dat ∧ M = [] ∧ R as r ∧ P (.dat r) []
theorem call_F {R : List D → D → Prop} {xs : List DV} {as : List D} {r : D} {M : Mem} {P : PD} {PX : PXn} (hd : Dats xs as) (hr : R as r) (k : P (.dat r) M) : CallAt (spF R) xs M P PX := by
  refine ⟨[], as.map DV.dat, [], List.nodup_nil, by simp [okDV], ?_, rfl, rfl, as, r, rfl, rfl, hr, ?_⟩
  · rw [hd.eq, List.map_map]; exact List.map_congr_left fun e _ => rfl
  · show P (.dat r) (merge [] M [])
    rw [merge_nil]
    exact k
theorem fin0 {P : PD} {d : D} {M : Mem} (h : P (.dat d) []) : DropD 0 P (.dat d) M := ⟨0, Nat.le_refl _, rfl, rfl, h⟩
theorem fin0X {PX : PXn} {x : LX} {ρ : Rho} {M : Mem} (h : PX x []) : DropX 0 PX x ρ M := ⟨0, Nat.le_refl _, rfl, h⟩
def okT (x : Str) : Prop := x.length ≤ 10000
def noArgs (as : List D) : Prop := as = []
def one (R : Str → D → Prop) : LSp := spF fun as d => ∃ a : Str, okT a ∧ as = [.str a] ∧ R a d
abbrev C95 : Str := (" !\"#$&'()*+,-./0123456789:;<=>?@ABCDEFGHIJKLMNOPQRSTUVWXYZ[\\]^_`" : Str) ++ ("abcdefghijklmnopqrstuvwxyz{|}~\n" : Str)
abbrev LET : Str := "abcdefghijklmnopqrstuvwxyz"
abbrev WCH : Str := "abcdefghijklmnopqrstuvwxyz0123456789_"
abbrev DIG : Str := "0123456789"
def isL (c : Nat) : Bool := decide (c ∈ LET.cps.toList)
def isW (c : Nat) : Bool := decide (c ∈ WCH.cps.toList)
def isD (c : Nat) : Bool := decide (c ∈ DIG.cps.toList)
theorem isL_W {c : Nat} (h : isL c = true) : isW c = true := by
  have h := of_decide_eq_true h
  have hh : ∀ c ∈ LET.cps.toList, c ∈ WCH.cps.toList := by decide +kernel
  exact decide_eq_true (hh c h)
def wordOk (x : Str) : Prop := (∃ c r, x.cps.toList = c :: r ∧ isL c = true) ∧ (∀ d ∈ x.cps.toList, isW d = true) ∧ x.length ≤ 20
def wordB (x : Str) : Bool := (match x.cps.toList with | [] => false | c :: _ => isL c) && x.cps.toList.all isW && decide (x.length ≤ 20)
def numB (x : Str) : Bool := (match x.cps.toList with | [] => false | c :: _ => decide (c ≠ 48)) && x.cps.toList.all isD && decide (x.length ≤ 5)
def sp_is_number (A : Adr) : LSp := one fun x d => d = .bl (numB x)
def sp_is_word (A : Adr) : LSp := one fun x d => d = .bl (wordB x)
def lenT (m : Nat) (d : D) : Prop := ∃ x : Str, d = .str x ∧ x.length ≤ m
def sp_x_char (A : Adr) : LSp := spF fun as d => ∃ (i : Int) (c : Nat), as = [.int i] ∧ atI C95.cps.toList i = some c ∧ d = .str (S [c])
def rsv : List Str := ["set", "make", "by", "with", "from", "needs", "if", "else", "each", "in", "shape", "use", "not", "files", "flag", "when"]
def sp_x_reserved (A : Adr) : LSp := spF fun as d => as = [] ∧ d = .lst (rsv.map D.str)
def wordS (_ : List D) (d : D) : Prop := ∃ w : Str, d = .str w ∧ wordOk w
/-- rows, each with its newline -/
def endF (ys : List Str) : Str := Txt.join ("" : Str) (ys.map fun y => y ++ ("\n" : Str))
def rowsF (w : Str) (as : List Str) (ns : List Int) : List Str := w :: (as.map (fun a => ("arg " : Str) ++ a) ++ ns.map fun n => ("in " : Str) ++ (toString n : Str))
def keyD (w : Str) (as : List Str) (ns : List Int) : D := .tup [.str w, .tup (as.map D.str), .tup (ns.map D.int)]
structure KeyB (w : Str) (as : List Str) (ns : List Int) : Prop where
  w : w.length ≤ 10000
  al : as.length ≤ 20000
  a : (as.map (·.length)).sum ≤ 20000
  nl : ns.length ≤ 20000
  n : ∀ n ∈ ns, 0 ≤ n ∧ n < 100000
def keyT : LSp := spF fun xs d => ∃ (w : Str) (as : List Str) (ns : List Int), KeyB w as ns ∧ xs = [keyD w as ns] ∧ d = .str (endF (rowsF w as ns))
def sp_key_text (A : Adr) : LSp := keyT
/-- what a key's text says -/
def argB (l : Str) : Bool := Txt.startswith l ("arg " : Str)
def inB (l : Str) : Bool := Txt.startswith l ("in " : Str)
def dr (n : Nat) (l : Str) : Str := S (l.cps.toList.drop n)
def intV (x : Str) : Int := (PySem.intText? x).getD 0
def scanF : List Str → List Str → List Int → Option (List Str × List Int)
  | [], as, ns => some (as, ns)
  | l :: r, as, ns => if argB l && ns.isEmpty then scanF r (as ++ [dr 4 l]) ns else if inB l && numB (dr 3 l) then scanF r as (ns ++ [intV (dr 3 l)]) else none
def linesF (x : Str) : List Str := Txt.split x ("\n" : Str)
def midF (ls : List Str) : List Str := (ls.drop 1).take (ls.length - 2)
def readF (x : Str) : Option (Str × List Str × List Int) :=
  if (linesF x).length < 2 ∨ (linesF x).getLast? ≠ some ("" : Str) then none else
    match scanF (midF (linesF x)) [] [] with
    | some (as, ns) => if wordB ((linesF x).headD "") && (decide (as.length ≤ 12) && (decide (ns.length ≤ 24) && as.all fun a => decide (a.length ≤ 60))) then some ((linesF x).headD "", as, ns) else none
    | none => none
def rdPre (as : List D) : Prop := ∃ x : Str, okT x ∧ as = [.str x]
def rdS (as : List D) (d : D) : Prop := ∃ x w bs ns, as = [.str x] ∧ readF x = some (w, bs, ns) ∧ d = keyD w bs ns
def rdX (A : Adr) (as : List D) (x : LX) : Prop := ∃ y : Str, as = [.str y] ∧ readF y = none ∧ x = ⟨A.BadMessage, []⟩
def sp_read_key (A : Adr) : LSp := spX rdPre rdS (rdX A)
def allowed (c : Nat) : Bool := decide (c = 10) || (decide (32 ≤ c) && (decide (c ≤ 126) && decide (c ≠ 37)))
def faultD (l : List Nat) : D := if 2000 < l.length then .str "too long" else if l.all allowed then .non else .str "bad character"
def sp_is_allowed (A : Adr) : LSp := spF fun as d => ∃ c : Nat, as = [.str (S [c])] ∧ d = .bl (allowed c)
def sp_text_fault (A : Adr) : LSp := one fun x d => d = faultD x.cps.toList
def joinC (w t : Str) : Str := w ++ ("\n" : Str) ++ t
def sp_claim_text (A : Adr) : LSp := spF fun as d => ∃ w t : Str, okT w ∧ okT t ∧ as = [.tup [.str w, .str t]] ∧ d = .str (joinC w t)
def isWord (w : Str) : Bool := decide (w = "made") || decide (w = "failed")
def tooMuch (w t : Str) : Bool := decide (w = "failed") && (decide (80 < t.length) || decide (10 ∈ t.cps.toList))
def gdT (l : List Nat) : Bool := !decide (2000 < l.length) && l.all allowed
def goodF (w t : Str) : Bool := isWord w && (gdT t.cps.toList && !tooMuch w t)
def sp_read_claim (A : Adr) : LSp := fun ds M P PX => ∃ v : Str, ds = [.dat (.str v)] ∧ M = [] ∧ okT v ∧
  ((∃ w t : Str, 10 ∉ w.cps.toList ∧ v = joinC w t ∧ (goodF w t = true → P (.dat (.tup [.str w, .str t])) []) ∧ (goodF w t = false → PX ⟨A.BadMessage, []⟩ [])) ∨ (10 ∉ v.cps.toList ∧ PX ⟨A.BadMessage, []⟩ []))
def toldD : Option (Str × List Str × List Int) → D
  | some (w, as, ns) => keyD w as ns
  | none => .lst [.str "refused", .bl true]
def sp_x_told (A : Adr) : LSp := one fun x d => d = toldD (readF x)
def sp_x_is_word (A : Adr) : LSp := spF fun as d => ∃ x : Str, (1 ≤ x.length ∧ x.length ≤ 100) ∧ as = [.str x] ∧ d = .bl (wordB x)
def toolOk (w : Str) : Prop := 1 ≤ w.length ∧ w.length ≤ 100 ∧ 10 ∉ w.cps.toList
def sp_x_drawn_tool (A : Adr) : LSp := spDraw noArgs fun _ d => ∃ w : Str, d = .str w ∧ toolOk w
def rowD (as : List Str) (ns : List Int) : D := .lst [.lst (as.map fun a => .str (("arg " : Str) ++ a)), .lst (ns.map fun n => .str (("in " : Str) ++ (toString n : Str)))]
structure RowsOk (w : Str) (as : List Str) (ns : List Int) : Prop where
  w : toolOk w
  a : ∀ a ∈ as, a.length ≤ 61 ∧ 10 ∉ a.cps.toList
  al : as.length ≤ 13
  n : ∀ n ∈ ns, 0 ≤ n ∧ n ≤ 100000
  nl : ns.length ≤ 25
def sp_x_turned (A : Adr) : LSp := spDraw (fun xs => ∃ w as ns, RowsOk w as ns ∧ xs = [.str w, rowD as ns]) fun _ d => ∃ x : Str, d = .str x ∧ x.length ≤ 10000 ∧ readF x = none
def yesS (_ : List D) (d : D) : Prop := d = .bl true
def sp_x_key_right (A : Adr) : LSp := spDraw noArgs yesS
def sp_x_claim_right (A : Adr) : LSp := spDraw noArgs yesS
def sp_x_claim_refused (A : Adr) : LSp := spDraw noArgs yesS
def sp_law : LSp := fun ds M P PX => ∃ ns : List Int, ds = [.dat (.lst (ns.map D.int))] ∧ ns.length ≤ 63 ∧ M = [] ∧ P (.bl true) []
theorem start_law {ns : List Int} (h : ns.length ≤ 63) : sp_law [.dat (.lst (ns.map D.int))] [] (fun d _ => d = .bl true) fun _ _ => False := ⟨ns, rfl, h, rfl, rfl⟩

/-- is_allowed -/
def l_is_allowed (A : Adr) : LS :=
  (lRet (lOrV (lOp (vEq false) (lVar 0) (lC (.str "\n"))) (lAndV (lChain (vOrdr (fun i j => decide (i ≤ j)) fun a b => !decide (b < a)) (vOrdr (fun i j => decide (i ≤ j)) fun a b => !decide (b < a)) (lC (.str " ")) (lVar 0) (lC (.str "~"))) (lOp (vEq true) (lCB vOrd (lCons (lVar 0) lNil)) (lC (.int 37))))))
/-- text_fault -/
def l_text_fault (A : Adr) : LS :=
  (lSeq (lIfS (lTest (lOp (vOrdr (fun i j => decide (j < i)) fun a b => decide (b < a)) (lCB vLenA (lCons (lVar 0) lNil)) (lC (.int 2000))))
    (lRet (lC (.str "too long")))
    lNext)
    (lSeq (lIfS (lNot (lTru (lAG false (lwAny (lVar 0)) (lgName 1) (lCall (sp_is_allowed A) (lCons (lVar 1) lNil)) [1])))
    (lRet (lC (.str "bad character")))
    lNext)
    (lRet (lC .non))))
/-- is_number -/
def l_is_number (A : Adr) : LS :=
  (lSeq (lIfS (lOr (lNot (lChainT (vOrdr (fun i j => decide (i ≤ j)) fun a b => !decide (b < a)) (vOrdr (fun i j => decide (i ≤ j)) fun a b => !decide (b < a)) (lC (.int 1)) (lCB vLenA (lCons (lVar 0) lNil)) (lC (.int 5)))) (lTest (lOp (vEq false) (lOp vIxA (lVar 0) (lC (.int 0))) (lC (.str "0")))))
    (lRet (lC (.bl false)))
    lNext)
    (lRet (lAG false (lwAny (lVar 0)) (lgName 1) (lOp (vInA false) (lVar 1) (lC (.str "0123456789"))) [1])))
/-- is_word -/
def l_is_word (A : Adr) : LS :=
  (lSeq (lIfS (lOr (lNot (lChainT (vOrdr (fun i j => decide (i ≤ j)) fun a b => !decide (b < a)) (vOrdr (fun i j => decide (i ≤ j)) fun a b => !decide (b < a)) (lC (.int 1)) (lCB vLenA (lCons (lVar 0) lNil)) (lC (.int 20)))) (lTest (lOp (vInA true) (lOp vIxA (lVar 0) (lC (.int 0))) (lC (.str "abcdefghijklmnopqrstuvwxyz")))))
    (lRet (lC (.bl false)))
    lNext)
    (lRet (lAG false (lwAny (lVar 0)) (lgName 1) (lOp (vInA false) (lVar 1) (lC (.str "abcdefghijklmnopqrstuvwxyz0123456789_"))) [1])))
/-- key_text -/
def l_key_text (A : Adr) : LS :=
  (lSeq (lAsg (lVar 0) (lgTup 3 (lgCons (lgName 1) (lgCons (lgName 2) (lgCons (lgName 3) lgNil)))))
    (lSeq (lSet 4 (lOp vAdd (lOp vAdd (lLst (lCons (lVar 1) lNil)) (lLc (lwAny (lVar 2)) (lgName 5) lYes (lFs [(lC (.str "arg ")), (lFmt (lVar 5))]) [5])) (lLc (lwAny (lVar 3)) (lgName 6) lYes (lFs [(lC (.str "in ")), (lFmt (lVar 6))]) [6])))
    (lRet (lBM "str" vJoin (lC (.str "")) (lCons (lLc (lwAny (lVar 4)) (lgName 7) lYes (lOp vAdd (lVar 7) (lC (.str "\n"))) [7]) lNil)))))
/-- read_key -/
def l_read_key (A : Adr) : LS :=
  (lSeq (lSet 1 (lBM "str" vSplit (lVar 0) (lCons (lC (.str "\n")) lNil)))
    (lSeq (lIfS (lOr (lTest (lOp (vOrdr (fun i j => decide (i < j)) fun a b => decide (a < b)) (lCB vLenA (lCons (lVar 1) lNil)) (lC (.int 2)))) (lTest (lOp (vEq true) (lOp vIxA (lVar 1) (lUn vNeg (lC (.int 1)))) (lC (.str "")))))
    (lRaise0 A.BadMessage)
    lNext)
    (lSeq (lSet 2 (lLstM lNil))
    (lSeq (lSet 3 (lLstM lNil))
    (lSeq (lFor (lwAny (lSl vSl (lVar 1) (lPart (lC (.int 1))) (lPart (lUn vNeg (lC (.int 1)))))) (lgName 4)
    (lIfS (lAnd (lTru (lBM "str" vStarts (lVar 4) (lCons (lC (.str "arg ")) lNil))) (lNot (lTru (lVar 3))))
    (lDrop (lBM "list" vAppend (lVar 2) (lCons (lSl vSl (lVar 4) (lPart (lC (.int 4))) lNoPart) lNil)))
    (lIfS (lAnd (lTru (lBM "str" vStarts (lVar 4) (lCons (lC (.str "in ")) lNil))) (lTru (lCall (sp_is_number A) (lCons (lSl vSl (lVar 4) (lPart (lC (.int 3))) lNoPart) lNil))))
    (lDrop (lBM "list" vAppend (lVar 3) (lCons (lCB vIntA (lCons (lSl vSl (lVar 4) (lPart (lC (.int 3))) lNoPart) lNil)) lNil)))
    (lRaise0 A.BadMessage))))
    (lSeq (lIfS (lOr (lNot (lTru (lCall (sp_is_word A) (lCons (lOp vIxA (lVar 1) (lC (.int 0))) lNil)))) (lOr (lTest (lOp (vOrdr (fun i j => decide (j < i)) fun a b => decide (b < a)) (lCB vLenA (lCons (lVar 2) lNil)) (lC (.int 12)))) (lTest (lOp (vOrdr (fun i j => decide (j < i)) fun a b => decide (b < a)) (lCB vLenA (lCons (lVar 3) lNil)) (lC (.int 24))))))
    (lRaise0 A.BadMessage)
    lNext)
    (lSeq (lIfS (lTru (lAG true (lwAny (lVar 2)) (lgName 5) (lOp (vOrdr (fun i j => decide (j < i)) fun a b => decide (b < a)) (lCB vLenA (lCons (lVar 5) lNil)) (lC (.int 60))) [5]))
    (lRaise0 A.BadMessage)
    lNext)
    (lRet (lTup (lCons (lOp vIxA (lVar 1) (lC (.int 0))) (lCons (lCB vTupA (lCons (lVar 2) lNil)) (lCons (lCB vTupA (lCons (lVar 3) lNil)) lNil))))))))))))
/-- claim_text -/
def l_claim_text (A : Adr) : LS :=
  (lRet (lOp vAdd (lOp vAdd (lOp vIxA (lVar 0) (lC (.int 0))) (lC (.str "\n"))) (lOp vIxA (lVar 0) (lC (.int 1)))))
/-! read_claim -/
def l_read_claim_t5 (A : Adr) : LS :=
  (lRet (lTup (lCons (lVar 1) (lCons (lVar 3) lNil))))
def l_read_claim_t4 (A : Adr) : LS :=
  (lSeq (lIfS (lAnd (lTest (lOp (vEq false) (lVar 1) (lC (.str "failed")))) (lOr (lTest (lOp (vOrdr (fun i j => decide (j < i)) fun a b => decide (b < a)) (lCB vLenA (lCons (lVar 3) lNil)) (lC (.int 80)))) (lTest (lOp (vInA false) (lC (.str "\n")) (lVar 3)))))
    (lRaise0 A.BadMessage)
    lNext)
    (l_read_claim_t5 A))
def l_read_claim_t3 (A : Adr) : LS :=
  (lSeq (lIfS (lTest (lOp (vIsN true) (lVar 4) (lC .non)))
    (lRaise0 A.BadMessage)
    lNext)
    (l_read_claim_t4 A))
def l_read_claim_t2 (A : Adr) : LS :=
  (lSeq (lSet 4 (lCall (sp_text_fault A) (lCons (lVar 3) lNil)))
    (l_read_claim_t3 A))
def l_read_claim_t1 (A : Adr) : LS :=
  (lSeq (lIfS (lOr (lTest (lOp (vEq false) (lVar 2) (lC (.str "")))) (lTest (lOp (vInA true) (lVar 1) (lTup (lCons (lC (.str "made")) (lCons (lC (.str "failed")) lNil))))))
    (lRaise0 A.BadMessage)
    lNext)
    (l_read_claim_t2 A))
def l_read_claim (A : Adr) : LS :=
  (lSeq (lAsg (lBM "str" vPartition (lVar 0) (lCons (lC (.str "\n")) lNil)) (lgTup 3 (lgCons (lgName 1) (lgCons (lgName 2) (lgCons (lgName 3) lgNil)))))
    (l_read_claim_t1 A))

/-- _law_next -/
def l_x_next (A : Adr) : LS :=
  (lSeq (lIfS (lTest (lOp (vOrdr (fun i j => decide (j < i)) fun a b => decide (b < a)) (lOp vIxA (lVar 0) (lC (.int 1))) (lC (.int 0))))
    (lSeq (lSet 3 (lOp (vI (fun _ j => j ≠ 0) fun i j => .int (i.fmod j)) (lCB vIntA (lCons (lOp vIxA (lVar 0) (lC (.int 1))) lNil)) (lVar 2)))
    (lSeq (lSetA (lVar 0) (lC (.int 1)) (lOp (vI CDivN fun i j => .int (i.fdiv j)) (lCB vIntA (lCons (lOp vIxA (lVar 0) (lC (.int 1))) lNil)) (lVar 2)))
    (lRet (lVar 3))))
    lNext)
    (lSeq (lSet 4 (lC (.int 0)))
    (lSeq (lIfS (lTest (lOp (vOrdr (fun i j => decide (i < j)) fun a b => decide (a < b)) (lOp vIxA (lVar 0) (lC (.int 0))) (lCB vLenA (lCons (lVar 1) lNil))))
    (lSet 4 (lCB vAbs (lCons (lCB vIntA (lCons (lOp vIxA (lVar 1) (lOp vIxA (lVar 0) (lC (.int 0)))) lNil)) lNil)))
    lNext)
    (lSeq (lSetA (lVar 0) (lC (.int 0)) (lOp vAdd (lOp vIxA (lVar 0) (lC (.int 0))) (lC (.int 1))))
    (lSeq (lIfS (lTest (lOp (vOrdr (fun i j => decide (j ≤ i)) fun a b => !decide (a < b)) (lVar 4) (lOp (vI CPow fun i j => .int (i ^ j.toNat)) (lC (.int 10)) (lC (.int 18)))))
    (lSeq (lSetA (lVar 0) (lC (.int 1)) (lOp (vI CDivN fun i j => .int (i.fdiv j)) (lVar 4) (lVar 2)))
    (lRet (lOp (vI (fun _ j => j ≠ 0) fun i j => .int (i.fmod j)) (lCB vIntA (lCons (lVar 4) lNil)) (lVar 2))))
    lNext)
    (lSeq (lSetA (lVar 0) (lC (.int 2)) (lOp (vI (fun _ j => j ≠ 0) fun i j => .int (i.fmod j)) (lCB vIntA (lCons (lOp vAdd (lOp vAdd (lOp vMul (lOp vIxA (lVar 0) (lC (.int 2))) (lC (.int 48271))) (lOp vMul (lVar 4) (lC (.int 69621)))) (lC (.int 12345))) lNil)) (lC (.int 2147483647))))
    (lRet (lOp (vI (fun _ j => j ≠ 0) fun i j => .int (i.fmod j)) (lCB vIntA (lCons (lOp vAdd (lOp (vI CDivN fun i j => .int (i.fdiv j)) (lOp vIxA (lVar 0) (lC (.int 2))) (lC (.int 7))) (lOp (vI CDivN fun i j => .int (i.fdiv j)) (lOp vMul (lOp vIxA (lVar 0) (lC (.int 2))) (lOp vIxA (lVar 0) (lC (.int 2)))) (lC (.int 65537)))) lNil)) (lVar 2)))))))))
/-- _law_same -/
def l_x_same (A : Adr) (n : Nat) : LS :=
  (lSeq (lIfS (lTest (lOp (vIsN false) (lVar 1) (lC .non)))
    (lRet (lOp (vIsN false) (lVar 0) (lC .non)))
    lNext)
    (lSeq (lIfS (lTru (lCB vIsi (lCons (lVar 1) (lCons (lC (.ty "tuple")) lNil))))
    (lSeq (lIfS (lOr (lNot (lTru (lCB vIsi (lCons (lVar 0) (lCons (lC (.ty "tuple")) lNil))))) (lTest (lOp (vEq true) (lCB vLenA (lCons (lVar 0) lNil)) (lCB vLenA (lCons (lVar 1) lNil)))))
    (lRet (lC (.bl false)))
    lNext)
    (lSeq (lFor (lwRng1 (lCons (lCB vLenA (lCons (lVar 1) lNil)) lNil)) (lgName 2)
    (lIfS (lNot (lTru (lCall (sp_x_same A n) (lCons (lOp vIxA (lVar 0) (lVar 2)) (lCons (lOp vIxA (lVar 1) (lVar 2)) lNil)))))
    (lRet (lC (.bl false)))
    lNext))
    (lRet (lC (.bl true)))))
    lNext)
    (lSeq (lIfS (lTru (lCB vIsi (lCons (lVar 1) (lCons (lC (.ty "bool")) lNil))))
    (lRet (lAndV (lCB vIsi (lCons (lVar 0) (lCons (lC (.ty "bool")) lNil))) (lOp (vEq false) (lVar 0) (lVar 1))))
    lNext)
    (lSeq (lIfS (lTru (lCB vIsi (lCons (lVar 1) (lCons (lC (.ty "int")) lNil))))
    (lRet (lAndV (lCB vIsi (lCons (lVar 0) (lCons (lC (.ty "int")) lNil))) (lAndV (lNotT (lCB vIsi (lCons (lVar 0) (lCons (lC (.ty "bool")) lNil)))) (lOp (vEq false) (lVar 0) (lVar 1)))))
    lNext)
    (lRet (lAndV (lCB vIsi (lCons (lVar 0) (lCons (lC (.ty "str")) lNil))) (lOp (vEq false) (lVar 0) (lVar 1))))))))
/-- _law_char -/
def l_x_char (A : Adr) : LS :=
  (lSeq (lSet 1 (lC (.str " !\"#$&'()*+,-./0123456789:;<=>?@ABCDEFGHIJKLMNOPQRSTUVWXYZ[\\]^_`")))
    (lSeq (lSet 1 (lOp vAdd (lVar 1) (lC (.str "abcdefghijklmnopqrstuvwxyz{|}~\n"))))
    (lRet (lOp vIxA (lVar 1) (lVar 0)))))
/-- _law_reserved -/
def l_x_reserved (A : Adr) : LS :=
  (lSeq (lSet 0 (lLst (lCons (lC (.str "set")) (lCons (lC (.str "make")) (lCons (lC (.str "by")) (lCons (lC (.str "with")) (lCons (lC (.str "from")) (lCons (lC (.str "needs")) (lCons (lC (.str "if")) (lCons (lC (.str "else")) (lCons (lC (.str "each")) (lCons (lC (.str "in")) (lCons (lC (.str "shape")) (lCons (lC (.str "use")) (lCons (lC (.str "not")) lNil)))))))))))))))
    (lRet (lOp vAdd (lVar 0) (lLst (lCons (lC (.str "files")) (lCons (lC (.str "flag")) (lCons (lC (.str "when")) lNil)))))))
/-- _law_drawn_tool -/
def l_x_drawn_tool (A : Adr) : LS :=
  (lSeq (lSet 2 (lCall (sp_x_next A) (lCons (lVar 0) (lCons (lVar 1) (lCons (lC (.int 4)) lNil)))))
    (lSeq (lIfS (lTest (lOp (vEq false) (lVar 2) (lC (.int 0))))
    (lRet (lOp vIxA (lCall (sp_x_reserved A) lNil) (lCall (sp_x_next A) (lCons (lVar 0) (lCons (lVar 1) (lCons (lC (.int 16)) lNil))))))
    lNext)
    (lSeq (lSet 3 (lSl vSl (lC (.str "abcdefghij_0123456789z")) lNoPart (lPart (lOp vIxA (lLst (lCons (lC (.int 1)) (lCons (lC (.int 2)) (lCons (lC (.int 19)) (lCons (lC (.int 20)) (lCons (lC (.int 21)) lNil)))))) (lCall (sp_x_next A) (lCons (lVar 0) (lCons (lVar 1) (lCons (lC (.int 5)) lNil))))))))
    (lSeq (lIfS (lTest (lOp (vEq false) (lVar 2) (lC (.int 1))))
    (lSeq (lSet 4 (lCall (sp_x_next A) (lCons (lVar 0) (lCons (lVar 1) (lCons (lCB vLenA (lCons (lVar 3) lNil)) lNil)))))
    (lSet 3 (lOp vAdd (lOp vAdd (lSl vSl (lVar 3) lNoPart (lPart (lVar 4))) (lOp vIxA (lLst (lCons (lC (.str "A")) (lCons (lC (.str "-")) (lCons (lC (.str "1")) (lCons (lC (.str "_")) (lCons (lC (.str " ")) (lCons (lC (.str "z")) lNil))))))) (lCall (sp_x_next A) (lCons (lVar 0) (lCons (lVar 1) (lCons (lC (.int 6)) lNil)))))) (lSl vSl (lVar 3) (lPart (lOp vAdd (lVar 4) (lC (.int 1)))) lNoPart))))
    lNext)
    (lRet (lVar 3))))))
/-- _law_is_word -/
def l_x_is_word (A : Adr) : LS :=
  (lSeq (lSet 1 (lC (.str "abcdefghijklmnopqrstuvwxyz")))
    (lSeq (lIfS (lOr (lTest (lOp (vOrdr (fun i j => decide (j < i)) fun a b => decide (b < a)) (lCB vLenA (lCons (lVar 0) lNil)) (lC (.int 20)))) (lTest (lOp (vInA true) (lOp vIxA (lVar 0) (lC (.int 0))) (lVar 1))))
    (lRet (lC (.bl false)))
    lNext)
    (lRet (lOp (vEq false) (lCB vLenA (lCons (lLc (lwAny (lVar 0)) (lgName 2) (lTest (lOp (vInA true) (lVar 2) (lOp vAdd (lVar 1) (lC (.str "0123456789_"))))) (lC (.int 1)) [2]) lNil)) (lC (.int 0))))))
/-- _law_told -/
def l_x_told (A : Adr) : LS :=
  (lTryAs [(A.BadMessage, true)] 2
    (lSeq (lSet 1 (lCallX (sp_read_key A) (lCons (lVar 0) lNil)))
    (lRet (lIf (lTru (lCB vIsi (lCons (lVar 1) (lCons (lC (.ty "list")) lNil)))) (lLst (lCons (lC (.str "odd")) lNil)) (lVar 1))))
    (fun xa xc xd => (lRet (lLst (lCons (lC (.str "refused")) (lCons (lAndV (lIsE xa xc xd A.BadMessage true (lVar 2)) (lNotT (lIsE xa xc xd A.BadMessage false (lVar 2)))) lNil))))))
/-- _law_turned -/
def l_x_turned (A : Adr) : LS :=
  (lSeq (lSet 4 (lCall (sp_x_next A) (lCons (lVar 0) (lCons (lVar 1) (lCons (lC (.int 3)) lNil)))))
    (lSeq (lSet 5 (lOp vAdd (lOp vAdd (lLst (lCons (lVar 2) lNil)) (lOp vIxA (lVar 3) (lC (.int 0)))) (lOp vIxA (lVar 3) (lC (.int 1)))))
    (lSeq (lIfS (lTest (lOp (vEq false) (lVar 4) (lC (.int 0))))
    (lSet 5 (lOp vAdd (lOp vAdd (lOp vAdd (lLst (lCons (lVar 2) lNil)) (lOp vIxA (lVar 3) (lC (.int 1)))) (lLst (lCons (lC (.str "in 7")) (lCons (lC (.str "arg a")) lNil)))) (lOp vIxA (lVar 3) (lC (.int 0)))))
    lNext)
    (lSeq (lIfS (lTest (lOp (vEq false) (lVar 4) (lC (.int 1))))
    (lSet 5 (lOp vAdd (lVar 5) (lLst (lCons (lOp vAdd (lC (.str "in 0")) (lCB vStrI (lCons (lCall (sp_x_next A) (lCons (lVar 0) (lCons (lVar 1) (lCons (lC (.int 1000)) lNil)))) lNil))) lNil))))
    lNext)
    (lSeq (lSet 6 (lBM "str" vJoin (lC (.str "")) (lCons (lLc (lwAny (lVar 5)) (lgName 7) lYes (lOp vAdd (lVar 7) (lC (.str "\n"))) [7]) lNil)))
    (lRet (lSl vSl (lVar 6) lNoPart (lPart (lOp (vI0 fun i j => .int (i - j)) (lCB vLenA (lCons (lVar 6) lNil)) (lCB vIntA (lCons (lOp (vEq false) (lVar 4) (lC (.int 2))) lNil)))))))))))
/-! _law_key_right -/
def l_x_key_right_t11 (A : Adr) : LS :=
  (lRet (lAndV (lCall (sp_x_same A 4) (lCons (lVar 13) (lCons (lTup (lCons (lVar 2) (lCons (lVar 4) (lCons (lVar 6) lNil)))) lNil))) (lCall (sp_x_same A 4) (lCons (lCall (sp_key_text A) (lCons (lTup (lCons (lVar 2) (lCons (lVar 4) (lCons (lVar 6) lNil)))) lNil)) (lCons (lVar 10) lNil)))))
def l_x_key_right_t10 (A : Adr) : LS :=
  (lSeq (lIfS (lNot (lTru (lVar 12)))
    (lRet (lOp (vEq false) (lVar 13) (lLst (lCons (lC (.str "refused")) (lCons (lC (.bl true)) lNil)))))
    lNext)
    (l_x_key_right_t11 A))
def l_x_key_right_t9 (A : Adr) : LS :=
  (lSeq (lSet 13 (lCall (sp_x_told A) (lCons (lVar 10) lNil)))
    (l_x_key_right_t10 A))
def l_x_key_right_t8 (A : Adr) : LS :=
  (lSeq (lSet 12 (lAndV (lCall (sp_x_is_word A) (lCons (lVar 2) lNil)) (lAndV (lOp (vOrdr (fun i j => decide (i < j)) fun a b => decide (a < b)) (lCB vLenA (lCons (lVar 4) lNil)) (lC (.int 13))) (lAndV (lOp (vOrdr (fun i j => decide (i < j)) fun a b => decide (a < b)) (lCB vLenA (lCons (lVar 6) lNil)) (lC (.int 25))) (lAndV (lOp (vInA true) (lOp vMul (lC (.str "x")) (lC (.int 61))) (lVar 4)) (lAndV (lOp (vInA true) (lC (.int 100000)) (lVar 6)) (lOp (vInA true) (lC (.int 0)) (lVar 6))))))))
    (l_x_key_right_t9 A))
def l_x_key_right_t7 (A : Adr) : LS :=
  (lSeq (lIfS (lTest (lOp (vEq false) (lCall (sp_x_next A) (lCons (lVar 0) (lCons (lVar 1) (lCons (lC (.int 4)) lNil)))) (lC (.int 0))))
    (lRet (lOp (vEq false) (lCall (sp_x_told A) (lCons (lCall (sp_x_turned A) (lCons (lVar 0) (lCons (lVar 1) (lCons (lVar 2) (lCons (lVar 7) lNil))))) lNil)) (lLst (lCons (lC (.str "refused")) (lCons (lC (.bl true)) lNil)))))
    lNext)
    (l_x_key_right_t8 A))
def l_x_key_right_t6 (A : Adr) : LS :=
  (lSeq (lSet 10 (lBM "str" vJoin (lC (.str "")) (lCons (lLc (lwAny (lOp vAdd (lOp vAdd (lLst (lCons (lVar 2) lNil)) (lOp vIxA (lVar 7) (lC (.int 0)))) (lOp vIxA (lVar 7) (lC (.int 1))))) (lgName 11) lYes (lOp vAdd (lVar 11) (lC (.str "\n"))) [11]) lNil)))
    (l_x_key_right_t7 A))
def l_x_key_right_t5 (A : Adr) : LS :=
  (lSeq (lSet 7 (lLst (lCons (lLc (lwAny (lVar 4)) (lgName 8) lYes (lOp vAdd (lC (.str "arg ")) (lVar 8)) [8]) (lCons (lLc (lwAny (lVar 6)) (lgName 9) lYes (lOp vAdd (lC (.str "in ")) (lCB vStrI (lCons (lVar 9) lNil))) [9]) lNil))))
    (l_x_key_right_t6 A))
def l_x_key_right_t4 (A : Adr) : LS :=
  (lSeq (lSet 6 (lCB vTupA (lCons (lLc (lwRng1 (lCons (lVar 3) lNil)) (lgName 5) lYes (lOp vIxA (lLst (lCons (lC (.int 1)) (lCons (lC (.int 9)) (lCons (lC (.int 10)) (lCons (lC (.int 28)) (lCons (lC (.int 345)) (lCons (lC (.int 6789)) (lCons (lC (.int 99999)) (lCons (lC (.int 100000)) (lCons (lC (.int 0)) lNil)))))))))) (lCall (sp_x_next A) (lCons (lVar 0) (lCons (lVar 1) (lCons (lOp (vI0 fun i j => .int (i - j)) (lC (.int 9)) (lOp vMul (lC (.int 2)) (lCB vIntA (lCons (lOp (vOrdr (fun i j => decide (j < i)) fun a b => decide (b < a)) (lVar 3) (lC (.int 2))) lNil)))) lNil))))) [5]) lNil)))
    (l_x_key_right_t5 A))
def l_x_key_right_t3 (A : Adr) : LS :=
  (lSeq (lSet 3 (lCall (sp_x_next A) (lCons (lVar 0) (lCons (lVar 1) (lCons (lOp vIxA (lLst (lCons (lC (.int 3)) (lCons (lC (.int 3)) (lCons (lC (.int 26)) lNil)))) (lCall (sp_x_next A) (lCons (lVar 0) (lCons (lVar 1) (lCons (lC (.int 3)) lNil))))) lNil)))))
    (l_x_key_right_t4 A))
def l_x_key_right_t2 (A : Adr) : LS :=
  (lSeq (lSet 4 (lCB vTupA (lCons (lLc (lwRng1 (lCons (lVar 3) lNil)) (lgName 5) lYes (lOp vIxA (lLst (lCons (lC (.str "")) (lCons (lC (.str "a")) (lCons (lC (.str " a b ")) (lCons (lOp vMul (lC (.str "x")) (lC (.int 59))) (lCons (lOp vMul (lC (.str "x")) (lC (.int 60))) (lCons (lOp vMul (lC (.str "x")) (lC (.int 61))) lNil))))))) (lCall (sp_x_next A) (lCons (lVar 0) (lCons (lVar 1) (lCons (lOp (vI0 fun i j => .int (i - j)) (lC (.int 6)) (lCB vIntA (lCons (lOp (vOrdr (fun i j => decide (j < i)) fun a b => decide (b < a)) (lVar 3) (lC (.int 2))) lNil))) lNil))))) [5]) lNil)))
    (l_x_key_right_t3 A))
def l_x_key_right_t1 (A : Adr) : LS :=
  (lSeq (lSet 3 (lCall (sp_x_next A) (lCons (lVar 0) (lCons (lVar 1) (lCons (lOp vIxA (lLst (lCons (lC (.int 3)) (lCons (lC (.int 3)) (lCons (lC (.int 14)) lNil)))) (lCall (sp_x_next A) (lCons (lVar 0) (lCons (lVar 1) (lCons (lC (.int 3)) lNil))))) lNil)))))
    (l_x_key_right_t2 A))
def l_x_key_right (A : Adr) : LS :=
  (lSeq (lSet 2 (lCall (sp_x_drawn_tool A) (lCons (lVar 0) (lCons (lVar 1) lNil))))
    (l_x_key_right_t1 A))

/-! _law_claim_right -/
def l_x_claim_right_t12 (A : Adr) : LS :=
  (lRet (lAndV (lVar 7) (lCall (sp_x_same A 4) (lCons (lVar 8) (lCons (lTup (lCons (lVar 2) (lCons (lVar 3) lNil))) lNil)))))
def l_x_claim_right_t11 (A : Adr) : LS :=
  (lSeq (lTryAs [(A.BadMessage, true)] 9
    (lSet 8 (lCallX (sp_read_claim A) (lCons (lVar 5) lNil)))
    (fun xa xc xd => (lRet (lAndV (lNotT (lVar 7)) (lIsE xa xc xd A.BadMessage true (lVar 9))))))
    (l_x_claim_right_t12 A))
def l_x_claim_right_t10 (A : Adr) : LS :=
  (lSeq (lSet 7 (lAndV (lVar 7) (lOp (vInA true) (lC (.str "\t")) (lVar 3))))
    (l_x_claim_right_t11 A))
def l_x_claim_right_t9 (A : Adr) : LS :=
  (lSeq (lSet 7 (lOrV (lAndV (lOp (vEq false) (lVar 2) (lC (.str "made"))) (lOp (vOrdr (fun i j => decide (i < j)) fun a b => decide (a < b)) (lCB vLenA (lCons (lVar 3) lNil)) (lC (.int 2001)))) (lAndV (lOp (vOrdr (fun i j => decide (i < j)) fun a b => decide (a < b)) (lCB vLenA (lCons (lVar 3) lNil)) (lC (.int 81))) (lOp (vInA true) (lC (.str "\n")) (lVar 3)))))
    (l_x_claim_right_t10 A))
def l_x_claim_right_t8 (A : Adr) : LS :=
  (lSeq (lIfS (lAnd (lTru (lVar 6)) (lAnd (lTest (lOp (vInA true) (lC (.str "\t")) (lVar 3))) (lNot (lTru (lCall (sp_x_same A 4) (lCons (lCall (sp_claim_text A) (lCons (lTup (lCons (lVar 2) (lCons (lVar 3) lNil))) lNil)) (lCons (lVar 5) lNil)))))))
    (lRet (lC (.bl false)))
    lNext)
    (l_x_claim_right_t9 A))
def l_x_claim_right_t7 (A : Adr) : LS :=
  (lSeq (lSet 6 (lOrV (lAndV (lOp (vEq false) (lVar 2) (lC (.str "made"))) (lOp (vOrdr (fun i j => decide (i < j)) fun a b => decide (a < b)) (lCB vLenA (lCons (lVar 3) lNil)) (lC (.int 2001)))) (lAndV (lOp (vOrdr (fun i j => decide (i < j)) fun a b => decide (a < b)) (lCB vLenA (lCons (lVar 3) lNil)) (lC (.int 105))) (lOp (vInA true) (lC (.str "\n")) (lVar 3)))))
    (l_x_claim_right_t8 A))
def l_x_claim_right_t6 (A : Adr) : LS :=
  (lSeq (lSet 5 (lOp vAdd (lOp vAdd (lVar 2) (lC (.str "\n"))) (lVar 3)))
    (l_x_claim_right_t7 A))
def l_x_claim_right_t5 (A : Adr) : LS :=
  (lSeq (lIfS (lTest (lOp (vEq false) (lCall (sp_x_next A) (lCons (lVar 0) (lCons (lVar 1) (lCons (lC (.int 12)) lNil)))) (lC (.int 0))))
    (lSet 3 (lOp vAdd (lVar 3) (lC (.str "\t"))))
    lNext)
    (l_x_claim_right_t6 A))
def l_x_claim_right_t4 (A : Adr) : LS :=
  (lSeq (lIfS (lTest (lOp (vEq false) (lCall (sp_x_next A) (lCons (lVar 0) (lCons (lVar 1) (lCons (lC (.int 9)) lNil)))) (lC (.int 0))))
    (lSet 3 (lOp vAdd (lOp vMul (lC (.str "made\n")) (lC (.int 399))) (lSl vSl (lC (.str "abcdef")) lNoPart (lPart (lOp vAdd (lC (.int 4)) (lCall (sp_x_next A) (lCons (lVar 0) (lCons (lVar 1) (lCons (lC (.int 3)) lNil)))))))))
    lNext)
    (l_x_claim_right_t5 A))
def l_x_claim_right_t3 (A : Adr) : LS :=
  (lSeq (lIfS (lTest (lOp (vEq false) (lCall (sp_x_next A) (lCons (lVar 0) (lCons (lVar 1) (lCons (lC (.int 3)) lNil)))) (lC (.int 0))))
    (lSet 3 (lOp vMul (lC (.str "r")) (lOp vAdd (lC (.int 79)) (lCall (sp_x_next A) (lCons (lVar 0) (lCons (lVar 1) (lCons (lC (.int 3)) lNil)))))))
    lNext)
    (l_x_claim_right_t4 A))
def l_x_claim_right_t2 (A : Adr) : LS :=
  (lSeq (lSet 3 (lOp vAdd (lVar 3) (lOp vMul (lC (.str "needs //a:b ")) (lCall (sp_x_next A) (lCons (lVar 0) (lCons (lVar 1) (lCons (lC (.int 20)) lNil)))))))
    (l_x_claim_right_t3 A))
def l_x_claim_right_t1 (A : Adr) : LS :=
  (lSeq (lSet 3 (lBM "str" vJoin (lC (.str "")) (lCons (lLc (lwRng1 (lCons (lCall (sp_x_next A) (lCons (lVar 0) (lCons (lVar 1) (lCons (lC (.int 12)) lNil)))) lNil)) (lgName 4) lYes (lCall (sp_x_char A) (lCons (lCall (sp_x_next A) (lCons (lVar 0) (lCons (lVar 1) (lCons (lC (.int 95)) lNil)))) lNil)) [4]) lNil)))
    (l_x_claim_right_t2 A))
def l_x_claim_right (A : Adr) : LS :=
  (lSeq (lSet 2 (lOp vIxA (lLst (lCons (lC (.str "made")) (lCons (lC (.str "failed")) lNil))) (lCall (sp_x_next A) (lCons (lVar 0) (lCons (lVar 1) (lCons (lC (.int 2)) lNil))))))
    (l_x_claim_right_t1 A))

/-! _law_claim_refused -/
def l_x_claim_refused_t5 (A : Adr) : LS :=
  (lRet (lC (.bl false)))
def l_x_claim_refused_t4 (A : Adr) : LS :=
  (lSeq (lTryAs [(A.BadMessage, true)] 5
    (lDrop (lCallX (sp_read_claim A) (lCons (lOp vIxA (lVar 4) (lCall (sp_x_next A) (lCons (lVar 0) (lCons (lVar 1) (lCons (lC (.int 10)) lNil))))) lNil)))
    (fun xa xc xd => (lRet (lAndV (lIsE xa xc xd A.BadMessage true (lVar 5)) (lNotT (lIsE xa xc xd A.BadMessage false (lVar 5)))))))
    (l_x_claim_refused_t5 A))
def l_x_claim_refused_t3 (A : Adr) : LS :=
  (lSeq (lSet 4 (lOp vAdd (lVar 4) (lLst (lCons (lOp vAdd (lOp vAdd (lOp vAdd (lSl vSl (lVar 2) lNoPart (lPart (lVar 3))) (lC (.str "M"))) (lSl vSl (lVar 2) (lPart (lVar 3)) lNoPart)) (lC (.str "\na"))) (lCons (lOp vAdd (lVar 2) (lC (.str "a"))) (lCons (lOp vAdd (lOp vAdd (lC (.str "a\n")) (lVar 2)) (lC (.str "\n"))) lNil))))))
    (l_x_claim_refused_t4 A))
def l_x_claim_refused_t2 (A : Adr) : LS :=
  (lSeq (lSet 4 (lLst (lCons (lVar 2) (lCons (lC (.str "")) (lCons (lOp vAdd (lC (.str "\n")) (lVar 2)) (lCons (lOp vAdd (lVar 2) (lC (.str " \na"))) (lCons (lOp vAdd (lVar 2) (lC (.str "s\na"))) (lCons (lOp vAdd (lOp vAdd (lC (.str " ")) (lVar 2)) (lC (.str "\na"))) (lCons (lOp vAdd (lOp vAdd (lSl vSl (lVar 2) lNoPart (lPart (lVar 3))) (lSl vSl (lVar 2) (lPart (lOp vAdd (lVar 3) (lC (.int 1)))) lNoPart)) (lC (.str "a\nb"))) lNil)))))))))
    (l_x_claim_refused_t3 A))
def l_x_claim_refused_t1 (A : Adr) : LS :=
  (lSeq (lSet 3 (lCall (sp_x_next A) (lCons (lVar 0) (lCons (lVar 1) (lCons (lOp vAdd (lCB vLenA (lCons (lVar 2) lNil)) (lC (.int 1))) lNil)))))
    (l_x_claim_refused_t2 A))
def l_x_claim_refused (A : Adr) : LS :=
  (lSeq (lSet 2 (lOp vIxA (lLst (lCons (lC (.str "made")) (lCons (lC (.str "failed")) lNil))) (lCall (sp_x_next A) (lCons (lVar 0) (lCons (lVar 1) (lCons (lC (.int 2)) lNil))))))
    (l_x_claim_refused_t1 A))

/-! law -/
def l_law_t2 (A : Adr) : LS :=
  (lRet (lC (.bl true)))
def l_law_t1 (A : Adr) : LS :=
  (lSeq (lFor (lwRng1 (lCons (lC (.int 3)) lNil)) (lgName 2)
    (lIfS (lOr (lNot (lTru (lCall (sp_x_key_right A) (lCons (lVar 1) (lCons (lVar 0) lNil))))) (lOr (lNot (lTru (lCall (sp_x_claim_right A) (lCons (lVar 1) (lCons (lVar 0) lNil))))) (lNot (lTru (lCall (sp_x_claim_refused A) (lCons (lVar 1) (lCons (lVar 0) lNil)))))))
    (lRet (lC (.bl false)))
    lNext))
    (l_law_t2 A))
def l_law (A : Adr) : LS :=
  (lSeq (lSet 1 (lLstM (lCons (lC (.int 0)) (lCons (lC (.int 0)) (lCons (lC (.int 1)) lNil)))))
    (l_law_t1 A))


end K73

namespace K73
open PySem L2 L3
local macro_rules
  | `(tactic| infer_instance) => `(tactic| first
    | with_reducible apply s_seq
    | ((with_reducible apply s_var); exact rfl)
    | with_reducible apply s_op
    | with_reducible apply s_c
    | with_reducible apply s_cons
    | with_reducible apply s_nil
    | with_reducible apply s_set
    | with_reducible apply s_ret
    | with_reducible apply s_ifS
    | with_reducible apply s_test'
    | with_reducible apply s_exbl
    | with_reducible apply s_tru
    | with_reducible apply s_trubl
    | with_reducible apply s_truint
    | with_reducible apply s_trulst
    | with_reducible apply s_trutup
    | with_reducible apply s_trunon
    | with_reducible apply s_itT
    | with_reducible apply s_itF
    | with_reducible apply s_itnF
    | with_reducible apply s_itnT
    | with_reducible apply s_next
    | with_reducible apply s_cB
    | with_reducible apply s_call
    | ((with_reducible apply s_ordI))
    | with_reducible apply s_addI
    | with_reducible apply s_I0
    | ((with_reducible apply s_isNT); exact rfl)
    | ((with_reducible apply s_isNF); exact rfl)
    | with_reducible apply s_isN
    | with_reducible apply s_lenL
    | with_reducible apply s_lenT
    | ((with_reducible apply s_ixL); exact rfl)
    | ((with_reducible apply s_ixT); exact rfl)
    | ((with_reducible apply s_ixO); exact rfl; exact rfl)
    | ((with_reducible apply s_lenO); exact rfl)
    | ((with_reducible apply s_lenD); exact rfl)
    | with_reducible apply s_int1
    | with_reducible apply s_int1b
    | with_reducible apply s_abs
    | with_reducible apply s_tupL
    | with_reducible apply s_tupT
    | ((with_reducible apply s_tupD); exact rfl)
    | ((with_reducible apply s_isiT); decide; exact rfl; exact rfl)
    | ((with_reducible apply s_isiF); decide; exact rfl; exact rfl)
    | with_reducible apply s_eqST
    | with_reducible apply s_eqIT
    | with_reducible apply s_neIT
    | with_reducible apply s_eqBT
    | with_reducible apply s_eqI
    | with_reducible apply s_eqS
    | with_reducible apply s_eqB
    | with_reducible apply s_tup
    | with_reducible apply s_lst
    | ((with_reducible apply s_exds); (repeat (first | exact Dats.nil | apply Dats.cons)); exact Nat.le_of_ble_eq_true rfl)
    | with_reducible apply s_and
    | with_reducible apply s_or
    | with_reducible apply s_not
    | with_reducible apply s_andV
    | with_reducible apply s_orV
    | with_reducible apply s_notT
    | with_reducible apply s_if
    | with_reducible apply s_yes
    | with_reducible apply s_drop
    | with_reducible apply s_retN
    | with_reducible apply s_asg
    | with_reducible apply s_gName
    | ((with_reducible apply s_gTup); exact rfl)
    | with_reducible apply s_gCons
    | with_reducible apply s_gConsM
    | with_reducible apply s_gNilM
    | with_reducible apply s_gNil
    | with_reducible apply s_break
    | with_reducible apply s_cont
    | with_reducible apply s_lstM
    | with_reducible apply s_meth
    | with_reducible apply s_make
    | with_reducible apply s_fld
    | ((with_reducible apply s_exfld); exact rfl; exact rfl)
    | with_reducible apply s_setFld
    | ((with_reducible apply s_exsetFld); exact rfl; exact Nat.le_of_ble_eq_true rfl)
    | with_reducible apply s_dnew
    | with_reducible apply s_dget1
    | ((with_reducible apply s_exdict); exact rfl)
    | with_reducible apply s_ddel
    | with_reducible apply s_setA
    | with_reducible apply s_sl
    | with_reducible apply s_noPart
    | with_reducible apply s_part
    | with_reducible apply s_exint
    | with_reducible apply s_slL
    | with_reducible apply s_bM
    | with_reducible apply s_for
    | with_reducible apply s_wRng1
    | ((with_reducible apply s_wAnyL); exact rfl)
    | ((with_reducible apply s_wAnyT); exact rfl)
    | with_reducible apply s_while
    | ((with_reducible apply s_tyO); exact rfl)
    | with_reducible apply s_tyS
    | with_reducible apply s_neg
    | ((with_reducible apply s_slS); assumption)
    | ((with_reducible apply s_lenS); assumption)
    | with_reducible apply s_find3
    | with_reducible apply s_wAnyC
    | with_reducible apply s_lstMT
    | with_reducible apply s_lstML
    | with_reducible apply s_lstT
    | with_reducible apply s_lstL
    | with_reducible apply s_aG
    | with_reducible apply s_un
    | with_reducible apply s_intAi
    | with_reducible apply s_intAb
    | with_reducible apply s_fs
    | with_reducible apply s_jsCons
    | with_reducible apply s_jsNil
    | with_reducible apply s_fmt)

theorem len_x_next {A : Adr} {ds : List DV} {M : Mem} {P : PD} {PX : PXn} (h : sp_x_next A ds M P PX) : ds.length = (["_law_state", "_law_script", "_law_many"] : List Str).length := by
  obtain ⟨ns, as, o, rfl, _, _, _, ⟨m, rfl, _, _⟩, _⟩ := h
  rfl
theorem b_x_next {A : Adr} {ds : List DV} {M : Mem} {P : PD} {PX : PXn} (h : sp_x_next A ds M P PX) : l_x_next A { nx := fun _ M' => DropD M.length P .non M', rt := DropD M.length P } (startL N_x_next ds) M := by
  obtain ⟨ns, as, o, rfl, hns, rfl, ⟨i, p, g, rfl, hi, hp, hg, hg2⟩, ⟨m, rfl, hm, hm2⟩, k⟩ := h
  show l_x_next A _ [some (.obj 0), some (.dat (.lst (ns.map .int))), some (.dat (.int m)), none, none] _
  unfold l_x_next
  have fin : ∀ (q : Int) (o' : MO), Dr o' → 0 ≤ q → DropD 1 P (.dat (.int (q.fmod m))) [o'] := fun q o' ho hq => by
    obtain ⟨i', p', g', rfl, ho2⟩ := id ho
    exact dropAll (Nat.le_refl _) rfl rfl (k _ _ ⟨m, _, rfl, rfl, Int.fmod_nonneg hq (by omega), Int.fmod_lt_of_pos q hm⟩ ho)
  have cd : CDivN p m := ⟨by omega, by omega⟩
  repeat infer_instance
  refine s_ite (fun h1 => ?_) (fun h1 => ?_)
  · repeat infer_instance
    refine s_I (by omega) ?_
    repeat infer_instance
    refine s_I cd ?_
    repeat infer_instance
    refine .inl ⟨0, _, 1, 1, rfl, rfl, rfl, rfl, ?_⟩
    repeat infer_instance
    exact fin p _ ⟨i, p.fdiv m, g, rfl, hi, Int.fdiv_nonneg hp (by omega), hg, hg2⟩ hp
  · repeat infer_instance
    have rest : ∀ c : Int, 0 ≤ c → (lSeq (lSetA (lVar 0) (lC (.int 0)) (lOp vAdd (lOp vIxA (lVar 0) (lC (.int 0))) (lC (.int 1))))
    (lSeq (lIfS (lTest (lOp (vOrdr (fun i j => decide (j ≤ i)) fun a b => !decide (a < b)) (lVar 4) (lOp (vI CPow fun i j => .int (i ^ j.toNat)) (lC (.int 10)) (lC (.int 18)))))
    (lSeq (lSetA (lVar 0) (lC (.int 1)) (lOp (vI CDivN fun i j => .int (i.fdiv j)) (lVar 4) (lVar 2)))
    (lRet (lOp (vI (fun _ j => j ≠ 0) fun i j => .int (i.fmod j)) (lCB vIntA (lCons (lVar 4) lNil)) (lVar 2))))
    lNext)
    (lSeq (lSetA (lVar 0) (lC (.int 2)) (lOp (vI (fun _ j => j ≠ 0) fun i j => .int (i.fmod j)) (lCB vIntA (lCons (lOp vAdd (lOp vAdd (lOp vMul (lOp vIxA (lVar 0) (lC (.int 2))) (lC (.int 48271))) (lOp vMul (lVar 4) (lC (.int 69621)))) (lC (.int 12345))) lNil)) (lC (.int 2147483647))))
    (lRet (lOp (vI (fun _ j => j ≠ 0) fun i j => .int (i.fmod j)) (lCB vIntA (lCons (lOp vAdd (lOp (vI CDivN fun i j => .int (i.fdiv j)) (lOp vIxA (lVar 0) (lC (.int 2))) (lC (.int 7))) (lOp (vI CDivN fun i j => .int (i.fdiv j)) (lOp vMul (lOp vIxA (lVar 0) (lC (.int 2))) (lOp vIxA (lVar 0) (lC (.int 2)))) (lC (.int 65537)))) lNil)) (lVar 2)))))) { nx := fun _ M' => DropD 1 P .non M', rt := DropD 1 P } [some (.obj 0), some (.dat (.lst (ns.map .int))), some (.dat (.int m)), none, some (.dat (.int c))] [.lst [.int i, .int p, .int g]] := fun c hc => by
      repeat infer_instance
      refine .inl ⟨0, _, 0, 0, rfl, rfl, rfl, rfl, ?_⟩
      repeat infer_instance
      refine s_I ⟨by decide, by decide, by decide⟩ ?_
      repeat infer_instance
      refine s_ite (fun h2 => ?_) (fun h2 => ?_)
      · repeat infer_instance
        refine s_I ⟨by omega, by omega⟩ ?_
        repeat infer_instance
        refine .inl ⟨0, _, 1, 1, rfl, rfl, rfl, rfl, ?_⟩
        repeat infer_instance
        refine s_I (by omega) ?_
        exact fin c _ ⟨i + 1, c.fdiv m, g, rfl, by omega, Int.fdiv_nonneg hc (by omega), hg, hg2⟩ hc
      · repeat infer_instance
        refine s_mulI (.inr ⟨by decide, by decide⟩) ?_
        repeat infer_instance
        refine s_mulI (.inr ⟨by decide, by decide⟩) ?_
        repeat infer_instance
        refine s_I (by decide) ?_
        repeat infer_instance
        refine .inl ⟨0, _, 2, 2, rfl, rfl, rfl, rfl, ?_⟩
        have hn : 0 ≤ g * 48271 + c * 69621 + 12345 := by omega
        have h3 := Int.fmod_nonneg (b := 2147483647) hn (by decide)
        have h4 := Int.fmod_lt_of_pos (g * 48271 + c * 69621 + 12345) (b := 2147483647) (by decide)
        generalize (g * 48271 + c * 69621 + 12345).fmod 2147483647 = g' at h3 h4 ⊢
        repeat infer_instance
        refine s_I ⟨by decide, by decide⟩ ?_
        repeat infer_instance
        refine s_mulI (.inr ⟨by omega, by omega⟩) ?_
        repeat infer_instance
        refine s_I ⟨by decide, by decide⟩ ?_
        repeat infer_instance
        refine s_I (by omega) ?_
        exact fin _ _ ⟨i + 1, p, g', rfl, by omega, hp, h3, h4⟩ (Int.add_nonneg (Int.fdiv_nonneg h3 (by decide)) (Int.fdiv_nonneg (Int.mul_nonneg h3 h3) (by decide)))
    refine s_ite (fun h2 => ?_) (fun h2 => ?_)
    · obtain ⟨c, hc⟩ := atI_int (ns := ns) hi (by have := of_decide_eq_true h2; rw [List.length_map] at this; exact this)
      repeat infer_instance
      refine s_ixL hc ?_
      iterate 4 infer_instance
      exact rest (if c < 0 then -c else c) (by split <;> omega)
    · iterate 1 infer_instance
      exact rest 0 (by decide)
theorem len_x_same {A : Adr} {n : Nat} {ds : List DV} {M : Mem} {P : PD} {PX : PXn} (h : sp_x_same A n ds M P PX) : ds.length = (["_law_actual", "_law_due"] : List Str).length := by
  cases n with
  | zero => exact h.elim
  | succ n =>
    obtain ⟨as, rfl, _, ⟨d, rfl, _⟩, _⟩ := h
    rfl
theorem b_x_same {A : Adr} {n : Nat} {ds : List DV} {M : Mem} {P : PD} {PX : PXn} (h : (sp_x_same A (n + 1)) ds M P PX) : l_x_same A n { nx := fun _ M' => DropD M.length P .non M', rt := DropD M.length P } (startL N_x_same ds) M := by
  obtain ⟨as, rfl, rfl, ⟨d, rfl, hd⟩, k⟩ := h
  show l_x_same A n _ [some (.dat d), some (.dat d), none] _
  have fin : DropD 0 P (.dat (.bl true)) [] := dropAll (Nat.le_refl _) rfl rfl (k _ rfl)
  unfold l_x_same
  cases d with
  | non => repeat infer_instance
           exact fin
  | bl b => repeat infer_instance
            exact fin
  | int i => repeat infer_instance
             exact fin
  | str x => repeat infer_instance
             exact fin
  | lst ds => exact hd.elim
  | ty => exact hd.elim
  | con => exact hd.elim
  | exc => exact hd.elim
  | tup ds =>
    obtain ⟨hl, hd⟩ := hd
    repeat infer_instance
    refine s_exrng (j := (ds.length : Nat)) (by omega) (by omega) ?_
    refine ⟨fun i ρ M => M = [] ∧ ∃ y, ρ = [some (.dat (.tup ds)), some (.dat (.tup ds)), y], ⟨rfl, none, rfl⟩, fun _ _ _ _ => trivial, ?_, ?_⟩
    · rintro i x ρ M hx ⟨rfl, y, rfl⟩
      obtain ⟨hi, rfl⟩ := rangeD_at hx
      have hi : i < ds.length := by simpa using hi
      repeat infer_instance
      refine s_ixT (atI_nat (List.getElem?_eq_getElem hi)) ?_
      repeat infer_instance
      refine s_ixT (atI_nat (List.getElem?_eq_getElem hi)) ?_
      repeat infer_instance
      refine call_same (hd _ (List.getElem_mem hi)) ?_
      repeat infer_instance
      exact .here ⟨rfl, _, rfl⟩
    · rintro ρ M ⟨rfl, y, rfl⟩
      repeat infer_instance
      exact fin
theorem okT.z {x : Str} (h : okT x) : x.length ≤ sizeLine := Nat.le_trans h (by decide)
theorem app_len (x y : Str) : (x ++ y).length = x.length + y.length := by rw [len_cs, len_cs, len_cs, cs_app, List.length_append]
theorem take_snoc {α : Type} {xs : List α} {j : Nat} {a : α} (h : xs[j]? = some a) : xs.take (j + 1) = xs.take j ++ [a] := by rw [List.take_add_one, h]; rfl
theorem finD {P : PD} {d : D} {o : MO} (ho : Dr o) (h : P (.dat d) [o]) : DropD 1 P (.dat d) [o] := by
  obtain ⟨i', p', g', rfl, ho2⟩ := id ho
  exact dropAll (Nat.le_refl _) rfl rfl h
theorem cut_to {z : Str} {n : Nat} : cutS z none (some (n : Int)) = S (z.cps.toList.take n) := by
  unfold cutS
  rw [HT.sIx_nat, HT.sIx_none, len_cs]
  apply cs_inj
  rw [cs_S, cs_S, List.drop_zero, Nat.sub_zero]
  generalize z.cps.toList = l
  by_cases h : n ≤ l.length
  · rw [Nat.min_eq_left h]
  · rw [Nat.min_eq_right (by omega), List.take_of_length_le (Nat.le_refl _), List.take_of_length_le (by omega)]
theorem cut_from {z : Str} {n : Nat} : cutS z (some (n : Int)) none = S (z.cps.toList.drop n) := by
  unfold cutS
  rw [HT.sIx_nat, HT.sIx_none, len_cs]
  apply cs_inj
  rw [cs_S, cs_S]
  generalize z.cps.toList = l
  by_cases h : n ≤ l.length
  · rw [Nat.min_eq_left h, List.take_of_length_le (by rw [List.length_drop]; omega)]
  · rw [Nat.min_eq_right (by omega), List.drop_eq_nil_of_le (Nat.le_refl _), List.drop_eq_nil_of_le (by omega)]
    simp
theorem len_noA {S : List D → D → Prop} {ds : List DV} {M : Mem} {P : PD} {PX : PXn} (h : spDraw noArgs S ds M P PX) : ds.length = 2 := by
  obtain ⟨ns, as, o, rfl, _, _, _, e, _⟩ := h
  cases (show as = [] from e)
  rfl
theorem len_one {R : Str → D → Prop} {ds : List DV} {M : Mem} {P : PD} {PX : PXn} (h : one R ds M P PX) : ds.length = 1 := by
  obtain ⟨as, d, rfl, _, ⟨a, _, rfl, _⟩, _⟩ := h
  rfl
theorem sign_in {z : Str} {i : Nat} {x : DV} (h : (signsD z)[i]? = some x) : ∃ c, z.cps.toList[i]? = some c ∧ x = .str ⟨#[c]⟩ := by
  unfold signsD at h
  rw [List.getElem?_map] at h
  cases e : z.cps.toList[i]? with
  | none => rw [e] at h; cases h
  | some c => rw [e] at h; cases h; exact ⟨c, rfl, rfl⟩
theorem signs_len (z : Str) : (signsD z).length = z.cps.toList.length := by unfold signsD; rw [List.length_map]
theorem s_lc {lw : LW} {g : LG} {tt : LT} {te : LE} {vs : List Nat} {ρ : Rho} {M : Mem} {P : PD} {PX : PXn} (h : lw ρ M (fun items okM M1 => ∃ I : Nat → List D → Mem → Prop, I 0 [] M1 ∧ (∀ i acc M, I i acc M → okM M) ∧
  (∀ i x acc M, items[i]? = some x → I i acc M → g x (wipeL ρ vs) M fun ρ2 M2 => tt ρ2 M2 (fun b M3 => if b = true then te ρ2 M3 (fun y M4 => acc.length < sizeLine ∧ ∃ d, y = .dat d ∧ DropM M1.length (I (i + 1) (acc ++ [d])) M4) noX else DropM M1.length (I (i + 1) acc) M3) noX) ∧
  ∀ acc M, I items.length acc M → P (.dat (.lst acc)) M) PX) : lLc lw g tt te vs ρ M P PX := h

theorem in_strs (p : Str) (ps : List Str) : inD (.str p) (ps.map D.str) = decide (p ∈ ps) := by
  unfold inD
  rw [List.any_map]
  rw [Bool.eq_iff_iff, List.any_eq_true, decide_eq_true_eq]
  constructor
  · rintro ⟨x, hx, e⟩
    have e : PyData.eqv (.str x) (.str p) = true := e
    have : x = p := by simpa [PyData.eqv] using e
    exact this ▸ hx
  · intro h
    exact ⟨p, h, by show PyData.eqv (.str p) (.str p) = true; simp [PyData.eqv]⟩
theorem strs_flat (ps : List Str) : (ps.map D.str).all flatD = true := by simp [flatD]
theorem inD_strs (w : Str) (ps : List Str) : inD (.str w) (ps.map D.str) = decide (w ∈ ps) := in_strs w ps
theorem cutS_len (z : Str) (a b : Option Int) : (cutS z a b).length ≤ z.length := by
  unfold cutS
  rw [len_cs, len_cs, cs_S]
  rw [List.length_take, List.length_drop]
  omega
theorem len_x_char {A : Adr} {ds : List DV} {M : Mem} {P : PD} {PX : PXn} (h : sp_x_char A ds M P PX) : ds.length = (["_law_number"] : List Str).length := by
  obtain ⟨as, d, rfl, _, ⟨i, c, rfl, _⟩, _⟩ := h
  rfl
theorem b_x_char {A : Adr} {ds : List DV} {M : Mem} {P : PD} {PX : PXn} (h : sp_x_char A ds M P PX) : l_x_char A { nx := fun _ M' => DropD M.length P .non M', rt := DropD M.length P } (startL N_x_char ds) M := by
  obtain ⟨as, d, rfl, rfl, ⟨i, c, rfl, hc, rfl⟩, k⟩ := h
  show l_x_char A _ [some (.dat (.int i)), none] _
  unfold l_x_char
  repeat infer_instance
  refine s_addS (by decide +kernel) ?_
  repeat infer_instance
  refine s_ixS (by decide +kernel) hc ?_
  exact fin0 k
theorem c95_len : C95.cps.toList.length = 95 := by decide +kernel
theorem len_x_reserved {A : Adr} {ds : List DV} {M : Mem} {P : PD} {PX : PXn} (h : sp_x_reserved A ds M P PX) : ds.length = ([] : List Str).length := by
  obtain ⟨as, d, rfl, _, ⟨rfl, _⟩, _⟩ := h
  rfl
theorem b_x_reserved {A : Adr} {ds : List DV} {M : Mem} {P : PD} {PX : PXn} (h : sp_x_reserved A ds M P PX) : l_x_reserved A { nx := fun _ M' => DropD M.length P .non M', rt := DropD M.length P } (startL N_x_reserved ds) M := by
  obtain ⟨as, d, rfl, rfl, ⟨rfl, rfl⟩, k⟩ := h
  show l_x_reserved A _ [none] _
  unfold l_x_reserved
  repeat infer_instance
  refine s_addL (Nat.le_of_ble_eq_true rfl) ?_
  exact fin0 k
theorem pick_len {xs : List Str} {i : Int} {m : Nat} (h0 : 0 ≤ i) (h1 : i < xs.length) (hx : xs.all (fun x => decide (x.length ≤ m)) = true) : ∃ x : Str, atI (xs.map D.str) i = some (.str x) ∧ x.length ≤ m := by
  obtain ⟨d, h, hm⟩ := atI_ex (xs := xs.map D.str) h0 (by rw [List.length_map]; exact h1)
  obtain ⟨x, hx', rfl⟩ := List.mem_map.mp hm
  exact ⟨x, h, of_decide_eq_true (List.all_eq_true.mp hx x hx')⟩

theorem lit0 : ("0" : Str) = S [48] := by decide +kernel
theorem S_inj1 {c d : Nat} : (S [c] = S [d]) ↔ c = d := by
  constructor
  · intro h
    have := congrArg (fun z : Str => z.cps.toList) h
    simpa using this
  · rintro rfl; rfl
theorem len_is_number {A : Adr} {ds : List DV} {M : Mem} {P : PD} {PX : PXn} (h : sp_is_number A ds M P PX) : ds.length = (["text"] : List Str).length := len_one h
theorem len_is_word {A : Adr} {ds : List DV} {M : Mem} {P : PD} {PX : PXn} (h : sp_is_word A ds M P PX) : ds.length = (["text"] : List Str).length := len_one h
theorem s_ch {lr lr' : DV → DV → Mem → PD → Prop} {la lb lc : LE} {ρ : Rho} {M : Mem} {P : PD} {PX : PXn} (h : la ρ M (fun x M1 => lb ρ M1 (fun y M2 => lr x y M2 fun z M3 => ∃ k, z = .bl k ∧ (if k = true then lc ρ M3 (fun w M4 => lr' y w M4 P) PX else P (.bl false) M3)) PX) PX) : lChain lr lr' la lb lc ρ M P PX := h
theorem s_chT {lr lr' : DV → DV → Mem → PD → Prop} {la lb lc : LE} {ρ : Rho} {M : Mem} {P : Bool → Mem → Prop} {PX : PXn} (h : la ρ M (fun x M1 => lb ρ M1 (fun y M2 => lr x y M2 fun z M3 => ∃ k, z = .bl k ∧ (if k = true then lc ρ M3 (fun w M4 => lr' y w M4 fun u M5 => ∃ k, u = .bl k ∧ P k M5) PX else (∃ k, DV.bl false = .bl k ∧ P k M3))) PX) PX) : lChainT lr lr' la lb lc ρ M P PX := h
theorem all_signs {x : Str} {q : Nat → Bool} (h : ∀ i, i < (signsD x).length → (match x.cps.toList[i]? with | some c => q c | none => true) ≠ false) : x.cps.toList.all q = true := by
  rw [List.all_eq_true]
  intro c hm
  obtain ⟨i, hi⟩ := List.mem_iff_getElem?.mp hm
  have h4 := h i (by rw [signs_len]; exact (List.getElem?_eq_some_iff.mp hi).1)
  rw [hi] at h4
  have h4 : ¬ q c = false := h4
  simpa using h4
theorem not_signs {x : Str} {q : Nat → Bool} {i : Nat} (h : (match x.cps.toList[i]? with | some c => q c | none => true) = false) : x.cps.toList.all q = false := by
  rw [List.all_eq_false]
  cases he : x.cps.toList[i]? with
  | none => rw [he] at h; cases h
  | some c =>
    rw [he] at h
    have hc : q c = false := h
    exact ⟨c, List.mem_of_getElem? he, by rw [hc]; decide⟩
theorem b_is_number {A : Adr} {ds : List DV} {M : Mem} {P : PD} {PX : PXn} (h : sp_is_number A ds M P PX) : l_is_number A { nx := fun _ M' => DropD M.length P .non M', rt := DropD M.length P } (startL N_is_number ds) M := by
  obtain ⟨as, d, rfl, rfl, ⟨x, hx, rfl, rfl⟩, k⟩ := h
  show l_is_number A _ [some (.dat (.str x)), none] _
  have hz := hx.z
  unfold l_is_number
  repeat infer_instance
  refine s_chT ?_
  repeat infer_instance
  refine s_ite (fun h1 => ?_) (fun h1 => ?_)
  · have h1 := of_decide_eq_true h1
    have hx1 : 1 ≤ x.cps.toList.length := by rw [← len_cs]; omega
    obtain ⟨c, r, hcr⟩ : ∃ c r, x.cps.toList = c :: r := by
      cases he : x.cps.toList with
      | nil => rw [he] at hx1; simp at hx1
      | cons c r => exact ⟨c, r, rfl⟩
    have hq : numB x = (decide (c ≠ 48) && x.cps.toList.all isD && decide (x.length ≤ 5)) := by unfold numB; rw [hcr]
    rw [hq] at k
    repeat infer_instance
    refine s_ite (fun h2 => ?_) (fun h2 => ?_)
    · repeat infer_instance
      have h2 : decide (x.length ≤ 5) = false := by
        have : ¬ ((x.length : Int) ≤ 5) := by simpa using h2
        exact decide_eq_false (by omega)
      rw [h2, Bool.and_false] at k
      exact fin0 k
    · have h2 : decide (x.length ≤ 5) = true := by
        have : (x.length : Int) ≤ 5 := by simpa using h2
        exact decide_eq_true (by omega)
      rw [h2, Bool.and_true] at k
      repeat infer_instance
      refine s_ixS hz (c := c) (by rw [hcr]; simp [atI, ixN]) ?_
      repeat infer_instance
      refine s_ite (fun h3 => ?_) (fun h3 => ?_)
      · have h3 : c = 48 := S_inj1.mp ((of_decide_eq_true (show decide (S [c] = ("0" : Str)) = true from h3)).trans lit0)
        rw [h3] at k
        repeat infer_instance
        exact fin0 k
      · have h3 : c ≠ 48 := fun e => (of_decide_eq_false (show decide (S [c] = ("0" : Str)) = false from h3)) (by rw [e, lit0])
        rw [decide_eq_true h3, Bool.true_and] at k
        repeat infer_instance
        refine s_wAnyS rfl ?_
        refine s_exany (fun i => match x.cps.toList[i]? with | some c => isD c | none => true) trivial (fun i y hy R h => ?_) (fun ⟨i, hi, hc⟩ => ?_) (fun hc => ?_)
        · obtain ⟨c, hc, rfl⟩ := sign_in hy
          rw [hc] at h
          repeat infer_instance
          exact s_inC (k := isD c) rfl rfl h
        · rw [not_signs hc] at k
          exact fin0 k
        · rw [all_signs hc] at k
          exact fin0 k
  · have h1 := of_decide_eq_false h1
    have hq : numB x = false := by
      have : x.cps.toList = [] := List.eq_nil_of_length_eq_zero (by rw [← len_cs]; omega)
      unfold numB
      rw [this]
      rfl
    rw [hq] at k
    repeat infer_instance
    exact fin0 k
theorem b_is_word {A : Adr} {ds : List DV} {M : Mem} {P : PD} {PX : PXn} (h : sp_is_word A ds M P PX) : l_is_word A { nx := fun _ M' => DropD M.length P .non M', rt := DropD M.length P } (startL N_is_word ds) M := by
  obtain ⟨as, d, rfl, rfl, ⟨x, hx, rfl, rfl⟩, k⟩ := h
  show l_is_word A _ [some (.dat (.str x)), none] _
  have hz := hx.z
  unfold l_is_word
  repeat infer_instance
  refine s_chT ?_
  repeat infer_instance
  refine s_ite (fun h1 => ?_) (fun h1 => ?_)
  · have h1 := of_decide_eq_true h1
    have hx1 : 1 ≤ x.cps.toList.length := by rw [← len_cs]; omega
    obtain ⟨c, r, hcr⟩ : ∃ c r, x.cps.toList = c :: r := by
      cases he : x.cps.toList with
      | nil => rw [he] at hx1; simp at hx1
      | cons c r => exact ⟨c, r, rfl⟩
    have hq : wordB x = (isL c && x.cps.toList.all isW && decide (x.length ≤ 20)) := by unfold wordB; rw [hcr]
    rw [hq] at k
    repeat infer_instance
    refine s_ite (fun h2 => ?_) (fun h2 => ?_)
    · repeat infer_instance
      have h2 : decide (x.length ≤ 20) = false := by
        have : ¬ ((x.length : Int) ≤ 20) := by simpa using h2
        exact decide_eq_false (by omega)
      rw [h2, Bool.and_false] at k
      exact fin0 k
    · have h2 : decide (x.length ≤ 20) = true := by
        have : (x.length : Int) ≤ 20 := by simpa using h2
        exact decide_eq_true (by omega)
      rw [h2, Bool.and_true] at k
      repeat infer_instance
      refine s_ixS hz (c := c) (by rw [hcr]; simp [atI, ixN]) ?_
      repeat infer_instance
      refine s_inC (k := !isL c) rfl rfl ?_
      refine s_exbl ?_
      refine s_ite (fun h3 => ?_) (fun h3 => ?_)
      · have h3 : isL c = false := by simpa using h3
        rw [h3] at k
        repeat infer_instance
        exact fin0 k
      · have h3 : isL c = true := by simpa using h3
        rw [h3, Bool.true_and] at k
        repeat infer_instance
        refine s_wAnyS rfl ?_
        refine s_exany (fun i => match x.cps.toList[i]? with | some c => isW c | none => true) trivial (fun i y hy R h => ?_) (fun ⟨i, hi, hc⟩ => ?_) (fun hc => ?_)
        · obtain ⟨c, hc, rfl⟩ := sign_in hy
          rw [hc] at h
          repeat infer_instance
          exact s_inC (k := isW c) rfl rfl h
        · rw [not_signs hc] at k
          exact fin0 k
        · rw [all_signs hc] at k
          exact fin0 k
  · have h1 := of_decide_eq_false h1
    have hq : wordB x = false := by
      have : x.cps.toList = [] := List.eq_nil_of_length_eq_zero (by rw [← len_cs]; omega)
      unfold wordB
      rw [this]
      rfl
    rw [hq] at k
    repeat infer_instance
    exact fin0 k

theorem mem_sum {ys : List Str} {y : Str} (h : y ∈ ys) : y.length ≤ (ys.map (·.length)).sum := by
  induction ys with
  | nil => cases h
  | cons a ys ih =>
    rw [List.map_cons, List.sum_cons]
    rcases List.mem_cons.mp h with rfl | h
    · omega
    · have := ih h
      omega
theorem split_bound (x : Str) (c : Nat) : ((Txt.split x (S [c])).map (·.length)).sum + (Txt.split x (S [c])).length ≤ x.length + 1 := by
  unfold Txt.split
  split
  · simp
  · split
    · simp
    · have h1 := congrArg Str.length (StrLaws.glued_between_self x (S [c]) (x.length + 1))
      rw [size_glued] at h1
      have h2 := length_partsBetween x (PySem.Builtin.Str.occurrences x (S [c]) 0 x.length (x.length + 1)) (S [c]).length
      have h3 : (S [c]).length = 1 := rfl
      rw [h3] at h1 h2 ⊢
      omega
theorem lc_core {ι : Type} {lg : LG} {lt : LT} {te : LE} {vs : List Nat} {ρ : Rho} {M : Mem} {P : PD} {xs : List ι} {okM : Mem → Prop} (g : ι → D) (p : ι → Bool) (f : ι → D) (hok : okM M) (hl : xs.length ≤ sizeLine)
    (he : ∀ x ∈ xs, ∀ (RT : PD) (RF : Mem → Prop), (p x = true → RT (.dat (f x)) M) → (p x = false → RF M) → lg (.dat (g x)) (wipeL ρ vs) M fun ρ2 M2 => lt ρ2 M2 (fun b M3 => if b = true then te ρ2 M3 RT noX else RF M3) noX)
    (h : P (.dat (.lst ((xs.filter p).map f))) M) :
    ∃ I : Nat → List D → Mem → Prop, I 0 [] M ∧ (∀ i acc M, I i acc M → okM M) ∧
      (∀ i x acc M', ((xs.map g).map DV.dat)[i]? = some x → I i acc M' → lg x (wipeL ρ vs) M' fun ρ2 M2 => lt ρ2 M2 (fun b M3 => if b = true then te ρ2 M3 (fun y M4 => acc.length < sizeLine ∧ ∃ d, y = .dat d ∧ DropM M.length (I (i + 1) (acc ++ [d])) M4) noX else DropM M.length (I (i + 1) acc) M3) noX) ∧
      ∀ acc M', I ((xs.map g).map DV.dat).length acc M' → P (.dat (.lst acc)) M' := by
  refine ⟨fun i acc M' => M' = M ∧ acc = ((xs.take i).filter p).map f, ⟨rfl, by simp⟩, fun i acc M' h => h.1 ▸ hok, ?_, ?_⟩
  · rintro i x acc M' hx ⟨rfl, rfl⟩
    obtain ⟨d, hd, rfl, _, _⟩ := map_at hx
    rw [List.getElem?_map] at hd
    cases hx2 : xs[i]? with
    | none => rw [hx2] at hd; cases hd
    | some y =>
      rw [hx2] at hd
      cases hd
      have hi : i < xs.length := (List.getElem?_eq_some_iff.mp hx2).1
      have e : ((xs.take (i + 1)).filter p).map f = ((xs.take i).filter p).map f ++ (if p y = true then [f y] else []) := by
        rw [take_snoc hx2, List.filter_append, List.map_append]
        congr 1
        cases hq : p y <;> simp [hq]
      refine he y (List.mem_of_getElem? hx2) _ _ (fun hp => ⟨?_, _, rfl, .inl ⟨rfl, by rw [e, if_pos hp]⟩⟩) (fun hp => .inl ⟨rfl, by rw [e, hp]; simp⟩)
      have h1 := List.length_filter_le p (xs.take i)
      have h2 : (xs.take i).length ≤ i := by rw [List.length_take]; omega
      rw [List.length_map]
      omega
  · rintro acc M' ⟨rfl, rfl⟩
    rw [List.length_map, List.length_map, List.take_length]
    exact h
theorem s_lcL {ι : Type} {lg : LG} {lt : LT} {te : LE} {vs : List Nat} {ρ : Rho} {M : Mem} {P : PD} {PX : PXn} {le : LE} (xs : List ι) (g : ι → D) (p : ι → Bool) (f : ι → D) (hl : xs.length ≤ sizeLine) (hs : ∀ R : PD, R (.dat (.lst (xs.map g))) M → le ρ M R PX)
    (he : ∀ x ∈ xs, ∀ (RT : PD) (RF : Mem → Prop), (p x = true → RT (.dat (f x)) M) → (p x = false → RF M) → lg (.dat (g x)) (wipeL ρ vs) M fun ρ2 M2 => lt ρ2 M2 (fun b M3 => if b = true then te ρ2 M3 RT noX else RF M3) noX)
    (h : P (.dat (.lst ((xs.filter p).map f))) M) : lLc (lwAny le) lg lt te vs ρ M P PX := hs _ (lc_core g p f trivial hl he h)
theorem s_lcT {ι : Type} {lg : LG} {lt : LT} {te : LE} {vs : List Nat} {ρ : Rho} {M : Mem} {P : PD} {PX : PXn} {le : LE} (xs : List ι) (g : ι → D) (p : ι → Bool) (f : ι → D) (hl : xs.length ≤ sizeLine) (hs : ∀ R : PD, R (.dat (.tup (xs.map g))) M → le ρ M R PX)
    (he : ∀ x ∈ xs, ∀ (RT : PD) (RF : Mem → Prop), (p x = true → RT (.dat (f x)) M) → (p x = false → RF M) → lg (.dat (g x)) (wipeL ρ vs) M fun ρ2 M2 => lt ρ2 M2 (fun b M3 => if b = true then te ρ2 M3 RT noX else RF M3) noX)
    (h : P (.dat (.lst ((xs.filter p).map f))) M) : lLc (lwAny le) lg lt te vs ρ M P PX := hs _ (lc_core g p f trivial hl he h)
theorem item_at {ι : Type} {xs : List ι} {g : ι → D} {i : Nat} {x : DV} (h : ((xs.map g).map DV.dat)[i]? = some x) : ∃ y, xs[i]? = some y ∧ x = .dat (g y) ∧ y ∈ xs := by
  obtain ⟨d, hd, rfl, _, _⟩ := map_at h
  rw [List.getElem?_map] at hd
  cases he : xs[i]? with
  | none => rw [he] at hd; cases hd
  | some e =>
    rw [he] at hd
    cases hd
    exact ⟨e, rfl, rfl, List.mem_of_getElem? he⟩
def lcAt (lg : LG) (lt : LT) (te : LE) (vs : List Nat) (ρ : Rho) (P : PD) (items : List DV) (okM : Mem → Prop) (M1 : Mem) : Prop := ∃ I : Nat → List D → Mem → Prop, I 0 [] M1 ∧ (∀ i acc M, I i acc M → okM M) ∧
  (∀ i x acc M, items[i]? = some x → I i acc M → lg x (wipeL ρ vs) M fun ρ2 M2 => lt ρ2 M2 (fun b M3 => if b = true then te ρ2 M3 (fun y M4 => acc.length < sizeLine ∧ ∃ d, y = .dat d ∧ DropM M1.length (I (i + 1) (acc ++ [d])) M4) noX else DropM M1.length (I (i + 1) acc) M3) noX) ∧
  ∀ acc M, I items.length acc M → P (.dat (.lst acc)) M
theorem s_lcU {lg : LG} {lt : LT} {te le : LE} {vs : List Nat} {ρ : Rho} {M : Mem} {P : PD} {PX : PXn} (h : le ρ M (fun x M1 => match x with
  | .dat (.lst ds) => lcAt lg lt te vs ρ P (ds.map DV.dat) (fun _ => True) M1
  | .dat (.tup ds) => lcAt lg lt te vs ρ P (ds.map DV.dat) (fun _ => True) M1
  | .dat (.str z) => lcAt lg lt te vs ρ P (signsD z) (fun _ => True) M1
  | .obj n => ∃ xs, M1[n]? = some (.lst xs) ∧ lcAt lg lt te vs ρ P xs (fun M => M[n]? = some (.lst xs)) M1
  | _ => False) PX) : lLc (lwAny le) lg lt te vs ρ M P PX := h
theorem lc_str {lg : LG} {lt : LT} {te : LE} {vs : List Nat} {ρ : Rho} {M : Mem} {P : PD} {okM : Mem → Prop} (x : Str) (p : Nat → Bool) (f : Nat → D) (hok : okM M) (hl : x.length ≤ sizeLine)
    (he : ∀ c ∈ x.cps.toList, ∀ (RT : PD) (RF : Mem → Prop), (p c = true → RT (.dat (f c)) M) → (p c = false → RF M) → lg (.dat (.str (S [c]))) (wipeL ρ vs) M fun ρ2 M2 => lt ρ2 M2 (fun b M3 => if b = true then te ρ2 M3 RT noX else RF M3) noX)
    (h : P (.dat (.lst ((x.cps.toList.filter p).map f))) M) : lcAt lg lt te vs ρ P (signsD x) okM M := by
  have e : signsD x = (x.cps.toList.map fun c => D.str (S [c])).map DV.dat := by
    unfold signsD
    rw [List.map_map]
    rfl
  rw [e]
  exact lc_core (fun c => D.str (S [c])) p f hok (by rw [← len_cs]; exact hl) he h
theorem s_lcS {lg : LG} {lt : LT} {te le : LE} {vs : List Nat} {ρ : Rho} {M : Mem} {P : PD} {PX : PXn} (x : Str) (p : Nat → Bool) (f : Nat → D) (hl : x.length ≤ sizeLine) (hs : ∀ R : PD, R (.dat (.str x)) M → le ρ M R PX)
    (he : ∀ c ∈ x.cps.toList, ∀ (RT : PD) (RF : Mem → Prop), (p c = true → RT (.dat (f c)) M) → (p c = false → RF M) → lg (.dat (.str (S [c]))) (wipeL ρ vs) M fun ρ2 M2 => lt ρ2 M2 (fun b M3 => if b = true then te ρ2 M3 RT noX else RF M3) noX)
    (h : P (.dat (.lst ((x.cps.toList.filter p).map f))) M) : lLc (lwAny le) lg lt te vs ρ M P PX := s_lcU (hs _ (lc_str x p f trivial hl he h))
theorem none_if {l : List Nat} {q : Nat → Bool} : decide ((((l.filter fun c => !q c).map fun _ => D.int 1).length : Int) = 0) = l.all q := by
  rw [List.length_map, Bool.eq_iff_iff, decide_eq_true_eq, List.all_eq_true]
  constructor
  · intro h c hc
    have h : (l.filter fun c => !q c).length = 0 := by omega
    have := List.eq_nil_of_length_eq_zero h
    cases hq : q c with
    | true => rfl
    | false =>
      have h2 : c ∈ l.filter fun c => !q c := List.mem_filter.mpr ⟨hc, by rw [hq]; rfl⟩
      rw [this] at h2
      cases h2
  · intro h
    have : l.filter (fun c => !q c) = [] := List.filter_eq_nil_iff.mpr fun c hc => by rw [h c hc]; decide
    rw [this]
    rfl
theorem emp_app (x : Str) : Str.empty ++ x = x := cs_inj (by rw [cs_app]; rfl)
theorem lenN (n : Int) (h0 : 0 ≤ n) (h1 : n < 100000) : ((toString n : Str)).length ≤ 10 := by
  have := PySem.W.KT.len_num h0 (show n < 10 ^ 10 by omega)
  exact this
theorem natLog {n : Int} (h0 : 0 ≤ n) (h1 : n < 100000) : n.natAbs.log2 < 1920 := by
  have h2 : n.natAbs < 2 ^ 17 := by omega
  by_cases h3 : n.natAbs = 0
  · rw [h3]; decide
  · have := (Nat.log2_lt h3).mpr h2
    omega
theorem add_sum {pre : Str} : ∀ (xs : List Str), ((xs.map fun a => pre ++ a).map (·.length)).sum = (xs.map (·.length)).sum + xs.length * pre.length
  | [] => by simp
  | x :: xs => by
    have := add_sum (pre := pre) xs
    simp only [List.map_cons, List.sum_cons, List.length_cons, app_len] at this ⊢
    rw [this, Nat.succ_mul]
    omega
theorem ends_sum : ∀ (xs : List Str), ((xs.map fun a => a ++ ("\n" : Str)).map (·.length)).sum = (xs.map (·.length)).sum + xs.length
  | [] => by simp
  | x :: xs => by
    have := ends_sum xs
    simp only [List.map_cons, List.sum_cons, List.length_cons, app_len] at this ⊢
    rw [this, show ("\n" : Str).length = 1 by decide +kernel]
    omega
theorem num_sum : ∀ (ns : List Int), (∀ n ∈ ns, 0 ≤ n ∧ n < 100000) → ((ns.map fun n => ("in " : Str) ++ (toString n : Str)).map (·.length)).sum ≤ ns.length * 13
  | [], _ => by simp
  | n :: ns, h => by
    have ih := num_sum ns fun m hm => h m (List.mem_cons_of_mem _ hm)
    have h1 := lenN n (h n List.mem_cons_self).1 (h n List.mem_cons_self).2
    simp only [List.map_cons, List.sum_cons, List.length_cons, app_len] at ih ⊢
    have : ("in " : Str).length = 3 := by decide +kernel
    rw [this, Nat.succ_mul]
    omega
theorem rows_bound {w : Str} {as : List Str} {ns : List Int} (h : KeyB w as ns) : ((rowsF w as ns).map (·.length)).sum + (rowsF w as ns).length ≤ 600000 := by
  have h1 := h.w
  have h2 := h.al
  have h3 := h.a
  have h4 := h.nl
  have h5 := num_sum ns h.n
  have h6 := add_sum (pre := "arg ") as
  have : ("arg " : Str).length = 4 := by decide +kernel
  rw [this] at h6
  unfold rowsF
  rw [List.map_cons, List.sum_cons, List.map_append, List.sum_append, h6, List.length_cons, List.length_append, List.length_map, List.length_map]
  omega
theorem len_keyT {ds : List DV} {M : Mem} {P : PD} {PX : PXn} (h : keyT ds M P PX) : ds.length = 1 := by
  obtain ⟨as, d, rfl, _, ⟨w, bs, ns, _, rfl, _⟩, _⟩ := h
  rfl
theorem len_key_text {A : Adr} {ds : List DV} {M : Mem} {P : PD} {PX : PXn} (h : sp_key_text A ds M P PX) : ds.length = (["key"] : List Str).length := len_keyT h
theorem all_true {α : Type} (xs : List α) : xs.filter (fun _ => true) = xs := List.filter_eq_self.mpr fun _ _ => rfl
theorem rows_strs (w : Str) (as : List Str) (ns : List Int) : ([D.str w] ++ as.map (fun a => D.str (("arg " : Str) ++ a))) ++ ns.map (fun n => D.str (("in " : Str) ++ (toString n : Str))) = (rowsF w as ns).map D.str := by
  unfold rowsF
  rw [List.map_cons, List.map_append, List.map_map, List.map_map]
  rfl
theorem b_key_text {A : Adr} {ds : List DV} {M : Mem} {P : PD} {PX : PXn} (h : sp_key_text A ds M P PX) : l_key_text A { nx := fun _ M' => DropD M.length P .non M', rt := DropD M.length P } (startL N_key_text ds) M := by
  obtain ⟨as, d, rfl, rfl, ⟨w, bs, ns, hb, rfl, rfl⟩, k⟩ := h
  show l_key_text A _ [some (.dat (.tup [.str w, .tup (bs.map D.str), .tup (ns.map D.int)])), none, none, none, none, none, none, none] _
  have hrb := rows_bound hb
  have hal := hb.al
  have hnl := hb.nl
  have hsum := hb.a
  unfold l_key_text
  repeat infer_instance
  refine s_lcT bs D.str (fun _ => true) (fun a => .str (("arg " : Str) ++ a)) (by show _ ≤ 2 ^ 24; omega) (fun R hR => ?_) (fun y hy RT RF h1 h2 => ?_) ?_
  · repeat infer_instance
    exact hR
  · have : y.length ≤ (bs.map (·.length)).sum := mem_sum hy
    repeat infer_instance
    refine ⟨_, rfl, by rw [emp_app]; show 4 ≤ 2 ^ 24; omega, ?_⟩
    rw [emp_app]
    repeat infer_instance
    refine .inl ⟨_, rfl, by show _ ≤ 2 ^ 24; omega, _, rfl, by rw [app_len]; show 4 + _ ≤ 2 ^ 24; omega, ?_⟩
    repeat infer_instance
    exact h1 rfl
  rw [all_true]
  repeat infer_instance
  refine s_addL (by rw [List.length_map]; show 1 + _ ≤ 2 ^ 24; omega) ?_
  refine s_lcT ns D.int (fun _ => true) (fun n => .str (("in " : Str) ++ (toString n : Str))) (by show _ ≤ 2 ^ 24; omega) (fun R hR => ?_) (fun n hn RT RF h1 h2 => ?_) ?_
  · repeat infer_instance
    exact hR
  · obtain ⟨n0, n1⟩ := hb.n n hn
    have := lenN n n0 n1
    repeat infer_instance
    refine ⟨_, rfl, by rw [emp_app]; show 3 ≤ 2 ^ 24; omega, ?_⟩
    rw [emp_app]
    repeat infer_instance
    refine .inr ⟨n, rfl, natLog n0 n1, _, rfl, by rw [app_len]; show 3 + _ ≤ 2 ^ 24; omega, ?_⟩
    repeat infer_instance
    exact h1 rfl
  rw [all_true]
  refine s_addL (by rw [List.length_append, List.length_map, List.length_map]; show 1 + _ + _ ≤ 2 ^ 24; omega) ?_
  rw [rows_strs]
  repeat infer_instance
  have hyl : ∀ y ∈ rowsF w bs ns, y.length ≤ 600000 := fun y hy => by
    have : y.length ≤ ((rowsF w bs ns).map (·.length)).sum := mem_sum hy
    omega
  refine s_lcL (rowsF w bs ns) D.str (fun _ => true) (fun y => .str (y ++ ("\n" : Str))) (by show _ ≤ 2 ^ 24; omega) (fun R hR => ?_) (fun y hy RT RF h1 h2 => ?_) ?_
  · repeat infer_instance
    exact hR
  · have := hyl y hy
    repeat infer_instance
    refine s_addS (by show _ + 1 ≤ 2 ^ 24; omega) ?_
    exact h1 rfl
  rw [all_true, show (rowsF w bs ns).map (fun y => D.str (y ++ ("\n" : Str))) = ((rowsF w bs ns).map fun y => y ++ ("\n" : Str)).map D.str by rw [List.map_map]; rfl]
  repeat infer_instance
  refine s_joinL (by rw [ends_sum]; show _ + _ * 0 ≤ _; omega) ?_
  exact fin0 k

/-! numbers as texts -/
theorem dig_char : ∀ d, d < 10 → (Nat.digitChar d).toNat = d + 48 := by decide
def codeN (m : Nat) : List Nat := (Nat.toDigits 10 m).map Char.toNat
theorem codeN_small {m : Nat} (h : m < 10) : codeN m = [m + 48] := by
  unfold codeN
  rw [Nat.toDigits_of_lt_base h, List.map_singleton, dig_char m h]
theorem codeN_big {m : Nat} (h : 10 ≤ m) : codeN m = codeN (m / 10) ++ [m % 10 + 48] := by
  unfold codeN
  rw [Nat.toDigits_of_base_le (by decide) h, List.map_append, List.map_singleton, dig_char _ (by omega)]
theorem codeN_ok : ∀ (k m : Nat), m ≤ k → 0 < m → (∀ c ∈ codeN m, 48 ≤ c ∧ c ≤ 57) ∧ ∃ c r, codeN m = c :: r ∧ c ≠ 48
  | 0, m, h, h0 => by omega
  | k + 1, m, h, h0 => by
    by_cases hm : m < 10
    · rw [codeN_small hm]
      exact ⟨fun c hc => by rw [List.mem_singleton.mp hc]; omega, m + 48, [], rfl, by omega⟩
    · obtain ⟨h1, c, r, h2, h3⟩ := codeN_ok k (m / 10) (by omega) (by omega)
      rw [codeN_big (by omega), h2]
      rw [h2] at h1
      refine ⟨fun d hd => ?_, c, r ++ [m % 10 + 48], rfl, h3⟩
      rcases List.mem_append.mp hd with hd | hd
      · exact h1 d hd
      · rw [List.mem_singleton.mp hd]; omega
theorem val_snoc (cs : List Nat) (c : Nat) : NumText.digitsVal (cs ++ [c]) = NumText.digitsVal cs * 10 + (c - 48) := by
  unfold NumText.digitsVal
  rw [List.foldl_append]
  rfl
theorem code_val : ∀ (k : Nat) (cs : List Nat), cs.length ≤ k → (∀ c ∈ cs, 48 ≤ c ∧ c ≤ 57) → (∃ c r, cs = c :: r ∧ c ≠ 48) → 0 < NumText.digitsVal cs ∧ codeN (NumText.digitsVal cs) = cs
  | 0, cs, h, _, ⟨c, r, e, _⟩ => by rw [e] at h; simp at h
  | k + 1, cs, h, hd, ⟨c, r, e, hc⟩ => by
    rcases List.eq_nil_or_concat cs with z | ⟨ds, d, z⟩
    · rw [z] at e; cases e
    · have z : cs = ds ++ [d] := by rw [z, List.concat_eq_append]
      subst z
      have hdd := hd d (by simp)
      cases ds with
      | nil =>
        simp at e
        obtain ⟨rfl, _⟩ := e
        have : NumText.digitsVal ([] ++ [d]) = d - 48 := by rw [val_snoc]; simp [NumText.digitsVal]
        rw [this]
        refine ⟨by omega, ?_⟩
        rw [codeN_small (by omega)]
        show [d - 48 + 48] = [d]
        rw [Nat.sub_add_cancel hdd.1]
      | cons a as =>
        have ea : a = c := by
          have := congrArg List.head? e
          simpa using this
        obtain ⟨h1, h2⟩ := code_val k (a :: as) (by simp at h ⊢; omega) (fun c hc => hd c (List.mem_append_left _ hc)) ⟨a, as, rfl, ea ▸ hc⟩
        rw [val_snoc]
        refine ⟨by omega, ?_⟩
        rw [codeN_big (by omega), show (NumText.digitsVal (a :: as) * 10 + (d - 48)) / 10 = NumText.digitsVal (a :: as) by omega, h2, show (NumText.digitsVal (a :: as) * 10 + (d - 48)) % 10 = d - 48 by omega, Nat.sub_add_cancel hdd.1]
theorem str_num (m : Nat) : ((toString ((m : Nat) : Int) : Str)).cps.toList = codeN m := PySem.W.KIN.signs_num m
theorem dig_iff : ∀ c, c < 128 → (isD c = true ↔ 48 ≤ c ∧ c ≤ 57) := by decide +kernel
theorem isD_iff {c : Nat} : isD c = true ↔ 48 ≤ c ∧ c ≤ 57 := by
  by_cases h : c < 128
  · exact dig_iff c h
  · constructor
    · intro hd
      have hd := of_decide_eq_true hd
      have : ∀ c ∈ DIG.cps.toList, c < 128 := by decide +kernel
      exact absurd (this c hd) h
    · intro hd; omega
theorem numB_iff {y : Str} : numB y = true ↔ (∃ c r, y.cps.toList = c :: r ∧ c ≠ 48) ∧ (∀ c ∈ y.cps.toList, 48 ≤ c ∧ c ≤ 57) ∧ y.length ≤ 5 := by
  unfold numB
  rw [Bool.and_eq_true, Bool.and_eq_true, decide_eq_true_eq, List.all_eq_true]
  constructor
  · rintro ⟨⟨h1, h2⟩, h3⟩
    refine ⟨?_, fun c hc => isD_iff.mp (h2 c hc), h3⟩
    cases e : y.cps.toList with
    | nil => rw [e] at h1; cases h1
    | cons c r => rw [e] at h1; exact ⟨c, r, rfl, of_decide_eq_true h1⟩
  · rintro ⟨⟨c, r, e, hc⟩, h2, h3⟩
    exact ⟨⟨by rw [e]; exact decide_eq_true hc, fun c hc => isD_iff.mpr (h2 c hc)⟩, h3⟩
theorem num_text {y : Str} (h : numB y = true) : PySem.intText? y = some ((NumText.digitsVal y.cps.toList : Nat) : Int) := by
  obtain ⟨⟨c, r, e, _⟩, h2, h3⟩ := numB_iff.mp h
  exact PySem.intText_digits h2 (by rw [e]; simp) (by omega)
theorem num_back {y : Str} (h : numB y = true) : (toString (intV y) : Str) = y := by
  obtain ⟨h1, h2, h3⟩ := numB_iff.mp h
  unfold intV
  rw [num_text h]
  refine cs_inj ?_
  show ((toString ((NumText.digitsVal y.cps.toList : Nat) : Int) : Str)).cps.toList = _
  rw [str_num, (code_val _ _ (Nat.le_refl _) h2 h1).2]
theorem codeN_len {m : Nat} (h : m < 100000) : (codeN m).length ≤ 5 := by
  unfold codeN
  rw [List.length_map]
  exact (Nat.length_toDigits_le_iff (by decide) (by decide)).mpr h
theorem codeN_lt : ∀ {m : Nat}, (codeN m).length ≤ 5 → m < 100000 := fun {m} h => by
  unfold codeN at h
  rw [List.length_map] at h
  exact (Nat.length_toDigits_le_iff (b := 10) (k := 5) (by decide) (by decide)).mp h
theorem num_rng {y : Str} (h : numB y = true) : 0 ≤ intV y ∧ intV y < 100000 := by
  obtain ⟨h1, h2, h3⟩ := numB_iff.mp h
  unfold intV
  rw [num_text h]
  show (0 : Int) ≤ ((NumText.digitsVal y.cps.toList : Nat) : Int) ∧ ((NumText.digitsVal y.cps.toList : Nat) : Int) < 100000
  have := codeN_lt (m := NumText.digitsVal y.cps.toList) (by rw [(code_val _ _ (Nat.le_refl _) h2 h1).2, ← len_cs]; exact h3)
  omega
theorem num_of {n : Int} (h0 : 1 ≤ n) (h1 : n < 100000) : numB (toString n : Str) = true ∧ intV (toString n : Str) = n := by
  constructor
  · obtain ⟨m, rfl⟩ := Int.eq_ofNat_of_zero_le (show 0 ≤ n by omega)
    obtain ⟨h2, c, r, h3, h4⟩ := codeN_ok m m (Nat.le_refl _) (by omega)
    refine numB_iff.mpr ⟨⟨c, r, by rw [str_num, h3], h4⟩, by rw [str_num]; exact h2, by rw [len_cs, str_num]; exact codeN_len (by omega)⟩
  · unfold intV
    rw [show PySem.intText? (toString n : Str) = some n from PySem.W.KIN.num_reads (by omega) (by omega)]
    rfl
/-! lines -/
theorem nl_cs : ("\n" : Str).cps.toList = [10] := by decide +kernel
theorem nl_S : ("\n" : Str) = S [10] := by decide +kernel
def freeL (ys : List Str) : Prop := ∀ y ∈ ys, 10 ∉ y.cps.toList
theorem lines_free (x : Str) : freeL (linesF x) := fun y hy => StrLaws.split_free x 10 y hy
theorem lines_join (x : Str) : Str.join ("\n" : Str) (linesF x) = x := StrLaws.join_split x _
theorem join_cons (y z : Str) (r : List Str) : Str.join ("\n" : Str) (y :: z :: r) = y ++ ("\n" : Str) ++ Str.join ("\n" : Str) (z :: r) := rfl
theorem join_inj : ∀ {ys zs : List Str}, freeL ys → freeL zs → ys ≠ [] → zs ≠ [] → Str.join ("\n" : Str) ys = Str.join ("\n" : Str) zs → ys = zs
  | [], _, _, _, h, _, _ => absurd rfl h
  | _, [], _, _, _, h, _ => absurd rfl h
  | [y], [z], _, _, _, _, e => by rw [show y = z from e]
  | [y], z :: z2 :: zs, hy, _, _, _, e => by
    exfalso
    rw [join_cons] at e
    refine hy y List.mem_cons_self ?_
    have e : y = z ++ ("\n" : Str) ++ Str.join ("\n" : Str) (z2 :: zs) := e
    rw [e, cs_app, cs_app, nl_cs]
    simp
  | y :: y2 :: ys, [z], _, hz, _, _, e => by
    exfalso
    rw [join_cons] at e
    refine hz z List.mem_cons_self ?_
    have e : z = y ++ ("\n" : Str) ++ Str.join ("\n" : Str) (y2 :: ys) := e.symm
    rw [e, cs_app, cs_app, nl_cs]
    simp
  | y :: y2 :: ys, z :: z2 :: zs, hy, hz, _, _, e => by
    rw [join_cons, join_cons] at e
    have e1 := congrArg (fun x : Str => x.cps.toList) e
    simp only [cs_app, nl_cs, List.append_assoc, List.singleton_append] at e1
    have key : ∀ (a b p q : List Nat), 10 ∉ a → 10 ∉ b → a ++ 10 :: p = b ++ 10 :: q → a = b ∧ p = q := by
      intro a
      induction a with
      | nil =>
        intro b p q _ hb h
        cases b with
        | nil => simp at h; exact ⟨rfl, h⟩
        | cons c b => simp at h; exact absurd (by rw [← h.1]; simp) hb
      | cons c a ih =>
        intro b p q ha hb h
        cases b with
        | nil => simp at h; exact absurd (by rw [h.1]; simp) ha
        | cons d b =>
          simp at h
          obtain ⟨h1, h2⟩ := ih b p q (fun z => ha (List.mem_cons_of_mem _ z)) (fun z => hb (List.mem_cons_of_mem _ z)) h.2
          exact ⟨by rw [h.1, h1], h2⟩
    obtain ⟨h1, h2⟩ := key _ _ _ _ (hy y List.mem_cons_self) (hz z List.mem_cons_self) e1
    have ih := join_inj (ys := y2 :: ys) (zs := z2 :: zs) (fun x hx => hy x (List.mem_cons_of_mem _ hx)) (fun x hx => hz x (List.mem_cons_of_mem _ hx)) (by simp) (by simp) (cs_inj h2)
    rw [cs_inj h1, ih]
theorem lines_ne (x : Str) : linesF x ≠ [] := by
  intro h
  unfold linesF Txt.split at h
  split at h
  · cases h
  · split at h
    · cases h
    · have := congrArg List.length h
      rw [length_partsBetween] at this
      simp at this
theorem lines_of {ys : List Str} (hf : freeL ys) (hn : ys ≠ []) : linesF (Str.join ("\n" : Str) ys) = ys := join_inj (lines_free _) hf (lines_ne _) hn (lines_join _)
theorem end_join (ys : List Str) : endF ys = Str.join ("\n" : Str) (ys ++ [("" : Str)]) := by
    unfold endF
    show PySem.Builtin.Str.glued ("" : Str) _ = _
    rw [StrLaws.glued_eq_join]
    induction ys with
    | nil => rfl
    | cons y ys ih =>
      have e2 : Str.join ("\n" : Str) (y :: ys ++ [("" : Str)]) = y ++ ("\n" : Str) ++ Str.join ("\n" : Str) (ys ++ [("" : Str)]) := by
        cases ys <;> rfl
      rw [e2, ← ih]
      cases ys with
      | nil =>
        show y ++ ("\n" : Str) = y ++ ("\n" : Str) ++ Str.join ("" : Str) []
        refine cs_inj ?_
        rw [cs_app (y ++ ("\n" : Str))]
        show _ = _ ++ []
        rw [List.append_nil]
      | cons z zs =>
        show y ++ ("\n" : Str) ++ ("" : Str) ++ Str.join ("" : Str) ((z :: zs).map fun y => y ++ ("\n" : Str)) = _
        have : y ++ ("\n" : Str) ++ ("" : Str) = y ++ ("\n" : Str) := cs_inj (by rw [cs_app]; show _ ++ [] = _; rw [List.append_nil])
        rw [this]
theorem free_emp : 10 ∉ ("" : Str).cps.toList := by decide +kernel
theorem free_snoc {ys : List Str} (h : freeL ys) : freeL (ys ++ [("" : Str)]) := fun y hy => by
  rcases List.mem_append.mp hy with hy | hy
  · exact h y hy
  · rw [List.mem_singleton.mp hy]; exact free_emp
theorem lines_end {ys : List Str} (h : freeL ys) : linesF (endF ys) = ys ++ [("" : Str)] := by
  rw [end_join]
  exact lines_of (free_snoc h) (by simp)

/-! what a key's text says -/
theorem argB_iff {l : Str} : argB l = true ↔ l.cps.toList.take 4 = [97, 114, 103, 32] := by
  unfold argB
  rw [starts_eq, decide_eq_true_eq, show ("arg " : Str).cps.toList = [97, 114, 103, 32] by decide +kernel]
  rfl
theorem inB_iff {l : Str} : inB l = true ↔ l.cps.toList.take 3 = [105, 110, 32] := by
  unfold inB
  rw [starts_eq, decide_eq_true_eq, show ("in " : Str).cps.toList = [105, 110, 32] by decide +kernel]
  rfl
theorem arg_in {l : Str} (h : argB l = true) : inB l = false := by
  cases e : inB l with
  | false => rfl
  | true =>
    exfalso
    have h1 := argB_iff.mp h
    have h2 := inB_iff.mp e
    cases hl : l.cps.toList with
    | nil => rw [hl] at h1; simp at h1
    | cons c r => rw [hl] at h1 h2; simp at h1 h2; omega
theorem arg_cs : ("arg " : Str).cps.toList = [97, 114, 103, 32] := by decide +kernel
theorem in_cs : ("in " : Str).cps.toList = [105, 110, 32] := by decide +kernel
theorem arg_back {l : Str} (h : argB l = true) : ("arg " : Str) ++ dr 4 l = l := cs_inj (by
  rw [cs_app, arg_cs, ← argB_iff.mp h]
  unfold dr
  rw [cs_S, List.take_append_drop])
theorem in_back {l : Str} (h : inB l = true) : ("in " : Str) ++ dr 3 l = l := cs_inj (by
  rw [cs_app, in_cs, ← inB_iff.mp h]
  unfold dr
  rw [cs_S, List.take_append_drop])
theorem arg_of (a : Str) : argB (("arg " : Str) ++ a) = true ∧ dr 4 (("arg " : Str) ++ a) = a := by
  constructor
  · rw [argB_iff, cs_app, arg_cs]; rfl
  · unfold dr
    rw [cs_app, arg_cs]
    exact S_cs a
theorem in_of (a : Str) : inB (("in " : Str) ++ a) = true ∧ dr 3 (("in " : Str) ++ a) = a := by
  constructor
  · rw [inB_iff, cs_app, in_cs]; rfl
  · unfold dr
    rw [cs_app, in_cs]
    exact S_cs a
def numL (l : Str) : Bool := inB l && numB (dr 3 l)
theorem scan_in {N : List Str} (hN : ∀ l ∈ N, numL l = true) : ∀ (as : List Str) (ns : List Int), scanF N as ns = some (as, ns ++ N.map fun l => intV (dr 3 l)) := by
  induction N with
  | nil => intro as ns; simp [scanF]
  | cons l N ih =>
    intro as ns
    have hl := hN l List.mem_cons_self
    have hi : inB l = true := by unfold numL at hl; rw [Bool.and_eq_true] at hl; exact hl.1
    have ha : argB l = false := by
      cases e : argB l with
      | false => rfl
      | true => rw [arg_in e] at hi; cases hi
    unfold scanF
    rw [ha, Bool.false_and, if_neg (by decide), if_pos (show (inB l && numB (dr 3 l)) = true from hl), ih fun x hx => hN x (List.mem_cons_of_mem _ hx)]
    simp
theorem scan_of {A N : List Str} (hA : ∀ l ∈ A, argB l = true) (hN : ∀ l ∈ N, numL l = true) : ∀ as : List Str, scanF (A ++ N) as [] = some (as ++ A.map (dr 4), N.map fun l => intV (dr 3 l)) := by
  induction A with
  | nil => intro as; rw [List.nil_append, scan_in hN]; simp
  | cons l A ih =>
    intro as
    show scanF (l :: (A ++ N)) as [] = _
    unfold scanF
    rw [if_pos (by rw [hA l List.mem_cons_self]; rfl), ih fun x hx => hA x (List.mem_cons_of_mem _ hx)]
    simp
theorem scan_conv : ∀ (L as : List Str) (ns : List Int) (bs : List Str) (ms : List Int), scanF L as ns = some (bs, ms) → ∃ A N, L = A ++ N ∧ (∀ l ∈ A, argB l = true) ∧ (A ≠ [] → ns = []) ∧ (∀ l ∈ N, numL l = true)
  | [], as, ns, bs, ms, _ => ⟨[], [], rfl, by simp, by simp, by simp⟩
  | l :: L, as, ns, bs, ms, h => by
    unfold scanF at h
    by_cases h1 : (argB l && ns.isEmpty) = true
    · rw [if_pos h1] at h
      rw [Bool.and_eq_true] at h1
      obtain ⟨A, N, e, hA, _, hN⟩ := scan_conv L _ ns bs ms h
      refine ⟨l :: A, N, by rw [e]; rfl, fun x hx => ?_, fun _ => List.isEmpty_iff.mp h1.2, hN⟩
      rcases List.mem_cons.mp hx with rfl | hx
      · exact h1.1
      · exact hA x hx
    · rw [if_neg h1] at h
      by_cases h2 : numL l = true
      · rw [if_pos (show (inB l && numB (dr 3 l)) = true from h2)] at h
        obtain ⟨A, N, e, hA, hn, hN⟩ := scan_conv L as _ bs ms h
        cases A with
        | cons a A => exact absurd (hn (by simp)) (by simp)
        | nil =>
          refine ⟨[], l :: N, by rw [e]; rfl, by simp, by simp, fun x hx => ?_⟩
          rcases List.mem_cons.mp hx with rfl | hx
          · exact h2
          · exact hN x hx
      · rw [if_neg (show ¬ (inB l && numB (dr 3 l)) = true from h2)] at h
        cases h
/-- the law's reading -/
def lawF (x : Str) : Option (Str × List Str × List Int) :=
  if (linesF x).length < 2 ∨ (linesF x).getLast? ≠ some ("" : Str) then none else
    let A := (midF (linesF x)).filter argB
    let N := (midF (linesF x)).filter inB
    let w := (linesF x).headD ""
    if N.any (fun l => !numB (dr 3 l)) = true ∨ 12 < A.length ∨ 24 < N.length then none
    else if A.any (fun l => decide (60 < (dr 4 l).length)) = true then none
    else if wordB w = false then none
    else if endF (rowsF w (A.map (dr 4)) (N.map fun l => intV (dr 3 l))) ≠ x then none
    else some (w, A.map (dr 4), N.map fun l => intV (dr 3 l))
theorem mid_eq (w : Str) (mid : List Str) : midF (w :: (mid ++ [("" : Str)])) = mid := by
  unfold midF
  simp
theorem mid_parts {x : Str} (h : ¬ ((linesF x).length < 2 ∨ (linesF x).getLast? ≠ some ("" : Str))) : ∃ w mid, linesF x = w :: (mid ++ [("" : Str)]) ∧ midF (linesF x) = mid := by
  rw [not_or, Decidable.not_not] at h
  obtain ⟨ys, e⟩ := List.getLast?_eq_some_iff.mp h.2
  cases ys with
  | nil => rw [e] at h; simp at h
  | cons w mid =>
    refine ⟨w, mid, e, ?_⟩
    unfold midF
    rw [e]
    simp
theorem filt_A {A N : List Str} (hA : ∀ l ∈ A, argB l = true) (hN : ∀ l ∈ N, inB l = true) : (A ++ N).filter argB = A ∧ (A ++ N).filter inB = N := by
  have h1 : N.filter argB = [] := List.filter_eq_nil_iff.mpr fun l hl e => by
    have := arg_in e
    rw [hN l hl] at this
    cases this
  have h2 : A.filter inB = [] := List.filter_eq_nil_iff.mpr fun l hl e => by
    rw [arg_in (hA l hl)] at e
    cases e
  rw [List.filter_append, List.filter_append, h1, h2, List.append_nil, List.nil_append]
  exact ⟨List.filter_eq_self.mpr hA, List.filter_eq_self.mpr hN⟩
theorem rows_back {w : Str} {A N : List Str} (hA : ∀ l ∈ A, argB l = true) (hN : ∀ l ∈ N, numL l = true) : rowsF w (A.map (dr 4)) (N.map fun l => intV (dr 3 l)) = w :: (A ++ N) := by
  unfold rowsF
  rw [List.map_map, List.map_map]
  congr 1
  congr 1
  · conv => rhs; rw [← List.map_id A]
    exact List.map_congr_left fun l hl => arg_back (hA l hl)
  · conv => rhs; rw [← List.map_id N]
    refine List.map_congr_left fun l hl => ?_
    have h := hN l hl
    unfold numL at h
    rw [Bool.and_eq_true] at h
    show ("in " : Str) ++ (toString (intV (dr 3 l)) : Str) = l
    rw [num_back h.2]
    exact in_back h.1
theorem free_word {x w : Str} {r : List Str} (h : linesF x = w :: r) : freeL (w :: r) := h ▸ lines_free x
theorem law_read (x : Str) : lawF x = readF x := by
  unfold lawF readF
  by_cases h0 : (linesF x).length < 2 ∨ (linesF x).getLast? ≠ some ("" : Str)
  · rw [if_pos h0, if_pos h0]
  rw [if_neg h0, if_neg h0]
  obtain ⟨w, mid, e, em⟩ := mid_parts h0
  have hw : (linesF x).headD ("" : Str) = w := by rw [e]; rfl
  have hx : x = endF (w :: mid) := by
    rw [end_join, List.cons_append, ← e, lines_join]
  have hfree : freeL (w :: mid) := fun y hy => by
    have := free_word e y
    exact this (by rw [← List.cons_append]; exact List.mem_append_left _ hy)
  rw [em, hw]
  dsimp only
  cases hs : scanF mid [] [] with
  | some p =>
    obtain ⟨bs, ms⟩ := p
    obtain ⟨A, N, eAN, hA, _, hN⟩ := scan_conv mid [] [] bs ms hs
    have hNi : ∀ l ∈ N, inB l = true := fun l hl => by have := hN l hl; unfold numL at this; rw [Bool.and_eq_true] at this; exact this.1
    have hs2 := scan_of hA hN []
    rw [← eAN, hs, List.nil_append] at hs2
    obtain ⟨rfl, rfl⟩ : bs = A.map (dr 4) ∧ ms = N.map (fun l => intV (dr 3 l)) := by simpa using hs2
    obtain ⟨f1, f2⟩ := filt_A hA hNi
    rw [eAN, f1, f2, rows_back hA hN, ← eAN, ← hx]
    have hany : N.any (fun l => !numB (dr 3 l)) = false := by
      rw [List.any_eq_false]
      intro l hl
      have := hN l hl
      unfold numL at this
      rw [Bool.and_eq_true] at this
      rw [this.2]
      decide
    rw [hany]
    dsimp only
    rw [List.length_map, List.length_map]
    by_cases c1 : A.length ≤ 12
    · by_cases c2 : N.length ≤ 24
      · rw [if_neg (by rintro (z | z | z); cases z; omega; omega), decide_eq_true c1, decide_eq_true c2, Bool.true_and, Bool.true_and]
        have hal : (A.map (dr 4)).all (fun a => decide (a.length ≤ 60)) = !A.any (fun l => decide (60 < (dr 4 l).length)) := by
          rw [List.all_map, Bool.eq_iff_iff, List.all_eq_true, Bool.not_eq_true', List.any_eq_false]
          exact ⟨fun h l hl z => by have := of_decide_eq_true (h l hl); have := of_decide_eq_true z; omega, fun h l hl => decide_eq_true (by have h2 := h l hl; rw [decide_eq_true_eq] at h2; show (dr 4 l).length ≤ 60; omega)⟩
        rw [hal]
        by_cases c3 : A.any (fun l => decide (60 < (dr 4 l).length)) = true
        · rw [if_pos c3, c3]; simp
        · rw [if_neg c3]
          have c3 : A.any (fun l => decide (60 < (dr 4 l).length)) = false := by simpa using c3
          rw [c3]
          cases hwb : wordB w <;> simp
      · rw [if_pos (by omega), decide_eq_false c2]
        simp
    · rw [if_pos (by omega), decide_eq_false c1]
      simp
  | none =>
    dsimp only
    by_cases c1 : (mid.filter inB).any (fun l => !numB (dr 3 l)) = true ∨ 12 < (mid.filter argB).length ∨ 24 < (mid.filter inB).length
    · rw [if_pos c1]
    rw [if_neg c1]
    by_cases c2 : (mid.filter argB).any (fun l => decide (60 < (dr 4 l).length)) = true
    · rw [if_pos c2]
    rw [if_neg c2]
    by_cases c3 : wordB w = false
    · rw [if_pos c3]
    rw [if_neg c3, if_pos]
    intro ex
    have hA : ∀ l ∈ mid.filter argB, argB l = true := fun l hl => (List.mem_filter.mp hl).2
    have hN : ∀ l ∈ mid.filter inB, numL l = true := fun l hl => by
      have h1 := (List.mem_filter.mp hl).2
      have h2 : ¬ (mid.filter inB).any (fun l => !numB (dr 3 l)) = true := fun z => c1 (.inl z)
      rw [Bool.not_eq_true, List.any_eq_false] at h2
      have h3 := h2 l hl
      unfold numL
      rw [h1]
      simpa using h3
    rw [rows_back hA hN, hx] at ex
    have hf2 : freeL (w :: (mid.filter argB ++ mid.filter inB)) := fun y hy => by
      rcases List.mem_cons.mp hy with rfl | hy
      · exact hfree y List.mem_cons_self
      · refine hfree y (List.mem_cons_of_mem _ ?_)
        exact (List.mem_append.mp hy).elim (fun h => (List.mem_filter.mp h).1) fun h => (List.mem_filter.mp h).1
    have e3 := lines_end hf2
    rw [ex, lines_end hfree] at e3
    have e4 : mid = mid.filter argB ++ mid.filter inB := by
      have := List.append_cancel_right e3
      simpa using this
    have := scan_of hA hN []
    rw [← e4, hs] at this
    cases this
theorem wordOk_B {w : Str} (h : wordOk w) : wordB w = true := by
  obtain ⟨⟨c, r, e, hc⟩, h2, h3⟩ := h
  unfold wordB
  rw [e]
  rw [e] at h2
  rw [Bool.and_eq_true, Bool.and_eq_true]
  exact ⟨⟨hc, List.all_eq_true.mpr h2⟩, decide_eq_true h3⟩
theorem word_free {w : Str} (h : wordOk w) : 10 ∉ w.cps.toList := fun z => by
  have := h.2.1 10 z
  revert this
  decide +kernel
/-- the text of a good key is read as the key -/
theorem read_text {w : Str} {as : List Str} {ns : List Int} (hw : wordOk w) (ha : ∀ a ∈ as, a.length ≤ 60 ∧ 10 ∉ a.cps.toList) (hal : as.length ≤ 12) (hn : ∀ n ∈ ns, 1 ≤ n ∧ n < 100000) (hnl : ns.length ≤ 24) : readF (endF (rowsF w as ns)) = some (w, as, ns) := by
  have hf : freeL (rowsF w as ns) := fun y hy => by
    unfold rowsF at hy
    rcases List.mem_cons.mp hy with rfl | hy
    · exact word_free hw
    · rcases List.mem_append.mp hy with hy | hy
      · obtain ⟨a, h, rfl⟩ := List.mem_map.mp hy
        rw [cs_app, arg_cs, List.mem_append]
        rintro (z | z)
        · revert z; decide
        · exact (ha a h).2 z
      · obtain ⟨n, h, rfl⟩ := List.mem_map.mp hy
        rw [cs_app, in_cs, List.mem_append]
        rintro (z | z)
        · revert z; decide
        · have h1 := (num_of (hn n h).1 (hn n h).2).1
          have := (numB_iff.mp h1).2.1 10 z
          omega
  have e := lines_end hf
  unfold readF
  rw [e]
  have e1 : midF (rowsF w as ns ++ [("" : Str)]) = as.map (fun a => ("arg " : Str) ++ a) ++ ns.map fun n => ("in " : Str) ++ (toString n : Str) := by
    exact mid_eq w _
  have e2 : (rowsF w as ns ++ [("" : Str)]).headD ("" : Str) = w := rfl
  have e5 : 1 ≤ (rowsF w as ns).length := by unfold rowsF; simp
  rw [if_neg (by
    rintro (z | z)
    · rw [List.length_append] at z
      simp at z
      omega
    · exact z (by simp)), e1, e2]
  rw [scan_of (fun l hl => by obtain ⟨a, _, rfl⟩ := List.mem_map.mp hl; exact (arg_of a).1) (fun l hl => by
    obtain ⟨n, h, rfl⟩ := List.mem_map.mp hl
    unfold numL
    rw [(in_of _).1, (in_of _).2, (num_of (hn n h).1 (hn n h).2).1]
    rfl) []]
  dsimp only
  have e3 : (as.map fun a => ("arg " : Str) ++ a).map (dr 4) = as := by
    rw [List.map_map]
    conv => rhs; rw [← List.map_id as]
    exact List.map_congr_left fun a _ => (arg_of a).2
  have e4 : (ns.map fun n => ("in " : Str) ++ (toString n : Str)).map (fun l => intV (dr 3 l)) = ns := by
    rw [List.map_map]
    conv => rhs; rw [← List.map_id ns]
    refine List.map_congr_left fun n h => ?_
    show intV (dr 3 (("in " : Str) ++ (toString n : Str))) = n
    rw [(in_of _).2]
    exact (num_of (hn n h).1 (hn n h).2).2
  rw [List.nil_append, e3, e4, wordOk_B hw, decide_eq_true hal, decide_eq_true hnl, List.all_eq_true.mpr fun a h => decide_eq_true (ha a h).1]
  rfl

theorem at0 (d : D) (r : List D) : atI (d :: r) 0 = some d := by
  simp [atI, ixN]
theorem s_wL {ρ : Rho} {M : Mem} {PX : PXn} {R : List DV → (Mem → Prop) → Mem → Prop} {ds : List D} {le : LE} (hs : ∀ Q : PD, Q (.dat (.lst ds)) M → le ρ M Q PX) (h : R (ds.map DV.dat) (fun _ => True) M) : lwAny le ρ M R PX := hs _ h
theorem nl_ne (c : Nat) : (!decide (S [c] = ("\n" : Str))) = decide (c ≠ 10) := by
  rw [nl_S]
  by_cases e : c = 10
  · subst e; simp
  · rw [decide_eq_false (fun z => e (S_inj1.mp z)), decide_eq_true e]; rfl
theorem join_signs (l : List Nat) : Txt.join ("" : Str) (l.map fun c => S [c]) = S l := by
  show PySem.Builtin.Str.glued ("" : Str) _ = _
  rw [StrLaws.glued_eq_join]
  induction l with
  | nil => rfl
  | cons c l ih =>
    cases l with
    | nil => rfl
    | cons d l =>
      show S [c] ++ ("" : Str) ++ Str.join ("" : Str) ((d :: l).map fun c => S [c]) = _
      rw [ih]
      refine cs_inj ?_
      rw [cs_app, cs_app, cs_S, cs_S, cs_S]
      rfl
theorem ones_sum : ∀ l : List Nat, ((l.map fun c => S [c]).map (·.length)).sum = l.length
  | [] => rfl
  | c :: l => by
    have := ones_sum l
    rw [List.map_cons, List.map_cons, List.sum_cons, this, List.length_cons]
    show 1 + _ = _
    omega
theorem len_read_key {A : Adr} {ds : List DV} {M : Mem} {P : PD} {PX : PXn} (h : sp_read_key A ds M P PX) : ds.length = (["text"] : List Str).length := by
  obtain ⟨as, rfl, _, ⟨x, _, rfl⟩, _⟩ := h
  rfl
theorem line_le {x y : Str} (h : y ∈ linesF x) : y.length ≤ x.length := by
  have h1 := split_bound x 10
  have h2 := mem_sum h
  have h3 := List.length_pos_of_mem h
  have e : Txt.split x (S [10]) = linesF x := rfl
  rw [e] at h1
  omega
theorem lines_le (x : Str) : (linesF x).length ≤ x.length + 1 := by
  have h1 := split_bound x 10
  have e : Txt.split x (S [10]) = linesF x := rfl
  rw [e] at h1
  omega
theorem last_at {ls : List Str} {y : Str} (h : ls.getLast? = some y) : atI (ls.map D.str) (-1) = some (.str y) := by
  obtain ⟨ys, rfl⟩ := List.getLast?_eq_some_iff.mp h
  rw [List.map_append]
  exact atI_last _ _
theorem dr_cut (n : Nat) (l : Str) : cutS l (some (n : Int)) none = dr n l := cut_from
theorem scan_cons (l : Str) (r as : List Str) (ns : List Int) : scanF (l :: r) as ns = if argB l && ns.isEmpty then scanF r (as ++ [dr 4 l]) ns else if inB l && numB (dr 3 l) then scanF r as (ns ++ [intV (dr 3 l)]) else none := rfl
theorem cut_mid {xs : List D} (h : 2 ≤ xs.length) : cutD xs (some 1) (some (-1)) = (xs.drop 1).take (xs.length - 2) := by
  unfold cutD
  have h1 : HT.sIx xs.length 0 (some 1) = 1 := by
    show (if (1 : Int) < 0 then ((1 : Int) + (xs.length : Int)).toNat else min (1 : Int).toNat xs.length) = 1
    rw [if_neg (by decide)]
    show min 1 _ = 1
    omega
  have h2 : HT.sIx xs.length xs.length (some (-1)) = xs.length - 1 := by
    show (if (-1 : Int) < 0 then ((-1 : Int) + (xs.length : Int)).toNat else min (-1 : Int).toNat xs.length) = _
    rw [if_pos (by decide)]
    omega
  rw [h1, h2]
  congr 1
theorem b_read_key {A : Adr} {ds : List DV} {M : Mem} {P : PD} {PX : PXn} (h : sp_read_key A ds M P PX) : l_read_key A { nx := fun _ M' => DropD M.length P .non M', rt := DropD M.length P, ex := DropX M.length PX } (startL N_read_key ds) M := by
  obtain ⟨as, rfl, rfl, ⟨x, hx, rfl⟩, k, kx⟩ := h
  show l_read_key A _ [some (.dat (.str x)), none, none, none, none, none] _
  have hxl : x.length ≤ 10000 := hx
  have hz := hx.z
  have kx0 : readF x = none → ∀ (ρ : Rho) (M : Mem), DropX 0 PX ⟨A.BadMessage, []⟩ ρ M := fun h ρ M => fin0X (kx _ ⟨x, rfl, h, rfl⟩)
  have k0 : ∀ w bs ms, readF x = some (w, bs, ms) → ∀ M : Mem, DropD 0 P (.dat (keyD w bs ms)) M := fun w bs ms h M => fin0 (k _ ⟨x, w, bs, ms, rfl, h, rfl⟩)
  have hll := lines_le x
  have hle : ∀ y ∈ linesF x, y.length ≤ 10000 := fun y hy => Nat.le_trans (line_le hy) hxl
  unfold l_read_key
  repeat infer_instance
  refine ⟨x, ("\n" : Str), rfl, rfl, by decide +kernel, by show _ ≤ 2 ^ 24; omega, ?_⟩
  rw [show Txt.split x ("\n" : Str) = linesF x from rfl]
  have hr : readF x = if (linesF x).length < 2 ∨ (linesF x).getLast? ≠ some ("" : Str) then none else
    match scanF (midF (linesF x)) [] [] with
    | some (as, ns) => if wordB ((linesF x).headD "") && (decide (as.length ≤ 12) && (decide (ns.length ≤ 24) && as.all fun a => decide (a.length ≤ 60))) then some ((linesF x).headD "", as, ns) else none
    | none => none := rfl
  have hmp := mid_parts (x := x)
  have hne := lines_ne x
  generalize linesF x = ls at hr hll hle hmp hne
  repeat infer_instance
  refine s_ite (fun h1 => ?_) (fun h1 => ?_)
  · have h1 := of_decide_eq_true h1
    rw [List.length_map] at h1
    repeat infer_instance
    exact s_raise0 (kx0 (by rw [hr, if_pos (.inl (by omega))]) [] _)
  have h1 := of_decide_eq_false h1
  rw [List.length_map] at h1
  obtain ⟨lst, hlst⟩ : ∃ y, ls.getLast? = some y := by
    cases e : ls.getLast? with
    | none => exact absurd (List.getLast?_eq_none_iff.mp e) hne
    | some y => exact ⟨y, rfl⟩
  repeat infer_instance
  refine s_ixL (last_at hlst) ?_
  repeat infer_instance
  refine s_ite (fun h2 => ?_) (fun h2 => ?_)
  · have h2 : lst ≠ ("" : Str) := by simpa using h2
    exact s_raise0 (kx0 (by rw [hr, if_pos (.inr (by rw [hlst]; exact fun z => h2 (Option.some.inj z)))]) [] _)
  have h2 : lst = ("" : Str) := by simpa using h2
  have h0 : ¬ (ls.length < 2 ∨ ls.getLast? ≠ some ("" : Str)) := by
    rw [hlst, h2]
    rintro (z | z)
    · omega
    · exact z rfl
  rw [if_neg h0] at hr
  obtain ⟨w, mid, els, emid⟩ := hmp h0
  rw [emid] at hr
  have hwd : ls.headD ("" : Str) = w := by rw [els]; rfl
  rw [hwd] at hr
  have hml : mid.length + 2 = ls.length := by rw [els]; simp
  have hmd : ∀ l ∈ mid, l.length ≤ 10000 := fun l hl => hle l (by rw [els]; simp [hl])
  repeat infer_instance
  refine ⟨Nat.le_of_ble_eq_true rfl, ?_⟩
  repeat infer_instance
  refine ⟨Nat.le_of_ble_eq_true rfl, ?_⟩
  repeat infer_instance
  refine s_wL (ds := mid.map D.str) (fun Q hQ => ?_) ?_
  · repeat infer_instance
    refine s_slL ?_
    rw [cut_mid (by rw [List.length_map]; omega), ← List.map_drop, ← List.map_take, List.length_map, show (ls.drop 1).take (ls.length - 2) = mid from emid]
    exact hQ
  refine ⟨fun i ρ M => ∃ (bs : List Str) (ms : List Int) (y4 : Option DV), M = [.lst ((bs.map D.str).map DV.dat), .lst ((ms.map D.int).map DV.dat)] ∧ scanF (mid.drop i) bs ms = scanF mid [] [] ∧ bs.length ≤ i ∧ ms.length ≤ i ∧ (∀ b ∈ bs, b.length ≤ 10000) ∧
      ρ = [some (.dat (.str x)), some (.dat (.lst (ls.map D.str))), some (.obj 0), some (.obj 1), y4, none], ⟨[], [], none, rfl, rfl, Nat.le_refl _, Nat.le_refl _, by simp, rfl⟩, fun _ _ _ _ => trivial, ?_, ?_⟩
  · rintro i y ρ M hy ⟨bs, ms, y4, rfl, hsc, hbl, hmsl, hbb, rfl⟩
    obtain ⟨l, hli, rfl, hm⟩ := item_at hy
    have hi := (List.getElem?_eq_some_iff.mp hli).1
    have hll2 := hmd l hm
    have hzl : l.length ≤ sizeLine := by show _ ≤ 2 ^ 24; omega
    rw [drop_cons hli] at hsc
    rw [scan_cons] at hsc
    repeat infer_instance
    refine s_starts ?_
    repeat infer_instance
    refine s_ite (fun h3 => ?_) (fun h3 => ?_)
    · have h3 : argB l = true := h3
      rw [h3, Bool.true_and] at hsc
      repeat infer_instance
      refine ⟨_, .inl ⟨_, rfl, rfl⟩, ?_⟩
      rw [show (!((ms.map D.int).map DV.dat).isEmpty) = !ms.isEmpty by cases ms <;> rfl]
      cases hme : ms.isEmpty with
      | true =>
        rw [hme, if_pos rfl] at hsc
        refine s_ite (fun _ => ?_) (fun z => absurd z (by decide))
        repeat infer_instance
        rw [show cutS l (some 4) none = dr 4 l from dr_cut 4 l]
        have hdl : (dr 4 l).length ≤ 10000 := by
          unfold dr
          rw [len_cs, cs_S, List.length_drop, ← len_cs]
          omega
        refine s_append (ys := (bs.map D.str).map DV.dat) rfl (by rw [List.length_map, List.length_map]; show _ < 2 ^ 24; omega) ?_
        repeat infer_instance
        refine .here ⟨bs ++ [dr 4 l], ms, _, by rw [List.map_append, List.map_append]; rfl, hsc, by simp; omega, by omega, fun b hb => ?_, rfl⟩
        rcases List.mem_append.mp hb with h | h
        · exact hbb b h
        · rw [List.mem_singleton.mp h]; exact hdl
      | false =>
        rw [hme, if_neg (by decide)] at hsc
        refine s_ite (fun z => absurd z (by decide)) (fun _ => ?_)
        repeat infer_instance
        refine s_starts ?_
        repeat infer_instance
        have h4 : inB l = false := arg_in h3
        rw [show Txt.startswith l ("in " : Str) = inB l from rfl, h4]
        rw [h4, Bool.false_and, if_neg (by decide)] at hsc
        repeat infer_instance
        exact s_raise0 (kx0 (by rw [hr, ← hsc]) [] _)
    · have h3 : argB l = false := h3
      rw [h3, Bool.false_and, if_neg (by decide)] at hsc
      repeat infer_instance
      refine s_starts ?_
      repeat infer_instance
      rw [show Txt.startswith l ("in " : Str) = inB l from rfl]
      cases h4 : inB l with
      | false =>
        rw [h4, Bool.false_and, if_neg (by decide)] at hsc
        repeat infer_instance
        exact s_raise0 (kx0 (by rw [hr, ← hsc]) [] _)
      | true =>
        rw [h4, Bool.true_and] at hsc
        repeat infer_instance
        rw [show cutS l (some 3) none = dr 3 l from dr_cut 3 l]
        have hdl : (dr 3 l).length ≤ 10000 := by
          unfold dr
          rw [len_cs, cs_S, List.length_drop, ← len_cs]
          omega
        refine call_F (.cons .nil) ⟨dr 3 l, hdl, rfl, rfl⟩ ?_
        cases h5 : numB (dr 3 l) with
        | false =>
          rw [h5, if_neg (by decide)] at hsc
          repeat infer_instance
          exact s_raise0 (kx0 (by rw [hr, ← hsc]) [] _)
        | true =>
          rw [h5, if_pos rfl] at hsc
          repeat infer_instance
          rw [show cutS l (some 3) none = dr 3 l from dr_cut 3 l]
          have hiv : PySem.intText? (dr 3 l) = some (intV (dr 3 l)) := by
            unfold intV
            rw [num_text h5]
            rfl
          refine s_intAs hiv (by have := (numB_iff.mp h5).2.2; omega) ?_
          repeat infer_instance
          refine s_append (ys := (ms.map D.int).map DV.dat) rfl (by rw [List.length_map, List.length_map]; show _ < 2 ^ 24; omega) ?_
          repeat infer_instance
          exact .here ⟨bs, ms ++ [intV (dr 3 l)], _, by rw [List.map_append, List.map_append]; rfl, hsc, by omega, by simp; omega, hbb, rfl⟩
  · rintro ρ M ⟨bs, ms, y4, rfl, hsc, hbl, hmsl, hbb, rfl⟩
    rw [List.length_map, List.length_map] at hsc hbl hmsl
    rw [List.drop_length] at hsc
    rw [← hsc] at hr
    have hr : readF x = if wordB w && (decide (bs.length ≤ 12) && (decide (ms.length ≤ 24) && bs.all fun a => decide (a.length ≤ 60))) then some (w, bs, ms) else none := hr
    have hw0 : atI (ls.map D.str) 0 = some (.str w) := by rw [els]; exact at0 _ _
    have hwl : w.length ≤ 10000 := hle w (by rw [els]; simp)
    repeat infer_instance
    refine s_ixL hw0 ?_
    repeat infer_instance
    refine call_F (.cons .nil) ⟨w, hwl, rfl, rfl⟩ ?_
    cases hwb : wordB w with
    | false =>
      rw [hwb, Bool.false_and, if_neg (by decide)] at hr
      repeat infer_instance
      exact s_raise0 (kx0 hr [] _)
    | true =>
      rw [hwb, Bool.true_and] at hr
      repeat infer_instance
      refine s_ite (fun h6 => ?_) (fun h6 => ?_)
      · have h6 := of_decide_eq_true h6
        rw [List.length_map, List.length_map] at h6
        rw [decide_eq_false (show ¬ bs.length ≤ 12 by omega), Bool.false_and, if_neg (by decide)] at hr
        repeat infer_instance
        exact s_raise0 (kx0 hr [] _)
      have h6 := of_decide_eq_false h6
      rw [List.length_map, List.length_map] at h6
      rw [decide_eq_true (show bs.length ≤ 12 by omega), Bool.true_and] at hr
      repeat infer_instance
      refine s_ite (fun h7 => ?_) (fun h7 => ?_)
      · have h7 := of_decide_eq_true h7
        rw [List.length_map, List.length_map] at h7
        rw [decide_eq_false (show ¬ ms.length ≤ 24 by omega), Bool.false_and, if_neg (by decide)] at hr
        repeat infer_instance
        exact s_raise0 (kx0 hr [] _)
      have h7 := of_decide_eq_false h7
      rw [List.length_map, List.length_map] at h7
      rw [decide_eq_true (show ms.length ≤ 24 by omega), Bool.true_and] at hr
      repeat infer_instance
      refine ⟨.obj 0, rfl, (bs.map D.str).map DV.dat, rfl, ?_⟩
      refine s_exany (fun j => match bs[j]? with | some b => decide (60 < b.length) | none => false) rfl (fun j y hy R h => ?_) (fun ⟨j, hj, hcj⟩ => ?_) (fun hno => ?_)
      · obtain ⟨b, hb, rfl, hbm⟩ := item_at hy
        rw [hb] at h
        have h : R (.bl (decide (60 < b.length))) _ := h
        have := hbb b hbm
        have hzb : b.length ≤ sizeLine := by show _ ≤ 2 ^ 24; omega
        repeat infer_instance
        rw [show decide ((60 : Int) < (b.length : Int)) = decide (60 < b.length) by rw [decide_eq_decide]; omega]
        exact h
      · have hh : (bs.all fun a => decide (a.length ≤ 60)) = false := by
          rw [List.all_eq_false]
          cases hb : bs[j]? with
          | none => rw [hb] at hcj; cases hcj
          | some b =>
            rw [hb] at hcj
            have hcj := of_decide_eq_true (show decide (60 < b.length) = true from hcj)
            exact ⟨b, List.mem_of_getElem? hb, by rw [decide_eq_true_eq]; omega⟩
        rw [hh, if_neg (by decide)] at hr
        repeat infer_instance
        exact s_raise0 (kx0 hr [] _)
      · have hh : (bs.all fun a => decide (a.length ≤ 60)) = true := by
          rw [List.all_eq_true]
          intro b hb
          obtain ⟨j, hj⟩ := List.mem_iff_getElem?.mp hb
          have h8 := hno j (by rw [List.length_map, List.length_map]; exact (List.getElem?_eq_some_iff.mp hj).1)
          rw [hj] at h8
          have h8 : ¬ decide (60 < b.length) = true := h8
          rw [decide_eq_true_eq] at h8 ⊢
          omega
        rw [hh, if_pos rfl] at hr
        repeat infer_instance
        refine s_ixL hw0 ?_
        repeat infer_instance
        refine s_tupO rfl ?_
        repeat infer_instance
        refine s_tupO rfl ?_
        repeat infer_instance
        exact k0 w bs ms hr _

theorem s_ordS {gi : Int → Int → Bool} {gs : List Nat → List Nat → Bool} {a b : Str} {k : Bool} {M : Mem} {P : PD} (e : gs a.cps.toList b.cps.toList = k) (h : P (.bl k) M) : vOrdr gi gs (.dat (.str a)) (.dat (.str b)) M P := by
  show P (.bl (gs a.cps.toList b.cps.toList)) M
  rw [e]
  exact h
theorem one_lt (a b : Nat) : decide ([a] < [b]) = decide (a < b) := decide_eq_decide.mpr (by simp [List.cons_lt_cons_iff])
theorem nl_eq (c : Nat) : decide (S [c] = ("\n" : Str)) = decide (c = 10) := by
  refine decide_eq_decide.mpr ⟨fun h => ?_, fun h => ?_⟩
  · have := congrArg (fun z : Str => z.cps.toList) h
    dsimp only at this
    rw [cs_S, nl_cs] at this
    simpa using this
  · subst h
    apply cs_inj
    rw [cs_S, nl_cs]
theorem len_is_allowed {A : Adr} {ds : List DV} {M : Mem} {P : PD} {PX : PXn} (h : sp_is_allowed A ds M P PX) : ds.length = (["letter"] : List Str).length := by
  obtain ⟨as, d, rfl, _, ⟨c, rfl, _⟩, _⟩ := h
  rfl
theorem b_is_allowed {A : Adr} {ds : List DV} {M : Mem} {P : PD} {PX : PXn} (h : sp_is_allowed A ds M P PX) : l_is_allowed A { nx := fun _ M' => DropD M.length P .non M', rt := DropD M.length P } (startL N_is_allowed ds) M := by
  obtain ⟨as, d, rfl, rfl, ⟨c, rfl, rfl⟩, k⟩ := h
  show l_is_allowed A _ [some (.dat (.str (S [c])))] _
  unfold l_is_allowed
  unfold allowed at k
  repeat infer_instance
  refine s_ite (fun h1 => ?_) (fun h1 => ?_)
  · have h1 : decide (S [c] = ("\n" : Str)) = true := h1
    rw [nl_eq] at h1
    rw [h1, Bool.true_or] at k
    repeat infer_instance
    exact fin0 k
  · have h1 : decide (S [c] = ("\n" : Str)) = false := h1
    rw [nl_eq] at h1
    rw [h1, Bool.false_or] at k
    repeat infer_instance
    refine s_ch ?_
    repeat infer_instance
    have l32 : (" " : Str).cps.toList = [32] := by decide +kernel
    have l126 : ("~" : Str).cps.toList = [126] := by decide +kernel
    refine s_ordS (k := decide (32 ≤ c)) (by
      rw [l32, cs_S, one_lt]
      by_cases h : c < 32
      · rw [decide_eq_true h, decide_eq_false (by omega)]; rfl
      · rw [decide_eq_false h, decide_eq_true (by omega)]; rfl) ?_
    refine ⟨_, rfl, ?_⟩
    refine s_ite (fun h2 => ?_) (fun h2 => ?_)
    · rw [h2, Bool.true_and] at k
      repeat infer_instance
      refine s_ordS (k := decide (c ≤ 126)) (by
        rw [l126, cs_S, one_lt]
        by_cases h : 126 < c
        · rw [decide_eq_true h, decide_eq_false (by omega)]; rfl
        · rw [decide_eq_false h, decide_eq_true (by omega)]; rfl) ?_
      refine ⟨_, rfl, ?_⟩
      refine s_ite (fun h3 => ?_) (fun h3 => ?_)
      · rw [h3, Bool.true_and] at k
        repeat infer_instance
        refine ⟨_, rfl, rfl, ?_⟩
        repeat infer_instance
        have e3 : (!decide ((((S [c]).cps.getD 0 0 : Nat) : Int) = 37)) = decide (c ≠ 37) := by
          show (!decide ((c : Int) = 37)) = _
          by_cases h : c = 37
          · subst h; rfl
          · rw [decide_eq_false (by omega), decide_eq_true h]; rfl
        have e4 : (if true = true then !decide ((((S [c]).cps.getD 0 0 : Nat) : Int) = 37) else decide ((((S [c]).cps.getD 0 0 : Nat) : Int) = 37)) = decide (c ≠ 37) := e3
        rw [e4]
        exact fin0 k
      · rw [h3, Bool.false_and] at k
        repeat infer_instance
        exact fin0 k
    · rw [h2, Bool.false_and] at k
      repeat infer_instance
      exact fin0 k
theorem gdT_non {l : List Nat} (h : gdT l = true) : faultD l = .non := by
  unfold gdT at h
  rw [Bool.and_eq_true, Bool.not_eq_true', decide_eq_false_iff_not] at h
  unfold faultD
  rw [if_neg h.1, if_pos h.2]
theorem gdT_bad {l : List Nat} (h : gdT l = false) : ∃ x, faultD l = .str x := by
  unfold gdT at h
  unfold faultD
  by_cases h1 : 2000 < l.length
  · exact ⟨_, if_pos h1⟩
  · rw [decide_eq_false h1] at h
    have h : l.all allowed = false := h
    rw [if_neg h1, if_neg (by rw [h]; exact Bool.false_ne_true)]
    exact ⟨_, rfl⟩
theorem len_text_fault {A : Adr} {ds : List DV} {M : Mem} {P : PD} {PX : PXn} (h : sp_text_fault A ds M P PX) : ds.length = (["text"] : List Str).length := len_one h
theorem b_text_fault {A : Adr} {ds : List DV} {M : Mem} {P : PD} {PX : PXn} (h : sp_text_fault A ds M P PX) : l_text_fault A { nx := fun _ M' => DropD M.length P .non M', rt := DropD M.length P } (startL N_text_fault ds) M := by
  obtain ⟨as, d, rfl, rfl, ⟨x, hx, rfl, rfl⟩, k⟩ := h
  show l_text_fault A _ [some (.dat (.str x)), none] _
  have hz := hx.z
  unfold l_text_fault
  unfold faultD at k
  repeat infer_instance
  refine s_ite (fun h1 => ?_) (fun h1 => ?_)
  · have h1 : (2000 : Int) < (x.length : Int) := of_decide_eq_true h1
    rw [len_cs] at h1
    rw [if_pos (by omega)] at k
    repeat infer_instance
    exact fin0 k
  · have h1 : ¬ (2000 : Int) < (x.length : Int) := of_decide_eq_false h1
    rw [len_cs] at h1
    rw [if_neg (by omega)] at k
    repeat infer_instance
    refine s_wAnyS rfl ?_
    refine s_exany (fun i => match x.cps.toList[i]? with | some c => allowed c | none => true) trivial (fun i y hy R h => ?_) (fun ⟨i, hi, hc⟩ => ?_) (fun hc => ?_)
    · obtain ⟨c, hc, rfl⟩ := sign_in hy
      rw [hc] at h
      repeat infer_instance
      exact call_F (.cons .nil) ⟨c, rfl, rfl⟩ h
    · have : x.cps.toList.all allowed = false := by
        rw [List.all_eq_false]
        cases he : x.cps.toList[i]? with
        | none => rw [he] at hc; cases hc
        | some c =>
          rw [he] at hc
          have hc : allowed c = false := hc
          exact ⟨c, List.mem_of_getElem? he, by rw [hc]; decide⟩
      rw [if_neg (by rw [this]; exact Bool.false_ne_true)] at k
      repeat infer_instance
      exact fin0 k
    · have : x.cps.toList.all allowed = true := by
        rw [List.all_eq_true]
        intro c hm
        obtain ⟨i, hi⟩ := List.mem_iff_getElem?.mp hm
        have h4 := hc i (by rw [signs_len]; exact (List.getElem?_eq_some_iff.mp hi).1)
        rw [hi] at h4
        have h4 : ¬ allowed c = false := h4
        simpa using h4
      rw [if_pos this] at k
      repeat infer_instance
      exact fin0 k
theorem len_claim_text {A : Adr} {ds : List DV} {M : Mem} {P : PD} {PX : PXn} (h : sp_claim_text A ds M P PX) : ds.length = (["result"] : List Str).length := by
  obtain ⟨as, d, rfl, _, ⟨w, t, _, _, rfl, _⟩, _⟩ := h
  rfl
theorem b_claim_text {A : Adr} {ds : List DV} {M : Mem} {P : PD} {PX : PXn} (h : sp_claim_text A ds M P PX) : l_claim_text A { nx := fun _ M' => DropD M.length P .non M', rt := DropD M.length P } (startL N_claim_text ds) M := by
  obtain ⟨as, d, rfl, rfl, ⟨w, t, hw, ht, rfl, rfl⟩, k⟩ := h
  show l_claim_text A _ [some (.dat (.tup [.str w, .str t]))] _
  have hw' : w.length ≤ 10000 := hw
  have ht' : t.length ≤ 10000 := ht
  unfold l_claim_text
  repeat infer_instance
  refine s_addS (by show _ + 1 ≤ 2 ^ 24; omega) ?_
  repeat infer_instance
  refine s_addS (by rw [app_len]; show _ + 1 + _ ≤ 2 ^ 24; omega) ?_
  exact fin0 k
theorem word_in (w : Str) : inD (.str w) [.str "made", .str "failed"] = isWord w := by
  unfold inD isWord eqD pyD
  simp only [List.any_cons, List.any_nil, Bool.or_false]
  unfold PyData.eqv
  rw [show (("made" : Str) == w) = decide (w = "made") from by
      by_cases h : w = "made"
      · subst h; decide +kernel
      · rw [decide_eq_false h]; exact beq_eq_false_iff_ne.mpr (Ne.symm h),
    show (("failed" : Str) == w) = decide (w = "failed") from by
      by_cases h : w = "failed"
      · subst h; decide +kernel
      · rw [decide_eq_false h]; exact beq_eq_false_iff_ne.mpr (Ne.symm h)]
theorem s_inTW {w : Str} {M : Mem} {P : PD} (h : P (.bl (!isWord w)) M) : vInA true (.dat (.str w)) (.dat (.tup [.str "made", .str "failed"])) M P := .inl ⟨_, _, rfl, .inr (.inl rfl), rfl, rfl, by
  show P (.bl (!inD (.str w) [.str "made", .str "failed"])) M
  rw [word_in]
  exact h⟩
theorem joinC_len (w t : Str) : (joinC w t).length = w.length + 1 + t.length := by
  unfold joinC
  rw [app_len, app_len]
  rfl
theorem len_read_claim {A : Adr} {ds : List DV} {M : Mem} {P : PD} {PX : PXn} (h : sp_read_claim A ds M P PX) : ds.length = (["text"] : List Str).length := by
  obtain ⟨v, rfl, _⟩ := h
  rfl
theorem b_read_claim {A : Adr} {ds : List DV} {M : Mem} {P : PD} {PX : PXn} (h : sp_read_claim A ds M P PX) : l_read_claim A { nx := fun _ M' => DropD M.length P .non M', rt := DropD M.length P, ex := DropX M.length PX } (startL N_read_claim ds) M := by
  obtain ⟨v, rfl, rfl, hv, h⟩ := h
  show l_read_claim A _ [some (.dat (.str v)), none, none, none, none] _
  have hz := hv.z
  unfold l_read_claim
  repeat infer_instance
  refine ⟨_, _, rfl, rfl, by decide +kernel, hz, ?_⟩
  rcases h with ⟨w, t, hw, rfl, hg, hb⟩ | ⟨hn, hb⟩
  · have hv' : (joinC w t).length ≤ 10000 := hv
    rw [joinC_len] at hv'
    rw [show Txt.partition (joinC w t) ("\n" : Str) = (w, ("\n" : Str), t) from TL.partition_app (s := 10) (S := []) (by decide +kernel) hw]
    have htz : t.length ≤ sizeLine := by show _ ≤ 2 ^ 24; omega
    repeat infer_instance
    unfold l_read_claim_t1
    repeat infer_instance
    refine s_ite (fun h => absurd (show decide (("\n" : Str) = "") = true from h) (by decide +kernel)) (fun _ => ?_)
    repeat infer_instance
    refine s_inTW ?_
    repeat infer_instance
    unfold goodF at hg hb
    refine s_ite (fun h1 => ?_) (fun h1 => ?_)
    · have h1 : isWord w = false := by simpa using h1
      rw [h1] at hb
      exact fin0X (ρ := []) (hb rfl)
    · have h1 : isWord w = true := by simpa using h1
      rw [h1, Bool.true_and] at hg hb
      repeat infer_instance
      unfold l_read_claim_t2
      repeat infer_instance
      refine call_F (.cons .nil) ⟨t, by show _ ≤ 10000; omega, rfl, rfl⟩ ?_
      unfold l_read_claim_t3
      cases hk : gdT t.cps.toList with
      | false =>
        rw [hk] at hb
        obtain ⟨x, e⟩ := gdT_bad hk
        rw [e]
        repeat infer_instance
        exact fin0X (ρ := []) (hb rfl)
      | true =>
        rw [hk, Bool.true_and] at hg hb
        rw [gdT_non hk]
        repeat infer_instance
        unfold l_read_claim_t4
        unfold tooMuch at hg hb
        repeat infer_instance
        refine s_ite (fun h2 => ?_) (fun h2 => ?_)
        · have h2 : decide (w = "failed") = true := h2
          rw [h2, Bool.true_and] at hg hb
          repeat infer_instance
          refine s_ite (fun h3 => ?_) (fun h3 => ?_)
          · have h3 : (80 : Int) < (t.length : Int) := of_decide_eq_true h3
            rw [decide_eq_true (by omega), Bool.true_or] at hb
            repeat infer_instance
            exact fin0X (ρ := []) (hb rfl)
          · have h3 : ¬ (80 : Int) < (t.length : Int) := of_decide_eq_false h3
            rw [decide_eq_false (by omega), Bool.false_or] at hg hb
            repeat infer_instance
            refine s_inC rfl rfl ?_
            repeat infer_instance
            refine s_ite (fun h4 => ?_) (fun h4 => ?_)
            · have h4 : decide (10 ∈ t.cps.toList) = true := h4
              rw [h4] at hb
              repeat infer_instance
              exact fin0X (ρ := []) (hb rfl)
            · have h4 : decide (10 ∈ t.cps.toList) = false := h4
              rw [h4] at hg
              repeat infer_instance
              unfold l_read_claim_t5
              repeat infer_instance
              exact fin0 (hg rfl)
        · have h2 : decide (w = "failed") = false := h2
          rw [h2, Bool.false_and] at hg
          repeat infer_instance
          unfold l_read_claim_t5
          repeat infer_instance
          exact fin0 (hg rfl)
  · rw [show Txt.partition v ("\n" : Str) = (v, Str.empty, Str.empty) from TL.partition_none (s := 10) (S := []) (by decide +kernel) hn]
    repeat infer_instance
    unfold l_read_claim_t1
    repeat infer_instance
    refine s_ite (fun _ => ?_) (fun h => absurd (show decide (Str.empty = "") = false from h) (by decide +kernel))
    repeat infer_instance
    exact fin0X (ρ := []) hb

theorem len_x_is_word {A : Adr} {ds : List DV} {M : Mem} {P : PD} {PX : PXn} (h : sp_x_is_word A ds M P PX) : ds.length = (["_law_word"] : List Str).length := by
  obtain ⟨as, d, rfl, _, ⟨x, _, rfl, _⟩, _⟩ := h
  rfl
theorem wch_eq : LET ++ ("0123456789_" : Str) = WCH := by decide +kernel
theorem b_x_is_word {A : Adr} {ds : List DV} {M : Mem} {P : PD} {PX : PXn} (h : sp_x_is_word A ds M P PX) : l_x_is_word A { nx := fun _ M' => DropD M.length P .non M', rt := DropD M.length P } (startL N_x_is_word ds) M := by
  obtain ⟨as, d, rfl, rfl, ⟨x, ⟨hx1, hx2⟩, rfl, rfl⟩, k⟩ := h
  show l_x_is_word A _ [some (.dat (.str x)), none, none] _
  have hz : x.length ≤ sizeLine := by show _ ≤ 2 ^ 24; omega
  obtain ⟨c, r, hcr⟩ : ∃ c r, x.cps.toList = c :: r := by
    rw [len_cs] at hx1
    cases he : x.cps.toList with
    | nil => rw [he] at hx1; simp at hx1
    | cons c r => exact ⟨c, r, rfl⟩
  have hq : wordB x = (isL c && x.cps.toList.all isW && decide (x.length ≤ 20)) := by unfold wordB; rw [hcr]
  rw [hq] at k
  unfold l_x_is_word
  repeat infer_instance
  refine s_ite (fun h1 => ?_) (fun h1 => ?_)
  · have h1 := of_decide_eq_true h1
    rw [decide_eq_false (show ¬ x.length ≤ 20 by omega), Bool.and_false] at k
    repeat infer_instance
    exact fin0 k
  have h1 := of_decide_eq_false h1
  rw [decide_eq_true (show x.length ≤ 20 by omega), Bool.and_true] at k
  repeat infer_instance
  refine s_ixS hz (c := c) (by rw [hcr]; simp [atI, ixN]) ?_
  repeat infer_instance
  refine s_inC (k := !isL c) rfl rfl ?_
  refine s_exbl ?_
  refine s_ite (fun h3 => ?_) (fun h3 => ?_)
  · have h3 : isL c = false := by simpa using h3
    rw [h3, Bool.false_and] at k
    repeat infer_instance
    exact fin0 k
  have h3 : isL c = true := by simpa using h3
  rw [h3, Bool.true_and] at k
  repeat infer_instance
  refine s_lcS x (fun c => !isW c) (fun _ => .int 1) hz (fun R hR => ?_) (fun d _ RT RF g1 g2 => ?_) ?_
  · repeat infer_instance
    exact hR
  · repeat infer_instance
    refine s_addS (by decide +kernel) ?_
    rw [wch_eq]
    refine s_inC (k := !isW d) rfl rfl ?_
    refine s_exbl ?_
    refine s_ite (fun h5 => ?_) (fun h5 => ?_)
    · repeat infer_instance
      exact g1 h5
    · exact g2 h5
  repeat infer_instance
  rw [none_if]
  exact fin0 k
theorem len_x_told {A : Adr} {ds : List DV} {M : Mem} {P : PD} {PX : PXn} (h : sp_x_told A ds M P PX) : ds.length = (["_law_text"] : List Str).length := len_one h
theorem b_x_told {A : Adr} {ds : List DV} {M : Mem} {P : PD} {PX : PXn} (h : sp_x_told A ds M P PX) : l_x_told A { nx := fun _ M' => DropD M.length P .non M', rt := DropD M.length P } (startL N_x_told ds) M := by
  obtain ⟨as, d, rfl, rfl, ⟨x, hx, rfl, rfl⟩, k⟩ := h
  show l_x_told A _ [some (.dat (.str x)), none, none] _
  unfold l_x_told
  refine s_tryAs ?_
  repeat infer_instance
  refine s_callX ?_
  repeat infer_instance
  refine call_X (.cons .nil) ⟨x, hx, rfl⟩ ?_ ?_
  · rintro r ⟨x', w', as', ms', ea, h2, rfl⟩
    cases ea
    rw [h2] at k
    rw [show keyD w' as' ms' = .tup [.str w', .tup (as'.map D.str), .tup (ms'.map D.int)] from rfl]
    repeat infer_instance
    exact fin0 k
  · rintro y ⟨x', ea, h2, rfl⟩
    cases ea
    rw [h2] at k
    refine ⟨true, by simp, fun _ a d => ?_, fun h => by cases h⟩
    repeat infer_instance
    refine s_isE rfl ?_
    repeat infer_instance
    refine s_isE rfl ?_
    repeat infer_instance
    exact fin0 k

/-! texts that are refused -/
theorem scan_mem {mid bs : List Str} {ms : List Int} (h : scanF mid [] [] = some (bs, ms)) : ∀ l ∈ mid, argB l = true ∨ numL l = true := fun l hl => by
  obtain ⟨A, N, e, hA, _, hN⟩ := scan_conv mid [] [] bs ms h
  rw [e] at hl
  exact (List.mem_append.mp hl).imp (hA l) (hN l)
theorem scan_ord {P Q bs : List Str} {a b : Str} {ms : List Int} (h : scanF (P ++ a :: b :: Q) [] [] = some (bs, ms)) (hb : argB b = true) : argB a = true := by
  obtain ⟨A, N, e, hA, _, hN⟩ := scan_conv _ [] [] bs ms h
  have no : b ∉ N := fun z => by
    have := hN b z
    unfold numL at this
    rw [arg_in hb] at this
    cases this
  rcases List.append_eq_append_iff.mp e with ⟨c, h1, h2⟩ | ⟨c, h1, h2⟩
  · cases c with
    | nil =>
      rw [List.nil_append] at h2
      exact absurd (by rw [← h2]; simp) no
    | cons x c =>
      rw [List.cons_append, List.cons.injEq] at h2
      refine hA a ?_
      rw [h1, h2.1]
      simp
  · exact absurd (by rw [h2]; simp) no
theorem read_none_of {w : Str} {mid : List Str} (hf : freeL (w :: mid)) (h : scanF mid [] [] = none) : readF (endF (w :: mid)) = none := by
  unfold readF
  rw [lines_end hf]
  have e1 : midF ((w :: mid) ++ [("" : Str)]) = mid := mid_eq w mid
  rw [e1, h]
  split <;> rfl
theorem join_snoc : ∀ {ys : List Str} (z : Str), ys ≠ [] → Str.join ("\n" : Str) (ys ++ [z]) = Str.join ("\n" : Str) ys ++ ("\n" : Str) ++ z
  | [], _, h => absurd rfl h
  | [y], z, _ => rfl
  | y :: y2 :: ys, z, _ => by
    have ih := join_snoc (ys := y2 :: ys) z (by simp)
    show y ++ ("\n" : Str) ++ Str.join ("\n" : Str) ((y2 :: ys) ++ [z]) = y ++ ("\n" : Str) ++ Str.join ("\n" : Str) (y2 :: ys) ++ ("\n" : Str) ++ z
    rw [ih]
    refine cs_inj ?_
    simp only [cs_app, List.append_assoc]
theorem end_cut {ys : List Str} (h : ys ≠ []) : cutS (endF ys) none (some (((endF ys).length : Int) - 1)) = Str.join ("\n" : Str) ys := by
  have e : endF ys = Str.join ("\n" : Str) ys ++ ("\n" : Str) := by
    rw [end_join, join_snoc _ h]
    refine cs_inj ?_
    rw [cs_app (Str.join ("\n" : Str) ys ++ ("\n" : Str))]
    show _ ++ [] = _
    rw [List.append_nil]
  have el : (endF ys).length = (Str.join ("\n" : Str) ys).length + 1 := by rw [e, app_len]; rfl
  rw [el, show (((Str.join ("\n" : Str) ys).length + 1 : Nat) : Int) - 1 = ((Str.join ("\n" : Str) ys).length : Nat) by omega, cut_to, e, cs_app, len_cs, List.take_append_of_le_length (Nat.le_refl _), List.take_length, S_cs]
theorem end_all (x : Str) : cutS x none (some ((x.length : Int) - 0)) = x := by
  rw [Int.sub_zero, cut_to, len_cs, List.take_length, S_cs]
theorem read_cut {ys : List Str} (hf : freeL ys) (hn : ys ≠ []) (he : ∀ y ∈ ys, y ≠ ("" : Str)) : readF (Str.join ("\n" : Str) ys) = none := by
  unfold readF
  rw [lines_of hf hn, if_pos]
  refine .inr fun z => ?_
  obtain ⟨zs, e⟩ := List.getLast?_eq_some_iff.mp z
  exact he _ (by rw [e]; simp) rfl
theorem in0_of (s : Str) : numL (("in 0" : Str) ++ s) = false ∧ argB (("in 0" : Str) ++ s) = false := by
  have e : ("in 0" : Str) ++ s = ("in " : Str) ++ (("0" : Str) ++ s) := cs_inj (by
    rw [cs_app, cs_app, cs_app, ← List.append_assoc]
    congr 1)
  rw [e]
  constructor
  · unfold numL
    rw [(in_of _).1, (in_of _).2, Bool.true_and]
    cases hb : numB (("0" : Str) ++ s) with
    | false => rfl
    | true =>
      obtain ⟨c, r, h1, h2⟩ := (numB_iff.mp hb).1
      rw [cs_app, show ("0" : Str).cps.toList = [48] by decide +kernel] at h1
      cases h1
      exact absurd rfl h2
  · cases hb : argB (("in " : Str) ++ (("0" : Str) ++ s)) with
    | false => rfl
    | true =>
      have := arg_in hb
      rw [(in_of _).1] at this
      cases this
theorem str_free {n : Int} (h0 : 0 ≤ n) (h1 : n ≤ 100000) : 10 ∉ (toString n : Str).cps.toList := by
  obtain ⟨m, rfl⟩ := Int.eq_ofNat_of_zero_le h0
  rw [str_num]
  by_cases hm : m = 0
  · subst hm; decide
  · intro z
    have := (codeN_ok m m (Nat.le_refl _) (by omega)).1 10 z
    omega
theorem rows_free {w : Str} {as : List Str} {ns : List Int} (h : RowsOk w as ns) : freeL (rowsF w as ns) := fun y hy => by
  unfold rowsF at hy
  rcases List.mem_cons.mp hy with rfl | hy
  · exact h.w.2.2
  · rcases List.mem_append.mp hy with hy | hy
    · obtain ⟨a, ha, rfl⟩ := List.mem_map.mp hy
      rw [cs_app, arg_cs, List.mem_append]
      rintro (z | z)
      · revert z; decide
      · exact (h.a a ha).2 z
    · obtain ⟨n, hn, rfl⟩ := List.mem_map.mp hy
      rw [cs_app, in_cs, List.mem_append]
      rintro (z | z)
      · revert z; decide
      · exact str_free (h.n n hn).1 (h.n n hn).2 z
theorem num_iff {n : Int} (h0 : 0 ≤ n) (h1 : n ≤ 100000) : numB (toString n : Str) = true ↔ 1 ≤ n ∧ n < 100000 := by
  by_cases a : n = 0
  · subst a
    have : numB (toString (0 : Int) : Str) = false := by decide +kernel
    rw [this]; simp
  · by_cases b : n = 100000
    · subst b
      have : numB (toString (100000 : Int) : Str) = false := by decide +kernel
      rw [this]; simp
    · exact ⟨fun _ => by omega, fun h => (num_of h.1 h.2).1⟩
def GoodK (w : Str) (as : List Str) (ns : List Int) : Prop := wordB w = true ∧ as.length ≤ 12 ∧ ns.length ≤ 24 ∧ (∀ a ∈ as, a.length ≤ 60) ∧ ∀ n ∈ ns, 1 ≤ n ∧ n < 100000
theorem read_bad {w : Str} {as : List Str} {ns : List Int} (h : RowsOk w as ns) (hg : ¬ GoodK w as ns) : readF (endF (rowsF w as ns)) = none := by
  have hf := rows_free h
  have e := lines_end hf
  unfold readF
  rw [e]
  have e1 : midF (rowsF w as ns ++ [("" : Str)]) = as.map (fun a => ("arg " : Str) ++ a) ++ ns.map fun n => ("in " : Str) ++ (toString n : Str) := mid_eq w _
  have e2 : (rowsF w as ns ++ [("" : Str)]).headD ("" : Str) = w := rfl
  rw [e1, e2]
  split
  · rfl
  · cases hs : scanF (as.map (fun a => ("arg " : Str) ++ a) ++ ns.map fun n => ("in " : Str) ++ (toString n : Str)) [] [] with
    | none => rfl
    | some p =>
      obtain ⟨bs, ms⟩ := p
      have hnum : ∀ n ∈ ns, numB (toString n : Str) = true := fun n hn => by
        have := scan_mem hs (("in " : Str) ++ (toString n : Str)) (List.mem_append_right _ (List.mem_map.mpr ⟨n, hn, rfl⟩))
        rcases this with g | g
        · have := arg_in g
          rw [(in_of _).1] at this
          cases this
        · unfold numL at g
          rw [(in_of _).1, (in_of _).2, Bool.true_and] at g
          exact g
      have hs2 := scan_of (A := as.map fun a => ("arg " : Str) ++ a) (N := ns.map fun n => ("in " : Str) ++ (toString n : Str)) (fun l hl => by obtain ⟨a, _, rfl⟩ := List.mem_map.mp hl; exact (arg_of a).1) (fun l hl => by
        obtain ⟨n, hn, rfl⟩ := List.mem_map.mp hl
        unfold numL
        rw [(in_of _).1, (in_of _).2, hnum n hn]
        rfl) []
      rw [hs, List.nil_append] at hs2
      have hb : bs = as := by
        have : bs = (as.map fun a => ("arg " : Str) ++ a).map (dr 4) := by cases hs2; rfl
        rw [this, List.map_map]
        conv => rhs; rw [← List.map_id as]
        exact List.map_congr_left fun a _ => (arg_of a).2
      have hm : ms.length = ns.length := by
        have : ms = (ns.map fun n => ("in " : Str) ++ (toString n : Str)).map (fun l => intV (dr 3 l)) := by cases hs2; rfl
        rw [this, List.length_map, List.length_map]
      dsimp only
      rw [if_neg]
      intro hc
      rw [Bool.and_eq_true, Bool.and_eq_true, Bool.and_eq_true, decide_eq_true_eq, decide_eq_true_eq, List.all_eq_true, hb, hm] at hc
      exact hg ⟨hc.1, hc.2.1, hc.2.2.1, fun a ha => of_decide_eq_true (hc.2.2.2 a ha), fun n hn => (num_iff (h.n n hn).1 (h.n n hn).2).mp (hnum n hn)⟩
theorem word_ok {w : Str} (h : wordB w = true) : wordOk w := by
  unfold wordB at h
  rw [Bool.and_eq_true, Bool.and_eq_true] at h
  refine ⟨?_, List.all_eq_true.mp h.1.2, of_decide_eq_true h.2⟩
  cases e : w.cps.toList with
  | nil => rw [e] at h; exact absurd h.1.1 (by decide)
  | cons c r => rw [e] at h; exact ⟨c, r, rfl, h.1.1⟩
theorem read_good {w : Str} {as : List Str} {ns : List Int} (h : RowsOk w as ns) (g : GoodK w as ns) : readF (endF (rowsF w as ns)) = some (w, as, ns) :=
  read_text (word_ok g.1) (fun a ha => ⟨g.2.2.2.1 a ha, (h.a a ha).2⟩) g.2.1 g.2.2.2.2 g.2.2.1

theorem pickB {p : Str → Bool} {xs : List Str} {i : Int} (h0 : 0 ≤ i) (h1 : i < xs.length) (hx : xs.all p = true) : ∃ x, atI (xs.map D.str) i = some (.str x) ∧ p x = true := by
  obtain ⟨d, h, hm⟩ := atI_ex (xs := xs.map D.str) h0 (by rw [List.length_map]; exact h1)
  obtain ⟨x, hx', rfl⟩ := List.mem_map.mp hm
  exact ⟨x, h, List.all_eq_true.mp hx x hx'⟩
theorem join_len (a : Str) : ∀ ys : List Str, (Txt.join a ys).length ≤ (ys.map (·.length)).sum + ys.length * a.length := fun ys => by
  show (PySem.Builtin.Str.glued a ys).length ≤ _
  rw [StrLaws.glued_eq_join]
  exact StrLaws.join_length_le a ys
def tot (ys : List Str) : Nat := (ys.map (·.length)).sum + ys.length
theorem tot_app (a b : List Str) : tot (a ++ b) = tot a + tot b := by unfold tot; rw [List.map_append, List.sum_append, List.length_append]; omega
theorem tot_one (a : Str) : tot [a] = a.length + 1 := by simp [tot]
theorem tot_mem {ys : List Str} {y : Str} (h : y ∈ ys) : y.length ≤ tot ys := by have := mem_sum h; unfold tot; omega
theorem tot_len (ys : List Str) : ys.length ≤ tot ys := by unfold tot; omega
theorem cutD_map {α β : Type} (f : α → β) (xs : List α) (lo hi : Option Int) : cutD (xs.map f) lo hi = (cutD xs lo hi).map f := by
  unfold cutD
  rw [List.length_map, List.map_take, List.map_drop]
theorem fin2 {P : PD} {d : D} {o : MO} {M : Mem} (ho : Dr o) (h : P (.dat d) [o]) : DropD 1 P (.dat d) (o :: M) := by
  obtain ⟨i', p', g', rfl, _⟩ := id ho
  exact ⟨1, Nat.le_refl _, rfl, rfl, h⟩
theorem end_len (ys : List Str) : (endF ys).length ≤ tot ys := by
  unfold endF
  have h := join_len ("" : Str) (ys.map fun y => y ++ ("\n" : Str))
  rw [ends_sum] at h
  have : ("" : Str).length = 0 := rfl
  rw [this] at h
  unfold tot
  omega
theorem pick3 {m a b : Int} (hr0 : 0 ≤ m) (hr1 : m < 3) (ha : 1 ≤ a) (hab : a ≤ b) : ∃ k : Int, atI [D.int a, D.int a, D.int b] m = some (.int k) ∧ 1 ≤ k ∧ k ≤ b := by
  have : m = 0 ∨ m = 1 ∨ m = 2 := by omega
  rcases this with rfl | rfl | rfl
  · exact ⟨a, rfl, ha, hab⟩
  · exact ⟨a, rfl, ha, hab⟩
  · exact ⟨b, rfl, by omega, Int.le_refl _⟩
theorem sum_le {xs : List Str} {m : Nat} (h : ∀ x ∈ xs, x.length ≤ m) : (xs.map (·.length)).sum ≤ xs.length * m := by
  induction xs with
  | nil => simp
  | cons x xs ih =>
    have h1 := h x List.mem_cons_self
    have h2 := ih fun y hy => h y (List.mem_cons_of_mem _ hy)
    rw [List.map_cons, List.sum_cons, List.length_cons, Nat.succ_mul]
    omega
theorem dr_len (n : Nat) (l : Str) : (dr n l).length ≤ l.length := by
  unfold dr
  rw [len_cs, cs_S, List.length_drop, ← len_cs]
  omega
theorem len_x_drawn_tool {A : Adr} {ds : List DV} {M : Mem} {P : PD} {PX : PXn} (h : sp_x_drawn_tool A ds M P PX) : ds.length = (["_law_state", "_law_script"] : List Str).length := len_noA h
def toolB (w : Str) : Bool := decide (1 ≤ w.length) && (decide (w.length ≤ 100) && decide (10 ∉ w.cps.toList))
theorem toolB_ok {w : Str} (h : toolB w = true) : toolOk w := by
  unfold toolB at h
  rw [Bool.and_eq_true, Bool.and_eq_true, decide_eq_true_eq, decide_eq_true_eq, decide_eq_true_eq] at h
  exact ⟨h.1, h.2.1, h.2.2⟩
abbrev ABC : Str := "abcdefghij_0123456789z"
theorem abc_len : ABC.cps.toList.length = 22 := by decide +kernel
theorem abc_free : 10 ∉ ABC.cps.toList := by decide +kernel
theorem b_x_drawn_tool {A : Adr} {ds : List DV} {M : Mem} {P : PD} {PX : PXn} (h : sp_x_drawn_tool A ds M P PX) : l_x_drawn_tool A { nx := fun _ M' => DropD M.length P .non M', rt := DropD M.length P } (startL N_x_drawn_tool ds) M := by
  obtain ⟨ns, as, o, rfl, hns, rfl, ho, e, k⟩ := h
  cases (show as = [] from e)
  show l_x_drawn_tool A _ [some (.obj 0), some (.dat (.lst (ns.map .int))), none, none, none] _
  unfold l_x_drawn_tool
  repeat infer_instance
  refine call_next rfl ho hns (by decide) (by decide) fun c o1 hc0 hc1 ho1 => ?_
  repeat infer_instance
  refine s_ite (fun h1 => ?_) (fun h1 => ?_)
  · repeat infer_instance
    refine call_F .nil ⟨rfl, rfl⟩ ?_
    repeat infer_instance
    refine call_next rfl ho1 hns (by decide) (by decide) fun q o2 hq0 hq1 ho2 => ?_
    obtain ⟨x, hx, hb⟩ := pickB (p := toolB) (xs := rsv) hq0 hq1 (by decide +kernel)
    refine s_ixL hx ?_
    exact finD ho2 (k _ _ ⟨x, rfl, toolB_ok hb⟩ ho2)
  repeat infer_instance
  refine call_next rfl ho1 hns (by decide) (by decide) fun q o2 hq0 hq1 ho2 => ?_
  obtain ⟨n, hn, hn1, hn2⟩ : ∃ n : Nat, atI [D.int 1, D.int 2, D.int 19, D.int 20, D.int 21] q = some (.int n) ∧ 1 ≤ n ∧ n ≤ 21 := by
    have : q = 0 ∨ q = 1 ∨ q = 2 ∨ q = 3 ∨ q = 4 := by omega
    rcases this with rfl | rfl | rfl | rfl | rfl
    · exact ⟨1, rfl, by decide, by decide⟩
    · exact ⟨2, rfl, by decide, by decide⟩
    · exact ⟨19, rfl, by decide, by decide⟩
    · exact ⟨20, rfl, by decide, by decide⟩
    · exact ⟨21, rfl, by decide, by decide⟩
  refine s_ixL hn ?_
  repeat infer_instance
  refine s_slS (by decide +kernel) ?_
  rw [show cutS ABC none (some (n : Int)) = S (ABC.cps.toList.take n) from cut_to]
  have hwl : (S (ABC.cps.toList.take n)).length = n := by rw [len_cs, cs_S, List.length_take, abc_len]; omega
  have hwf : 10 ∉ (S (ABC.cps.toList.take n)).cps.toList := by rw [cs_S]; exact fun z => abc_free (List.mem_of_mem_take z)
  generalize S (ABC.cps.toList.take n) = w at hwl hwf
  have hzw : w.length ≤ sizeLine := by show _ ≤ 2 ^ 24; omega
  repeat infer_instance
  refine s_ite (fun h2 => ?_) (fun h2 => ?_)
  · repeat infer_instance
    refine call_next rfl ho2 hns (by omega) (by omega) fun p o3 hp0 hp1 ho3 => ?_
    repeat infer_instance
    refine call_next rfl ho3 hns (by decide) (by decide) fun u o4 hu0 hu1 ho4 => ?_
    obtain ⟨x, hx, hb⟩ := pickB (p := fun x => decide (x.length = 1) && decide (10 ∉ x.cps.toList)) (xs := ["A", "-", "1", "_", " ", "z"]) hu0 hu1 (by decide +kernel)
    rw [Bool.and_eq_true, decide_eq_true_eq, decide_eq_true_eq] at hb
    refine s_ixL hx ?_
    have l1 := cutS_len w none (some p)
    have l2 := cutS_len w (some (p + 1)) none
    have f1 : 10 ∉ (cutS w none (some p)).cps.toList := by
      obtain ⟨j, rfl⟩ := Int.eq_ofNat_of_zero_le hp0
      rw [cut_to, cs_S]
      exact fun z => hwf (List.mem_of_mem_take z)
    have f2 : 10 ∉ (cutS w (some (p + 1)) none).cps.toList := by
      obtain ⟨j, rfl⟩ := Int.eq_ofNat_of_zero_le hp0
      rw [show ((j : Int) + 1) = ((j + 1 : Nat) : Int) by omega, cut_from, cs_S]
      exact fun z => hwf (List.mem_of_mem_drop z)
    refine s_addS (by rw [hb.1]; show _ ≤ 2 ^ 24; omega) ?_
    repeat infer_instance
    refine s_addS (by rw [app_len, hb.1]; show _ ≤ 2 ^ 24; omega) ?_
    repeat infer_instance
    refine finD ho4 (k _ _ ⟨_, rfl, by rw [app_len, app_len, hb.1]; omega, by rw [app_len, app_len, hb.1]; omega, ?_⟩ ho4)
    rw [cs_app, cs_app, List.mem_append, List.mem_append]
    rintro ((z | z) | z)
    · exact f1 z
    · exact hb.2 z
    · exact f2 z
  · repeat infer_instance
    exact finD ho2 (k _ _ ⟨_, rfl, by omega, by omega, hwf⟩ ho2)
theorem len_x_turned {A : Adr} {ds : List DV} {M : Mem} {P : PD} {PX : PXn} (h : sp_x_turned A ds M P PX) : ds.length = (["_law_state", "_law_script", "_law_tool", "_law_lines"] : List Str).length := by
  obtain ⟨ns, as, o, rfl, _, _, _, ⟨w, bs, ms, _, rfl⟩, _⟩ := h
  rfl
theorem strs_arg (as : List Str) : as.map (fun a => D.str (("arg " : Str) ++ a)) = (as.map fun a => ("arg " : Str) ++ a).map D.str := by rw [List.map_map]; rfl
theorem strs_in (ns : List Int) : ns.map (fun n => D.str (("in " : Str) ++ (toString n : Str))) = (ns.map fun n => ("in " : Str) ++ (toString n : Str)).map D.str := by rw [List.map_map]; rfl
theorem lenN2 {n : Int} (h0 : 0 ≤ n) (h1 : n ≤ 100000) : ((toString n : Str)).length ≤ 10 := PySem.W.KT.len_num h0 (show n < 10 ^ 10 by omega)
theorem argT {as : List Str} (h : ∀ a ∈ as, a.length ≤ 61 ∧ 10 ∉ a.cps.toList) (hl : as.length ≤ 13) : tot (as.map fun a => ("arg " : Str) ++ a) ≤ 900 := by
  have h1 := sum_le (xs := as.map fun a => ("arg " : Str) ++ a) (m := 65) fun x hx => by
    obtain ⟨a, ha, rfl⟩ := List.mem_map.mp hx
    have := (h a ha).1
    rw [app_len]
    show 4 + _ ≤ _
    omega
  unfold tot
  rw [List.length_map] at h1 ⊢
  omega
theorem inT {ns : List Int} (h : ∀ n ∈ ns, 0 ≤ n ∧ n ≤ 100000) (hl : ns.length ≤ 25) : tot (ns.map fun n => ("in " : Str) ++ (toString n : Str)) ≤ 400 := by
  have h1 := sum_le (xs := ns.map fun n => ("in " : Str) ++ (toString n : Str)) (m := 13) fun x hx => by
    obtain ⟨n, hn, rfl⟩ := List.mem_map.mp hx
    have := lenN2 (h n hn).1 (h n hn).2
    rw [app_len]
    show 3 + _ ≤ _
    omega
  unfold tot
  rw [List.length_map] at h1 ⊢
  omega
theorem tot_cons (y : Str) (ys : List Str) : tot (y :: ys) = y.length + 1 + tot ys := by
  have := tot_app [y] ys
  rw [tot_one] at this
  exact this
theorem b_x_turned {A : Adr} {ds : List DV} {M : Mem} {P : PD} {PX : PXn} (h : sp_x_turned A ds M P PX) : l_x_turned A { nx := fun _ M' => DropD M.length P .non M', rt := DropD M.length P } (startL N_x_turned ds) M := by
  obtain ⟨ns, as, o, rfl, hns, rfl, ho, ⟨w, bs, ms, hR, rfl⟩, k⟩ := h
  show l_x_turned A _ [some (.obj 0), some (.dat (.lst (ns.map .int))), some (.dat (.str w)), some (.dat (.lst [.lst (bs.map fun a => .str (("arg " : Str) ++ a)), .lst (ms.map fun n => .str (("in " : Str) ++ (toString n : Str)))])), none, none, none, none] _
  rw [strs_arg, strs_in]
  have hf := rows_free hR
  have hta := argT hR.a hR.al
  have htn := inT hR.n hR.nl
  have hw := hR.w
  have hfA : ∀ y ∈ bs.map (fun a => ("arg " : Str) ++ a), 10 ∉ y.cps.toList := fun y hy => hf y (List.mem_cons_of_mem _ (List.mem_append_left _ hy))
  have hfN : ∀ y ∈ ms.map (fun n => ("in " : Str) ++ (toString n : Str)), 10 ∉ y.cps.toList := fun y hy => hf y (List.mem_cons_of_mem _ (List.mem_append_right _ hy))
  have hA1 : ∀ y ∈ bs.map (fun a => ("arg " : Str) ++ a), argB y = true := fun y hy => by obtain ⟨a, _, rfl⟩ := List.mem_map.mp hy; exact (arg_of a).1
  have hN1 : ∀ y ∈ ms.map (fun n => ("in " : Str) ++ (toString n : Str)), inB y = true := fun y hy => by obtain ⟨a, _, rfl⟩ := List.mem_map.mp hy; exact (in_of _).1
  generalize bs.map (fun a => ("arg " : Str) ++ a) = AL at hta hfA hA1
  generalize ms.map (fun n => ("in " : Str) ++ (toString n : Str)) = NL at htn hfN hN1
  have la := tot_len AL
  have ln := tot_len NL
  have fin : ∀ (ch : Int) (ys : List Str) (o : MO) (y6 y7 : Option DV), Dr o → tot ys ≤ 2000 → ys ≠ [] → (ch ≠ 2 → readF (endF ys) = none) → (ch = 2 → readF (Str.join ("\n" : Str) ys) = none) →
      lSeq (lSet 6 (lBM "str" vJoin (lC (.str "")) (lCons (lLc (lwAny (lVar 5)) (lgName 7) lYes (lOp vAdd (lVar 7) (lC (.str "\n"))) [7]) lNil)))
        (lRet (lSl vSl (lVar 6) lNoPart (lPart (lOp (vI0 fun i j => .int (i - j)) (lCB vLenA (lCons (lVar 6) lNil)) (lCB vIntA (lCons (lOp (vEq false) (lVar 4) (lC (.int 2))) lNil)))))) ⟨fun _ M' => DropD 1 P .non M', DropD 1 P, fun _ _ => False, fun _ _ => False, fun _ _ _ => False⟩
        [some (.obj 0), some (.dat (.lst (ns.map .int))), some (.dat (.str w)), some (.dat (.lst [.lst (AL.map D.str), .lst (NL.map D.str)])), some (.dat (.int ch)), some (.dat (.lst (ys.map D.str))), y6, y7] [o] := by
    intro ch ys o y6 y7 ho ht hne h0 h2
    have hyl : ∀ y ∈ ys, y.length ≤ 2000 := fun y hy => Nat.le_trans (tot_mem hy) ht
    have hl := tot_len ys
    repeat infer_instance
    refine s_lcL ys D.str (fun _ => true) (fun y => .str (y ++ ("\n" : Str))) (by show _ ≤ 2 ^ 24; omega) (fun R hR => ?_) (fun y hy RT RF h1 h2 => ?_) ?_
    · repeat infer_instance
      exact hR
    · have := hyl y hy
      repeat infer_instance
      refine s_addS (by show _ + 1 ≤ 2 ^ 24; omega) ?_
      exact h1 rfl
    rw [all_true, show ys.map (fun y => D.str (y ++ ("\n" : Str))) = (ys.map fun y => y ++ ("\n" : Str)).map D.str by rw [List.map_map]; rfl]
    repeat infer_instance
    refine s_joinL (by rw [ends_sum]; unfold tot at ht; show _ + _ * 0 ≤ _; omega) ?_
    rw [show Txt.join ("" : Str) (ys.map fun y => y ++ ("\n" : Str)) = endF ys from rfl]
    have hel := end_len ys
    have hze : (endF ys).length ≤ sizeLine := by show _ ≤ 2 ^ 24; omega
    repeat infer_instance
    by_cases c2 : ch = 2
    · rw [show (if (if false = true then !decide (ch = 2) else decide (ch = 2)) = true then (1 : Int) else 0) = 1 by simp [c2]]
      rw [end_cut hne]
      have hjl : (Str.join ("\n" : Str) ys).length ≤ 10000 := by
        have := congrArg Str.length (end_cut hne)
        have h9 := cutS_len (endF ys) none (some (((endF ys).length : Int) - 1))
        rw [this] at h9
        omega
      exact finD ho (k _ _ ⟨_, rfl, hjl, h2 c2⟩ ho)
    · rw [show (if (if false = true then !decide (ch = 2) else decide (ch = 2)) = true then (1 : Int) else 0) = 0 by simp [c2]]
      rw [end_all]
      exact finD ho (k _ _ ⟨_, rfl, by omega, h0 c2⟩ ho)
  unfold l_x_turned
  repeat infer_instance
  refine call_next rfl ho hns (by decide) (by decide) fun ch o1 hc0 hc1 ho1 => ?_
  repeat infer_instance
  have htw : w.length ≤ 100 := hw.2.1
  refine s_addL (by rw [List.length_map]; show 1 + _ ≤ 2 ^ 24; omega) ?_
  repeat infer_instance
  refine s_addL (by rw [List.length_append, List.length_map, List.length_map]; show 1 + _ + _ ≤ 2 ^ 24; omega) ?_
  rw [show [D.str w] ++ AL.map D.str ++ NL.map D.str = (w :: (AL ++ NL)).map D.str by simp]
  have t0 : tot (w :: (AL ++ NL)) ≤ 1500 := by rw [tot_cons, tot_app]; omega
  have f0 : freeL (w :: (AL ++ NL)) := fun y hy => by
    rcases List.mem_cons.mp hy with rfl | hy
    · exact hw.2.2
    · exact (List.mem_append.mp hy).elim (hfA y) (hfN y)
  have n0 : ∀ y ∈ w :: (AL ++ NL), y ≠ ("" : Str) := fun y hy e => by
    subst e
    rcases List.mem_cons.mp hy with e | hy
    · have := hw.1
      rw [← e] at this
      exact absurd this (by decide +kernel)
    · rcases List.mem_append.mp hy with g | g
      · exact absurd (hA1 _ g) (by decide +kernel)
      · exact absurd (hN1 _ g) (by decide +kernel)
  repeat infer_instance
  refine s_ite (fun h1 => ?_) (fun h1 => ?_)
  · have h1 := of_decide_eq_true h1
    repeat infer_instance
    refine s_addL (by rw [List.length_map]; show 1 + _ ≤ 2 ^ 24; omega) ?_
    repeat infer_instance
    refine s_addL (by rw [List.length_append, List.length_map]; show 1 + _ + 2 ≤ 2 ^ 24; omega) ?_
    repeat infer_instance
    refine s_addL (by rw [List.length_append, List.length_append, List.length_map, List.length_map]; show 1 + _ + 2 + _ ≤ 2 ^ 24; omega) ?_
    rw [show [D.str w] ++ NL.map D.str ++ [D.str "in 7", D.str "arg a"] ++ AL.map D.str = (w :: (NL ++ ("in 7" : Str) :: ("arg a" : Str) :: AL)).map D.str by simp]
    repeat infer_instance
    refine s_ite (fun g => absurd (of_decide_eq_true g) (by omega)) (fun _ => ?_)
    iterate 2 infer_instance
    refine fin ch (w :: (NL ++ ("in 7" : Str) :: ("arg a" : Str) :: AL)) o1 _ _ ho1 ?_ (by simp) (fun _ => read_none_of (fun y hy => ?_) ?_) (fun z => by omega)
    · rw [tot_cons, tot_app, tot_cons, tot_cons]
      have : ("in 7" : Str).length = 4 := by decide +kernel
      have : ("arg a" : Str).length = 5 := by decide +kernel
      omega
    · rcases List.mem_cons.mp hy with rfl | hy
      · exact hw.2.2
      · rcases List.mem_append.mp hy with hy | hy
        · exact hfN y hy
        · rcases List.mem_cons.mp hy with rfl | hy
          · decide +kernel
          · rcases List.mem_cons.mp hy with rfl | hy
            · decide +kernel
            · exact hfA y hy
    · cases hs : scanF (NL ++ ("in 7" : Str) :: ("arg a" : Str) :: AL) [] [] with
      | none => rfl
      | some p => exact absurd (scan_ord hs (by decide +kernel)) (by decide +kernel)
  · repeat infer_instance
    refine s_ite (fun h2 => ?_) (fun h2 => ?_)
    · have h2 := of_decide_eq_true h2
      repeat infer_instance
      refine call_next rfl ho1 hns (by decide) (by decide) fun v o2 hv0 hv1 ho2 => ?_
      have hvl := lenN2 (n := v) hv0 (by omega)
      have hvf := str_free (n := v) hv0 (by omega)
      repeat infer_instance
      refine s_strI (natLog hv0 (by omega)) ?_
      repeat infer_instance
      refine s_addS (by show 4 + _ ≤ 2 ^ 24; omega) ?_
      repeat infer_instance
      refine s_addL (by rw [List.length_map, List.length_cons, List.length_append]; show _ + 1 ≤ 2 ^ 24; omega) ?_
      rw [show (w :: (AL ++ NL)).map D.str ++ [D.str (("in 0" : Str) ++ (toString v : Str))] = (w :: (AL ++ NL ++ [("in 0" : Str) ++ (toString v : Str)])).map D.str by simp]
      iterate 2 infer_instance
      refine fin ch (w :: (AL ++ NL ++ [("in 0" : Str) ++ (toString v : Str)])) o2 _ _ ho2 ?_ (by simp) (fun _ => read_none_of (fun y hy => ?_) ?_) (fun z => by omega)
      · rw [tot_cons, tot_app, tot_app, tot_one, app_len]
        have : ("in 0" : Str).length = 4 := by decide +kernel
        omega
      · rcases List.mem_cons.mp hy with rfl | hy
        · exact hw.2.2
        · rcases List.mem_append.mp hy with hy | hy
          · exact (List.mem_append.mp hy).elim (hfA y) (hfN y)
          · rw [List.mem_singleton.mp hy, cs_app, List.mem_append]
            rintro (z | z)
            · revert z; decide +kernel
            · exact hvf z
      · cases hs : scanF (AL ++ NL ++ [("in 0" : Str) ++ (toString v : Str)]) [] [] with
        | none => rfl
        | some p =>
          have := scan_mem hs (("in 0" : Str) ++ (toString v : Str)) (by simp)
          rw [(in0_of _).1, (in0_of _).2] at this
          exact absurd this (by simp)
    · have h1 := of_decide_eq_false h1
      have h2 := of_decide_eq_false h2
      iterate 1 infer_instance
      refine fin ch (w :: (AL ++ NL)) o1 _ _ ho1 (by omega) (by simp) (fun z => by omega) fun _ => read_cut f0 (by simp) n0

theorem okV_key {w : Str} {as : List Str} {ns : List Int} (ha : as.length ≤ 1000000) (hn : ns.length ≤ 1000000) : okV 4 (keyD w as ns) := by
  refine ⟨by show 3 ≤ _; decide, fun d hd => ?_⟩
  simp only [List.mem_cons, List.not_mem_nil, or_false] at hd
  rcases hd with rfl | rfl | rfl
  · trivial
  · refine ⟨by rw [List.length_map]; exact ha, fun d hd => ?_⟩
    obtain ⟨a, _, rfl⟩ := List.mem_map.mp hd
    trivial
  · refine ⟨by rw [List.length_map]; exact hn, fun d hd => ?_⟩
    obtain ⟨a, _, rfl⟩ := List.mem_map.mp hd
    trivial
/-- a row of one sign x -/
@[irreducible] def XX (k : Nat) : Str := repS "x" k
theorem xx_len (k : Nat) : (XX k).length = k := by unfold XX; rw [len_cs]; unfold repS; simp; exact Nat.mul_one k
theorem xx_free (k : Nat) : 10 ∉ (XX k).cps.toList := by
  unfold XX repS
  intro h
  rw [cs_S] at h
  obtain ⟨l, h1, h2⟩ := List.mem_flatten.mp h
  rw [List.eq_of_mem_replicate h1] at h2
  revert h2
  decide +kernel
theorem s_mulX {n : Int} {M : Mem} {P : PD} (k : Nat) (hn : n = k) (hk : k ≤ 1000) (h : P (.str (XX k)) M) : vMul (.dat (.str "x")) (.dat (.int n)) M P := by
  subst hn
  refine s_mulS (by omega) (by omega) ?_ ?_
  · rw [show ("x" : Str).length = 1 by decide +kernel]
    show _ ≤ 2 ^ 24
    omega
  · unfold XX at h
    exact h
theorem in_ints (p : Int) (ps : List Int) : inD (.int p) (ps.map D.int) = decide (p ∈ ps) := by
  induction ps with
  | nil => rfl
  | cons a r ih =>
    show (eqD (.int a) (.int p) || inD (.int p) (r.map D.int)) = _
    rw [ih]
    by_cases h : p = a
    · subst h
      rw [show eqD (D.int p) (.int p) = true from by show (p == p) = true; simp]
      simp
    · rw [show eqD (D.int a) (.int p) = false from by show (a == p) = false; exact beq_eq_false_iff_ne.mpr (Ne.symm h)]
      simp [h]
theorem flat_strs (as : List Str) : (as.map D.str).all flatD = true := by
  rw [List.all_map, List.all_eq_true]
  exact fun _ _ => rfl
theorem flat_ints (as : List Int) : (as.map D.int).all flatD = true := by
  rw [List.all_map, List.all_eq_true]
  exact fun _ _ => rfl
theorem s_ninS {p : Str} {as : List Str} {M : Mem} {P : PD} (h : P (.bl (!decide (p ∈ as))) M) : vInA true (.dat (.str p)) (.dat (.tup (as.map D.str))) M P := .inl ⟨_, _, rfl, .inr (.inl rfl), rfl, flat_strs as, by
  show P (.bl (!inD (.str p) (as.map D.str))) M
  rw [in_strs]
  exact h⟩
theorem s_ninI {p : Int} {as : List Int} {M : Mem} {P : PD} (h : P (.bl (!decide (p ∈ as))) M) : vInA true (.dat (.int p)) (.dat (.tup (as.map D.int))) M P := .inl ⟨_, _, rfl, .inr (.inl rfl), rfl, flat_ints as, by
  show P (.bl (!inD (.int p) (as.map D.int))) M
  rw [in_ints]
  exact h⟩
theorem argPick {r : Int} (h0 : 0 ≤ r) (h1 : r < 6) : ∃ a : Str, atI [D.str "", .str "a", .str " a b ", .str (XX 59), .str (XX 60), .str (XX 61)] r = some (.str a) ∧ (a.length ≤ 60 ∨ a = XX 61) ∧ 10 ∉ a.cps.toList := by
  have : r = 0 ∨ r = 1 ∨ r = 2 ∨ r = 3 ∨ r = 4 ∨ r = 5 := by omega
  rcases this with rfl | rfl | rfl | rfl | rfl | rfl
  · exact ⟨_, rfl, .inl (by decide +kernel), by decide +kernel⟩
  · exact ⟨_, rfl, .inl (by decide +kernel), by decide +kernel⟩
  · exact ⟨_, rfl, .inl (by decide +kernel), by decide +kernel⟩
  · exact ⟨_, rfl, .inl (by rw [xx_len]; decide), xx_free _⟩
  · exact ⟨_, rfl, .inl (by rw [xx_len]; decide), xx_free _⟩
  · exact ⟨_, rfl, .inr rfl, xx_free _⟩
theorem namePick {r : Int} (h0 : 0 ≤ r) (h1 : r < 9) : ∃ a : Int, atI [D.int 1, .int 9, .int 10, .int 28, .int 345, .int 6789, .int 99999, .int 100000, .int 0] r = some (.int a) ∧ 0 ≤ a ∧ a ≤ 100000 := by
  have : r = 0 ∨ r = 1 ∨ r = 2 ∨ r = 3 ∨ r = 4 ∨ r = 5 ∨ r = 6 ∨ r = 7 ∨ r = 8 := by omega
  rcases this with rfl | rfl | rfl | rfl | rfl | rfl | rfl | rfl | rfl <;> exact ⟨_, rfl, by decide, by decide⟩
theorem good_iff {w : Str} {as : List Str} {ns : List Int} (h : RowsOk w as ns) (ha : ∀ a ∈ as, a.length ≤ 60 ∨ a = XX 61) : (wordB w && (decide (as.length < 13) && (decide (ns.length < 25) && (!decide (XX 61 ∈ as) && (!decide ((100000 : Int) ∈ ns) && !decide ((0 : Int) ∈ ns)))))) = true ↔ GoodK w as ns := by
  simp only [Bool.and_eq_true, Bool.not_eq_true', decide_eq_true_eq, decide_eq_false_iff_not]
  unfold GoodK
  constructor
  · rintro ⟨h1, h2, h3, h4, h5, h6⟩
    refine ⟨h1, by omega, by omega, fun a g => ?_, fun n g => ?_⟩
    · rcases ha a g with e | rfl
      · exact e
      · exact absurd g h4
    · have := h.n n g
      have h5' : n ≠ 100000 := fun e => h5 (e ▸ g)
      have h6' : n ≠ 0 := fun e => h6 (e ▸ g)
      omega
  · rintro ⟨h1, h2, h3, h4, h5⟩
    refine ⟨h1, by omega, by omega, fun g => ?_, fun g => ?_, fun g => ?_⟩
    · have := h4 _ g
      rw [xx_len] at this
      omega
    · have := h5 _ g
      omega
    · have := h5 _ g
      omega
theorem keyB_of {w : Str} {as : List Str} {ns : List Int} (h : RowsOk w as ns) (g : GoodK w as ns) : KeyB w as ns := by
  have h1 := sum_le fun a ha => (h.a a ha).1
  have h2 := h.w.2.1
  have h3 := h.al
  have h4 := h.nl
  exact ⟨by omega, by omega, by omega, by omega, fun n hn' => by have := g.2.2.2.2 n hn'; omega⟩
theorem natLog2 {n : Int} (h0 : 0 ≤ n) (h1 : n ≤ 100000) : n.natAbs.log2 < 1920 := by
  have h : n.natAbs ≤ 100000 := by omega
  by_cases z : n.natAbs = 0
  · rw [z]; decide
  · have := Nat.log2_lt z (n := n.natAbs) (k := 17) |>.mpr (by omega)
    omega
theorem okRef : okD (.lst [.str "refused", .bl true]) = true := by decide +kernel
theorem bi01 (b : Bool) : (0 : Int) ≤ (if b = true then (1 : Int) else 0) ∧ (if b = true then (1 : Int) else 0) ≤ (1 : Int) := by cases b <;> decide
theorem len_x_key_right {A : Adr} {ds : List DV} {M : Mem} {P : PD} {PX : PXn} (h : sp_x_key_right A ds M P PX) : ds.length = (["_law_state", "_law_script"] : List Str).length := len_noA h
theorem b_x_key_right {A : Adr} {ds : List DV} {M : Mem} {P : PD} {PX : PXn} (h : sp_x_key_right A ds M P PX) : l_x_key_right A { nx := fun _ M' => DropD M.length P .non M', rt := DropD M.length P } (startL N_x_key_right ds) M := by
  obtain ⟨ns, as, o, rfl, hns, rfl, ho, e, k⟩ := h
  cases (show as = [] from e)
  show l_x_key_right A _ [some (.obj 0), some (.dat (.lst (ns.map .int))), none, none, none, none, none, none, none, none, none, none, none, none] _
  have t5 : ∀ (w : Str) (as : List Str) (ms : List Int) (o : MO) (y3 y5 : Option DV), RowsOk w as ms → (∀ a ∈ as, a.length ≤ 60 ∨ a = XX 61) → Dr o → l_x_key_right_t5 A ⟨fun _ M' => DropD 1 P .non M', DropD 1 P, fun _ _ => False, fun _ _ => False, fun _ _ _ => False⟩
      [some (.obj 0), some (.dat (.lst (ns.map .int))), some (.dat (.str w)), y3, some (.dat (.tup (as.map D.str))), y5, some (.dat (.tup (ms.map D.int))), none, none, none, none, none, none, none] [o] := by
    intro w as ms o y3 y5 hR hx ho
    have hw := hR.w
    have hta := argT hR.a hR.al
    have htn := inT hR.n hR.nl
    have hel := end_len (rowsF w as ms)
    have htl : tot (rowsF w as ms) ≤ 1500 := by
      have := hw.2.1
      unfold rowsF
      rw [tot_cons, tot_app]
      omega
    have hla := hR.al
    have hln := hR.nl
    unfold l_x_key_right_t5
    repeat infer_instance
    refine s_lcT as D.str (fun _ => true) (fun a => .str (("arg " : Str) ++ a)) (by show _ ≤ 2 ^ 24; omega) (fun R hR => ?_) (fun y hy RT RF h1 h2 => ?_) ?_
    · repeat infer_instance
      exact hR
    · have := (hR.a y hy).1
      repeat infer_instance
      refine s_addS (by show 4 + _ ≤ 2 ^ 24; omega) ?_
      exact h1 rfl
    rw [all_true]
    repeat infer_instance
    refine s_lcT ms D.int (fun _ => true) (fun n => .str (("in " : Str) ++ (toString n : Str))) (by show _ ≤ 2 ^ 24; omega) (fun R hR => ?_) (fun n hn RT RF h1 h2 => ?_) ?_
    · repeat infer_instance
      exact hR
    · obtain ⟨n0, n1⟩ := hR.n n hn
      have := lenN2 n0 n1
      repeat infer_instance
      refine s_strI (natLog2 n0 n1) ?_
      repeat infer_instance
      refine s_addS (by show 3 + _ ≤ 2 ^ 24; omega) ?_
      exact h1 rfl
    rw [all_true]
    repeat infer_instance
    unfold l_x_key_right_t6
    repeat infer_instance
    have hyl : ∀ y ∈ rowsF w as ms, y.length ≤ 1500 := fun y hy => Nat.le_trans (tot_mem hy) htl
    have hrl := tot_len (rowsF w as ms)
    refine s_lcL (rowsF w as ms) D.str (fun _ => true) (fun y => .str (y ++ ("\n" : Str))) (by show _ ≤ 2 ^ 24; omega) (fun R hR => ?_) (fun y hy RT RF h1 h2 => ?_) ?_
    · repeat infer_instance
      refine s_addL (by rw [List.length_map]; show 1 + _ ≤ 2 ^ 24; omega) ?_
      repeat infer_instance
      refine s_addL (by rw [List.length_append, List.length_map, List.length_map]; show 1 + _ + _ ≤ 2 ^ 24; omega) ?_
      rw [rows_strs]
      exact hR
    · have := hyl y hy
      repeat infer_instance
      refine s_addS (by show _ + 1 ≤ 2 ^ 24; omega) ?_
      exact h1 rfl
    rw [all_true, show (rowsF w as ms).map (fun y => D.str (y ++ ("\n" : Str))) = ((rowsF w as ms).map fun y => y ++ ("\n" : Str)).map D.str by rw [List.map_map]; rfl]
    repeat infer_instance
    refine s_joinL (by rw [ends_sum]; unfold tot at htl; show _ + _ * 0 ≤ _; omega) ?_
    rw [show Txt.join ("" : Str) ((rowsF w as ms).map fun y => y ++ ("\n" : Str)) = endF (rowsF w as ms) from rfl]
    have hxl : okT (endF (rowsF w as ms)) := by show _ ≤ 10000; omega
    unfold l_x_key_right_t7
    repeat infer_instance
    refine call_next rfl ho hns (by decide) (by decide) fun q o1 hq0 hq1 ho1 => ?_
    repeat infer_instance
    refine s_ite (fun h1 => ?_) (fun h1 => ?_)
    · repeat infer_instance
      refine call_draw rfl ho1 hns (.cons (.cons .nil)) ⟨w, as, ms, hR, rfl⟩ ?_
      rintro _ o2 ⟨z, rfl, hz, hzr⟩ ho2
      repeat infer_instance
      refine call_F (.cons .nil) ⟨z, hz, rfl, rfl⟩ ?_
      rw [hzr]
      repeat infer_instance
      refine vEq_dat okRef okRef ?_
      exact finD ho2 (k _ _ rfl ho2)
    repeat infer_instance
    unfold l_x_key_right_t8
    have t9 : ∀ g : Bool, (g = true ↔ GoodK w as ms) → l_x_key_right_t9 A ⟨fun _ M' => DropD 1 P .non M', DropD 1 P, fun _ _ => False, fun _ _ => False, fun _ _ _ => False⟩
      [some (.obj 0), some (.dat (.lst (ns.map .int))), some (.dat (.str w)), y3, some (.dat (.tup (as.map D.str))), y5, some (.dat (.tup (ms.map D.int))), some (.dat (rowD as ms)), none, none, some (.dat (.str (endF (rowsF w as ms)))), none, some (.dat (.bl g)), none] [o1] := by
      intro g hg
      unfold l_x_key_right_t9
      repeat infer_instance
      refine call_F (.cons .nil) ⟨_, hxl, rfl, rfl⟩ ?_
      unfold l_x_key_right_t10
      repeat infer_instance
      cases g with
      | false =>
        rw [read_bad hR (fun z => by have := hg.mpr z; cases this)]
        repeat infer_instance
        refine vEq_dat okRef okRef ?_
        exact finD ho1 (k _ _ rfl ho1)
      | true =>
        have hgk := hg.mp rfl
        rw [read_good hR hgk]
        repeat infer_instance
        unfold l_x_key_right_t11
        repeat infer_instance
        refine call_same (d := keyD w as ms) (okV_key (by omega) (by omega)) ?_
        repeat infer_instance
        refine call_F (.cons .nil) ⟨w, as, ms, keyB_of hR hgk, rfl, rfl⟩ ?_
        repeat infer_instance
        refine call_same (d := .str (endF (rowsF w as ms))) trivial ?_
        exact finD ho1 (k _ _ rfl ho1)
    have hg := good_iff hR hx
    repeat infer_instance
    refine call_F (.cons .nil) ⟨w, ⟨hw.1, hw.2.1⟩, rfl, rfl⟩ ?_
    repeat infer_instance
    refine s_ite (fun h2 => ?_) (fun h2 => ?_)
    · rw [h2, Bool.true_and] at hg
      repeat infer_instance
      rw [show decide (((as.map D.str).length : Int) < 13) = decide (as.length < 13) by rw [List.length_map, decide_eq_decide]; omega]
      refine s_ite (fun h3 => ?_) (fun h3 => ?_)
      rotate_left
      · rw [h3] at hg
        repeat infer_instance
        exact t9 false hg
      rw [h3, Bool.true_and] at hg
      repeat infer_instance
      rw [show decide (((ms.map D.int).length : Int) < 25) = decide (ms.length < 25) by rw [List.length_map, decide_eq_decide]; omega]
      refine s_ite (fun h4 => ?_) (fun h4 => ?_)
      rotate_left
      · rw [h4] at hg
        repeat infer_instance
        exact t9 false hg
      rw [h4, Bool.true_and] at hg
      repeat infer_instance
      refine s_mulX 61 rfl (by decide) ?_
      repeat infer_instance
      refine s_ninS ?_
      refine s_exbl ?_
      refine s_ite (fun h5 => ?_) (fun h5 => ?_)
      rotate_left
      · rw [h5] at hg
        repeat infer_instance
        exact t9 false hg
      rw [h5, Bool.true_and] at hg
      repeat infer_instance
      refine s_ninI ?_
      refine s_exbl ?_
      refine s_ite (fun h6 => ?_) (fun h6 => ?_)
      rotate_left
      · rw [h6] at hg
        repeat infer_instance
        exact t9 false hg
      rw [h6, Bool.true_and] at hg
      repeat infer_instance
      refine s_ninI ?_
      exact t9 _ hg
    · rw [h2] at hg
      repeat infer_instance
      exact t9 false hg
  unfold l_x_key_right
  repeat infer_instance
  refine call_draw rfl ho hns .nil rfl ?_
  rintro _ o1 ⟨w, rfl, hw⟩ ho1
  unfold l_x_key_right_t1
  repeat infer_instance
  refine call_next rfl ho1 hns (by decide) (by decide) fun r o2 hr0 hr1 ho2 => ?_
  obtain ⟨m, hm, hm0, hm1⟩ := pick3 (a := 3) (b := 14) hr0 hr1 (by decide) (by decide)
  refine s_ixL hm ?_
  repeat infer_instance
  refine call_next rfl ho2 hns (by omega) (by omega) fun n o3 hn0 hn1 ho3 => ?_
  repeat infer_instance
  unfold l_x_key_right_t2
  repeat infer_instance
  refine s_lc ?_
  repeat infer_instance
  refine s_exrng (by omega) (by omega) ?_
  refine ⟨fun i acc M => ∃ o, ∃ as : List Str, M = [o] ∧ Dr o ∧ acc = as.map D.str ∧ as.length = i ∧ ∀ a ∈ as, (a.length ≤ 60 ∨ a = XX 61) ∧ 10 ∉ a.cps.toList, ⟨o3, [], rfl, ho3, rfl, rfl, by simp⟩, fun _ _ _ _ => trivial, ?_, ?_⟩
  · rintro i x acc M hx ⟨o3, as, rfl, ho3, rfl, hl, ha⟩
    obtain ⟨hi', rfl⟩ := rangeD_at hx
    repeat infer_instance
    refine s_mulX 59 rfl (by decide) ?_
    repeat infer_instance
    refine s_mulX 60 rfl (by decide) ?_
    repeat infer_instance
    refine s_mulX 61 rfl (by decide) ?_
    repeat infer_instance
    have bi := bi01 (decide ((2 : Int) < n))
    generalize (if decide ((2 : Int) < n) = true then (1 : Int) else 0) = bb at bi
    refine call_next rfl ho3 hns (by omega) (by omega) fun v o4 hv0 hv1 ho4 => ?_
    obtain ⟨a, hat, ha1, ha2⟩ := argPick hv0 (by omega)
    refine s_ixL hat ?_
    refine ⟨by rw [List.length_map, hl]; show _ < 2 ^ 24; omega, _, rfl, .inl ⟨o4, as ++ [a], rfl, ho4, by simp, by simp [hl], fun b hb => ?_⟩⟩
    rcases List.mem_append.mp hb with h | h
    · exact ha b h
    · rw [List.mem_singleton.mp h]; exact ⟨ha1, ha2⟩
  rintro acc M ⟨o3, as, rfl, ho3, rfl, hl, ha⟩
  have hrl : (rangeD 0 n.toNat).length = n.toNat := by simp [rangeD]
  rw [hrl] at hl
  have hal : as.length ≤ 13 := by omega
  clear hrl hl
  repeat infer_instance
  unfold l_x_key_right_t3
  repeat infer_instance
  refine call_next rfl ho3 hns (by decide) (by decide) fun r o4 hr0 hr1 ho4 => ?_
  obtain ⟨m, hm, hm0, hm1⟩ := pick3 (a := 3) (b := 26) hr0 hr1 (by decide) (by decide)
  refine s_ixL hm ?_
  repeat infer_instance
  refine call_next rfl ho4 hns (by omega) (by omega) fun n2 o5 hn0' hn1' ho5 => ?_
  repeat infer_instance
  unfold l_x_key_right_t4
  repeat infer_instance
  refine s_lc ?_
  repeat infer_instance
  refine s_exrng (by omega) (by omega) ?_
  refine ⟨fun i acc M => ∃ o, ∃ ms : List Int, M = [o] ∧ Dr o ∧ acc = ms.map D.int ∧ ms.length = i ∧ ∀ n ∈ ms, 0 ≤ n ∧ n ≤ 100000, ⟨o5, [], rfl, ho5, rfl, rfl, by simp⟩, fun _ _ _ _ => trivial, ?_, ?_⟩
  · rintro i x acc M hx ⟨o6, ms, rfl, ho6, rfl, hl, hb⟩
    obtain ⟨hi', rfl⟩ := rangeD_at hx
    repeat infer_instance
    have bi := bi01 (decide ((2 : Int) < n2))
    generalize (if decide ((2 : Int) < n2) = true then (1 : Int) else 0) = bb at bi
    refine s_mulI (.inl ⟨by decide, by decide⟩) ?_
    repeat infer_instance
    refine call_next rfl ho6 hns (by omega) (by omega) fun v o7 hv0 hv1 ho7 => ?_
    obtain ⟨a, hat, ha1, ha2⟩ := namePick hv0 (by omega)
    refine s_ixL hat ?_
    refine ⟨by rw [List.length_map, hl]; show _ < 2 ^ 24; omega, _, rfl, .inl ⟨o7, ms ++ [a], rfl, ho7, by simp, by simp [hl], fun b hb' => ?_⟩⟩
    rcases List.mem_append.mp hb' with h | h
    · exact hb b h
    · rw [List.mem_singleton.mp h]; exact ⟨ha1, ha2⟩
  rintro acc M ⟨o6, ms, rfl, ho6, rfl, hl, hms⟩
  have hrl : (rangeD 0 n2.toNat).length = n2.toNat := by simp [rangeD]
  rw [hrl] at hl
  have hml : ms.length ≤ 25 := by omega
  repeat infer_instance
  refine t5 w as ms o6 _ _ ⟨hw, fun a h => ⟨?_, (ha a h).2⟩, hal, hms, hml⟩ (fun a h => (ha a h).1) ho6
  rcases (ha a h).1 with h | rfl
  · omega
  · rw [xx_len]; decide

theorem call_read {A : Adr} {v : Str} {M : Mem} {P : PD} {PX : PXn} (hv : okT v)
    (h : (∃ w t : Str, 10 ∉ w.cps.toList ∧ v = joinC w t ∧ (goodF w t = true → P (.dat (.tup [.str w, .str t])) M) ∧ (goodF w t = false → PX ⟨A.BadMessage, []⟩ M)) ∨ (10 ∉ v.cps.toList ∧ PX ⟨A.BadMessage, []⟩ M)) : CallAt (sp_read_claim A) [.dat (.str v)] M P PX := by
  refine ⟨[], [.dat (.str v)], [], List.nodup_nil, by simp [okDV], rfl, rfl, rfl, v, rfl, rfl, hv, ?_⟩
  rcases h with ⟨w, t, h1, h2, h3, h4⟩ | ⟨h1, h2⟩
  · refine .inl ⟨w, t, h1, h2, fun g => ?_, fun g => ?_⟩
    · show P (.dat (.tup [.str w, .str t])) (merge [] M [])
      rw [merge_nil]
      exact h3 g
    · show PX _ (merge [] M [])
      rw [merge_nil]
      exact h4 g
  · refine .inr ⟨h1, ?_⟩
    show PX _ (merge [] M [])
    rw [merge_nil]
    exact h2
theorem nl_join (w t : Str) : 10 ∈ (joinC w t).cps.toList := by
  unfold joinC
  rw [cs_app, cs_app, nl_cs]
  simp
theorem rep_in {z : Str} {n c : Nat} (h : c ∈ (repS z n).cps.toList) : c ∈ z.cps.toList := by
  unfold repS at h
  rw [cs_S] at h
  obtain ⟨l, h1, h2⟩ := List.mem_flatten.mp h
  rw [List.eq_of_mem_replicate h1] at h2
  exact h2
theorem rep_len {z : Str} (n : Nat) {m : Nat} (h : z.length = m) : (repS z n).length = m * n := by rw [repS_length, h]
def txC (t : Str) : Prop := ∀ c ∈ t.cps.toList, allowed c = true ∨ c = 9
theorem txC_app {a b : Str} (ha : txC a) (hb : txC b) : txC (a ++ b) := fun c h => by
  rw [cs_app, List.mem_append] at h
  exact h.elim (ha c) (hb c)
theorem txC_rep {z : Str} {n : Nat} (h : txC z) : txC (repS z n) := fun c hc => h c (rep_in hc)
theorem txC_of {z : Str} (h : z.cps.toList.all (fun c => allowed c || decide (c = 9)) = true) : txC z := fun c hc => by
  have := List.all_eq_true.mp h c hc
  rw [Bool.or_eq_true, decide_eq_true_eq] at this
  exact this
theorem goodF_eq {w t : Str} (hw : isWord w = true) (ht : txC t) : goodF w t = (((decide (w = ("made" : Str)) && decide (t.length < 2001)) || (decide (t.length < 81) && !decide (10 ∈ t.cps.toList))) && !decide (9 ∈ t.cps.toList)) := by
  have e : gdT t.cps.toList = (decide (t.length < 2001) && !decide (9 ∈ t.cps.toList)) := by
    unfold gdT
    rw [Bool.eq_iff_iff]
    simp only [Bool.and_eq_true, Bool.not_eq_true', decide_eq_false_iff_not, decide_eq_true_eq, List.all_eq_true, ← len_cs]
    constructor
    · rintro ⟨h1, h2⟩
      exact ⟨by omega, fun h => absurd (h2 9 h) (by decide)⟩
    · rintro ⟨h1, h2⟩
      refine ⟨by omega, fun c hc => (ht c hc).elim id fun e => absurd (e ▸ hc) h2⟩
  unfold goodF tooMuch
  rw [hw, e, Bool.true_and]
  unfold isWord at hw
  rw [Bool.or_eq_true, decide_eq_true_eq, decide_eq_true_eq] at hw
  rw [Bool.eq_iff_iff]
  rcases hw with rfl | rfl
  · rw [show decide (("made" : Str) = ("failed" : Str)) = false by decide +kernel]
    by_cases a : 10 ∈ t.cps.toList <;> by_cases b : 9 ∈ t.cps.toList <;> simp [a, b] <;> omega
  · rw [show decide (("failed" : Str) = ("made" : Str)) = false by decide +kernel]
    by_cases a : 10 ∈ t.cps.toList <;> by_cases b : 9 ∈ t.cps.toList <;> simp [a, b] <;> omega
theorem s_mulG {z : Str} {n : Int} {M : Mem} {P : PD} (h0 : 0 ≤ n) (h1 : n < 2 ^ 63) (hl : z.length * n.toNat ≤ sizeLine) (hz : z.cps.toList.all (fun c => allowed c || decide (c = 9)) = true) (h : ∀ x : Str, x.length = z.length * n.toNat → txC x → P (.str x) M) : vMul (.dat (.str z)) (.dat (.int n)) M P :=
  s_mulS h0 h1 hl (h _ (rep_len _ rfl) (txC_rep (txC_of hz)))
theorem all_c95 : ∀ c ∈ C95.cps.toList, allowed c = true := by decide +kernel
theorem len_x_claim_right {A : Adr} {ds : List DV} {M : Mem} {P : PD} {PX : PXn} (h : sp_x_claim_right A ds M P PX) : ds.length = (["_law_state", "_law_script"] : List Str).length := len_noA h
theorem b_x_claim_right {A : Adr} {ds : List DV} {M : Mem} {P : PD} {PX : PXn} (h : sp_x_claim_right A ds M P PX) : l_x_claim_right A { nx := fun _ M' => DropD M.length P .non M', rt := DropD M.length P } (startL N_x_claim_right ds) M := by
  obtain ⟨ns, as, o, rfl, hns, rfl, ho, e, k⟩ := h
  cases (show as = [] from e)
  show l_x_claim_right A _ [some (.obj 0), some (.dat (.lst (ns.map .int))), none, none, none, none, none, none, none, none] _
  have t6 : ∀ (w t : Str) (o : MO) (y4 : Option DV), isWord w = true → w.length ≤ 10 → 10 ∉ w.cps.toList → t.length ≤ 4000 → txC t → Dr o → l_x_claim_right_t6 A ⟨fun _ M' => DropD 1 P .non M', DropD 1 P, fun _ _ => False, fun _ _ => False, fun _ _ _ => False⟩
      [some (.obj 0), some (.dat (.lst (ns.map .int))), some (.dat (.str w)), some (.dat (.str t)), y4, none, none, none, none, none] [o] := by
    intro w t o y4 hw hwl hw10 htl htc ho
    have hge := goodF_eq hw htc
    have hzt : t.length ≤ sizeLine := by show _ ≤ 2 ^ 24; omega
    have fin : DropD 1 P (.dat (.bl true)) [o] := finD ho (k _ _ rfl ho)
    have hv : okT (joinC w t) := by show _ ≤ 10000; rw [joinC_len]; omega
    have t11 : ∀ (g r : Bool), g = goodF w t → l_x_claim_right_t11 A ⟨fun _ M' => DropD 1 P .non M', DropD 1 P, fun _ _ => False, fun _ _ => False, fun _ _ _ => False⟩
      [some (.obj 0), some (.dat (.lst (ns.map .int))), some (.dat (.str w)), some (.dat (.str t)), y4, some (.dat (.str (joinC w t))), some (.dat (.bl r)), some (.dat (.bl g)), none, none] [o] := by
      intro g r hg
      unfold l_x_claim_right_t11
      repeat infer_instance
      refine s_tryAs ?_
      repeat infer_instance
      refine s_callX ?_
      repeat infer_instance
      refine call_read hv (.inl ⟨w, t, hw10, rfl, fun h => ?_, fun h => ?_⟩)
      · rw [h] at hg
        subst hg
        unfold l_x_claim_right_t12
        repeat infer_instance
        refine call_same (d := .tup [.str w, .str t]) ⟨by show 2 ≤ _; decide, fun d hd => ?_⟩ fin
        simp only [List.mem_cons, List.not_mem_nil, or_false] at hd
        rcases hd with rfl | rfl <;> trivial
      · rw [h] at hg
        subst hg
        refine ⟨true, by simp, fun _ a d => ?_, fun h => by cases h⟩
        repeat infer_instance
        refine s_isE rfl ?_
        exact fin
    have t10 : ∀ (g r : Bool), g = ((decide (w = ("made" : Str)) && decide (t.length < 2001)) || (decide (t.length < 81) && !decide (10 ∈ t.cps.toList))) → l_x_claim_right_t10 A ⟨fun _ M' => DropD 1 P .non M', DropD 1 P, fun _ _ => False, fun _ _ => False, fun _ _ _ => False⟩
      [some (.obj 0), some (.dat (.lst (ns.map .int))), some (.dat (.str w)), some (.dat (.str t)), y4, some (.dat (.str (joinC w t))), some (.dat (.bl r)), some (.dat (.bl g)), none, none] [o] := by
      intro g r hg
      rw [← hg] at hge
      unfold l_x_claim_right_t10
      repeat infer_instance
      cases g with
      | false =>
        repeat infer_instance
        exact t11 _ r (by rw [hge]; rfl)
      | true =>
        repeat infer_instance
        refine s_inC rfl rfl ?_
        exact t11 _ r (by rw [hge, Bool.true_and]; rfl)
    have t9 : ∀ (r : Bool), l_x_claim_right_t9 A ⟨fun _ M' => DropD 1 P .non M', DropD 1 P, fun _ _ => False, fun _ _ => False, fun _ _ _ => False⟩
      [some (.obj 0), some (.dat (.lst (ns.map .int))), some (.dat (.str w)), some (.dat (.str t)), y4, some (.dat (.str (joinC w t))), some (.dat (.bl r)), none, none, none] [o] := by
      intro r
      unfold l_x_claim_right_t9
      repeat infer_instance
      refine s_ite (fun h1 => ?_) (fun h1 => ?_)
      · have h1 : decide (w = ("made" : Str)) = true := h1
        rw [h1, Bool.true_and] at t10
        repeat infer_instance
        rw [show decide ((t.length : Int) < 2001) = decide (t.length < 2001) by rw [decide_eq_decide]; omega]
        refine s_ite (fun h2 => ?_) (fun h2 => ?_)
        · rw [h2, Bool.true_or] at t10
          repeat infer_instance
          exact t10 true r rfl
        · have h3 : decide (t.length < 81) = false := by have := of_decide_eq_false h2; exact decide_eq_false (by omega)
          rw [h2, h3, Bool.false_or, Bool.false_and] at t10
          repeat infer_instance
          rw [show decide ((t.length : Int) < 81) = decide (t.length < 81) by rw [decide_eq_decide]; omega, h3]
          repeat infer_instance
          exact t10 false r rfl
      · have h1 : decide (w = ("made" : Str)) = false := h1
        rw [h1, Bool.false_and, Bool.false_or] at t10
        repeat infer_instance
        rw [show decide ((t.length : Int) < 81) = decide (t.length < 81) by rw [decide_eq_decide]; omega]
        refine s_ite (fun h2 => ?_) (fun h2 => ?_)
        · rw [h2, Bool.true_and] at t10
          repeat infer_instance
          refine s_inC rfl rfl ?_
          exact t10 _ r rfl
        · rw [h2, Bool.false_and] at t10
          repeat infer_instance
          exact t10 false r rfl
    have t8 : ∀ (r : Bool), l_x_claim_right_t8 A ⟨fun _ M' => DropD 1 P .non M', DropD 1 P, fun _ _ => False, fun _ _ => False, fun _ _ _ => False⟩
      [some (.obj 0), some (.dat (.lst (ns.map .int))), some (.dat (.str w)), some (.dat (.str t)), y4, some (.dat (.str (joinC w t))), some (.dat (.bl r)), none, none, none] [o] := by
      intro r
      unfold l_x_claim_right_t8
      cases r with
      | false =>
        repeat infer_instance
        exact t9 false
      | true =>
        repeat infer_instance
        refine s_inC rfl rfl ?_
        repeat infer_instance
        refine s_ite (fun h1 => ?_) (fun h1 => ?_)
        · repeat infer_instance
          refine call_F (.cons .nil) ⟨w, t, by show _ ≤ 10000; omega, by show _ ≤ 10000; omega, rfl, rfl⟩ ?_
          repeat infer_instance
          refine call_same (d := .str (joinC w t)) trivial ?_
          repeat infer_instance
          exact t9 true
        · repeat infer_instance
          exact t9 true
    unfold l_x_claim_right_t6
    repeat infer_instance
    refine s_addS (by show _ + 1 ≤ 2 ^ 24; omega) ?_
    repeat infer_instance
    refine s_addS (by rw [app_len]; show _ + 1 + _ ≤ 2 ^ 24; omega) ?_
    rw [show w ++ ("\n" : Str) ++ t = joinC w t from rfl]
    unfold l_x_claim_right_t7
    repeat infer_instance
    refine s_ite (fun h1 => ?_) (fun h1 => ?_)
    · repeat infer_instance
      refine s_ite (fun h2 => ?_) (fun h2 => ?_)
      · repeat infer_instance
        exact t8 true
      · repeat infer_instance
        refine s_ite (fun h3 => ?_) (fun h3 => ?_)
        · repeat infer_instance
          refine s_inC rfl rfl ?_
          exact t8 _
        · repeat infer_instance
          exact t8 false
    · repeat infer_instance
      refine s_ite (fun h3 => ?_) (fun h3 => ?_)
      · repeat infer_instance
        refine s_inC rfl rfl ?_
        exact t8 _
      · repeat infer_instance
        exact t8 false
  have t5 : ∀ (w t : Str) (o : MO) (y4 : Option DV), isWord w = true → w.length ≤ 10 → 10 ∉ w.cps.toList → t.length ≤ 3000 → txC t → Dr o → l_x_claim_right_t5 A ⟨fun _ M' => DropD 1 P .non M', DropD 1 P, fun _ _ => False, fun _ _ => False, fun _ _ _ => False⟩
      [some (.obj 0), some (.dat (.lst (ns.map .int))), some (.dat (.str w)), some (.dat (.str t)), y4, none, none, none, none, none] [o] := by
    intro w t o y4 hw hwl hw10 htl htc ho
    unfold l_x_claim_right_t5
    repeat infer_instance
    refine call_next rfl ho hns (by decide) (by decide) fun r o1 hr0 hr1 ho1 => ?_
    repeat infer_instance
    refine s_ite (fun h1 => ?_) (fun h1 => ?_)
    · repeat infer_instance
      refine s_addS (by show _ + 1 ≤ 2 ^ 24; omega) ?_
      exact t6 w _ o1 y4 hw hwl hw10 (by rw [app_len]; show _ + 1 ≤ _; omega) (txC_app htc (txC_of (by decide +kernel))) ho1
    · repeat infer_instance
      exact t6 w t o1 y4 hw hwl hw10 (by omega) htc ho1
  have t4 : ∀ (w t : Str) (o : MO) (y4 : Option DV), isWord w = true → w.length ≤ 10 → 10 ∉ w.cps.toList → t.length ≤ 3000 → txC t → Dr o → l_x_claim_right_t4 A ⟨fun _ M' => DropD 1 P .non M', DropD 1 P, fun _ _ => False, fun _ _ => False, fun _ _ _ => False⟩
      [some (.obj 0), some (.dat (.lst (ns.map .int))), some (.dat (.str w)), some (.dat (.str t)), y4, none, none, none, none, none] [o] := by
    intro w t o y4 hw hwl hw10 htl htc ho
    unfold l_x_claim_right_t4
    repeat infer_instance
    refine call_next rfl ho hns (by decide) (by decide) fun r o1 hr0 hr1 ho1 => ?_
    repeat infer_instance
    refine s_ite (fun h1 => ?_) (fun h1 => ?_)
    · repeat infer_instance
      refine s_mulG (by decide) (by decide) (by decide +kernel) (by decide +kernel) fun x hx hxc => ?_
      have hx : x.length = 1995 := hx
      repeat infer_instance
      refine call_next rfl ho1 hns (by decide) (by decide) fun q o2 hq0 hq1 ho2 => ?_
      repeat infer_instance
      refine s_slS (by decide +kernel) ?_
      have l6 := cutS_len ("abcdef" : Str) none (some (4 + q))
      have c6 : txC (cutS ("abcdef" : Str) none (some (4 + q))) := by
        obtain ⟨j, rfl⟩ := Int.eq_ofNat_of_zero_le hq0
        rw [show (4 : Int) + (j : Int) = ((4 + j : Nat) : Int) by omega, cut_to]
        intro c hc
        rw [cs_S] at hc
        exact txC_of (z := ("abcdef" : Str)) (by decide +kernel) c (List.mem_of_mem_take hc)
      rw [show ("abcdef" : Str).length = 6 by decide +kernel] at l6
      generalize cutS ("abcdef" : Str) none (some (4 + q)) = y at l6 c6
      refine s_addS (by show _ ≤ 2 ^ 24; omega) ?_
      exact t5 w _ o2 y4 hw hwl hw10 (by rw [app_len]; omega) (txC_app hxc c6) ho2
    · repeat infer_instance
      exact t5 w t o1 y4 hw hwl hw10 (by omega) htc ho1
  have t3 : ∀ (w t : Str) (o : MO) (y4 : Option DV), isWord w = true → w.length ≤ 10 → 10 ∉ w.cps.toList → t.length ≤ 3000 → txC t → Dr o → l_x_claim_right_t3 A ⟨fun _ M' => DropD 1 P .non M', DropD 1 P, fun _ _ => False, fun _ _ => False, fun _ _ _ => False⟩
      [some (.obj 0), some (.dat (.lst (ns.map .int))), some (.dat (.str w)), some (.dat (.str t)), y4, none, none, none, none, none] [o] := by
    intro w t o y4 hw hwl hw10 htl htc ho
    unfold l_x_claim_right_t3
    repeat infer_instance
    refine call_next rfl ho hns (by decide) (by decide) fun r o1 hr0 hr1 ho1 => ?_
    repeat infer_instance
    refine s_ite (fun h1 => ?_) (fun h1 => ?_)
    · repeat infer_instance
      refine call_next rfl ho1 hns (by decide) (by decide) fun q o2 hq0 hq1 ho2 => ?_
      repeat infer_instance
      refine s_mulG (by omega) (by omega) (by show 1 * _ ≤ 2 ^ 24; omega) (by decide +kernel) fun x hx hxc => ?_
      have hx : x.length = 1 * (79 + q).toNat := hx
      exact t4 w x o2 y4 hw hwl hw10 (by omega) hxc ho2
    · repeat infer_instance
      exact t4 w t o1 y4 hw hwl hw10 (by omega) htc ho1
  unfold l_x_claim_right
  repeat infer_instance
  refine call_next rfl ho hns (by decide) (by decide) fun r o1 hr0 hr1 ho1 => ?_
  obtain ⟨w, hat, hw⟩ := pickB (p := fun w => isWord w && (decide (w.length ≤ 10) && decide (10 ∉ w.cps.toList))) (xs := ["made", "failed"]) hr0 hr1 (by decide +kernel)
  rw [Bool.and_eq_true, Bool.and_eq_true, decide_eq_true_eq, decide_eq_true_eq] at hw
  obtain ⟨hw, hwl, hw10⟩ := hw
  refine s_ixL hat ?_
  unfold l_x_claim_right_t1
  repeat infer_instance
  refine s_lc ?_
  repeat infer_instance
  refine call_next rfl ho1 hns (by decide) (by decide) fun n o2 hn0 hn1 ho2 => ?_
  repeat infer_instance
  refine s_exrng (by omega) (by omega) ?_
  refine ⟨fun i acc M => ∃ o, ∃ l : List Nat, M = [o] ∧ Dr o ∧ acc = (l.map fun c => S [c]).map D.str ∧ l.length = i ∧ ∀ c ∈ l, allowed c = true, ⟨o2, [], rfl, ho2, rfl, rfl, by simp⟩, fun _ _ _ _ => trivial, ?_, ?_⟩
  · rintro i x acc M hx ⟨o3, l, rfl, ho3, rfl, hl, ha⟩
    obtain ⟨hi', rfl⟩ := rangeD_at hx
    repeat infer_instance
    refine call_next rfl ho3 hns (by decide) (by decide) fun v o4 hv0 hv1 ho4 => ?_
    obtain ⟨c, hc, hcm⟩ := atI_ex (xs := C95.cps.toList) hv0 (by rw [c95_len]; omega)
    repeat infer_instance
    refine call_F (.cons .nil) ⟨v, c, rfl, hc, rfl⟩ ?_
    refine ⟨by rw [List.length_map, List.length_map, hl]; show _ < 2 ^ 24; omega, _, rfl, .inl ⟨o4, l ++ [c], rfl, ho4, by simp, by simp [hl], fun b hb => ?_⟩⟩
    rcases List.mem_append.mp hb with h | h
    · exact ha b h
    · rw [List.mem_singleton.mp h]; exact all_c95 c hcm
  rintro acc M ⟨o3, l, rfl, ho3, rfl, hl, ha⟩
  have hrl : (rangeD 0 n.toNat).length = n.toNat := by simp [rangeD]
  rw [hrl] at hl
  have hll : l.length ≤ 12 := by omega
  have hsl : (S l).length = l.length := by rw [len_cs, cs_S]
  have hj := join_signs l
  repeat infer_instance
  refine s_joinL ?_ ?_
  · rw [show ("" : Str).length = 0 from rfl, Nat.mul_zero, Nat.add_zero]
    have := sum_le (xs := l.map fun c => S [c]) (m := 1) fun x hx => by obtain ⟨c, _, rfl⟩ := List.mem_map.mp hx; exact Nat.le_refl _
    rw [List.length_map] at this
    show _ ≤ 2 ^ 24
    omega
  rw [hj]
  have htc : txC (S l) := fun c hc => by rw [cs_S] at hc; exact .inl (ha c hc)
  unfold l_x_claim_right_t2
  repeat infer_instance
  refine call_next rfl ho3 hns (by decide) (by decide) fun q o4 hq0 hq1 ho4 => ?_
  repeat infer_instance
  refine s_mulG (by omega) (by omega) (by show 12 * _ ≤ 2 ^ 24; omega) (by decide +kernel) fun x hx hxc => ?_
  have hx : x.length = 12 * q.toNat := hx
  repeat infer_instance
  refine s_addS (by show _ ≤ 2 ^ 24; omega) ?_
  exact t3 w _ o4 _ hw hwl hw10 (by rw [app_len]; omega) (txC_app htc hxc) ho4

/-- no text that read_claim takes: no newline, or another word ahead of the first one -/
def badB (v : Str) : Bool := decide (v.length ≤ 100) && (decide (10 ∉ v.cps.toList) || !isWord (S (v.cps.toList.takeWhile fun c => decide (c ≠ 10))))
theorem tw_free : ∀ l : List Nat, 10 ∉ l.takeWhile fun c => decide (c ≠ 10)
  | [] => by simp
  | c :: l => by
    rw [List.takeWhile_cons]
    split
    · rename_i h
      intro hm
      rcases List.mem_cons.mp hm with e | e
      · subst e
        exact absurd h (by decide)
      · exact tw_free l e
    · simp
theorem bad_v {v : Str} (h : badB v = true) : v.length ≤ 100 ∧ ((∃ w t : Str, 10 ∉ w.cps.toList ∧ v = joinC w t ∧ goodF w t = false) ∨ 10 ∉ v.cps.toList) := by
  unfold badB at h
  rw [Bool.and_eq_true, Bool.or_eq_true, decide_eq_true_eq, decide_eq_true_eq, Bool.not_eq_true'] at h
  refine ⟨h.1, ?_⟩
  by_cases hm : 10 ∈ v.cps.toList
  · have hw : isWord (S (v.cps.toList.takeWhile fun c => decide (c ≠ 10))) = false := h.2.elim (fun g => absurd hm g) id
    refine .inl ⟨S (v.cps.toList.takeWhile fun c => decide (c ≠ 10)), S ((v.cps.toList.dropWhile fun c => decide (c ≠ 10)).drop 1), by rw [cs_S]; exact tw_free _, ?_, ?_⟩
    · refine cs_inj ?_
      unfold joinC
      rw [cs_app, cs_app, cs_S, cs_S, nl_cs]
      have e := List.takeWhile_append_dropWhile (p := fun c => decide (c ≠ 10)) (l := v.cps.toList)
      have hd : ∃ r, v.cps.toList.dropWhile (fun c => decide (c ≠ 10)) = 10 :: r := by
        cases hq : v.cps.toList.dropWhile (fun c => decide (c ≠ 10)) with
        | nil =>
          rw [hq, List.append_nil] at e
          rw [← e] at hm
          exact absurd hm (tw_free _)
        | cons c r =>
          have := List.head_dropWhile_not (fun c => decide (c ≠ 10)) (l := v.cps.toList) (by rw [hq]; simp)
          simp only [hq, List.head_cons] at this
          have : c = 10 := by simpa using this
          exact ⟨r, by rw [this]⟩
      obtain ⟨r, hr⟩ := hd
      rw [hr] at e ⊢
      exact e.symm.trans (by simp)
    · unfold goodF
      rw [hw]
      rfl
  · exact .inr hm
def ways (w : Str) (i : Int) : List Str := [w, "", ("\n" : Str) ++ w, w ++ (" \na" : Str), w ++ ("s\na" : Str), ((" " : Str) ++ w) ++ ("\na" : Str), (cutS w none (some i) ++ cutS w (some (i + 1)) none) ++ ("a\nb" : Str), ((cutS w none (some i) ++ ("M" : Str)) ++ cutS w (some i) none) ++ ("\na" : Str), w ++ ("a" : Str), (("a\n" : Str) ++ w) ++ ("\n" : Str)]
theorem ways_bad : ∀ w ∈ [("made" : Str), "failed"], ∀ i : Nat, i < w.length + 1 → (ways w i).all badB = true := by
  intro w hw i hi
  simp only [List.mem_cons, List.not_mem_nil, or_false] at hw
  rcases hw with rfl | rfl
  · have hi : i < 5 := hi
    revert i
    decide +kernel
  · have hi : i < 7 := hi
    revert i
    decide +kernel
theorem call_readB {A : Adr} {v : Str} {M : Mem} {P : PD} {PX : PXn} (hv : okT v) (h : (∃ w t : Str, 10 ∉ w.cps.toList ∧ v = joinC w t ∧ goodF w t = false) ∨ 10 ∉ v.cps.toList) (k : PX ⟨A.BadMessage, []⟩ M) : CallAt (sp_read_claim A) [.dat (.str v)] M P PX := by
  refine call_read hv ?_
  rcases h with ⟨w, t, h1, h2, h3⟩ | h
  · refine .inl ⟨w, t, h1, h2, fun g => ?_, fun _ => k⟩
    rw [h3] at g
    cases g
  · exact .inr ⟨h, k⟩
theorem len_x_claim_refused {A : Adr} {ds : List DV} {M : Mem} {P : PD} {PX : PXn} (h : sp_x_claim_refused A ds M P PX) : ds.length = (["_law_state", "_law_script"] : List Str).length := len_noA h
theorem b_x_claim_refused {A : Adr} {ds : List DV} {M : Mem} {P : PD} {PX : PXn} (h : sp_x_claim_refused A ds M P PX) : l_x_claim_refused A { nx := fun _ M' => DropD M.length P .non M', rt := DropD M.length P } (startL N_x_claim_refused ds) M := by
  obtain ⟨ns, as, o, rfl, hns, rfl, ho, e, k⟩ := h
  cases (show as = [] from e)
  show l_x_claim_refused A _ [some (.obj 0), some (.dat (.lst (ns.map .int))), none, none, none, none] _
  unfold l_x_claim_refused
  repeat infer_instance
  refine call_next rfl ho hns (by decide) (by decide) fun r o1 hr0 hr1 ho1 => ?_
  obtain ⟨w, hat, hw⟩ := pickB (p := fun w => decide (w ∈ [("made" : Str), "failed"]) && decide (w.length ≤ 10)) (xs := ["made", "failed"]) hr0 hr1 (by decide +kernel)
  rw [Bool.and_eq_true, decide_eq_true_eq, decide_eq_true_eq] at hw
  obtain ⟨hw, hwl⟩ := hw
  have hz : w.length ≤ sizeLine := by show _ ≤ 2 ^ 24; omega
  refine s_ixL hat ?_
  unfold l_x_claim_refused_t1
  repeat infer_instance
  refine call_next rfl ho1 hns (by omega) (by omega) fun i o2 hi0 hi1 ho2 => ?_
  obtain ⟨j, rfl⟩ := Int.eq_ofNat_of_zero_le hi0
  have hb := ways_bad w hw j (by omega)
  have l1 := cutS_len w none (some (j : Int))
  have l2 := cutS_len w (some ((j : Int) + 1)) none
  have l3 := cutS_len w (some (j : Int)) none
  unfold l_x_claim_refused_t2
  repeat infer_instance
  refine s_addS (by show 1 + _ ≤ 2 ^ 24; omega) ?_
  repeat infer_instance
  refine s_addS (by show _ + 3 ≤ 2 ^ 24; omega) ?_
  repeat infer_instance
  refine s_addS (by show _ + 3 ≤ 2 ^ 24; omega) ?_
  repeat infer_instance
  refine s_addS (by show 1 + _ ≤ 2 ^ 24; omega) ?_
  repeat infer_instance
  refine s_addS (by rw [app_len]; show 1 + _ + 2 ≤ 2 ^ 24; omega) ?_
  repeat infer_instance
  refine s_addS (by show _ ≤ 2 ^ 24; omega) ?_
  repeat infer_instance
  refine s_addS (by rw [app_len]; show _ + 3 ≤ 2 ^ 24; omega) ?_
  repeat infer_instance
  unfold l_x_claim_refused_t3
  repeat infer_instance
  refine s_addS (by show _ + 1 ≤ 2 ^ 24; omega) ?_
  repeat infer_instance
  refine s_addS (by rw [app_len]; show _ + 1 + _ ≤ 2 ^ 24; omega) ?_
  repeat infer_instance
  refine s_addS (by rw [app_len, app_len]; show _ + 1 + _ + 2 ≤ 2 ^ 24; omega) ?_
  repeat infer_instance
  refine s_addS (by show _ + 1 ≤ 2 ^ 24; omega) ?_
  repeat infer_instance
  refine s_addS (by show 2 + _ ≤ 2 ^ 24; omega) ?_
  repeat infer_instance
  refine s_addS (by rw [app_len]; show 2 + _ + 1 ≤ 2 ^ 24; omega) ?_
  repeat infer_instance
  refine s_addL (by show 10 ≤ 2 ^ 24; decide) ?_
  rw [show [D.str w, D.str (Str.ofString ""), D.str (Str.ofString "\n" ++ w), D.str (w ++ Str.ofString " \na"),
          D.str (w ++ Str.ofString "s\na"), D.str (Str.ofString " " ++ w ++ Str.ofString "\na"),
          D.str (cutS w none (some ↑j) ++ cutS w (some (↑j + 1)) none ++ Str.ofString "a\nb")] ++
      [D.str (cutS w none (some ↑j) ++ Str.ofString "M" ++ cutS w (some ↑j) none ++ Str.ofString "\na"),
          D.str (w ++ Str.ofString "a"), D.str (Str.ofString "a\n" ++ w ++ Str.ofString "\n")] = (ways w j).map D.str from rfl]
  have hwl10 : (ways w j).length = 10 := rfl
  generalize ways w j = vs at hb hwl10
  unfold l_x_claim_refused_t4
  repeat infer_instance
  refine s_tryAs ?_
  repeat infer_instance
  refine s_callX ?_
  repeat infer_instance
  refine call_next rfl ho2 hns (by decide) (by decide) fun q o3 hq0 hq1 ho3 => ?_
  obtain ⟨v, hv, hvb⟩ := pickB (p := badB) (xs := vs) hq0 (by rw [hwl10]; exact hq1) hb
  refine s_ixL hv ?_
  obtain ⟨hvl, hvk⟩ := bad_v hvb
  repeat infer_instance
  refine call_readB (by show _ ≤ 10000; omega) hvk ?_
  refine ⟨true, by simp, fun _ a d => ?_, fun h => by cases h⟩
  repeat infer_instance
  refine s_isE rfl ?_
  repeat infer_instance
  refine s_isE rfl ?_
  repeat infer_instance
  exact finD ho3 (k _ _ rfl ho3)
theorem len_law {ds : List DV} {M : Mem} {P : PD} {PX : PXn} (h : sp_law ds M P PX) : ds.length = (["_law_script"] : List Str).length := by
  obtain ⟨ns, rfl, _⟩ := h
  rfl
theorem b_law {A : Adr} {ds : List DV} {M : Mem} {P : PD} {PX : PXn} (h : sp_law ds M P PX) : l_law A { nx := fun _ M' => DropD M.length P .non M', rt := DropD M.length P } (startL N_law ds) M := by
  obtain ⟨ns, rfl, hns, rfl, k⟩ := h
  show l_law A _ [some (.dat (.lst (ns.map .int))), none, none] _
  have fin : ∀ o, DropD 0 P (.dat (.bl true)) [o] := fun o => ⟨0, Nat.le_refl _, rfl, rfl, k⟩
  unfold l_law
  repeat infer_instance
  refine ⟨Nat.le_of_ble_eq_true rfl, ?_⟩
  unfold l_law_t1
  repeat infer_instance
  refine s_exrng (by omega) (by omega) ?_
  refine ⟨fun i ρ M => ∃ (o : MO) (y2 : Option DV), M = [o] ∧ Dr o ∧ ρ = [some (.dat (.lst (ns.map .int))), some (.obj 0), y2], ⟨_, none, rfl, ⟨0, 0, 1, rfl, by decide, by decide, by decide, by decide⟩, rfl⟩, fun _ _ _ _ => trivial, ?_, ?_⟩
  · rintro i x ρ M hx ⟨o, y2, rfl, ho, rfl⟩
    obtain ⟨hi, rfl⟩ := rangeD_at hx
    repeat infer_instance
    refine call_draw rfl ho hns .nil rfl ?_
    rintro _ o1 rfl ho1
    repeat infer_instance
    refine call_draw rfl ho1 hns .nil rfl ?_
    rintro _ o2 rfl ho2
    repeat infer_instance
    refine call_draw rfl ho2 hns .nil rfl ?_
    rintro _ o3 rfl ho3
    repeat infer_instance
    exact .inl ⟨o3, _, rfl, ho3, rfl⟩
  · rintro ρ M ⟨o, y2, rfl, ho, rfl⟩
    unfold l_law_t2
    repeat infer_instance
    exact fin _

end K73
namespace K73
open PySem L2 L3
structure Ad where
  f_is_allowed : Addr
  d_is_allowed : FuncData
  f_text_fault : Addr
  d_text_fault : FuncData
  f_is_number : Addr
  d_is_number : FuncData
  f_is_word : Addr
  d_is_word : FuncData
  f_key_text : Addr
  d_key_text : FuncData
  f_read_key : Addr
  d_read_key : FuncData
  f_claim_text : Addr
  d_claim_text : FuncData
  f_read_claim : Addr
  d_read_claim : FuncData
  f_x_next : Addr
  d_x_next : FuncData
  f_x_same : Addr
  d_x_same : FuncData
  f_x_char : Addr
  d_x_char : FuncData
  f_x_reserved : Addr
  d_x_reserved : FuncData
  f_x_drawn_tool : Addr
  d_x_drawn_tool : FuncData
  f_x_is_word : Addr
  d_x_is_word : FuncData
  f_x_told : Addr
  d_x_told : FuncData
  f_x_turned : Addr
  d_x_turned : FuncData
  f_x_key_right : Addr
  d_x_key_right : FuncData
  f_x_claim_right : Addr
  d_x_claim_right : FuncData
  f_x_claim_refused : Addr
  d_x_claim_refused : FuncData
  f_law : Addr
  d_law : FuncData
  f_BadText_init : Addr
  d_BadText_init : FuncData
  c_text_fault : Addr
  t_text_fault : Addr
  c_is_number : Addr
  t_is_number : Addr
  c_is_word : Addr
  t_is_word : Addr
  c_read_key : Addr
  t_read_key : Addr
def tbl (a : Ad) : Tb := ⟨[a.t_text_fault, a.t_is_number, a.t_is_word, a.t_read_key], [], by simp⟩
structure Tbs (base : Heap) (mg : Str → Option Value) (a : Ad) : Prop where
  b_text_fault : GxR.TabB base mg a.c_text_fault a.t_text_fault
  b_is_number : GxR.TabB base mg a.c_is_number a.t_is_number
  b_is_word : GxR.TabB base mg a.c_is_word a.t_is_word
  b_read_key : GxR.TabB base mg a.c_read_key a.t_read_key
theorem tn_text_fault {base : Heap} {mg : Str → Option Value} {a : Ad} (B : Tbs base mg a) : ∀ p ∈ (tbl a).qs, p.1 ≠ a.t_text_fault := by
  intro p hp
  simp [tbl] at hp
theorem tn_is_number {base : Heap} {mg : Str → Option Value} {a : Ad} (B : Tbs base mg a) : ∀ p ∈ (tbl a).qs, p.1 ≠ a.t_is_number := by
  intro p hp
  simp [tbl] at hp
theorem tn_is_word {base : Heap} {mg : Str → Option Value} {a : Ad} (B : Tbs base mg a) : ∀ p ∈ (tbl a).qs, p.1 ≠ a.t_is_word := by
  intro p hp
  simp [tbl] at hp
theorem tn_read_key {base : Heap} {mg : Str → Option Value} {a : Ad} (B : Tbs base mg a) : ∀ p ∈ (tbl a).qs, p.1 ≠ a.t_read_key := by
  intro p hp
  simp [tbl] at hp
structure Txt (P : Program) (K : PySem.W.Frag) (mg : Str → Option Value) (A : Adr) (a : Ad) : Prop where
  m_abs : mg "abs" = none
  m_all : mg "all" = none
  m_any : mg "any" = none
  m_bool : mg "bool" = none
  m_int : mg "int" = none
  m_isinstance : mg "isinstance" = none
  m_len : mg "len" = none
  m_list : mg "list" = none
  m_ord : mg "ord" = none
  m_range : mg "range" = none
  m_str : mg "str" = none
  m_super : mg "super" = none
  m_tuple : mg "tuple" = none
  c_ARG_LENGTH : ∃ t, mg "ARG_LENGTH" = some (.int 60 t)
  c_DIGITS : ∃ t, mg "DIGITS" = some (.str "0123456789" t)
  c_LETTERS : ∃ t, mg "LETTERS" = some (.str "abcdefghijklmnopqrstuvwxyz" t)
  c_MOST_ARGS : ∃ t, mg "MOST_ARGS" = some (.int 12 t)
  c_MOST_NAMES : ∃ t, mg "MOST_NAMES" = some (.int 24 t)
  c_REASON_LENGTH : ∃ t, mg "REASON_LENGTH" = some (.int 80 t)
  c_TEXT_LENGTH : ∃ t, mg "TEXT_LENGTH" = some (.int 2000 t)
  c_WORD_CHARACTERS : ∃ t, mg "WORD_CHARACTERS" = some (.str "abcdefghijklmnopqrstuvwxyz0123456789_" t)
  c_WORD_LENGTH : ∃ t, mg "WORD_LENGTH" = some (.int 20 t)
  F_is_allowed : Fun K "is_allowed" "is_allowed" s_is_allowed a.f_is_allowed a.d_is_allowed
  B_is_allowed : Binds K a.d_is_allowed ["letter"] []
  g_is_allowed : mg "is_allowed" = some (.ref a.f_is_allowed)
  F_text_fault : Fun K "text_fault" "text_fault" s_text_fault a.f_text_fault a.d_text_fault
  e_text_fault : a.d_text_fault.code = .ref a.c_text_fault
  B_text_fault : Binds K a.d_text_fault ["text"] []
  g_text_fault : mg "text_fault" = some (.ref a.f_text_fault)
  F_is_number : Fun K "is_number" "is_number" s_is_number a.f_is_number a.d_is_number
  e_is_number : a.d_is_number.code = .ref a.c_is_number
  B_is_number : Binds K a.d_is_number ["text"] []
  g_is_number : mg "is_number" = some (.ref a.f_is_number)
  F_is_word : Fun K "is_word" "is_word" s_is_word a.f_is_word a.d_is_word
  e_is_word : a.d_is_word.code = .ref a.c_is_word
  B_is_word : Binds K a.d_is_word ["text"] []
  g_is_word : mg "is_word" = some (.ref a.f_is_word)
  F_key_text : Fun K "key_text" "key_text" s_key_text a.f_key_text a.d_key_text
  B_key_text : Binds K a.d_key_text ["key"] []
  g_key_text : mg "key_text" = some (.ref a.f_key_text)
  F_read_key : Fun K "read_key" "read_key" s_read_key a.f_read_key a.d_read_key
  e_read_key : a.d_read_key.code = .ref a.c_read_key
  B_read_key : Binds K a.d_read_key ["text"] []
  g_read_key : mg "read_key" = some (.ref a.f_read_key)
  F_claim_text : Fun K "claim_text" "claim_text" s_claim_text a.f_claim_text a.d_claim_text
  B_claim_text : Binds K a.d_claim_text ["result"] []
  g_claim_text : mg "claim_text" = some (.ref a.f_claim_text)
  F_read_claim : Fun K "read_claim" "read_claim" s_read_claim a.f_read_claim a.d_read_claim
  B_read_claim : Binds K a.d_read_claim ["text"] []
  g_read_claim : mg "read_claim" = some (.ref a.f_read_claim)
  F_x_next : Fun K "_law_next" "_law_next" s_x_next a.f_x_next a.d_x_next
  B_x_next : Binds K a.d_x_next ["_law_state", "_law_script", "_law_many"] []
  g_x_next : mg "_law_next" = some (.ref a.f_x_next)
  F_x_same : Fun K "_law_same" "_law_same" s_x_same a.f_x_same a.d_x_same
  B_x_same : Binds K a.d_x_same ["_law_actual", "_law_due"] []
  g_x_same : mg "_law_same" = some (.ref a.f_x_same)
  F_x_char : Fun K "_law_char" "_law_char" s_x_char a.f_x_char a.d_x_char
  B_x_char : Binds K a.d_x_char ["_law_number"] []
  g_x_char : mg "_law_char" = some (.ref a.f_x_char)
  F_x_reserved : Fun K "_law_reserved" "_law_reserved" s_x_reserved a.f_x_reserved a.d_x_reserved
  B_x_reserved : Binds K a.d_x_reserved [] []
  g_x_reserved : mg "_law_reserved" = some (.ref a.f_x_reserved)
  F_x_drawn_tool : Fun K "_law_drawn_tool" "_law_drawn_tool" s_x_drawn_tool a.f_x_drawn_tool a.d_x_drawn_tool
  B_x_drawn_tool : Binds K a.d_x_drawn_tool ["_law_state", "_law_script"] []
  g_x_drawn_tool : mg "_law_drawn_tool" = some (.ref a.f_x_drawn_tool)
  F_x_is_word : Fun K "_law_is_word" "_law_is_word" s_x_is_word a.f_x_is_word a.d_x_is_word
  B_x_is_word : Binds K a.d_x_is_word ["_law_word"] []
  g_x_is_word : mg "_law_is_word" = some (.ref a.f_x_is_word)
  F_x_told : Fun K "_law_told" "_law_told" s_x_told a.f_x_told a.d_x_told
  B_x_told : Binds K a.d_x_told ["_law_text"] []
  g_x_told : mg "_law_told" = some (.ref a.f_x_told)
  F_x_turned : Fun K "_law_turned" "_law_turned" s_x_turned a.f_x_turned a.d_x_turned
  B_x_turned : Binds K a.d_x_turned ["_law_state", "_law_script", "_law_tool", "_law_lines"] []
  g_x_turned : mg "_law_turned" = some (.ref a.f_x_turned)
  F_x_key_right : Fun K "_law_key_right" "_law_key_right" s_x_key_right a.f_x_key_right a.d_x_key_right
  B_x_key_right : Binds K a.d_x_key_right ["_law_state", "_law_script"] []
  g_x_key_right : mg "_law_key_right" = some (.ref a.f_x_key_right)
  F_x_claim_right : Fun K "_law_claim_right" "_law_claim_right" s_x_claim_right a.f_x_claim_right a.d_x_claim_right
  B_x_claim_right : Binds K a.d_x_claim_right ["_law_state", "_law_script"] []
  g_x_claim_right : mg "_law_claim_right" = some (.ref a.f_x_claim_right)
  F_x_claim_refused : Fun K "_law_claim_refused" "_law_claim_refused" s_x_claim_refused a.f_x_claim_refused a.d_x_claim_refused
  B_x_claim_refused : Binds K a.d_x_claim_refused ["_law_state", "_law_script"] []
  g_x_claim_refused : mg "_law_claim_refused" = some (.ref a.f_x_claim_refused)
  F_law : Fun K "law" "law" s_law a.f_law a.d_law
  B_law : Binds K a.d_law ["_law_script"] []
  g_law : mg "law" = some (.ref a.f_law)
  x_BadMessage : ExC K mg "BadMessage" A.BadMessage
  z_BadMessage : PySem.W.excIn K A.BadMessage [.type "ValueError", .type "Exception", .type "BaseException", .type "object"] "ValueError.__new__" = true
  x_BadText : ExC K mg "BadText" A.BadText
  i_BadText : Ex1 P K mg s_BadText_init "BadText" "BadText.__init__" "reason" A.BadText a.f_BadText_init a.d_BadText_init
  x_MillError : ExC K mg "MillError" A.MillError
  y_BadMessage_BadMessage : PySem.W.exmOne K (.ref A.BadMessage) (.ref A.BadMessage) = some true
  q_BadMessage : L2.ExcC K A.BadMessage
  w_BadMessage_BadText : PySem.W.kitOne K (.ref A.BadMessage) (.ref A.BadText) = some false
  w_BadMessage_MillError : PySem.W.kitOne K (.ref A.BadMessage) (.ref A.MillError) = some true
section
variable {P : Program} {w : World} {K : PySem.W.Frag} {mg : Str → Option Value} {base : Heap} {A : Adr} {a : Ad}
theorem ok_is_allowed (T : Txt P K mg A a) (B : Tbs base mg a) : FnOk P w K mg base CX0 1 a.f_is_allowed a.d_is_allowed ["letter"] (low K (tbl a) (sp_is_allowed A)) := by
  refine okL T.F_is_allowed sc_is_allowed (fun ds M Pd PX h => len_is_allowed h) ?_
  intro cdv Ar outer s H E hr
  have nd := sc_is_allowed.nd
  have hD : LPSs (cxOf CX0 P w K mg base N_is_allowed "is_allowed" (defScope s_is_allowed) a.f_is_allowed cdv Ar outer s H E).nox ⟨K, (tbl a), []⟩ W0 (defBody s_is_allowed) _ (l_is_allowed A) := (lpss_one (lps_ret (lp_or (lp_cmpK rEqA rfl (op_eqA hr.units) l2_eq (lp_var 0) lp_str (nomark _)) (lp_one (lp_and (lp_chain op_leA l2_ord op_leA l2_ord lp_str (lp_var 0) lp_str) (lp_one (lp_cmpK rNeA rfl (op_neA hr.units) l2_ne (lp_callB call_ord ll_ord rfl T.m_ord (by decide +kernel) (lpa_cons (lp_var 0) lpa_nil)) lp_int (nomark _))))))))
  exact ⟨_, _, hD, fun ds M Pd PX h => b_is_allowed h⟩
theorem ok_text_fault (T : Txt P K mg A a) (B : Tbs base mg a) : FnOk P w K mg base CX0 3 a.f_text_fault a.d_text_fault ["text"] (low K (tbl a) (sp_text_fault A)) := by
  have G_is_allowed := ok_is_allowed (P := P) (w := w) (base := base) T B
  refine okLc T.F_text_fault T.e_text_fault sc_text_fault (fun ds M Pd PX h => len_text_fault h) ?_
  intro Ar outer s H E hr
  have nd := sc_text_fault.nd
  have hD : LPSs (cxOf CX0 P w K mg base N_text_fault "text_fault" (defScope s_text_fault) a.f_text_fault (.ref a.c_text_fault) Ar outer s H E).nox ⟨K, (tbl a), []⟩ W0 (defBody s_text_fault) _ (l_text_fault A) := (lpss_cons (lps_if (lpt_cmp op_gtA l2_ord (lp_callBK rLenA rfl call_lenAny ll_lenA rfl T.m_len (by decide +kernel) (lpa_cons (lp_var 0) lpa_nil)) (lp_gintE rfl T.c_TEXT_LENGTH) (nomark _))
    (lpss_one (lps_ret lp_str))
    lpss_nil)
    (lpss_cons (lps_if (lpt_not (lpt_tru rfl (lp_allG (k := 1) (own := [("letter", 1)]) rfl nd (hr.mono (by omega)) rfl T.m_all B.b_text_fault (show a.t_text_fault ∈ (tbl a).ps from by simp [tbl]) (tn_text_fault B) rfl (show GenOk N_text_fault (defScope s_text_fault) _ _ from genOk_by (by decide +kernel)) (wm_name (by decide)) (lpi_any (lp_var 0) rfl) (fun _ _ _ _ _ _ => (lpg_name (i := 1) nd rfl (by first | exact Or.inl rfl | exact Or.inr rfl))) (fun _ _ _ _ _ _ hr => (lp_call G_is_allowed rfl (hr.mono (by omega)) rfl T.g_is_allowed T.F_is_allowed.kp T.B_is_allowed (lpa_cons (lp_var 1) lpa_nil))))))
    (lpss_one (lps_ret lp_str))
    lpss_nil)
    (lpss_one (lps_ret lp_non))))
  exact ⟨_, _, hD, fun ds M Pd PX h => b_text_fault h⟩
theorem ok_is_number (T : Txt P K mg A a) (B : Tbs base mg a) : FnOk P w K mg base CX0 2 a.f_is_number a.d_is_number ["text"] (low K (tbl a) (sp_is_number A)) := by
  refine okLc T.F_is_number T.e_is_number sc_is_number (fun ds M Pd PX h => len_is_number h) ?_
  intro Ar outer s H E hr
  have nd := sc_is_number.nd
  have hD : LPSs (cxOf CX0 P w K mg base N_is_number "is_number" (defScope s_is_number) a.f_is_number (.ref a.c_is_number) Ar outer s H E).nox ⟨K, (tbl a), []⟩ W0 (defBody s_is_number) _ (l_is_number A) := (lpss_cons (lps_if (LPW.lpt (lpw_or (lpt_not (lpt_chain op_leA l2_ord op_leA l2_ord lp_int (lp_callBK rLenA rfl call_lenAny ll_lenA rfl T.m_len (by decide +kernel) (lpa_cons (lp_var 0) lpa_nil)) lp_int)) (lpw_or1 (lpt_cmpK rEqA rfl (op_eqA hr.units) l2_eq (lp_ixA (hu_of hr) rfl (lp_var 0) lp_int) lp_str (nomark _)))))
    (lpss_one (lps_ret lp_bl))
    lpss_nil)
    (lpss_one (lps_ret (lp_allG (k := 0) (own := [("letter", 1)]) rfl nd (hr.mono (by omega)) rfl T.m_all B.b_is_number (show a.t_is_number ∈ (tbl a).ps from by simp [tbl]) (tn_is_number B) rfl (show GenOk N_is_number (defScope s_is_number) _ _ from genOk_by (by decide +kernel)) (wm_name (by decide)) (lpi_any (lp_var 0) rfl) (fun _ _ _ _ _ _ => (lpg_name (i := 1) nd rfl (by first | exact Or.inl rfl | exact Or.inr rfl))) (fun _ _ _ _ _ _ hr => (lp_cmpK (fun K => rInA K false) rfl (op_inA (hu_of hr)) (l2_inA false) (lp_var 1) (lp_gstrE rfl T.c_DIGITS) (by rfl)))))))
  exact ⟨_, _, hD, fun ds M Pd PX h => b_is_number h⟩
theorem ok_is_word (T : Txt P K mg A a) (B : Tbs base mg a) : FnOk P w K mg base CX0 2 a.f_is_word a.d_is_word ["text"] (low K (tbl a) (sp_is_word A)) := by
  refine okLc T.F_is_word T.e_is_word sc_is_word (fun ds M Pd PX h => len_is_word h) ?_
  intro Ar outer s H E hr
  have nd := sc_is_word.nd
  have hD : LPSs (cxOf CX0 P w K mg base N_is_word "is_word" (defScope s_is_word) a.f_is_word (.ref a.c_is_word) Ar outer s H E).nox ⟨K, (tbl a), []⟩ W0 (defBody s_is_word) _ (l_is_word A) := (lpss_cons (lps_if (LPW.lpt (lpw_or (lpt_not (lpt_chain op_leA l2_ord op_leA l2_ord lp_int (lp_callBK rLenA rfl call_lenAny ll_lenA rfl T.m_len (by decide +kernel) (lpa_cons (lp_var 0) lpa_nil)) (lp_gintE rfl T.c_WORD_LENGTH))) (lpw_or1 (lpt_cmpK (fun K => rInA K true) rfl (op_notInA (hu_of hr)) (l2_inA true) (lp_ixA (hu_of hr) rfl (lp_var 0) lp_int) (lp_gstrE rfl T.c_LETTERS) (by rfl)))))
    (lpss_one (lps_ret lp_bl))
    lpss_nil)
    (lpss_one (lps_ret (lp_allG (k := 0) (own := [("letter", 1)]) rfl nd (hr.mono (by omega)) rfl T.m_all B.b_is_word (show a.t_is_word ∈ (tbl a).ps from by simp [tbl]) (tn_is_word B) rfl (show GenOk N_is_word (defScope s_is_word) _ _ from genOk_by (by decide +kernel)) (wm_name (by decide)) (lpi_any (lp_var 0) rfl) (fun _ _ _ _ _ _ => (lpg_name (i := 1) nd rfl (by first | exact Or.inl rfl | exact Or.inr rfl))) (fun _ _ _ _ _ _ hr => (lp_cmpK (fun K => rInA K false) rfl (op_inA (hu_of hr)) (l2_inA false) (lp_var 1) (lp_gstrE rfl T.c_WORD_CHARACTERS) (by rfl)))))))
  exact ⟨_, _, hD, fun ds M Pd PX h => b_is_word h⟩
theorem ok_key_text (T : Txt P K mg A a) (B : Tbs base mg a) : FnOk P w K mg base CX0 1 a.f_key_text a.d_key_text ["key"] (low K (tbl a) (sp_key_text A)) := by
  refine okL T.F_key_text sc_key_text (fun ds M Pd PX h => len_key_text h) ?_
  intro cdv Ar outer s H E hr
  have nd := sc_key_text.nd
  have hD : LPSs (cxOf CX0 P w K mg base N_key_text "key_text" (defScope s_key_text) a.f_key_text cdv Ar outer s H E).nox ⟨K, (tbl a), []⟩ W0 (defBody s_key_text) _ (l_key_text A) := (lpss_cons (lps_asg (lp_var 0) (lpg_tup rfl rfl (lpgs_cons (lpg_name (i := 1) nd rfl (by first | exact Or.inl rfl | exact Or.inr rfl)) (lpgs_cons (lpg_name (i := 2) nd rfl (by first | exact Or.inl rfl | exact Or.inr rfl)) (lpgs_cons (lpg_name (i := 3) nd rfl (by first | exact Or.inl rfl | exact Or.inr rfl)) lpgs_nil)))))
    (lpss_cons (lps_set (i := 4) nd rfl (by first | exact Or.inl rfl | exact Or.inr rfl) (lp_opK rAddA rfl op_addA l2_addA (lp_opK rAddA rfl op_addA l2_addA (lp_lst (lpa_cons (lp_var 1) lpa_nil)) (lp_lc (own := [("arg", 5)]) rfl nd (lpi_any (lp_var 2) rfl) (blkOk_by (own := [("arg", 5)]) (N := N_key_text) (sc := defScope s_key_text) (by decide +kernel)) (wm_name (by decide)) (fun _ _ _ _ _ => (lpg_name (i := 5) nd rfl (by first | exact Or.inl rfl | exact Or.inr rfl))) (fun _ _ _ _ _ => lpts_nil) (fun _ _ _ _ _ => (lp_fs (lpj_cons lp_str (lpj_cons (lp_fmt (lp_var 5)) lpj_nil)))))) (lp_lc (own := [("name", 6)]) rfl nd (lpi_any (lp_var 3) rfl) (blkOk_by (own := [("name", 6)]) (N := N_key_text) (sc := defScope s_key_text) (by decide +kernel)) (wm_name (by decide)) (fun _ _ _ _ _ => (lpg_name (i := 6) nd rfl (by first | exact Or.inl rfl | exact Or.inr rfl))) (fun _ _ _ _ _ => lpts_nil) (fun _ _ _ _ _ => (lp_fs (lpj_cons lp_str (lpj_cons (lp_fmt (lp_var 6)) lpj_nil)))))))
    (lpss_one (lps_ret (lp_bm PySem.F.plainAttrs_str PySem.F.slot_str_join PySem.F.type_str_join mt_join lm_join rfl lp_str (lpa_cons (lp_lc (own := [("line", 7)]) rfl nd (lpi_any (lp_var 4) rfl) (blkOk_by (own := [("line", 7)]) (N := N_key_text) (sc := defScope s_key_text) (by decide +kernel)) (wm_name (by decide)) (fun _ _ _ _ _ => (lpg_name (i := 7) nd rfl (by first | exact Or.inl rfl | exact Or.inr rfl))) (fun _ _ _ _ _ => lpts_nil) (fun _ _ _ _ _ => (lp_opK rAddA rfl op_addA l2_addA (lp_var 7) lp_str))) lpa_nil))))))
  exact ⟨_, _, hD, fun ds M Pd PX h => b_key_text h⟩
theorem ok_read_key (T : Txt P K mg A a) (B : Tbs base mg a) : FnOk P w K mg base (L2.CX P w) 3 a.f_read_key a.d_read_key ["text"] (low K (tbl a) (sp_read_key A)) := by
  have G_is_number := ok_is_number (P := P) (w := w) (base := base) T B
  have G_is_word := ok_is_word (P := P) (w := w) (base := base) T B
  refine okLXc T.F_read_key T.e_read_key sc_read_key (fun ds M Pd PX h => len_read_key h) ?_
  intro Ar outer s H E hr
  have nd := sc_read_key.nd
  have tk : Takes (cxOf (L2.CX P w) P w K mg base N_read_key "read_key" (defScope s_read_key) a.f_read_key (.ref a.c_read_key) Ar outer s H E) (WF E) := takes_of rfl rfl rfl rfl
  have hD : LPSs (cxOf (L2.CX P w) P w K mg base N_read_key "read_key" (defScope s_read_key) a.f_read_key (.ref a.c_read_key) Ar outer s H E) ⟨K, (tbl a), []⟩ (WF E) (defBody s_read_key) _ (l_read_key A) := (lpss_cons (lps_set (i := 1) nd rfl (by first | exact Or.inl rfl | exact Or.inr rfl) (lp_bm PySem.F.plainAttrs_str PySem.F.slot_str_split PySem.F.type_str_split mt_split lm_split rfl (lp_var 0) (lpa_cons lp_str lpa_nil)))
    (lpss_cons (lps_if (LPW.lpt (lpw_or (lpt_cmp op_ltA l2_ord (lp_callBK rLenA rfl call_lenAny ll_lenA rfl T.m_len (by decide +kernel) (lpa_cons (lp_var 1) lpa_nil)) lp_int (nomark _)) (lpw_or1 (lpt_cmpK rNeA rfl (op_neA hr.units) l2_ne (lp_ixA (hu_of hr) rfl (lp_var 1) (lp_un un_neg l1_neg lp_int)) lp_str (nomark _)))))
    (lpss_one (lps_raise0 rfl tk PySem.F.excBase_ValueError T.z_BadMessage T.x_BadMessage.g T.x_BadMessage.T.kC T.x_BadMessage.raises rfl))
    lpss_nil)
    (lpss_cons (lps_set (i := 2) nd rfl (by first | exact Or.inl rfl | exact Or.inr rfl) (lp_lstM lpa_nil))
    (lpss_cons (lps_set (i := 3) nd rfl (by first | exact Or.inl rfl | exact Or.inr rfl) (lp_lstM lpa_nil))
    (lpss_cons (lps_for (passes_of rfl) rfl (lpi_any (lp_sl rfl (lp_var 1) (lpo_some lp_int) (lpo_some (lp_un un_neg l1_neg lp_int))) rfl) (lpg_name (i := 4) nd rfl (by first | exact Or.inl rfl | exact Or.inr rfl))
    (lpss_one (lps_if (LPW.lpt (lpw_and (lpt_tru rfl (lp_bm PySem.F.plainAttrs_str PySem.F.slot_str_startswith PySem.F.type_str_startswith mt_startswith lm_sb rfl (lp_var 4) (lpa_cons lp_str lpa_nil))) (lpw_and1 (lpt_not (lpt_tru rfl (lp_var 3))))))
    (lpss_one (lps_expr (lp_bm PySem.F.plainAttrs_list PySem.F.slot_list_append PySem.F.type_list_append mt_append lm_append rfl (lp_var 2) (lpa_cons (lp_sl rfl (lp_var 4) (lpo_some lp_int) lpo_none) lpa_nil))))
    (lpss_one (lps_if (LPW.lpt (lpw_and (lpt_tru rfl (lp_bm PySem.F.plainAttrs_str PySem.F.slot_str_startswith PySem.F.type_str_startswith mt_startswith lm_sb rfl (lp_var 4) (lpa_cons lp_str lpa_nil))) (lpw_and1 (lpt_tru rfl (lp_call G_is_number rfl (hr.mono (by omega)) rfl T.g_is_number T.F_is_number.kp T.B_is_number (lpa_cons (lp_sl rfl (lp_var 4) (lpo_some lp_int) lpo_none) lpa_nil))))))
    (lpss_one (lps_expr (lp_bm PySem.F.plainAttrs_list PySem.F.slot_list_append PySem.F.type_list_append mt_append lm_append rfl (lp_var 3) (lpa_cons (lp_callTy call_intA ll_intA rfl T.m_int (by decide +kernel) (lpa_cons (lp_sl rfl (lp_var 4) (lpo_some lp_int) lpo_none) lpa_nil)) lpa_nil))))
    (lpss_one (lps_raise0 rfl tk PySem.F.excBase_ValueError T.z_BadMessage T.x_BadMessage.g T.x_BadMessage.T.kC T.x_BadMessage.raises rfl)))))))
    (lpss_cons (lps_if (LPW.lpt (lpw_or (lpt_not (lpt_tru rfl (lp_call G_is_word rfl (hr.mono (by omega)) rfl T.g_is_word T.F_is_word.kp T.B_is_word (lpa_cons (lp_ixA (hu_of hr) rfl (lp_var 1) lp_int) lpa_nil)))) (lpw_or (lpt_cmp op_gtA l2_ord (lp_callBK rLenA rfl call_lenAny ll_lenA rfl T.m_len (by decide +kernel) (lpa_cons (lp_var 2) lpa_nil)) (lp_gintE rfl T.c_MOST_ARGS) (nomark _)) (lpw_or1 (lpt_cmp op_gtA l2_ord (lp_callBK rLenA rfl call_lenAny ll_lenA rfl T.m_len (by decide +kernel) (lpa_cons (lp_var 3) lpa_nil)) (lp_gintE rfl T.c_MOST_NAMES) (nomark _))))))
    (lpss_one (lps_raise0 rfl tk PySem.F.excBase_ValueError T.z_BadMessage T.x_BadMessage.g T.x_BadMessage.T.kC T.x_BadMessage.raises rfl))
    lpss_nil)
    (lpss_cons (lps_if (lpt_tru rfl (lp_anyG (k := 0) (own := [("arg", 5)]) rfl nd (hr.mono (by omega)) rfl T.m_any B.b_read_key (show a.t_read_key ∈ (tbl a).ps from by simp [tbl]) (tn_read_key B) rfl (show GenOk N_read_key (defScope s_read_key) _ _ from genOk_by (by decide +kernel)) (wm_name (by decide)) (lpi_any (lp_var 2) rfl) (fun _ _ _ _ _ _ => (lpg_name (i := 5) nd rfl (by first | exact Or.inl rfl | exact Or.inr rfl))) (fun _ _ _ _ _ _ hr => (lp_cmp op_gtA l2_ord (lp_callBK rLenA rfl call_lenAny ll_lenA rfl T.m_len (by decide +kernel) (lpa_cons (lp_var 5) lpa_nil)) (lp_gintE rfl T.c_ARG_LENGTH) (nomark _)))))
    (lpss_one (lps_raise0 rfl tk PySem.F.excBase_ValueError T.z_BadMessage T.x_BadMessage.g T.x_BadMessage.T.kC T.x_BadMessage.raises rfl))
    lpss_nil)
    (lpss_one (lps_ret (lp_tup (lpa_cons (lp_ixA (hu_of hr) rfl (lp_var 1) lp_int) (lpa_cons (lp_callTyK rTupA rfl (call_tupA rfl) ll_tupA rfl T.m_tuple (by decide +kernel) (lpa_cons (lp_var 2) lpa_nil)) (lpa_cons (lp_callTyK rTupA rfl (call_tupA rfl) ll_tupA rfl T.m_tuple (by decide +kernel) (lpa_cons (lp_var 3) lpa_nil)) lpa_nil)))))))))))))
  exact ⟨_, _, hD, fun ds M Pd PX h => b_read_key h⟩
theorem ok_claim_text (T : Txt P K mg A a) (B : Tbs base mg a) : FnOk P w K mg base CX0 1 a.f_claim_text a.d_claim_text ["result"] (low K (tbl a) (sp_claim_text A)) := by
  refine okL T.F_claim_text sc_claim_text (fun ds M Pd PX h => len_claim_text h) ?_
  intro cdv Ar outer s H E hr
  have nd := sc_claim_text.nd
  have hD : LPSs (cxOf CX0 P w K mg base N_claim_text "claim_text" (defScope s_claim_text) a.f_claim_text cdv Ar outer s H E).nox ⟨K, (tbl a), []⟩ W0 (defBody s_claim_text) _ (l_claim_text A) := (lpss_one (lps_ret (lp_opK rAddA rfl op_addA l2_addA (lp_opK rAddA rfl op_addA l2_addA (lp_ixA (hu_of hr) rfl (lp_var 0) lp_int) lp_str) (lp_ixA (hu_of hr) rfl (lp_var 0) lp_int))))
  exact ⟨_, _, hD, fun ds M Pd PX h => b_claim_text h⟩
theorem ok_read_claim (T : Txt P K mg A a) (B : Tbs base mg a) : FnOk P w K mg base (L2.CX P w) 4 a.f_read_claim a.d_read_claim ["text"] (low K (tbl a) (sp_read_claim A)) := by
  have G_text_fault := ok_text_fault (P := P) (w := w) (base := base) T B
  refine okLX T.F_read_claim sc_read_claim (fun ds M Pd PX h => len_read_claim h) ?_
  intro cdv Ar outer s H E hr
  have nd := sc_read_claim.nd
  have tk : Takes (cxOf (L2.CX P w) P w K mg base N_read_claim "read_claim" (defScope s_read_claim) a.f_read_claim cdv Ar outer s H E) (WF E) := takes_of rfl rfl rfl rfl
  have hD : LPSs (cxOf (L2.CX P w) P w K mg base N_read_claim "read_claim" (defScope s_read_claim) a.f_read_claim cdv Ar outer s H E) ⟨K, (tbl a), []⟩ (WF E) (defBody s_read_claim) _ (l_read_claim A) := (lpss_cons (lps_asg (lp_bm PySem.F.plainAttrs_str PySem.F.slot_str_partition PySem.F.type_str_partition mt_partition lm_partition rfl (lp_var 0) (lpa_cons lp_str lpa_nil)) (lpg_tup rfl rfl (lpgs_cons (lpg_name (i := 1) nd rfl (by first | exact Or.inl rfl | exact Or.inr rfl)) (lpgs_cons (lpg_name (i := 2) nd rfl (by first | exact Or.inl rfl | exact Or.inr rfl)) (lpgs_cons (lpg_name (i := 3) nd rfl (by first | exact Or.inl rfl | exact Or.inr rfl)) lpgs_nil)))))
    (lpss_cons (lps_if (LPW.lpt (lpw_or (lpt_cmpK rEqA rfl (op_eqA hr.units) l2_eq (lp_var 2) lp_str (nomark _)) (lpw_or1 (lpt_cmpK (fun K => rInA K true) rfl (op_notInA (hu_of hr)) (l2_inA true) (lp_var 1) (lp_tup (lpa_cons lp_str (lpa_cons lp_str lpa_nil))) (by rfl)))))
    (lpss_one (lps_raise0 rfl tk PySem.F.excBase_ValueError T.z_BadMessage T.x_BadMessage.g T.x_BadMessage.T.kC T.x_BadMessage.raises rfl))
    lpss_nil)
    (lpss_cons (lps_set (i := 4) nd rfl (by first | exact Or.inl rfl | exact Or.inr rfl) (lp_call G_text_fault rfl (hr.mono (by omega)) rfl T.g_text_fault T.F_text_fault.kp T.B_text_fault (lpa_cons (lp_var 3) lpa_nil)))
    (lpss_cons (lps_if (lpt_cmp op_notNA (l2_isN true) (lp_var 4) lp_non (nomark _))
    (lpss_one (lps_raise0 rfl tk PySem.F.excBase_ValueError T.z_BadMessage T.x_BadMessage.g T.x_BadMessage.T.kC T.x_BadMessage.raises rfl))
    lpss_nil)
    (lpss_cons (lps_if (LPW.lpt (lpw_and (lpt_cmpK rEqA rfl (op_eqA hr.units) l2_eq (lp_var 1) lp_str (nomark _)) (lpw_and1 (LPW.lpt (lpw_or (lpt_cmp op_gtA l2_ord (lp_callBK rLenA rfl call_lenAny ll_lenA rfl T.m_len (by decide +kernel) (lpa_cons (lp_var 3) lpa_nil)) (lp_gintE rfl T.c_REASON_LENGTH) (nomark _)) (lpw_or1 (lpt_cmpK (fun K => rInA K false) rfl (op_inA (hu_of hr)) (l2_inA false) lp_str (lp_var 3) (by rfl))))))))
    (lpss_one (lps_raise0 rfl tk PySem.F.excBase_ValueError T.z_BadMessage T.x_BadMessage.g T.x_BadMessage.T.kC T.x_BadMessage.raises rfl))
    lpss_nil)
    (lpss_one (lps_ret (lp_tup (lpa_cons (lp_var 1) (lpa_cons (lp_var 3) lpa_nil))))))))))
  exact ⟨_, _, hD, fun ds M Pd PX h => b_read_claim h⟩
theorem ok_x_next (T : Txt P K mg A a) (B : Tbs base mg a) : FnOk P w K mg base CX0 1 a.f_x_next a.d_x_next ["_law_state", "_law_script", "_law_many"] (low K (tbl a) (sp_x_next A)) := by
  refine okL T.F_x_next sc_x_next (fun ds M Pd PX h => len_x_next h) ?_
  intro cdv Ar outer s H E hr
  have nd := sc_x_next.nd
  have hD : LPSs (cxOf CX0 P w K mg base N_x_next "_law_next" (defScope s_x_next) a.f_x_next cdv Ar outer s H E).nox ⟨K, (tbl a), []⟩ W0 (defBody s_x_next) _ (l_x_next A) := (lpss_cons (lps_if (lpt_cmp op_gtA l2_ord (lp_ixA (hu_of hr) rfl (lp_var 0) lp_int) lp_int (nomark _))
    (lpss_cons (lps_set (i := 3) nd rfl (by first | exact Or.inl rfl | exact Or.inr rfl) (lp_op op_modN l2_modN (lp_callTy call_intA ll_intA rfl T.m_int (by decide +kernel) (lpa_cons (lp_ixA (hu_of hr) rfl (lp_var 0) lp_int) lpa_nil)) (lp_var 2)))
    (lpss_cons (lps_setA (hu_of hr) (lp_var 0) lp_int (lp_op op_fdivN l2_fdivN (lp_callTy call_intA ll_intA rfl T.m_int (by decide +kernel) (lpa_cons (lp_ixA (hu_of hr) rfl (lp_var 0) lp_int) lpa_nil)) (lp_var 2)))
    (lpss_one (lps_ret (lp_var 3)))))
    lpss_nil)
    (lpss_cons (lps_set (i := 4) nd rfl (by first | exact Or.inl rfl | exact Or.inr rfl) lp_int)
    (lpss_cons (lps_if (lpt_cmp op_ltA l2_ord (lp_ixA (hu_of hr) rfl (lp_var 0) lp_int) (lp_callBK rLenA rfl call_lenAny ll_lenA rfl T.m_len (by decide +kernel) (lpa_cons (lp_var 1) lpa_nil)) (nomark _))
    (lpss_one (lps_set (i := 4) nd rfl (by first | exact Or.inl rfl | exact Or.inr rfl) (lp_callB call_abs ll_abs rfl T.m_abs (by decide +kernel) (lpa_cons (lp_callTy call_intA ll_intA rfl T.m_int (by decide +kernel) (lpa_cons (lp_ixA (hu_of hr) rfl (lp_var 1) (lp_ixA (hu_of hr) rfl (lp_var 0) lp_int)) lpa_nil)) lpa_nil))))
    lpss_nil)
    (lpss_cons (lps_setA (hu_of hr) (lp_var 0) lp_int (lp_opK rAddA rfl op_addA l2_addA (lp_ixA (hu_of hr) rfl (lp_var 0) lp_int) lp_int))
    (lpss_cons (lps_if (lpt_cmp op_geA l2_ord (lp_var 4) (lp_op op_pow l2_pow lp_int lp_int) (nomark _))
    (lpss_cons (lps_setA (hu_of hr) (lp_var 0) lp_int (lp_op op_fdivN l2_fdivN (lp_var 4) (lp_var 2)))
    (lpss_one (lps_ret (lp_op op_modN l2_modN (lp_callTy call_intA ll_intA rfl T.m_int (by decide +kernel) (lpa_cons (lp_var 4) lpa_nil)) (lp_var 2)))))
    lpss_nil)
    (lpss_cons (lps_setA (hu_of hr) (lp_var 0) lp_int (lp_op op_modN l2_modN (lp_callTy call_intA ll_intA rfl T.m_int (by decide +kernel) (lpa_cons (lp_opK rAddA rfl op_addA l2_addA (lp_opK rAddA rfl op_addA l2_addA (lp_op op_mulA l2_mulA (lp_ixA (hu_of hr) rfl (lp_var 0) lp_int) lp_int) (lp_op op_mulA l2_mulA (lp_var 4) lp_int)) lp_int) lpa_nil)) lp_int))
    (lpss_one (lps_ret (lp_op op_modN l2_modN (lp_callTy call_intA ll_intA rfl T.m_int (by decide +kernel) (lpa_cons (lp_opK rAddA rfl op_addA l2_addA (lp_op op_fdivN l2_fdivN (lp_ixA (hu_of hr) rfl (lp_var 0) lp_int) lp_int) (lp_op op_fdivN l2_fdivN (lp_op op_mulA l2_mulA (lp_ixA (hu_of hr) rfl (lp_var 0) lp_int) (lp_ixA (hu_of hr) rfl (lp_var 0) lp_int)) lp_int)) lpa_nil)) (lp_var 2))))))))))
  exact ⟨_, _, hD, fun ds M Pd PX h => b_x_next h⟩
theorem ok_x_same (T : Txt P K mg A a) (B : Tbs base mg a) : ∀ n : Nat, FnOk P w K mg base CX0 (n + 0) a.f_x_same a.d_x_same ["_law_actual", "_law_due"] (low K (tbl a) (sp_x_same A n)) := by
  intro n
  induction n with
  | zero => exact ok_false
  | succ n G_x_same =>
    have G_x_same := G_x_same.mono (k := n + 0) (by omega)
    have e : n + 1 + 0 = (n + 0) + 1 := by omega
    rw [e]
    refine okL T.F_x_same sc_x_same (fun ds M Pd PX h => len_x_same h) ?_
    intro cdv Ar outer s H E hr
    have nd := sc_x_same.nd
    have hD : LPSs (cxOf CX0 P w K mg base N_x_same "_law_same" (defScope s_x_same) a.f_x_same cdv Ar outer s H E).nox ⟨K, (tbl a), []⟩ W0 (defBody s_x_same) _ (l_x_same A n) := (lpss_cons (lps_if (lpt_cmp op_isNA (l2_isN false) (lp_var 1) lp_non (nomark _))
      (lpss_one (lps_ret (lp_cmp op_isNA (l2_isN false) (lp_var 0) lp_non (nomark _))))
      lpss_nil)
      (lpss_cons (lps_if (lpt_tru rfl (lp_callBK rIsi rfl call_isi ll_isi rfl T.m_isinstance (by decide +kernel) (lpa_cons (lp_var 1) (lpa_cons (lp_bty (n := "tuple") rfl T.m_tuple (by decide +kernel)) lpa_nil))))
      (lpss_cons (lps_if (LPW.lpt (lpw_or (lpt_not (lpt_tru rfl (lp_callBK rIsi rfl call_isi ll_isi rfl T.m_isinstance (by decide +kernel) (lpa_cons (lp_var 0) (lpa_cons (lp_bty (n := "tuple") rfl T.m_tuple (by decide +kernel)) lpa_nil))))) (lpw_or1 (lpt_cmpK rNeA rfl (op_neA hr.units) l2_ne (lp_callBK rLenA rfl call_lenAny ll_lenA rfl T.m_len (by decide +kernel) (lpa_cons (lp_var 0) lpa_nil)) (lp_callBK rLenA rfl call_lenAny ll_lenA rfl T.m_len (by decide +kernel) (lpa_cons (lp_var 1) lpa_nil)) (nomark _)))))
      (lpss_one (lps_ret lp_bl))
      lpss_nil)
      (lpss_cons (lps_for PassesOwn.never rfl (lpi_range1 (lpa_cons (lp_callBK rLenA rfl call_lenAny ll_lenA rfl T.m_len (by decide +kernel) (lpa_cons (lp_var 1) lpa_nil)) lpa_nil) rfl T.m_range) (lpg_name (i := 2) nd rfl (by first | exact Or.inl rfl | exact Or.inr rfl))
      (lpss_one (lps_if (lpt_not (lpt_tru rfl (lp_call G_x_same rfl (hr.mono (by omega)) rfl T.g_x_same T.F_x_same.kp T.B_x_same (lpa_cons (lp_ixA (hu_of hr) rfl (lp_var 0) (lp_var 2)) (lpa_cons (lp_ixA (hu_of hr) rfl (lp_var 1) (lp_var 2)) lpa_nil)))))
      (lpss_one (lps_ret lp_bl))
      lpss_nil)))
      (lpss_one (lps_ret lp_bl))))
      lpss_nil)
      (lpss_cons (lps_if (lpt_tru rfl (lp_callBK rIsi rfl call_isi ll_isi rfl T.m_isinstance (by decide +kernel) (lpa_cons (lp_var 1) (lpa_cons (lp_bty (n := "bool") rfl T.m_bool (by decide +kernel)) lpa_nil))))
      (lpss_one (lps_ret (lp_and (lp_callBK rIsi rfl call_isi ll_isi rfl T.m_isinstance (by decide +kernel) (lpa_cons (lp_var 0) (lpa_cons (lp_bty (n := "bool") rfl T.m_bool (by decide +kernel)) lpa_nil))) (lp_one (lp_cmpK rEqA rfl (op_eqA hr.units) l2_eq (lp_var 0) (lp_var 1) (nomark _))))))
      lpss_nil)
      (lpss_cons (lps_if (lpt_tru rfl (lp_callBK rIsi rfl call_isi ll_isi rfl T.m_isinstance (by decide +kernel) (lpa_cons (lp_var 1) (lpa_cons (lp_bty (n := "int") rfl T.m_int (by decide +kernel)) lpa_nil))))
      (lpss_one (lps_ret (lp_and (lp_callBK rIsi rfl call_isi ll_isi rfl T.m_isinstance (by decide +kernel) (lpa_cons (lp_var 0) (lpa_cons (lp_bty (n := "int") rfl T.m_int (by decide +kernel)) lpa_nil))) (lp_and (lp_notT rfl (lp_callBK rIsi rfl call_isi ll_isi rfl T.m_isinstance (by decide +kernel) (lpa_cons (lp_var 0) (lpa_cons (lp_bty (n := "bool") rfl T.m_bool (by decide +kernel)) lpa_nil)))) (lp_one (lp_cmpK rEqA rfl (op_eqA hr.units) l2_eq (lp_var 0) (lp_var 1) (nomark _)))))))
      lpss_nil)
      (lpss_one (lps_ret (lp_and (lp_callBK rIsi rfl call_isi ll_isi rfl T.m_isinstance (by decide +kernel) (lpa_cons (lp_var 0) (lpa_cons (lp_bty (n := "str") rfl T.m_str (by decide +kernel)) lpa_nil))) (lp_one (lp_cmpK rEqA rfl (op_eqA hr.units) l2_eq (lp_var 0) (lp_var 1) (nomark _))))))))))
    exact ⟨_, _, hD, fun ds M Pd PX h => b_x_same h⟩
theorem ok_x_char (T : Txt P K mg A a) (B : Tbs base mg a) : FnOk P w K mg base CX0 1 a.f_x_char a.d_x_char ["_law_number"] (low K (tbl a) (sp_x_char A)) := by
  refine okL T.F_x_char sc_x_char (fun ds M Pd PX h => len_x_char h) ?_
  intro cdv Ar outer s H E hr
  have nd := sc_x_char.nd
  have hD : LPSs (cxOf CX0 P w K mg base N_x_char "_law_char" (defScope s_x_char) a.f_x_char cdv Ar outer s H E).nox ⟨K, (tbl a), []⟩ W0 (defBody s_x_char) _ (l_x_char A) := (lpss_cons (lps_set (i := 1) nd rfl (by first | exact Or.inl rfl | exact Or.inr rfl) lp_str)
    (lpss_cons (lps_set (i := 1) nd rfl (by first | exact Or.inl rfl | exact Or.inr rfl) (lp_opK rAddA rfl op_addA l2_addA (lp_var 1) lp_str))
    (lpss_one (lps_ret (lp_ixA (hu_of hr) rfl (lp_var 1) (lp_var 0))))))
  exact ⟨_, _, hD, fun ds M Pd PX h => b_x_char h⟩
theorem ok_x_reserved (T : Txt P K mg A a) (B : Tbs base mg a) : FnOk P w K mg base CX0 1 a.f_x_reserved a.d_x_reserved [] (low K (tbl a) (sp_x_reserved A)) := by
  refine okL T.F_x_reserved sc_x_reserved (fun ds M Pd PX h => len_x_reserved h) ?_
  intro cdv Ar outer s H E hr
  have nd := sc_x_reserved.nd
  have hD : LPSs (cxOf CX0 P w K mg base N_x_reserved "_law_reserved" (defScope s_x_reserved) a.f_x_reserved cdv Ar outer s H E).nox ⟨K, (tbl a), []⟩ W0 (defBody s_x_reserved) _ (l_x_reserved A) := (lpss_cons (lps_set (i := 0) nd rfl (by first | exact Or.inl rfl | exact Or.inr rfl) (lp_lst (lpa_cons lp_str (lpa_cons lp_str (lpa_cons lp_str (lpa_cons lp_str (lpa_cons lp_str (lpa_cons lp_str (lpa_cons lp_str (lpa_cons lp_str (lpa_cons lp_str (lpa_cons lp_str (lpa_cons lp_str (lpa_cons lp_str (lpa_cons lp_str lpa_nil)))))))))))))))
    (lpss_one (lps_ret (lp_opK rAddA rfl op_addA l2_addA (lp_var 0) (lp_lst (lpa_cons lp_str (lpa_cons lp_str (lpa_cons lp_str lpa_nil))))))))
  exact ⟨_, _, hD, fun ds M Pd PX h => b_x_reserved h⟩
theorem ok_x_drawn_tool (T : Txt P K mg A a) (B : Tbs base mg a) : FnOk P w K mg base CX0 2 a.f_x_drawn_tool a.d_x_drawn_tool ["_law_state", "_law_script"] (low K (tbl a) (sp_x_drawn_tool A)) := by
  have G_x_next := ok_x_next (P := P) (w := w) (base := base) T B
  have G_x_reserved := ok_x_reserved (P := P) (w := w) (base := base) T B
  refine okL T.F_x_drawn_tool sc_x_drawn_tool (fun ds M Pd PX h => len_x_drawn_tool h) ?_
  intro cdv Ar outer s H E hr
  have nd := sc_x_drawn_tool.nd
  have hD : LPSs (cxOf CX0 P w K mg base N_x_drawn_tool "_law_drawn_tool" (defScope s_x_drawn_tool) a.f_x_drawn_tool cdv Ar outer s H E).nox ⟨K, (tbl a), []⟩ W0 (defBody s_x_drawn_tool) _ (l_x_drawn_tool A) := (lpss_cons (lps_set (i := 2) nd rfl (by first | exact Or.inl rfl | exact Or.inr rfl) (lp_call G_x_next rfl (hr.mono (by omega)) rfl T.g_x_next T.F_x_next.kp T.B_x_next (lpa_cons (lp_var 0) (lpa_cons (lp_var 1) (lpa_cons lp_int lpa_nil)))))
    (lpss_cons (lps_if (lpt_cmpK rEqA rfl (op_eqA hr.units) l2_eq (lp_var 2) lp_int (nomark _))
    (lpss_one (lps_ret (lp_ixA (hu_of hr) rfl (lp_call0 G_x_reserved rfl (hr.mono (by omega)) rfl T.g_x_reserved T.F_x_reserved.kp T.B_x_reserved) (lp_call G_x_next rfl (hr.mono (by omega)) rfl T.g_x_next T.F_x_next.kp T.B_x_next (lpa_cons (lp_var 0) (lpa_cons (lp_var 1) (lpa_cons lp_int lpa_nil)))))))
    lpss_nil)
    (lpss_cons (lps_set (i := 3) nd rfl (by first | exact Or.inl rfl | exact Or.inr rfl) (lp_sl rfl lp_str lpo_none (lpo_some (lp_ixA (hu_of hr) rfl (lp_lst (lpa_cons lp_int (lpa_cons lp_int (lpa_cons lp_int (lpa_cons lp_int (lpa_cons lp_int lpa_nil)))))) (lp_call G_x_next rfl (hr.mono (by omega)) rfl T.g_x_next T.F_x_next.kp T.B_x_next (lpa_cons (lp_var 0) (lpa_cons (lp_var 1) (lpa_cons lp_int lpa_nil))))))))
    (lpss_cons (lps_if (lpt_cmpK rEqA rfl (op_eqA hr.units) l2_eq (lp_var 2) lp_int (nomark _))
    (lpss_cons (lps_set (i := 4) nd rfl (by first | exact Or.inl rfl | exact Or.inr rfl) (lp_call G_x_next rfl (hr.mono (by omega)) rfl T.g_x_next T.F_x_next.kp T.B_x_next (lpa_cons (lp_var 0) (lpa_cons (lp_var 1) (lpa_cons (lp_callBK rLenA rfl call_lenAny ll_lenA rfl T.m_len (by decide +kernel) (lpa_cons (lp_var 3) lpa_nil)) lpa_nil)))))
    (lpss_one (lps_set (i := 3) nd rfl (by first | exact Or.inl rfl | exact Or.inr rfl) (lp_opK rAddA rfl op_addA l2_addA (lp_opK rAddA rfl op_addA l2_addA (lp_sl rfl (lp_var 3) lpo_none (lpo_some (lp_var 4))) (lp_ixA (hu_of hr) rfl (lp_lst (lpa_cons lp_str (lpa_cons lp_str (lpa_cons lp_str (lpa_cons lp_str (lpa_cons lp_str (lpa_cons lp_str lpa_nil))))))) (lp_call G_x_next rfl (hr.mono (by omega)) rfl T.g_x_next T.F_x_next.kp T.B_x_next (lpa_cons (lp_var 0) (lpa_cons (lp_var 1) (lpa_cons lp_int lpa_nil)))))) (lp_sl rfl (lp_var 3) (lpo_some (lp_opK rAddA rfl op_addA l2_addA (lp_var 4) lp_int)) lpo_none)))))
    lpss_nil)
    (lpss_one (lps_ret (lp_var 3)))))))
  exact ⟨_, _, hD, fun ds M Pd PX h => b_x_drawn_tool h⟩
theorem ok_x_is_word (T : Txt P K mg A a) (B : Tbs base mg a) : FnOk P w K mg base CX0 1 a.f_x_is_word a.d_x_is_word ["_law_word"] (low K (tbl a) (sp_x_is_word A)) := by
  refine okL T.F_x_is_word sc_x_is_word (fun ds M Pd PX h => len_x_is_word h) ?_
  intro cdv Ar outer s H E hr
  have nd := sc_x_is_word.nd
  have hD : LPSs (cxOf CX0 P w K mg base N_x_is_word "_law_is_word" (defScope s_x_is_word) a.f_x_is_word cdv Ar outer s H E).nox ⟨K, (tbl a), []⟩ W0 (defBody s_x_is_word) _ (l_x_is_word A) := (lpss_cons (lps_set (i := 1) nd rfl (by first | exact Or.inl rfl | exact Or.inr rfl) lp_str)
    (lpss_cons (lps_if (LPW.lpt (lpw_or (lpt_cmp op_gtA l2_ord (lp_callBK rLenA rfl call_lenAny ll_lenA rfl T.m_len (by decide +kernel) (lpa_cons (lp_var 0) lpa_nil)) lp_int (nomark _)) (lpw_or1 (lpt_cmpK (fun K => rInA K true) rfl (op_notInA (hu_of hr)) (l2_inA true) (lp_ixA (hu_of hr) rfl (lp_var 0) lp_int) (lp_var 1) (by rfl)))))
    (lpss_one (lps_ret lp_bl))
    lpss_nil)
    (lpss_one (lps_ret (lp_cmpK rEqA rfl (op_eqA hr.units) l2_eq (lp_callBK rLenA rfl call_lenAny ll_lenA rfl T.m_len (by decide +kernel) (lpa_cons (lp_lc (own := [("_law_letter", 2)]) rfl nd (lpi_any (lp_var 0) rfl) (blkOk_by (own := [("_law_letter", 2)]) (N := N_x_is_word) (sc := defScope s_x_is_word) (by decide +kernel)) (wm_name (by decide)) (fun _ _ _ _ _ => (lpg_name (i := 2) nd rfl (by first | exact Or.inl rfl | exact Or.inr rfl))) (fun _ _ _ _ _ => (lpts_one (lpt_cmpK (fun K => rInA K true) rfl (op_notInA (hu_of hr)) (l2_inA true) (lp_var 2) (lp_opK rAddA rfl op_addA l2_addA (lp_var 1) lp_str) (by rfl)))) (fun _ _ _ _ _ => lp_int)) lpa_nil)) lp_int (nomark _))))))
  exact ⟨_, _, hD, fun ds M Pd PX h => b_x_is_word h⟩
theorem ok_x_told (T : Txt P K mg A a) (B : Tbs base mg a) : FnOk P w K mg base CX0 4 a.f_x_told a.d_x_told ["_law_text"] (low K (tbl a) (sp_x_told A)) := by
  have G_read_key := ok_read_key (P := P) (w := w) (base := base) T B
  refine okL T.F_x_told sc_x_told (fun ds M Pd PX h => len_x_told h) ?_
  intro cdv Ar outer s H E hr
  have nd := sc_x_told.nd
  have hD : LPSs (cxOf CX0 P w K mg base N_x_told "_law_told" (defScope s_x_told) a.f_x_told cdv Ar outer s H E).nox ⟨K, (tbl a), []⟩ W0 (defBody s_x_told) _ (l_x_told A) := (lpss_one (lps_tryAs rfl rfl nd (i := 2) rfl rfl ⟨rfl, by decide, .inl T.x_BadMessage.g⟩ takes_none5 rfl (tab_cons T.y_BadMessage_BadMessage tab_nil)
    (fun W pn xe ex tk hp => (lpss_cons (lps_set (i := 1) nd rfl (by first | exact Or.inl rfl | exact Or.inr rfl) (lp_callX G_read_key rfl tk (hr.mono (by omega)) rfl T.g_read_key T.F_read_key.kp T.B_read_key (lpa_cons (lp_var 0) lpa_nil)))
    (lpss_one (lps_ret (lp_if (lpt_tru rfl (lp_callBK rIsi rfl call_isi ll_isi rfl T.m_isinstance (by decide +kernel) (lpa_cons (lp_var 1) (lpa_cons (lp_bty (n := "list") rfl T.m_list (by decide +kernel)) lpa_nil)))) (lp_lst (lpa_cons lp_str lpa_nil)) (lp_var 1))))))
    (fun xa oe xc xd pn hz hf => (lpss_one (lps_ret (lp_lst (lpa_cons lp_str (lpa_cons (lp_and (lp_isE T.q_BadMessage T.w_BadMessage_MillError hz hf rfl T.m_isinstance (lp_var 2) (pe_glob (v := .ref A.MillError) rfl T.x_MillError.g rfl) (fun _ h => h) (by decide +kernel)) (lp_one (lp_notT rfl (lp_isE T.q_BadMessage T.w_BadMessage_BadText hz hf rfl T.m_isinstance (lp_var 2) (pe_glob (v := .ref A.BadText) rfl T.x_BadText.g rfl) (fun _ h => h) (by decide +kernel))))) lpa_nil))))))))
  exact ⟨_, _, hD, fun ds M Pd PX h => b_x_told h⟩
theorem ok_x_turned (T : Txt P K mg A a) (B : Tbs base mg a) : FnOk P w K mg base CX0 2 a.f_x_turned a.d_x_turned ["_law_state", "_law_script", "_law_tool", "_law_lines"] (low K (tbl a) (sp_x_turned A)) := by
  have G_x_next := ok_x_next (P := P) (w := w) (base := base) T B
  refine okL T.F_x_turned sc_x_turned (fun ds M Pd PX h => len_x_turned h) ?_
  intro cdv Ar outer s H E hr
  have nd := sc_x_turned.nd
  have hD : LPSs (cxOf CX0 P w K mg base N_x_turned "_law_turned" (defScope s_x_turned) a.f_x_turned cdv Ar outer s H E).nox ⟨K, (tbl a), []⟩ W0 (defBody s_x_turned) _ (l_x_turned A) := (lpss_cons (lps_set (i := 4) nd rfl (by first | exact Or.inl rfl | exact Or.inr rfl) (lp_call G_x_next rfl (hr.mono (by omega)) rfl T.g_x_next T.F_x_next.kp T.B_x_next (lpa_cons (lp_var 0) (lpa_cons (lp_var 1) (lpa_cons lp_int lpa_nil)))))
    (lpss_cons (lps_set (i := 5) nd rfl (by first | exact Or.inl rfl | exact Or.inr rfl) (lp_opK rAddA rfl op_addA l2_addA (lp_opK rAddA rfl op_addA l2_addA (lp_lst (lpa_cons (lp_var 2) lpa_nil)) (lp_ixA (hu_of hr) rfl (lp_var 3) lp_int)) (lp_ixA (hu_of hr) rfl (lp_var 3) lp_int)))
    (lpss_cons (lps_if (lpt_cmpK rEqA rfl (op_eqA hr.units) l2_eq (lp_var 4) lp_int (nomark _))
    (lpss_one (lps_set (i := 5) nd rfl (by first | exact Or.inl rfl | exact Or.inr rfl) (lp_opK rAddA rfl op_addA l2_addA (lp_opK rAddA rfl op_addA l2_addA (lp_opK rAddA rfl op_addA l2_addA (lp_lst (lpa_cons (lp_var 2) lpa_nil)) (lp_ixA (hu_of hr) rfl (lp_var 3) lp_int)) (lp_lst (lpa_cons lp_str (lpa_cons lp_str lpa_nil)))) (lp_ixA (hu_of hr) rfl (lp_var 3) lp_int))))
    lpss_nil)
    (lpss_cons (lps_if (lpt_cmpK rEqA rfl (op_eqA hr.units) l2_eq (lp_var 4) lp_int (nomark _))
    (lpss_one (lps_set (i := 5) nd rfl (by first | exact Or.inl rfl | exact Or.inr rfl) (lp_opK rAddA rfl op_addA l2_addA (lp_var 5) (lp_lst (lpa_cons (lp_opK rAddA rfl op_addA l2_addA lp_str (lp_callTy call_str_int ll_strI rfl T.m_str (by decide +kernel) (lpa_cons (lp_call G_x_next rfl (hr.mono (by omega)) rfl T.g_x_next T.F_x_next.kp T.B_x_next (lpa_cons (lp_var 0) (lpa_cons (lp_var 1) (lpa_cons lp_int lpa_nil)))) lpa_nil))) lpa_nil)))))
    lpss_nil)
    (lpss_cons (lps_set (i := 6) nd rfl (by first | exact Or.inl rfl | exact Or.inr rfl) (lp_bm PySem.F.plainAttrs_str PySem.F.slot_str_join PySem.F.type_str_join mt_join lm_join rfl lp_str (lpa_cons (lp_lc (own := [("_law_line", 7)]) rfl nd (lpi_any (lp_var 5) rfl) (blkOk_by (own := [("_law_line", 7)]) (N := N_x_turned) (sc := defScope s_x_turned) (by decide +kernel)) (wm_name (by decide)) (fun _ _ _ _ _ => (lpg_name (i := 7) nd rfl (by first | exact Or.inl rfl | exact Or.inr rfl))) (fun _ _ _ _ _ => lpts_nil) (fun _ _ _ _ _ => (lp_opK rAddA rfl op_addA l2_addA (lp_var 7) lp_str))) lpa_nil)))
    (lpss_one (lps_ret (lp_sl rfl (lp_var 6) lpo_none (lpo_some (lp_op op_sub l2_sub (lp_callBK rLenA rfl call_lenAny ll_lenA rfl T.m_len (by decide +kernel) (lpa_cons (lp_var 6) lpa_nil)) (lp_callTy call_intA ll_intA rfl T.m_int (by decide +kernel) (lpa_cons (lp_cmpK rEqA rfl (op_eqA hr.units) l2_eq (lp_var 4) lp_int (nomark _)) lpa_nil))))))))))))
  exact ⟨_, _, hD, fun ds M Pd PX h => b_x_turned h⟩
theorem ok_x_key_right (T : Txt P K mg A a) (B : Tbs base mg a) : FnOk P w K mg base CX0 5 a.f_x_key_right a.d_x_key_right ["_law_state", "_law_script"] (low K (tbl a) (sp_x_key_right A)) := by
  have G_x_drawn_tool := ok_x_drawn_tool (P := P) (w := w) (base := base) T B
  have G_x_next := ok_x_next (P := P) (w := w) (base := base) T B
  have G_x_told := ok_x_told (P := P) (w := w) (base := base) T B
  have G_x_turned := ok_x_turned (P := P) (w := w) (base := base) T B
  have G_x_is_word := ok_x_is_word (P := P) (w := w) (base := base) T B
  have G_x_same := ok_x_same (P := P) (w := w) (base := base) T B 4
  have G_key_text := ok_key_text (P := P) (w := w) (base := base) T B
  refine okL T.F_x_key_right sc_x_key_right (fun ds M Pd PX h => len_x_key_right h) ?_
  intro cdv Ar outer s H E hr
  have nd := sc_x_key_right.nd
  have hD : LPSs (cxOf CX0 P w K mg base N_x_key_right "_law_key_right" (defScope s_x_key_right) a.f_x_key_right cdv Ar outer s H E).nox ⟨K, (tbl a), []⟩ W0 (defBody s_x_key_right) _ (l_x_key_right A) := (lpss_cons (lps_set (i := 2) nd rfl (by first | exact Or.inl rfl | exact Or.inr rfl) (lp_call G_x_drawn_tool rfl (hr.mono (by omega)) rfl T.g_x_drawn_tool T.F_x_drawn_tool.kp T.B_x_drawn_tool (lpa_cons (lp_var 0) (lpa_cons (lp_var 1) lpa_nil))))
    (lpss_cons (lps_set (i := 3) nd rfl (by first | exact Or.inl rfl | exact Or.inr rfl) (lp_call G_x_next rfl (hr.mono (by omega)) rfl T.g_x_next T.F_x_next.kp T.B_x_next (lpa_cons (lp_var 0) (lpa_cons (lp_var 1) (lpa_cons (lp_ixA (hu_of hr) rfl (lp_lst (lpa_cons lp_int (lpa_cons lp_int (lpa_cons lp_int lpa_nil)))) (lp_call G_x_next rfl (hr.mono (by omega)) rfl T.g_x_next T.F_x_next.kp T.B_x_next (lpa_cons (lp_var 0) (lpa_cons (lp_var 1) (lpa_cons lp_int lpa_nil))))) lpa_nil)))))
    (lpss_cons (lps_set (i := 4) nd rfl (by first | exact Or.inl rfl | exact Or.inr rfl) (lp_callTyK rTupA rfl (call_tupA rfl) ll_tupA rfl T.m_tuple (by decide +kernel) (lpa_cons (lp_lc (own := [("_law_k", 5)]) rfl nd (lpi_range1 (lpa_cons (lp_var 3) lpa_nil) rfl T.m_range) (blkOk_by (own := [("_law_k", 5)]) (N := N_x_key_right) (sc := defScope s_x_key_right) (by decide +kernel)) (wm_name (by decide)) (fun _ _ _ _ _ => (lpg_name (i := 5) nd rfl (by first | exact Or.inl rfl | exact Or.inr rfl))) (fun _ _ _ _ _ => lpts_nil) (fun _ _ _ _ _ => (lp_ixA (hu_of hr) rfl (lp_lst (lpa_cons lp_str (lpa_cons lp_str (lpa_cons lp_str (lpa_cons (lp_op op_mulA l2_mulA lp_str lp_int) (lpa_cons (lp_op op_mulA l2_mulA lp_str lp_int) (lpa_cons (lp_op op_mulA l2_mulA lp_str lp_int) lpa_nil))))))) (lp_call G_x_next rfl (hr.mono (by omega)) rfl T.g_x_next T.F_x_next.kp T.B_x_next (lpa_cons (lp_var 0) (lpa_cons (lp_var 1) (lpa_cons (lp_op op_sub l2_sub lp_int (lp_callTy call_intA ll_intA rfl T.m_int (by decide +kernel) (lpa_cons (lp_cmp op_gtA l2_ord (lp_var 3) lp_int (nomark _)) lpa_nil))) lpa_nil))))))) lpa_nil)))
    (lpss_cons (lps_set (i := 3) nd rfl (by first | exact Or.inl rfl | exact Or.inr rfl) (lp_call G_x_next rfl (hr.mono (by omega)) rfl T.g_x_next T.F_x_next.kp T.B_x_next (lpa_cons (lp_var 0) (lpa_cons (lp_var 1) (lpa_cons (lp_ixA (hu_of hr) rfl (lp_lst (lpa_cons lp_int (lpa_cons lp_int (lpa_cons lp_int lpa_nil)))) (lp_call G_x_next rfl (hr.mono (by omega)) rfl T.g_x_next T.F_x_next.kp T.B_x_next (lpa_cons (lp_var 0) (lpa_cons (lp_var 1) (lpa_cons lp_int lpa_nil))))) lpa_nil)))))
    (lpss_cons (lps_set (i := 6) nd rfl (by first | exact Or.inl rfl | exact Or.inr rfl) (lp_callTyK rTupA rfl (call_tupA rfl) ll_tupA rfl T.m_tuple (by decide +kernel) (lpa_cons (lp_lc (own := [("_law_k", 5)]) rfl nd (lpi_range1 (lpa_cons (lp_var 3) lpa_nil) rfl T.m_range) (blkOk_by (own := [("_law_k", 5)]) (N := N_x_key_right) (sc := defScope s_x_key_right) (by decide +kernel)) (wm_name (by decide)) (fun _ _ _ _ _ => (lpg_name (i := 5) nd rfl (by first | exact Or.inl rfl | exact Or.inr rfl))) (fun _ _ _ _ _ => lpts_nil) (fun _ _ _ _ _ => (lp_ixA (hu_of hr) rfl (lp_lst (lpa_cons lp_int (lpa_cons lp_int (lpa_cons lp_int (lpa_cons lp_int (lpa_cons lp_int (lpa_cons lp_int (lpa_cons lp_int (lpa_cons lp_int (lpa_cons lp_int lpa_nil)))))))))) (lp_call G_x_next rfl (hr.mono (by omega)) rfl T.g_x_next T.F_x_next.kp T.B_x_next (lpa_cons (lp_var 0) (lpa_cons (lp_var 1) (lpa_cons (lp_op op_sub l2_sub lp_int (lp_op op_mulA l2_mulA lp_int (lp_callTy call_intA ll_intA rfl T.m_int (by decide +kernel) (lpa_cons (lp_cmp op_gtA l2_ord (lp_var 3) lp_int (nomark _)) lpa_nil)))) lpa_nil))))))) lpa_nil)))
    (lpss_cons (lps_set (i := 7) nd rfl (by first | exact Or.inl rfl | exact Or.inr rfl) (lp_lst (lpa_cons (lp_lc (own := [("_law_arg", 8)]) rfl nd (lpi_any (lp_var 4) rfl) (blkOk_by (own := [("_law_arg", 8)]) (N := N_x_key_right) (sc := defScope s_x_key_right) (by decide +kernel)) (wm_name (by decide)) (fun _ _ _ _ _ => (lpg_name (i := 8) nd rfl (by first | exact Or.inl rfl | exact Or.inr rfl))) (fun _ _ _ _ _ => lpts_nil) (fun _ _ _ _ _ => (lp_opK rAddA rfl op_addA l2_addA lp_str (lp_var 8)))) (lpa_cons (lp_lc (own := [("_law_name", 9)]) rfl nd (lpi_any (lp_var 6) rfl) (blkOk_by (own := [("_law_name", 9)]) (N := N_x_key_right) (sc := defScope s_x_key_right) (by decide +kernel)) (wm_name (by decide)) (fun _ _ _ _ _ => (lpg_name (i := 9) nd rfl (by first | exact Or.inl rfl | exact Or.inr rfl))) (fun _ _ _ _ _ => lpts_nil) (fun _ _ _ _ _ => (lp_opK rAddA rfl op_addA l2_addA lp_str (lp_callTy call_str_int ll_strI rfl T.m_str (by decide +kernel) (lpa_cons (lp_var 9) lpa_nil))))) lpa_nil))))
    (lpss_cons (lps_set (i := 10) nd rfl (by first | exact Or.inl rfl | exact Or.inr rfl) (lp_bm PySem.F.plainAttrs_str PySem.F.slot_str_join PySem.F.type_str_join mt_join lm_join rfl lp_str (lpa_cons (lp_lc (own := [("_law_line", 11)]) rfl nd (lpi_any (lp_opK rAddA rfl op_addA l2_addA (lp_opK rAddA rfl op_addA l2_addA (lp_lst (lpa_cons (lp_var 2) lpa_nil)) (lp_ixA (hu_of hr) rfl (lp_var 7) lp_int)) (lp_ixA (hu_of hr) rfl (lp_var 7) lp_int)) rfl) (blkOk_by (own := [("_law_line", 11)]) (N := N_x_key_right) (sc := defScope s_x_key_right) (by decide +kernel)) (wm_name (by decide)) (fun _ _ _ _ _ => (lpg_name (i := 11) nd rfl (by first | exact Or.inl rfl | exact Or.inr rfl))) (fun _ _ _ _ _ => lpts_nil) (fun _ _ _ _ _ => (lp_opK rAddA rfl op_addA l2_addA (lp_var 11) lp_str))) lpa_nil)))
    (lpss_cons (lps_if (lpt_cmpK rEqA rfl (op_eqA hr.units) l2_eq (lp_call G_x_next rfl (hr.mono (by omega)) rfl T.g_x_next T.F_x_next.kp T.B_x_next (lpa_cons (lp_var 0) (lpa_cons (lp_var 1) (lpa_cons lp_int lpa_nil)))) lp_int (nomark _))
    (lpss_one (lps_ret (lp_cmpK rEqA rfl (op_eqA hr.units) l2_eq (lp_call G_x_told rfl (hr.mono (by omega)) rfl T.g_x_told T.F_x_told.kp T.B_x_told (lpa_cons (lp_call G_x_turned rfl (hr.mono (by omega)) rfl T.g_x_turned T.F_x_turned.kp T.B_x_turned (lpa_cons (lp_var 0) (lpa_cons (lp_var 1) (lpa_cons (lp_var 2) (lpa_cons (lp_var 7) lpa_nil))))) lpa_nil)) (lp_lst (lpa_cons lp_str (lpa_cons lp_bl lpa_nil))) (nomark _))))
    lpss_nil)
    (lpss_cons (lps_set (i := 12) nd rfl (by first | exact Or.inl rfl | exact Or.inr rfl) (lp_and (lp_call G_x_is_word rfl (hr.mono (by omega)) rfl T.g_x_is_word T.F_x_is_word.kp T.B_x_is_word (lpa_cons (lp_var 2) lpa_nil)) (lp_and (lp_cmp op_ltA l2_ord (lp_callBK rLenA rfl call_lenAny ll_lenA rfl T.m_len (by decide +kernel) (lpa_cons (lp_var 4) lpa_nil)) lp_int (nomark _)) (lp_and (lp_cmp op_ltA l2_ord (lp_callBK rLenA rfl call_lenAny ll_lenA rfl T.m_len (by decide +kernel) (lpa_cons (lp_var 6) lpa_nil)) lp_int (nomark _)) (lp_and (lp_cmpK (fun K => rInA K true) rfl (op_notInA (hu_of hr)) (l2_inA true) (lp_op op_mulA l2_mulA lp_str lp_int) (lp_var 4) (by rfl)) (lp_and (lp_cmpK (fun K => rInA K true) rfl (op_notInA (hu_of hr)) (l2_inA true) lp_int (lp_var 6) (by rfl)) (lp_one (lp_cmpK (fun K => rInA K true) rfl (op_notInA (hu_of hr)) (l2_inA true) lp_int (lp_var 6) (by rfl)))))))))
    (lpss_cons (lps_set (i := 13) nd rfl (by first | exact Or.inl rfl | exact Or.inr rfl) (lp_call G_x_told rfl (hr.mono (by omega)) rfl T.g_x_told T.F_x_told.kp T.B_x_told (lpa_cons (lp_var 10) lpa_nil)))
    (lpss_cons (lps_if (lpt_not (lpt_tru rfl (lp_var 12)))
    (lpss_one (lps_ret (lp_cmpK rEqA rfl (op_eqA hr.units) l2_eq (lp_var 13) (lp_lst (lpa_cons lp_str (lpa_cons lp_bl lpa_nil))) (nomark _))))
    lpss_nil)
    (lpss_one (lps_ret (lp_and (lp_call G_x_same rfl (hr.mono (by omega)) rfl T.g_x_same T.F_x_same.kp T.B_x_same (lpa_cons (lp_var 13) (lpa_cons (lp_tup (lpa_cons (lp_var 2) (lpa_cons (lp_var 4) (lpa_cons (lp_var 6) lpa_nil)))) lpa_nil))) (lp_one (lp_call G_x_same rfl (hr.mono (by omega)) rfl T.g_x_same T.F_x_same.kp T.B_x_same (lpa_cons (lp_call G_key_text rfl (hr.mono (by omega)) rfl T.g_key_text T.F_key_text.kp T.B_key_text (lpa_cons (lp_tup (lpa_cons (lp_var 2) (lpa_cons (lp_var 4) (lpa_cons (lp_var 6) lpa_nil)))) lpa_nil)) (lpa_cons (lp_var 10) lpa_nil))))))))))))))))))
  exact ⟨_, _, hD, fun ds M Pd PX h => b_x_key_right h⟩
theorem ok_x_claim_right (T : Txt P K mg A a) (B : Tbs base mg a) : FnOk P w K mg base CX0 5 a.f_x_claim_right a.d_x_claim_right ["_law_state", "_law_script"] (low K (tbl a) (sp_x_claim_right A)) := by
  have G_x_next := ok_x_next (P := P) (w := w) (base := base) T B
  have G_x_char := ok_x_char (P := P) (w := w) (base := base) T B
  have G_x_same := ok_x_same (P := P) (w := w) (base := base) T B 4
  have G_claim_text := ok_claim_text (P := P) (w := w) (base := base) T B
  have G_read_claim := ok_read_claim (P := P) (w := w) (base := base) T B
  refine okL T.F_x_claim_right sc_x_claim_right (fun ds M Pd PX h => len_x_claim_right h) ?_
  intro cdv Ar outer s H E hr
  have nd := sc_x_claim_right.nd
  have hD : LPSs (cxOf CX0 P w K mg base N_x_claim_right "_law_claim_right" (defScope s_x_claim_right) a.f_x_claim_right cdv Ar outer s H E).nox ⟨K, (tbl a), []⟩ W0 (defBody s_x_claim_right) _ (l_x_claim_right A) := (lpss_cons (lps_set (i := 2) nd rfl (by first | exact Or.inl rfl | exact Or.inr rfl) (lp_ixA (hu_of hr) rfl (lp_lst (lpa_cons lp_str (lpa_cons lp_str lpa_nil))) (lp_call G_x_next rfl (hr.mono (by omega)) rfl T.g_x_next T.F_x_next.kp T.B_x_next (lpa_cons (lp_var 0) (lpa_cons (lp_var 1) (lpa_cons lp_int lpa_nil))))))
    (lpss_cons (lps_set (i := 3) nd rfl (by first | exact Or.inl rfl | exact Or.inr rfl) (lp_bm PySem.F.plainAttrs_str PySem.F.slot_str_join PySem.F.type_str_join mt_join lm_join rfl lp_str (lpa_cons (lp_lc (own := [("_law_k", 4)]) rfl nd (lpi_range1 (lpa_cons (lp_call G_x_next rfl (hr.mono (by omega)) rfl T.g_x_next T.F_x_next.kp T.B_x_next (lpa_cons (lp_var 0) (lpa_cons (lp_var 1) (lpa_cons lp_int lpa_nil)))) lpa_nil) rfl T.m_range) (blkOk_by (own := [("_law_k", 4)]) (N := N_x_claim_right) (sc := defScope s_x_claim_right) (by decide +kernel)) (wm_name (by decide)) (fun _ _ _ _ _ => (lpg_name (i := 4) nd rfl (by first | exact Or.inl rfl | exact Or.inr rfl))) (fun _ _ _ _ _ => lpts_nil) (fun _ _ _ _ _ => (lp_call G_x_char rfl (hr.mono (by omega)) rfl T.g_x_char T.F_x_char.kp T.B_x_char (lpa_cons (lp_call G_x_next rfl (hr.mono (by omega)) rfl T.g_x_next T.F_x_next.kp T.B_x_next (lpa_cons (lp_var 0) (lpa_cons (lp_var 1) (lpa_cons lp_int lpa_nil)))) lpa_nil)))) lpa_nil)))
    (lpss_cons (lps_set (i := 3) nd rfl (by first | exact Or.inl rfl | exact Or.inr rfl) (lp_opK rAddA rfl op_addA l2_addA (lp_var 3) (lp_op op_mulA l2_mulA lp_str (lp_call G_x_next rfl (hr.mono (by omega)) rfl T.g_x_next T.F_x_next.kp T.B_x_next (lpa_cons (lp_var 0) (lpa_cons (lp_var 1) (lpa_cons lp_int lpa_nil)))))))
    (lpss_cons (lps_if (lpt_cmpK rEqA rfl (op_eqA hr.units) l2_eq (lp_call G_x_next rfl (hr.mono (by omega)) rfl T.g_x_next T.F_x_next.kp T.B_x_next (lpa_cons (lp_var 0) (lpa_cons (lp_var 1) (lpa_cons lp_int lpa_nil)))) lp_int (nomark _))
    (lpss_one (lps_set (i := 3) nd rfl (by first | exact Or.inl rfl | exact Or.inr rfl) (lp_op op_mulA l2_mulA lp_str (lp_opK rAddA rfl op_addA l2_addA lp_int (lp_call G_x_next rfl (hr.mono (by omega)) rfl T.g_x_next T.F_x_next.kp T.B_x_next (lpa_cons (lp_var 0) (lpa_cons (lp_var 1) (lpa_cons lp_int lpa_nil))))))))
    lpss_nil)
    (lpss_cons (lps_if (lpt_cmpK rEqA rfl (op_eqA hr.units) l2_eq (lp_call G_x_next rfl (hr.mono (by omega)) rfl T.g_x_next T.F_x_next.kp T.B_x_next (lpa_cons (lp_var 0) (lpa_cons (lp_var 1) (lpa_cons lp_int lpa_nil)))) lp_int (nomark _))
    (lpss_one (lps_set (i := 3) nd rfl (by first | exact Or.inl rfl | exact Or.inr rfl) (lp_opK rAddA rfl op_addA l2_addA (lp_op op_mulA l2_mulA lp_str lp_int) (lp_sl rfl lp_str lpo_none (lpo_some (lp_opK rAddA rfl op_addA l2_addA lp_int (lp_call G_x_next rfl (hr.mono (by omega)) rfl T.g_x_next T.F_x_next.kp T.B_x_next (lpa_cons (lp_var 0) (lpa_cons (lp_var 1) (lpa_cons lp_int lpa_nil))))))))))
    lpss_nil)
    (lpss_cons (lps_if (lpt_cmpK rEqA rfl (op_eqA hr.units) l2_eq (lp_call G_x_next rfl (hr.mono (by omega)) rfl T.g_x_next T.F_x_next.kp T.B_x_next (lpa_cons (lp_var 0) (lpa_cons (lp_var 1) (lpa_cons lp_int lpa_nil)))) lp_int (nomark _))
    (lpss_one (lps_set (i := 3) nd rfl (by first | exact Or.inl rfl | exact Or.inr rfl) (lp_opK rAddA rfl op_addA l2_addA (lp_var 3) lp_str)))
    lpss_nil)
    (lpss_cons (lps_set (i := 5) nd rfl (by first | exact Or.inl rfl | exact Or.inr rfl) (lp_opK rAddA rfl op_addA l2_addA (lp_opK rAddA rfl op_addA l2_addA (lp_var 2) lp_str) (lp_var 3)))
    (lpss_cons (lps_set (i := 6) nd rfl (by first | exact Or.inl rfl | exact Or.inr rfl) (lp_or (lp_and (lp_cmpK rEqA rfl (op_eqA hr.units) l2_eq (lp_var 2) lp_str (nomark _)) (lp_one (lp_cmp op_ltA l2_ord (lp_callBK rLenA rfl call_lenAny ll_lenA rfl T.m_len (by decide +kernel) (lpa_cons (lp_var 3) lpa_nil)) lp_int (nomark _)))) (lp_one (lp_and (lp_cmp op_ltA l2_ord (lp_callBK rLenA rfl call_lenAny ll_lenA rfl T.m_len (by decide +kernel) (lpa_cons (lp_var 3) lpa_nil)) lp_int (nomark _)) (lp_one (lp_cmpK (fun K => rInA K true) rfl (op_notInA (hu_of hr)) (l2_inA true) lp_str (lp_var 3) (by rfl)))))))
    (lpss_cons (lps_if (LPW.lpt (lpw_and (lpt_tru rfl (lp_var 6)) (lpw_and (lpt_cmpK (fun K => rInA K true) rfl (op_notInA (hu_of hr)) (l2_inA true) lp_str (lp_var 3) (by rfl)) (lpw_and1 (lpt_not (lpt_tru rfl (lp_call G_x_same rfl (hr.mono (by omega)) rfl T.g_x_same T.F_x_same.kp T.B_x_same (lpa_cons (lp_call G_claim_text rfl (hr.mono (by omega)) rfl T.g_claim_text T.F_claim_text.kp T.B_claim_text (lpa_cons (lp_tup (lpa_cons (lp_var 2) (lpa_cons (lp_var 3) lpa_nil))) lpa_nil)) (lpa_cons (lp_var 5) lpa_nil)))))))))
    (lpss_one (lps_ret lp_bl))
    lpss_nil)
    (lpss_cons (lps_set (i := 7) nd rfl (by first | exact Or.inl rfl | exact Or.inr rfl) (lp_or (lp_and (lp_cmpK rEqA rfl (op_eqA hr.units) l2_eq (lp_var 2) lp_str (nomark _)) (lp_one (lp_cmp op_ltA l2_ord (lp_callBK rLenA rfl call_lenAny ll_lenA rfl T.m_len (by decide +kernel) (lpa_cons (lp_var 3) lpa_nil)) lp_int (nomark _)))) (lp_one (lp_and (lp_cmp op_ltA l2_ord (lp_callBK rLenA rfl call_lenAny ll_lenA rfl T.m_len (by decide +kernel) (lpa_cons (lp_var 3) lpa_nil)) lp_int (nomark _)) (lp_one (lp_cmpK (fun K => rInA K true) rfl (op_notInA (hu_of hr)) (l2_inA true) lp_str (lp_var 3) (by rfl)))))))
    (lpss_cons (lps_set (i := 7) nd rfl (by first | exact Or.inl rfl | exact Or.inr rfl) (lp_and (lp_var 7) (lp_one (lp_cmpK (fun K => rInA K true) rfl (op_notInA (hu_of hr)) (l2_inA true) lp_str (lp_var 3) (by rfl)))))
    (lpss_cons (lps_tryAs rfl rfl nd (i := 9) rfl rfl ⟨rfl, by decide, .inl T.x_BadMessage.g⟩ takes_none5 rfl (tab_cons T.y_BadMessage_BadMessage tab_nil)
    (fun W pn xe ex tk hp => (lpss_one (lps_set (i := 8) nd rfl (by first | exact Or.inl rfl | exact Or.inr rfl) (lp_callX G_read_claim rfl tk (hr.mono (by omega)) rfl T.g_read_claim T.F_read_claim.kp T.B_read_claim (lpa_cons (lp_var 5) lpa_nil)))))
    (fun xa oe xc xd pn hz hf => (lpss_one (lps_ret (lp_and (lp_notT rfl (lp_var 7)) (lp_one (lp_isE T.q_BadMessage T.w_BadMessage_MillError hz hf rfl T.m_isinstance (lp_var 9) (pe_glob (v := .ref A.MillError) rfl T.x_MillError.g rfl) (fun _ h => h) (by decide +kernel))))))))
    (lpss_one (lps_ret (lp_and (lp_var 7) (lp_one (lp_call G_x_same rfl (hr.mono (by omega)) rfl T.g_x_same T.F_x_same.kp T.B_x_same (lpa_cons (lp_var 8) (lpa_cons (lp_tup (lpa_cons (lp_var 2) (lpa_cons (lp_var 3) lpa_nil))) lpa_nil)))))))))))))))))))
  exact ⟨_, _, hD, fun ds M Pd PX h => b_x_claim_right h⟩
theorem ok_x_claim_refused (T : Txt P K mg A a) (B : Tbs base mg a) : FnOk P w K mg base CX0 5 a.f_x_claim_refused a.d_x_claim_refused ["_law_state", "_law_script"] (low K (tbl a) (sp_x_claim_refused A)) := by
  have G_x_next := ok_x_next (P := P) (w := w) (base := base) T B
  have G_read_claim := ok_read_claim (P := P) (w := w) (base := base) T B
  refine okL T.F_x_claim_refused sc_x_claim_refused (fun ds M Pd PX h => len_x_claim_refused h) ?_
  intro cdv Ar outer s H E hr
  have nd := sc_x_claim_refused.nd
  have hD : LPSs (cxOf CX0 P w K mg base N_x_claim_refused "_law_claim_refused" (defScope s_x_claim_refused) a.f_x_claim_refused cdv Ar outer s H E).nox ⟨K, (tbl a), []⟩ W0 (defBody s_x_claim_refused) _ (l_x_claim_refused A) := (lpss_cons (lps_set (i := 2) nd rfl (by first | exact Or.inl rfl | exact Or.inr rfl) (lp_ixA (hu_of hr) rfl (lp_lst (lpa_cons lp_str (lpa_cons lp_str lpa_nil))) (lp_call G_x_next rfl (hr.mono (by omega)) rfl T.g_x_next T.F_x_next.kp T.B_x_next (lpa_cons (lp_var 0) (lpa_cons (lp_var 1) (lpa_cons lp_int lpa_nil))))))
    (lpss_cons (lps_set (i := 3) nd rfl (by first | exact Or.inl rfl | exact Or.inr rfl) (lp_call G_x_next rfl (hr.mono (by omega)) rfl T.g_x_next T.F_x_next.kp T.B_x_next (lpa_cons (lp_var 0) (lpa_cons (lp_var 1) (lpa_cons (lp_opK rAddA rfl op_addA l2_addA (lp_callBK rLenA rfl call_lenAny ll_lenA rfl T.m_len (by decide +kernel) (lpa_cons (lp_var 2) lpa_nil)) lp_int) lpa_nil)))))
    (lpss_cons (lps_set (i := 4) nd rfl (by first | exact Or.inl rfl | exact Or.inr rfl) (lp_lst (lpa_cons (lp_var 2) (lpa_cons lp_str (lpa_cons (lp_opK rAddA rfl op_addA l2_addA lp_str (lp_var 2)) (lpa_cons (lp_opK rAddA rfl op_addA l2_addA (lp_var 2) lp_str) (lpa_cons (lp_opK rAddA rfl op_addA l2_addA (lp_var 2) lp_str) (lpa_cons (lp_opK rAddA rfl op_addA l2_addA (lp_opK rAddA rfl op_addA l2_addA lp_str (lp_var 2)) lp_str) (lpa_cons (lp_opK rAddA rfl op_addA l2_addA (lp_opK rAddA rfl op_addA l2_addA (lp_sl rfl (lp_var 2) lpo_none (lpo_some (lp_var 3))) (lp_sl rfl (lp_var 2) (lpo_some (lp_opK rAddA rfl op_addA l2_addA (lp_var 3) lp_int)) lpo_none)) lp_str) lpa_nil)))))))))
    (lpss_cons (lps_set (i := 4) nd rfl (by first | exact Or.inl rfl | exact Or.inr rfl) (lp_opK rAddA rfl op_addA l2_addA (lp_var 4) (lp_lst (lpa_cons (lp_opK rAddA rfl op_addA l2_addA (lp_opK rAddA rfl op_addA l2_addA (lp_opK rAddA rfl op_addA l2_addA (lp_sl rfl (lp_var 2) lpo_none (lpo_some (lp_var 3))) lp_str) (lp_sl rfl (lp_var 2) (lpo_some (lp_var 3)) lpo_none)) lp_str) (lpa_cons (lp_opK rAddA rfl op_addA l2_addA (lp_var 2) lp_str) (lpa_cons (lp_opK rAddA rfl op_addA l2_addA (lp_opK rAddA rfl op_addA l2_addA lp_str (lp_var 2)) lp_str) lpa_nil))))))
    (lpss_cons (lps_tryAs rfl rfl nd (i := 5) rfl rfl ⟨rfl, by decide, .inl T.x_BadMessage.g⟩ takes_none5 rfl (tab_cons T.y_BadMessage_BadMessage tab_nil)
    (fun W pn xe ex tk hp => (lpss_one (lps_expr (lp_callX G_read_claim rfl tk (hr.mono (by omega)) rfl T.g_read_claim T.F_read_claim.kp T.B_read_claim (lpa_cons (lp_ixA (hu_of hr) rfl (lp_var 4) (lp_call G_x_next rfl (hr.mono (by omega)) rfl T.g_x_next T.F_x_next.kp T.B_x_next (lpa_cons (lp_var 0) (lpa_cons (lp_var 1) (lpa_cons lp_int lpa_nil))))) lpa_nil)))))
    (fun xa oe xc xd pn hz hf => (lpss_one (lps_ret (lp_and (lp_isE T.q_BadMessage T.w_BadMessage_MillError hz hf rfl T.m_isinstance (lp_var 5) (pe_glob (v := .ref A.MillError) rfl T.x_MillError.g rfl) (fun _ h => h) (by decide +kernel)) (lp_one (lp_notT rfl (lp_isE T.q_BadMessage T.w_BadMessage_BadText hz hf rfl T.m_isinstance (lp_var 5) (pe_glob (v := .ref A.BadText) rfl T.x_BadText.g rfl) (fun _ h => h) (by decide +kernel)))))))))
    (lpss_one (lps_ret lp_bl)))))))
  exact ⟨_, _, hD, fun ds M Pd PX h => b_x_claim_refused h⟩
theorem ok_law (T : Txt P K mg A a) (B : Tbs base mg a) : FnOk P w K mg base CX0 6 a.f_law a.d_law ["_law_script"] (low K (tbl a) (sp_law)) := by
  have G_x_key_right := ok_x_key_right (P := P) (w := w) (base := base) T B
  have G_x_claim_right := ok_x_claim_right (P := P) (w := w) (base := base) T B
  have G_x_claim_refused := ok_x_claim_refused (P := P) (w := w) (base := base) T B
  refine okL T.F_law sc_law (fun ds M Pd PX h => len_law h) ?_
  intro cdv Ar outer s H E hr
  have nd := sc_law.nd
  have hD : LPSs (cxOf CX0 P w K mg base N_law "law" (defScope s_law) a.f_law cdv Ar outer s H E).nox ⟨K, (tbl a), []⟩ W0 (defBody s_law) _ (l_law A) := (lpss_cons (lps_set (i := 1) nd rfl (by first | exact Or.inl rfl | exact Or.inr rfl) (lp_lstM (lpa_cons lp_int (lpa_cons lp_int (lpa_cons lp_int lpa_nil)))))
    (lpss_cons (lps_for PassesOwn.never rfl (lpi_range1 (lpa_cons lp_int lpa_nil) rfl T.m_range) (lpg_name (i := 2) nd rfl (by first | exact Or.inl rfl | exact Or.inr rfl))
    (lpss_one (lps_if (LPW.lpt (lpw_or (lpt_not (lpt_tru rfl (lp_call G_x_key_right rfl (hr.mono (by omega)) rfl T.g_x_key_right T.F_x_key_right.kp T.B_x_key_right (lpa_cons (lp_var 1) (lpa_cons (lp_var 0) lpa_nil))))) (lpw_or (lpt_not (lpt_tru rfl (lp_call G_x_claim_right rfl (hr.mono (by omega)) rfl T.g_x_claim_right T.F_x_claim_right.kp T.B_x_claim_right (lpa_cons (lp_var 1) (lpa_cons (lp_var 0) lpa_nil))))) (lpw_or1 (lpt_not (lpt_tru rfl (lp_call G_x_claim_refused rfl (hr.mono (by omega)) rfl T.g_x_claim_refused T.F_x_claim_refused.kp T.B_x_claim_refused (lpa_cons (lp_var 1) (lpa_cons (lp_var 0) lpa_nil)))))))))
    (lpss_one (lps_ret lp_bl))
    lpss_nil)))
    (lpss_one (lps_ret lp_bl))))
  exact ⟨_, _, hD, fun ds M Pd PX h => b_law h⟩
end
open PySem PySem.W PyProof.Rows in
theorem all_mk {l : PySem.W.OpenLaw} {w : World} {K : PySem.W.Frag} {h : Heap} {mg : Str → Option Value} {fa : Addr} {f0 f1 f2 f3 f4 f5 f6 f7 f8 f9 f10 f11 f12 f13 f14 f15 f16 f17 f18 f19 : Addr} {cc1 tt1 cc2 tt2 cc3 tt3 cc5 tt5 : Addr} (X : K.In h) (G : h.Ns mainGlobals mg) (hfa : mg "law" = some (.ref fa))
    {od0 an0 od1 an1 od2 an2 od3 an3 od4 an4 od5 an5 od6 an6 od7 an7 od8 an8 od9 an9 od10 an10 od11 an11 od12 an12 od13 an13 od14 an14 od15 an15 od16 an16 od17 an17 od18 an18 od19 an19 : Option Addr} {sl0 sl1 sl2 sl3 sl4 sl5 sl6 sl7 sl8 sl9 sl10 sl11 sl12 sl13 sl14 sl15 sl16 sl17 sl18 sl19 : Array (Option Value)} {oc0 kV0 dc0 pm0 ct0 cd0 oc1 kV1 dc1 pm1 ct1 oc2 kV2 dc2 pm2 ct2 oc3 kV3 dc3 pm3 ct3 oc4 kV4 dc4 pm4 ct4 cd4 oc5 kV5 dc5 pm5 ct5 oc6 kV6 dc6 pm6 ct6 cd6 oc7 kV7 dc7 pm7 ct7 cd7 oc8 kV8 dc8 pm8 ct8 cd8 oc9 kV9 dc9 pm9 ct9 cd9 oc10 kV10 dc10 pm10 ct10 cd10 oc11 kV11 dc11 pm11 ct11 cd11 oc12 kV12 dc12 pm12 ct12 cd12 oc13 kV13 dc13 pm13 ct13 cd13 oc14 kV14 dc14 pm14 ct14 cd14 oc15 kV15 dc15 pm15 ct15 cd15 oc16 kV16 dc16 pm16 ct16 cd16 oc17 kV17 dc17 pm17 ct17 cd17 oc18 kV18 dc18 pm18 ct18 cd18 oc19 kV19 dc19 pm19 ct19 cd19 : Value}
    {u1_0 u1_1 u1_2 u1_3 u1_4 u1_5 u1_6 u1_7 u1_8 u1_9 u1_10 oq1 u2_0 u2_1 u2_2 u2_3 u2_4 u2_5 u2_6 u2_7 u2_8 u2_9 u2_10 oq2 u3_0 u3_1 u3_2 u3_3 u3_4 u3_5 u3_6 u3_7 u3_8 u3_9 u3_10 oq3 u5_0 u5_1 u5_2 u5_3 u5_4 u5_5 u5_6 u5_7 u5_8 u5_9 u5_10 oq5 : Value} {dq1 dq2 dq3 dq5 : Option Addr} {vq1 vq2 vq3 vq5 : Array Value} {sq1 sq2 sq3 sq5 : Array (Option Value)} {us1 us2 us3 us5 : List Value}
    (a0 : PySem.W.nsIn K mainGlobals "is_allowed" = some (some (.ref f0)))
    (l0 : K.lookup f0 = some ⟨oc0, od0, .func (PySem.W.fnOf "is_allowed" "is_allowed" (defArgs s_is_allowed) (defBody s_is_allowed) (defScope s_is_allowed) .none kV0 dc0 pm0 an0 cd0 ct0), sl0⟩) (c0 : PySem.W.codeIn K cd0 "is_allowed" = true)
    (a1 : PySem.W.nsIn K mainGlobals "text_fault" = some (some (.ref f1)))
    (l1 : K.lookup f1 = some ⟨oc1, od1, .func (PySem.W.fnOf "text_fault" "text_fault" (defArgs s_text_fault) (defBody s_text_fault) (defScope s_text_fault) .none kV1 dc1 pm1 an1 (.ref cc1) ct1), sl1⟩) (c1 : PySem.W.codeIn K (.ref cc1) "text_fault" = true)
    (q1 : K.lookup cc1 = some ⟨oq1, dq1, .fields vq1, sq1⟩) (v1 : vq1.toList = u1_0 :: u1_1 :: u1_2 :: u1_3 :: u1_4 :: u1_5 :: u1_6 :: u1_7 :: u1_8 :: u1_9 :: u1_10 :: .ref tt1 :: us1) (e1 : K.lookup tt1 = some ⟨.none, none, .fields #[], #[]⟩) (y1 : PySem.W.codeHdIn K cc1 tt1 = true)
    (a2 : PySem.W.nsIn K mainGlobals "is_number" = some (some (.ref f2)))
    (l2 : K.lookup f2 = some ⟨oc2, od2, .func (PySem.W.fnOf "is_number" "is_number" (defArgs s_is_number) (defBody s_is_number) (defScope s_is_number) .none kV2 dc2 pm2 an2 (.ref cc2) ct2), sl2⟩) (c2 : PySem.W.codeIn K (.ref cc2) "is_number" = true)
    (q2 : K.lookup cc2 = some ⟨oq2, dq2, .fields vq2, sq2⟩) (v2 : vq2.toList = u2_0 :: u2_1 :: u2_2 :: u2_3 :: u2_4 :: u2_5 :: u2_6 :: u2_7 :: u2_8 :: u2_9 :: u2_10 :: .ref tt2 :: us2) (e2 : K.lookup tt2 = some ⟨.none, none, .fields #[], #[]⟩) (y2 : PySem.W.codeHdIn K cc2 tt2 = true)
    (a3 : PySem.W.nsIn K mainGlobals "is_word" = some (some (.ref f3)))
    (l3 : K.lookup f3 = some ⟨oc3, od3, .func (PySem.W.fnOf "is_word" "is_word" (defArgs s_is_word) (defBody s_is_word) (defScope s_is_word) .none kV3 dc3 pm3 an3 (.ref cc3) ct3), sl3⟩) (c3 : PySem.W.codeIn K (.ref cc3) "is_word" = true)
    (q3 : K.lookup cc3 = some ⟨oq3, dq3, .fields vq3, sq3⟩) (v3 : vq3.toList = u3_0 :: u3_1 :: u3_2 :: u3_3 :: u3_4 :: u3_5 :: u3_6 :: u3_7 :: u3_8 :: u3_9 :: u3_10 :: .ref tt3 :: us3) (e3 : K.lookup tt3 = some ⟨.none, none, .fields #[], #[]⟩) (y3 : PySem.W.codeHdIn K cc3 tt3 = true)
    (a4 : PySem.W.nsIn K mainGlobals "key_text" = some (some (.ref f4)))
    (l4 : K.lookup f4 = some ⟨oc4, od4, .func (PySem.W.fnOf "key_text" "key_text" (defArgs s_key_text) (defBody s_key_text) (defScope s_key_text) .none kV4 dc4 pm4 an4 cd4 ct4), sl4⟩) (c4 : PySem.W.codeIn K cd4 "key_text" = true)
    (a5 : PySem.W.nsIn K mainGlobals "read_key" = some (some (.ref f5)))
    (l5 : K.lookup f5 = some ⟨oc5, od5, .func (PySem.W.fnOf "read_key" "read_key" (defArgs s_read_key) (defBody s_read_key) (defScope s_read_key) .none kV5 dc5 pm5 an5 (.ref cc5) ct5), sl5⟩) (c5 : PySem.W.codeIn K (.ref cc5) "read_key" = true)
    (q5 : K.lookup cc5 = some ⟨oq5, dq5, .fields vq5, sq5⟩) (v5 : vq5.toList = u5_0 :: u5_1 :: u5_2 :: u5_3 :: u5_4 :: u5_5 :: u5_6 :: u5_7 :: u5_8 :: u5_9 :: u5_10 :: .ref tt5 :: us5) (e5 : K.lookup tt5 = some ⟨.none, none, .fields #[], #[]⟩) (y5 : PySem.W.codeHdIn K cc5 tt5 = true)
    (a6 : PySem.W.nsIn K mainGlobals "claim_text" = some (some (.ref f6)))
    (l6 : K.lookup f6 = some ⟨oc6, od6, .func (PySem.W.fnOf "claim_text" "claim_text" (defArgs s_claim_text) (defBody s_claim_text) (defScope s_claim_text) .none kV6 dc6 pm6 an6 cd6 ct6), sl6⟩) (c6 : PySem.W.codeIn K cd6 "claim_text" = true)
    (a7 : PySem.W.nsIn K mainGlobals "read_claim" = some (some (.ref f7)))
    (l7 : K.lookup f7 = some ⟨oc7, od7, .func (PySem.W.fnOf "read_claim" "read_claim" (defArgs s_read_claim) (defBody s_read_claim) (defScope s_read_claim) .none kV7 dc7 pm7 an7 cd7 ct7), sl7⟩) (c7 : PySem.W.codeIn K cd7 "read_claim" = true)
    (a8 : PySem.W.nsIn K mainGlobals "_law_next" = some (some (.ref f8)))
    (l8 : K.lookup f8 = some ⟨oc8, od8, .func (PySem.W.fnOf "_law_next" "_law_next" (defArgs s_x_next) (defBody s_x_next) (defScope s_x_next) .none kV8 dc8 pm8 an8 cd8 ct8), sl8⟩) (c8 : PySem.W.codeIn K cd8 "_law_next" = true)
    (a9 : PySem.W.nsIn K mainGlobals "_law_same" = some (some (.ref f9)))
    (l9 : K.lookup f9 = some ⟨oc9, od9, .func (PySem.W.fnOf "_law_same" "_law_same" (defArgs s_x_same) (defBody s_x_same) (defScope s_x_same) .none kV9 dc9 pm9 an9 cd9 ct9), sl9⟩) (c9 : PySem.W.codeIn K cd9 "_law_same" = true)
    (a10 : PySem.W.nsIn K mainGlobals "_law_char" = some (some (.ref f10)))
    (l10 : K.lookup f10 = some ⟨oc10, od10, .func (PySem.W.fnOf "_law_char" "_law_char" (defArgs s_x_char) (defBody s_x_char) (defScope s_x_char) .none kV10 dc10 pm10 an10 cd10 ct10), sl10⟩) (c10 : PySem.W.codeIn K cd10 "_law_char" = true)
    (a11 : PySem.W.nsIn K mainGlobals "_law_reserved" = some (some (.ref f11)))
    (l11 : K.lookup f11 = some ⟨oc11, od11, .func (PySem.W.fnOf "_law_reserved" "_law_reserved" (defArgs s_x_reserved) (defBody s_x_reserved) (defScope s_x_reserved) .none kV11 dc11 pm11 an11 cd11 ct11), sl11⟩) (c11 : PySem.W.codeIn K cd11 "_law_reserved" = true)
    (a12 : PySem.W.nsIn K mainGlobals "_law_drawn_tool" = some (some (.ref f12)))
    (l12 : K.lookup f12 = some ⟨oc12, od12, .func (PySem.W.fnOf "_law_drawn_tool" "_law_drawn_tool" (defArgs s_x_drawn_tool) (defBody s_x_drawn_tool) (defScope s_x_drawn_tool) .none kV12 dc12 pm12 an12 cd12 ct12), sl12⟩) (c12 : PySem.W.codeIn K cd12 "_law_drawn_tool" = true)
    (a13 : PySem.W.nsIn K mainGlobals "_law_is_word" = some (some (.ref f13)))
    (l13 : K.lookup f13 = some ⟨oc13, od13, .func (PySem.W.fnOf "_law_is_word" "_law_is_word" (defArgs s_x_is_word) (defBody s_x_is_word) (defScope s_x_is_word) .none kV13 dc13 pm13 an13 cd13 ct13), sl13⟩) (c13 : PySem.W.codeIn K cd13 "_law_is_word" = true)
    (a14 : PySem.W.nsIn K mainGlobals "_law_told" = some (some (.ref f14)))
    (l14 : K.lookup f14 = some ⟨oc14, od14, .func (PySem.W.fnOf "_law_told" "_law_told" (defArgs s_x_told) (defBody s_x_told) (defScope s_x_told) .none kV14 dc14 pm14 an14 cd14 ct14), sl14⟩) (c14 : PySem.W.codeIn K cd14 "_law_told" = true)
    (a15 : PySem.W.nsIn K mainGlobals "_law_turned" = some (some (.ref f15)))
    (l15 : K.lookup f15 = some ⟨oc15, od15, .func (PySem.W.fnOf "_law_turned" "_law_turned" (defArgs s_x_turned) (defBody s_x_turned) (defScope s_x_turned) .none kV15 dc15 pm15 an15 cd15 ct15), sl15⟩) (c15 : PySem.W.codeIn K cd15 "_law_turned" = true)
    (a16 : PySem.W.nsIn K mainGlobals "_law_key_right" = some (some (.ref f16)))
    (l16 : K.lookup f16 = some ⟨oc16, od16, .func (PySem.W.fnOf "_law_key_right" "_law_key_right" (defArgs s_x_key_right) (defBody s_x_key_right) (defScope s_x_key_right) .none kV16 dc16 pm16 an16 cd16 ct16), sl16⟩) (c16 : PySem.W.codeIn K cd16 "_law_key_right" = true)
    (a17 : PySem.W.nsIn K mainGlobals "_law_claim_right" = some (some (.ref f17)))
    (l17 : K.lookup f17 = some ⟨oc17, od17, .func (PySem.W.fnOf "_law_claim_right" "_law_claim_right" (defArgs s_x_claim_right) (defBody s_x_claim_right) (defScope s_x_claim_right) .none kV17 dc17 pm17 an17 cd17 ct17), sl17⟩) (c17 : PySem.W.codeIn K cd17 "_law_claim_right" = true)
    (a18 : PySem.W.nsIn K mainGlobals "_law_claim_refused" = some (some (.ref f18)))
    (l18 : K.lookup f18 = some ⟨oc18, od18, .func (PySem.W.fnOf "_law_claim_refused" "_law_claim_refused" (defArgs s_x_claim_refused) (defBody s_x_claim_refused) (defScope s_x_claim_refused) .none kV18 dc18 pm18 an18 cd18 ct18), sl18⟩) (c18 : PySem.W.codeIn K cd18 "_law_claim_refused" = true)
    (a19 : PySem.W.nsIn K mainGlobals "law" = some (some (.ref f19)))
    (l19 : K.lookup f19 = some ⟨oc19, od19, .func (PySem.W.fnOf "law" "law" (defArgs s_law) (defBody s_law) (defScope s_law) .none kV19 dc19 pm19 an19 cd19 ct19), sl19⟩) (c19 : PySem.W.codeIn K cd19 "law" = true)
    (zabs : PySem.W.nsIn K mainGlobals "abs" = some none)
    (zall : PySem.W.nsIn K mainGlobals "all" = some none)
    (zany : PySem.W.nsIn K mainGlobals "any" = some none)
    (zbool : PySem.W.nsIn K mainGlobals "bool" = some none)
    (zint : PySem.W.nsIn K mainGlobals "int" = some none)
    (zisinstance : PySem.W.nsIn K mainGlobals "isinstance" = some none)
    (zlen : PySem.W.nsIn K mainGlobals "len" = some none)
    (zlist : PySem.W.nsIn K mainGlobals "list" = some none)
    (zord : PySem.W.nsIn K mainGlobals "ord" = some none)
    (zrange : PySem.W.nsIn K mainGlobals "range" = some none)
    (zstr : PySem.W.nsIn K mainGlobals "str" = some none)
    (zsuper : PySem.W.nsIn K mainGlobals "super" = some none)
    (ztuple : PySem.W.nsIn K mainGlobals "tuple" = some none)
    {tARG_LENGTH : PySem.Tok} (wARG_LENGTH : PySem.W.nsIn K mainGlobals "ARG_LENGTH" = some (some (.int 60 tARG_LENGTH)))
    {tDIGITS : PySem.Tok} (wDIGITS : PySem.W.nsIn K mainGlobals "DIGITS" = some (some (.str "0123456789" tDIGITS)))
    {tLETTERS : PySem.Tok} (wLETTERS : PySem.W.nsIn K mainGlobals "LETTERS" = some (some (.str "abcdefghijklmnopqrstuvwxyz" tLETTERS)))
    {tMOST_ARGS : PySem.Tok} (wMOST_ARGS : PySem.W.nsIn K mainGlobals "MOST_ARGS" = some (some (.int 12 tMOST_ARGS)))
    {tMOST_NAMES : PySem.Tok} (wMOST_NAMES : PySem.W.nsIn K mainGlobals "MOST_NAMES" = some (some (.int 24 tMOST_NAMES)))
    {tREASON_LENGTH : PySem.Tok} (wREASON_LENGTH : PySem.W.nsIn K mainGlobals "REASON_LENGTH" = some (some (.int 80 tREASON_LENGTH)))
    {tTEXT_LENGTH : PySem.Tok} (wTEXT_LENGTH : PySem.W.nsIn K mainGlobals "TEXT_LENGTH" = some (some (.int 2000 tTEXT_LENGTH)))
    {tWORD_CHARACTERS : PySem.Tok} (wWORD_CHARACTERS : PySem.W.nsIn K mainGlobals "WORD_CHARACTERS" = some (some (.str "abcdefghijklmnopqrstuvwxyz0123456789_" tWORD_CHARACTERS)))
    {tWORD_LENGTH : PySem.Tok} (wWORD_LENGTH : PySem.W.nsIn K mainGlobals "WORD_LENGTH" = some (some (.int 20 tWORD_LENGTH)))
    {X_BadMessage : Addr} {nmBadMessage qBadMessage : Str} {NBadMessage : Addr} {bsBadMessage bmBadMessage : List Value} {snBadMessage : List Str} {suBadMessage : List Value} {abBadMessage : Bool} {coBadMessage : Option Bool} {ddBadMessage : Option Addr} {kaBadMessage kbBadMessage kcBadMessage kdBadMessage keBadMessage : Option Value}
    (xaBadMessage : PySem.W.nsIn K mainGlobals "BadMessage" = some (some (.ref X_BadMessage)))
    (xlBadMessage : K.lookup X_BadMessage = some (excClassObj nmBadMessage qBadMessage X_BadMessage NBadMessage bsBadMessage bmBadMessage true snBadMessage suBadMessage abBadMessage coBadMessage ddBadMessage kaBadMessage kbBadMessage kcBadMessage kdBadMessage keBadMessage "ValueError.__new__"))
    (xrBadMessage : PySem.HandSPX.refsVE bmBadMessage = true)
    (xsBadMessage : PySem.W.findIn (dropA [tt1, tt2, tt3, tt5] K) (.ref X_BadMessage) "__setattr__" = some (some (.builtin "object.__setattr__")))
    (xbBadMessage : PySem.W.subIn (dropA [tt1, tt2, tt3, tt5] K) (.ref X_BadMessage) (.type "BaseException") = some true)
    (xtBadMessage : PySem.W.typeIn (dropA [tt1, tt2, tt3, tt5] K) (.ref X_BadMessage) = some (.type "type"))
    (xkBadMessage : PySem.W.keepIn (dropA [tt1, tt2, tt3, tt5] K) (.ref X_BadMessage) = true)
    (xxBadMessage : L2.xfB (dropA [tt1, tt2, tt3, tt5] K) X_BadMessage = true)
    (xzBadMessage : PySem.W.excIn (dropA [tt1, tt2, tt3, tt5] K) X_BadMessage [.type "ValueError", .type "Exception", .type "BaseException", .type "object"] "ValueError.__new__" = true)
    {X_BadText : Addr} {nmBadText qBadText : Str} {NBadText : Addr} {bsBadText bmBadText : List Value} {snBadText : List Str} {suBadText : List Value} {abBadText : Bool} {coBadText : Option Bool} {ddBadText : Option Addr} {kaBadText kbBadText kcBadText kdBadText keBadText : Option Value}
    (xaBadText : PySem.W.nsIn K mainGlobals "BadText" = some (some (.ref X_BadText)))
    (xlBadText : K.lookup X_BadText = some (excClassObj nmBadText qBadText X_BadText NBadText bsBadText bmBadText true snBadText suBadText abBadText coBadText ddBadText kaBadText kbBadText kcBadText kdBadText keBadText "ValueError.__new__"))
    (xrBadText : PySem.HandSPX.refsVE bmBadText = true)
    (xsBadText : PySem.W.findIn (dropA [tt1, tt2, tt3, tt5] K) (.ref X_BadText) "__setattr__" = some (some (.builtin "object.__setattr__")))
    (xbBadText : PySem.W.subIn (dropA [tt1, tt2, tt3, tt5] K) (.ref X_BadText) (.type "BaseException") = some true)
    (xtBadText : PySem.W.typeIn (dropA [tt1, tt2, tt3, tt5] K) (.ref X_BadText) = some (.type "type"))
    (xkBadText : PySem.W.keepIn (dropA [tt1, tt2, tt3, tt5] K) (.ref X_BadText) = true)
    (xxBadText : L2.xfB (dropA [tt1, tt2, tt3, tt5] K) X_BadText = true)
    {xfBadText xccBadText xcdBadText : Addr} {yoBadText ykBadText ymBadText ypBadText ytBadText : Value} {yeBadText ynBadText : Option Addr} {ysBadText : Array (Option Value)} {zcBadText : Value} {zdBadText : Option Addr} {zsBadText : Array (Option Value)} {wcBadText : Value} {wdBadText : Option Addr} {wvBadText : Array Value} {wsBadText : Array (Option Value)} {wfBadText : Str} {wtBadText : PySem.Tok}
    (xiBadText : PySem.W.findIn K (.ref X_BadText) "__init__" = some (some (.ref xfBadText)))
    (xl2BadText : K.lookup xfBadText = some ⟨yoBadText, yeBadText, .func (PySem.W.fnX "__init__" "BadText.__init__" (defArgs s_BadText_init) (defBody s_BadText_init) (defScope s_BadText_init) [(("__class__" : Str), xccBadText)] .none ykBadText ymBadText ypBadText ynBadText (.ref xcdBadText) ytBadText), ysBadText⟩)
    (xoBadText : PySem.W.codeIn K (.ref xcdBadText) "BadText.__init__" = true)
    (xjBadText : PySem.W.findIn (dropA [tt1, tt2, tt3, tt5] K) (.ref X_BadText) "__init__" = some (some (.ref xfBadText)))
    (xuBadText : PySem.W.typeIn (dropA [tt1, tt2, tt3, tt5] K) (.ref xfBadText) = some (.type "function"))
    (xn0BadText : PySem.W.findIn (dropA [tt1, tt2, tt3, tt5] K) (.ref X_BadText) "reason" = some none)
    (xwBadText : PySem.W.ks_superIn (dropA [tt1, tt2, tt3, tt5] K) X_BadText X_BadText "__init__" = some (some (.builtin "ValueError.__init__")))
    (xqBadText : PySem.W.nsIn (dropA [tt1, tt2, tt3, tt5] K) cStatics "thirdparty.any" = some none)
    (xvBadText : PySem.W.subIn (dropA [tt1, tt2, tt3, tt5] K) (.ref X_BadText) (.type "ValueError") = some true)
    (xmBadText : PySem.W.mroIn (dropA [tt1, tt2, tt3, tt5] K) X_BadText (.ref X_BadText) = some true)
    (xeBadText : K.lookup xccBadText = some ⟨zcBadText, zdBadText, .cell (some (.ref X_BadText)), zsBadText⟩)
    (xyBadText : K.lookup xcdBadText = some ⟨wcBadText, wdBadText, .fields wvBadText, wsBadText⟩)
    (xzBadText : wvBadText[2]? = some (.str wfBadText wtBadText))
    (xhBadText : ((l.prog.main.file : Str) == wfBadText) = true)
    (xpBadText : (l.prog.main.scope.names.lookup ("super" : Str)).isSome = false)
    (xgBadText : wcBadText ≠ .none)
    {X_MillError : Addr} {nmMillError qMillError : Str} {NMillError : Addr} {bsMillError bmMillError : List Value} {snMillError : List Str} {suMillError : List Value} {abMillError : Bool} {coMillError : Option Bool} {ddMillError : Option Addr} {kaMillError kbMillError kcMillError kdMillError keMillError : Option Value}
    (xaMillError : PySem.W.nsIn K mainGlobals "MillError" = some (some (.ref X_MillError)))
    (xlMillError : K.lookup X_MillError = some (excClassObj nmMillError qMillError X_MillError NMillError bsMillError bmMillError true snMillError suMillError abMillError coMillError ddMillError kaMillError kbMillError kcMillError kdMillError keMillError "ValueError.__new__"))
    (xrMillError : PySem.HandSPX.refsVE bmMillError = true)
    (xsMillError : PySem.W.findIn (dropA [tt1, tt2, tt3, tt5] K) (.ref X_MillError) "__setattr__" = some (some (.builtin "object.__setattr__")))
    (xbMillError : PySem.W.subIn (dropA [tt1, tt2, tt3, tt5] K) (.ref X_MillError) (.type "BaseException") = some true)
    (xtMillError : PySem.W.typeIn (dropA [tt1, tt2, tt3, tt5] K) (.ref X_MillError) = some (.type "type"))
    (xkMillError : PySem.W.keepIn (dropA [tt1, tt2, tt3, tt5] K) (.ref X_MillError) = true)
    (xxMillError : L2.xfB (dropA [tt1, tt2, tt3, tt5] K) X_MillError = true)
    (xy_BadMessage_BadMessage : PySem.W.exmOne (dropA [tt1, tt2, tt3, tt5] K) (.ref X_BadMessage) (.ref X_BadMessage) = some true)
    (xABadMessage : PySem.W.findIn (dropA [tt1, tt2, tt3, tt5] K) (.ref X_BadMessage) "__getattribute__" = some (some (.builtin "BaseException.__getattribute__")))
    (xBBadMessage : PySem.W.findIn (dropA [tt1, tt2, tt3, tt5] K) (.ref X_BadMessage) "__getattr__" = some none)
    (xCBadMessage : PySem.W.hasDictIn (dropA [tt1, tt2, tt3, tt5] K) X_BadMessage = true)
    (xDBadMessage : PySem.W.findIn (dropA [tt1, tt2, tt3, tt5] K) (.ref X_BadMessage) "__class__" = some (some (.builtin "object.__class__")))
    (xEBadMessage : PySem.W.specialIn (dropA [tt1, tt2, tt3, tt5] K) (.builtin "object.__class__") "__get__" = some (some (.builtin "getset_descriptor.__get__")))
    (xFBadMessage : PySem.W.takesIn (dropA [tt1, tt2, tt3, tt5] K) (.builtin "object.__class__") = some true)
    (xGBadMessage : PySem.W.mroIn (dropA [tt1, tt2, tt3, tt5] K) X_BadMessage (.type "object") = some true)
    (xw_BadMessage_BadText : PySem.W.kitOne (dropA [tt1, tt2, tt3, tt5] K) (.ref X_BadMessage) (.ref X_BadText) = some false)
    (xw_BadMessage_MillError : PySem.W.kitOne (dropA [tt1, tt2, tt3, tt5] K) (.ref X_BadMessage) (.ref X_MillError) = some true)
    (hl : l.prog = l.prog) : ∃ K2 : PySem.W.Frag, K2.In h ∧ LamX.LawAtS l w K2 CX0 6 63 "_law_script" mg fa h := by
  have e := hfa.symm.trans (PySem.W.mg_of X G a19)
  cases e
  have ht : ∀ P ∈ ([tt1, tt2, tt3, tt5] : List Addr), K.lookup P = some { cls := .none, data := .fields #[] } := by
    intro P hP
    simp only [List.mem_cons, List.not_mem_nil, or_false] at hP
    rcases hP with hP | hP | hP | hP
    · rw [hP]; exact e1
    · rw [hP]; exact e2
    · rw [hP]; exact e3
    · rw [hP]; exact e5
  have F0 := fun_mk (st := s_is_allowed) (drop_fn ht l0) (drop_code ht c0) (drop_keep ht l0)
  have F1 := fun_mk (st := s_text_fault) (drop_fn ht l1) (drop_code ht c1) (drop_keep ht l1)
  have F2 := fun_mk (st := s_is_number) (drop_fn ht l2) (drop_code ht c2) (drop_keep ht l2)
  have F3 := fun_mk (st := s_is_word) (drop_fn ht l3) (drop_code ht c3) (drop_keep ht l3)
  have F4 := fun_mk (st := s_key_text) (drop_fn ht l4) (drop_code ht c4) (drop_keep ht l4)
  have F5 := fun_mk (st := s_read_key) (drop_fn ht l5) (drop_code ht c5) (drop_keep ht l5)
  have F6 := fun_mk (st := s_claim_text) (drop_fn ht l6) (drop_code ht c6) (drop_keep ht l6)
  have F7 := fun_mk (st := s_read_claim) (drop_fn ht l7) (drop_code ht c7) (drop_keep ht l7)
  have F8 := fun_mk (st := s_x_next) (drop_fn ht l8) (drop_code ht c8) (drop_keep ht l8)
  have F9 := fun_mk (st := s_x_same) (drop_fn ht l9) (drop_code ht c9) (drop_keep ht l9)
  have F10 := fun_mk (st := s_x_char) (drop_fn ht l10) (drop_code ht c10) (drop_keep ht l10)
  have F11 := fun_mk (st := s_x_reserved) (drop_fn ht l11) (drop_code ht c11) (drop_keep ht l11)
  have F12 := fun_mk (st := s_x_drawn_tool) (drop_fn ht l12) (drop_code ht c12) (drop_keep ht l12)
  have F13 := fun_mk (st := s_x_is_word) (drop_fn ht l13) (drop_code ht c13) (drop_keep ht l13)
  have F14 := fun_mk (st := s_x_told) (drop_fn ht l14) (drop_code ht c14) (drop_keep ht l14)
  have F15 := fun_mk (st := s_x_turned) (drop_fn ht l15) (drop_code ht c15) (drop_keep ht l15)
  have F16 := fun_mk (st := s_x_key_right) (drop_fn ht l16) (drop_code ht c16) (drop_keep ht l16)
  have F17 := fun_mk (st := s_x_claim_right) (drop_fn ht l17) (drop_code ht c17) (drop_keep ht l17)
  have F18 := fun_mk (st := s_x_claim_refused) (drop_fn ht l18) (drop_code ht c18) (drop_keep ht l18)
  have F19 := fun_mk (st := s_law) (drop_fn ht l19) (drop_code ht c19) (drop_keep ht l19)
  have b0 := F0.binds (ps := ["letter"]) fun _ _ _ _ _ _ us hl => match us, hl with | [_], _ => rfl
  have b1 := F1.binds (ps := ["text"]) fun _ _ _ _ _ _ us hl => match us, hl with | [_], _ => rfl
  have b2 := F2.binds (ps := ["text"]) fun _ _ _ _ _ _ us hl => match us, hl with | [_], _ => rfl
  have b3 := F3.binds (ps := ["text"]) fun _ _ _ _ _ _ us hl => match us, hl with | [_], _ => rfl
  have b4 := F4.binds (ps := ["key"]) fun _ _ _ _ _ _ us hl => match us, hl with | [_], _ => rfl
  have b5 := F5.binds (ps := ["text"]) fun _ _ _ _ _ _ us hl => match us, hl with | [_], _ => rfl
  have b6 := F6.binds (ps := ["result"]) fun _ _ _ _ _ _ us hl => match us, hl with | [_], _ => rfl
  have b7 := F7.binds (ps := ["text"]) fun _ _ _ _ _ _ us hl => match us, hl with | [_], _ => rfl
  have b8 := F8.binds (ps := ["_law_state", "_law_script", "_law_many"]) fun _ _ _ _ _ _ us hl => match us, hl with | [_, _, _], _ => rfl
  have b9 := F9.binds (ps := ["_law_actual", "_law_due"]) fun _ _ _ _ _ _ us hl => match us, hl with | [_, _], _ => rfl
  have b10 := F10.binds (ps := ["_law_number"]) fun _ _ _ _ _ _ us hl => match us, hl with | [_], _ => rfl
  have b11 := F11.binds (ps := []) fun _ _ _ _ _ _ us hl => match us, hl with | [], _ => rfl
  have b12 := F12.binds (ps := ["_law_state", "_law_script"]) fun _ _ _ _ _ _ us hl => match us, hl with | [_, _], _ => rfl
  have b13 := F13.binds (ps := ["_law_word"]) fun _ _ _ _ _ _ us hl => match us, hl with | [_], _ => rfl
  have b14 := F14.binds (ps := ["_law_text"]) fun _ _ _ _ _ _ us hl => match us, hl with | [_], _ => rfl
  have b15 := F15.binds (ps := ["_law_state", "_law_script", "_law_tool", "_law_lines"]) fun _ _ _ _ _ _ us hl => match us, hl with | [_, _, _, _], _ => rfl
  have b16 := F16.binds (ps := ["_law_state", "_law_script"]) fun _ _ _ _ _ _ us hl => match us, hl with | [_, _], _ => rfl
  have b17 := F17.binds (ps := ["_law_state", "_law_script"]) fun _ _ _ _ _ _ us hl => match us, hl with | [_, _], _ => rfl
  have b18 := F18.binds (ps := ["_law_state", "_law_script"]) fun _ _ _ _ _ _ us hl => match us, hl with | [_, _], _ => rfl
  have b19 := F19.binds (ps := ["_law_script"]) fun _ _ _ _ _ _ us hl => match us, hl with | [_], _ => rfl
  have T : Txt l.prog (dropA [tt1, tt2, tt3, tt5] K) mg { BadMessage := X_BadMessage, BadText := X_BadText, MillError := X_MillError } ({ f_is_allowed := f0, d_is_allowed := _, f_text_fault := f1, d_text_fault := _, f_is_number := f2, d_is_number := _, f_is_word := f3, d_is_word := _, f_key_text := f4, d_key_text := _, f_read_key := f5, d_read_key := _, f_claim_text := f6, d_claim_text := _, f_read_claim := f7, d_read_claim := _, f_x_next := f8, d_x_next := _, f_x_same := f9, d_x_same := _, f_x_char := f10, d_x_char := _, f_x_reserved := f11, d_x_reserved := _, f_x_drawn_tool := f12, d_x_drawn_tool := _, f_x_is_word := f13, d_x_is_word := _, f_x_told := f14, d_x_told := _, f_x_turned := f15, d_x_turned := _, f_x_key_right := f16, d_x_key_right := _, f_x_claim_right := f17, d_x_claim_right := _, f_x_claim_refused := f18, d_x_claim_refused := _, f_law := fa, d_law := _, c_text_fault := cc1, t_text_fault := tt1, c_is_number := cc2, t_is_number := tt2, c_is_word := cc3, t_is_word := tt3, c_read_key := cc5, t_read_key := tt5, f_BadText_init := xfBadText, d_BadText_init := _ } : Ad) := { m_abs := PySem.W.mg_none_of X G zabs, m_all := PySem.W.mg_none_of X G zall, m_any := PySem.W.mg_none_of X G zany, m_bool := PySem.W.mg_none_of X G zbool, m_int := PySem.W.mg_none_of X G zint, m_isinstance := PySem.W.mg_none_of X G zisinstance, m_len := PySem.W.mg_none_of X G zlen, m_list := PySem.W.mg_none_of X G zlist, m_ord := PySem.W.mg_none_of X G zord, m_range := PySem.W.mg_none_of X G zrange, m_str := PySem.W.mg_none_of X G zstr, m_super := PySem.W.mg_none_of X G zsuper, m_tuple := PySem.W.mg_none_of X G ztuple, c_ARG_LENGTH := ⟨_, PySem.W.mg_of X G wARG_LENGTH⟩, c_DIGITS := ⟨_, PySem.W.mg_of X G wDIGITS⟩, c_LETTERS := ⟨_, PySem.W.mg_of X G wLETTERS⟩, c_MOST_ARGS := ⟨_, PySem.W.mg_of X G wMOST_ARGS⟩, c_MOST_NAMES := ⟨_, PySem.W.mg_of X G wMOST_NAMES⟩, c_REASON_LENGTH := ⟨_, PySem.W.mg_of X G wREASON_LENGTH⟩, c_TEXT_LENGTH := ⟨_, PySem.W.mg_of X G wTEXT_LENGTH⟩, c_WORD_CHARACTERS := ⟨_, PySem.W.mg_of X G wWORD_CHARACTERS⟩, c_WORD_LENGTH := ⟨_, PySem.W.mg_of X G wWORD_LENGTH⟩, F_is_allowed := F0, B_is_allowed := b0, g_is_allowed := PySem.W.mg_of X G a0, F_text_fault := F1, B_text_fault := b1, g_text_fault := PySem.W.mg_of X G a1, e_text_fault := rfl, F_is_number := F2, B_is_number := b2, g_is_number := PySem.W.mg_of X G a2, e_is_number := rfl, F_is_word := F3, B_is_word := b3, g_is_word := PySem.W.mg_of X G a3, e_is_word := rfl, F_key_text := F4, B_key_text := b4, g_key_text := PySem.W.mg_of X G a4, F_read_key := F5, B_read_key := b5, g_read_key := PySem.W.mg_of X G a5, e_read_key := rfl, F_claim_text := F6, B_claim_text := b6, g_claim_text := PySem.W.mg_of X G a6, F_read_claim := F7, B_read_claim := b7, g_read_claim := PySem.W.mg_of X G a7, F_x_next := F8, B_x_next := b8, g_x_next := PySem.W.mg_of X G a8, F_x_same := F9, B_x_same := b9, g_x_same := PySem.W.mg_of X G a9, F_x_char := F10, B_x_char := b10, g_x_char := PySem.W.mg_of X G a10, F_x_reserved := F11, B_x_reserved := b11, g_x_reserved := PySem.W.mg_of X G a11, F_x_drawn_tool := F12, B_x_drawn_tool := b12, g_x_drawn_tool := PySem.W.mg_of X G a12, F_x_is_word := F13, B_x_is_word := b13, g_x_is_word := PySem.W.mg_of X G a13, F_x_told := F14, B_x_told := b14, g_x_told := PySem.W.mg_of X G a14, F_x_turned := F15, B_x_turned := b15, g_x_turned := PySem.W.mg_of X G a15, F_x_key_right := F16, B_x_key_right := b16, g_x_key_right := PySem.W.mg_of X G a16, F_x_claim_right := F17, B_x_claim_right := b17, g_x_claim_right := PySem.W.mg_of X G a17, F_x_claim_refused := F18, B_x_claim_refused := b18, g_x_claim_refused := PySem.W.mg_of X G a18, F_law := F19, B_law := b19, g_law := PySem.W.mg_of X G a19, x_BadMessage := ⟨PySem.W.mg_of X G xaBadMessage, ⟨⟨_, _, _, _, _, _, _, _, _, _, _, _, _, _, _, (drop_at ht xlBadMessage fun z => by cases z), xrBadMessage⟩, xsBadMessage, xbBadMessage, xtBadMessage, xkBadMessage⟩, L2.xfB_ok xxBadMessage⟩, z_BadMessage := xzBadMessage, x_BadText := ⟨PySem.W.mg_of X G xaBadText, ⟨⟨_, _, _, _, _, _, _, _, _, _, _, _, _, _, _, (drop_at ht xlBadText fun z => by cases z), xrBadText⟩, xsBadText, xbBadText, xtBadText, xkBadText⟩, L2.xfB_ok xxBadText⟩, i_BadText := { ex := ⟨_, _, _, _, _, _, _, _, _, _, _, rfl, (drop_fn ht xl2BadText), (drop_code ht xoBadText), { sup := xwBadText, opq := xqBadText, ve := xvBadText, self := xmBadText, cell := ⟨_, _, _, (drop_at ht xeBadText fun z => by cases z)⟩, cls := (cls_in (drop_at ht xlBadText fun z => by cases z)), code := ⟨_, _, _, _, _, _, (drop_at ht xyBadText fun z => xgBadText (by cases z; rfl)), xzBadText, xhBadText⟩, top := xpBadText }⟩, tI := xuBadText, iC := xjBadText, hno := xn0BadText, B := Binds.all fun us hl => match us, hl with | [_, _], _ => rfl }, x_MillError := ⟨PySem.W.mg_of X G xaMillError, ⟨⟨_, _, _, _, _, _, _, _, _, _, _, _, _, _, _, (drop_at ht xlMillError fun z => by cases z), xrMillError⟩, xsMillError, xbMillError, xtMillError, xkMillError⟩, L2.xfB_ok xxMillError⟩, y_BadMessage_BadMessage := xy_BadMessage_BadMessage, q_BadMessage := ⟨xABadMessage, xBBadMessage, xbBadMessage, xCBadMessage, xDBadMessage, xEBadMessage, xFBadMessage, xGBadMessage⟩, w_BadMessage_BadText := xw_BadMessage_BadText, w_BadMessage_MillError := xw_BadMessage_MillError }
  refine ⟨dropA [tt1, tt2, tt3, tt5] K, drop_in X, PySem.W.fnOf "law" "law" (defArgs s_law) (defBody s_law) (defScope s_law) .none kV19 dc19 pm19 an19 cd19 ct19, [(cc1, tt1), (cc2, tt2), (cc3, tt3), (cc5, tt5)], low (dropA [tt1, tt2, tt3, tt5] K) (⟨[tt1, tt2, tt3, tt5], [], by simp⟩ : Tb) sp_law, ?_, ?_, ?_, fun s v => .of_eq rfl, fun H a ns hl _ hT hS => start_lowT (T := (⟨[tt1, tt2, tt3, tt5], [], by simp⟩ : Tb)) (start_law hl) ?_ hS, fun base _ _ hB => ?_⟩
  · intro p hp
    simp only [List.mem_cons, List.not_mem_nil, or_false] at hp
    rcases hp with hp | hp | hp | hp
    · rw [hp]; exact X _ _ e1
    · rw [hp]; exact X _ _ e2
    · rw [hp]; exact X _ _ e3
    · rw [hp]; exact X _ _ e5
  · intro p hp
    simp only [List.mem_cons, List.not_mem_nil, or_false] at hp
    rcases hp with hp | hp | hp | hp
    · rw [hp]; exact drop_none (by simp) K
    · rw [hp]; exact drop_none (by simp) K
    · rw [hp]; exact drop_none (by simp) K
    · rw [hp]; exact drop_none (by simp) K
  · intro p hp
    simp only [List.mem_cons, List.not_mem_nil, or_false] at hp
    rcases hp with hp | hp | hp | hp
    · rw [hp]; exact PySem.W.codeHd_of_K X y1
    · rw [hp]; exact PySem.W.codeHd_of_K X y2
    · rw [hp]; exact PySem.W.codeHd_of_K X y3
    · rw [hp]; exact PySem.W.codeHd_of_K X y5
  · intro P hP
    have hP : P ∈ ([tt1, tt2, tt3, tt5] : List Addr) := hP
    simp only [List.mem_cons, List.not_mem_nil, or_false] at hP
    rcases hP with hP | hP | hP | hP
    · rw [hP]; exact hT (cc1, tt1) (by simp)
    · rw [hP]; exact hT (cc2, tt2) (by simp)
    · rw [hP]; exact hT (cc3, tt3) (by simp)
    · rw [hP]; exact hT (cc5, tt5) (by simp)
  · exact ok_law T ⟨⟨(hB (cc1, tt1) (by simp)).code, (hB (cc1, tt1) (by simp)).bm, (hB (cc1, tt1) (by simp)).gP⟩, ⟨(hB (cc2, tt2) (by simp)).code, (hB (cc2, tt2) (by simp)).bm, (hB (cc2, tt2) (by simp)).gP⟩, ⟨(hB (cc3, tt3) (by simp)).code, (hB (cc3, tt3) (by simp)).bm, (hB (cc3, tt3) (by simp)).gP⟩, ⟨(hB (cc5, tt5) (by simp)).code, (hB (cc5, tt5) (by simp)).bm, (hB (cc5, tt5) (by simp)).gP⟩⟩
end K73
open PySem PySem.W PyProof.Rows
set_option maxHeartbeats 0 in
theorem PySem.Challenge.cw_truemill_k73_keys_and_claims_of_all_word_holds : PySem.Challenge.rw_truemill_k73_keys_and_claims_of_all_word.Holds := by
  w_on; o_law; x_head; (case hw => w_witness2)
  k_fill
  refine LamX.walk_ofTsE (l := PySem.Challenge.rw_truemill_k73_keys_and_claims_of_all_word) (n := 63) (k := 6) (x := "_law_script") (CX := fun _ => L2.CX0) rfl (by decide) rfl ⟨rfl, by decide, by decide⟩ ?F (fun _ _ _ _ _ h => h)
  case F =>
    intro w mg fa h Y G hmg
    refine' K73.all_mk (PySem.W.kIn_of Y) G hmg ?a0 ?l0 ?c0 ?a1 ?l1 ?c1 ?q1 ?v1 ?e1 ?y1 ?a2 ?l2 ?c2 ?q2 ?v2 ?e2 ?y2 ?a3 ?l3 ?c3 ?q3 ?v3 ?e3 ?y3 ?a4 ?l4 ?c4 ?a5 ?l5 ?c5 ?q5 ?v5 ?e5 ?y5 ?a6 ?l6 ?c6 ?a7 ?l7 ?c7 ?a8 ?l8 ?c8 ?a9 ?l9 ?c9 ?a10 ?l10 ?c10 ?a11 ?l11 ?c11 ?a12 ?l12 ?c12 ?a13 ?l13 ?c13 ?a14 ?l14 ?c14 ?a15 ?l15 ?c15 ?a16 ?l16 ?c16 ?a17 ?l17 ?c17 ?a18 ?l18 ?c18 ?a19 ?l19 ?c19 ?zabs ?zall ?zany ?zbool ?zint ?zisinstance ?zlen ?zlist ?zord ?zrange ?zstr ?zsuper ?ztuple ?wARG_LENGTH ?wDIGITS ?wLETTERS ?wMOST_ARGS ?wMOST_NAMES ?wREASON_LENGTH ?wTEXT_LENGTH ?wWORD_CHARACTERS ?wWORD_LENGTH ?xaBadMessage ?xlBadMessage ?xrBadMessage ?xsBadMessage ?xbBadMessage ?xtBadMessage ?xkBadMessage ?xxBadMessage ?xzBadMessage ?xaBadText ?xlBadText ?xrBadText ?xsBadText ?xbBadText ?xtBadText ?xkBadText ?xxBadText ?xiBadText ?xl2BadText ?xoBadText ?xjBadText ?xuBadText ?xn0BadText ?xwBadText ?xqBadText ?xvBadText ?xmBadText ?xeBadText ?xyBadText ?xzBadText ?xhBadText ?xpBadText ?xgBadText ?xaMillError ?xlMillError ?xrMillError ?xsMillError ?xbMillError ?xtMillError ?xkMillError ?xxMillError ?xy_BadMessage_BadMessage ?xABadMessage ?xBBadMessage ?xCBadMessage ?xDBadMessage ?xEBadMessage ?xFBadMessage ?xGBadMessage ?xw_BadMessage_BadText ?xw_BadMessage_MillError rfl
    (case a0 => k_is)
    (case l0 => k_is)
    (case c0 => k_is)
    (case a1 => k_is)
    (case l1 => k_is)
    (case c1 => k_is)
    (case q1 => k_is)
    (case v1 => exact rfl)
    (case e1 => k_is)
    (case y1 => first | k_is | kernel_rfl | exact rfl)
    (case a2 => k_is)
    (case l2 => k_is)
    (case c2 => k_is)
    (case q2 => k_is)
    (case v2 => exact rfl)
    (case e2 => k_is)
    (case y2 => first | k_is | kernel_rfl | exact rfl)
    (case a3 => k_is)
    (case l3 => k_is)
    (case c3 => k_is)
    (case q3 => k_is)
    (case v3 => exact rfl)
    (case e3 => k_is)
    (case y3 => first | k_is | kernel_rfl | exact rfl)
    (case a4 => k_is)
    (case l4 => k_is)
    (case c4 => k_is)
    (case a5 => k_is)
    (case l5 => k_is)
    (case c5 => k_is)
    (case q5 => k_is)
    (case v5 => exact rfl)
    (case e5 => k_is)
    (case y5 => first | k_is | kernel_rfl | exact rfl)
    (case a6 => k_is)
    (case l6 => k_is)
    (case c6 => k_is)
    (case a7 => k_is)
    (case l7 => k_is)
    (case c7 => k_is)
    (case a8 => k_is)
    (case l8 => k_is)
    (case c8 => k_is)
    (case a9 => k_is)
    (case l9 => k_is)
    (case c9 => k_is)
    (case a10 => k_is)
    (case l10 => k_is)
    (case c10 => k_is)
    (case a11 => k_is)
    (case l11 => k_is)
    (case c11 => k_is)
    (case a12 => k_is)
    (case l12 => k_is)
    (case c12 => k_is)
    (case a13 => k_is)
    (case l13 => k_is)
    (case c13 => k_is)
    (case a14 => k_is)
    (case l14 => k_is)
    (case c14 => k_is)
    (case a15 => k_is)
    (case l15 => k_is)
    (case c15 => k_is)
    (case a16 => k_is)
    (case l16 => k_is)
    (case c16 => k_is)
    (case a17 => k_is)
    (case l17 => k_is)
    (case c17 => k_is)
    (case a18 => k_is)
    (case l18 => k_is)
    (case c18 => k_is)
    (case a19 => k_is)
    (case l19 => k_is)
    (case c19 => k_is)
    (case zabs => k_is)
    (case zall => k_is)
    (case zany => k_is)
    (case zbool => k_is)
    (case zint => k_is)
    (case zisinstance => k_is)
    (case zlen => k_is)
    (case zlist => k_is)
    (case zord => k_is)
    (case zrange => k_is)
    (case zstr => k_is)
    (case zsuper => k_is)
    (case ztuple => k_is)
    (case wARG_LENGTH => k_is)
    (case wDIGITS => k_is)
    (case wLETTERS => k_is)
    (case wMOST_ARGS => k_is)
    (case wMOST_NAMES => k_is)
    (case wREASON_LENGTH => k_is)
    (case wTEXT_LENGTH => k_is)
    (case wWORD_CHARACTERS => k_is)
    (case wWORD_LENGTH => k_is)
    (case xaBadMessage => k_is)
    (case xlBadMessage => k_is)
    (case xrBadMessage => first | exact rfl | decide +kernel)
    (case xsBadMessage => first | kernel_rfl | exact rfl | decide +kernel | k_is)
    (case xbBadMessage => first | kernel_rfl | exact rfl | decide +kernel | k_is)
    (case xtBadMessage => first | kernel_rfl | exact rfl | decide +kernel | k_is)
    (case xkBadMessage => first | kernel_rfl | exact rfl | decide +kernel | k_is)
    (case xxBadMessage => first | kernel_rfl | exact rfl | decide +kernel | k_is)
    (case xzBadMessage => first | kernel_rfl | exact rfl | decide +kernel | k_is)
    (case xaBadText => k_is)
    (case xlBadText => k_is)
    (case xrBadText => first | exact rfl | decide +kernel)
    (case xsBadText => first | kernel_rfl | exact rfl | decide +kernel | k_is)
    (case xbBadText => first | kernel_rfl | exact rfl | decide +kernel | k_is)
    (case xtBadText => first | kernel_rfl | exact rfl | decide +kernel | k_is)
    (case xkBadText => first | kernel_rfl | exact rfl | decide +kernel | k_is)
    (case xxBadText => first | kernel_rfl | exact rfl | decide +kernel | k_is)
    (case xiBadText => k_is)
    (case xl2BadText => k_is)
    (case xoBadText => k_is)
    (case xjBadText => first | kernel_rfl | exact rfl | decide +kernel | k_is)
    (case xuBadText => first | kernel_rfl | exact rfl | decide +kernel | k_is)
    (case xn0BadText => first | kernel_rfl | exact rfl | decide +kernel | k_is)
    (case xwBadText => first | kernel_rfl | exact rfl | decide +kernel | k_is)
    (case xqBadText => first | kernel_rfl | exact rfl | decide +kernel | k_is)
    (case xvBadText => first | kernel_rfl | exact rfl | decide +kernel | k_is)
    (case xmBadText => first | kernel_rfl | exact rfl | decide +kernel | k_is)
    (case xeBadText => k_is)
    (case xyBadText => k_is)
    (case xzBadText => exact rfl)
    (case xhBadText => first | exact rfl | decide +kernel)
    (case xpBadText => first | exact rfl | decide +kernel)
    (case xgBadText => first | decide | (intro z; cases z))
    (case xaMillError => k_is)
    (case xlMillError => k_is)
    (case xrMillError => first | exact rfl | decide +kernel)
    (case xsMillError => first | kernel_rfl | exact rfl | decide +kernel | k_is)
    (case xbMillError => first | kernel_rfl | exact rfl | decide +kernel | k_is)
    (case xtMillError => first | kernel_rfl | exact rfl | decide +kernel | k_is)
    (case xkMillError => first | kernel_rfl | exact rfl | decide +kernel | k_is)
    (case xxMillError => first | kernel_rfl | exact rfl | decide +kernel | k_is)
    (case xy_BadMessage_BadMessage => first | kernel_rfl | exact rfl | decide +kernel | k_is)
    (case xABadMessage => first | kernel_rfl | exact rfl | decide +kernel | k_is)
    (case xBBadMessage => first | kernel_rfl | exact rfl | decide +kernel | k_is)
    (case xCBadMessage => first | kernel_rfl | exact rfl | decide +kernel | k_is)
    (case xDBadMessage => first | kernel_rfl | exact rfl | decide +kernel | k_is)
    (case xEBadMessage => first | kernel_rfl | exact rfl | decide +kernel | k_is)
    (case xFBadMessage => first | kernel_rfl | exact rfl | decide +kernel | k_is)
    (case xGBadMessage => first | kernel_rfl | exact rfl | decide +kernel | k_is)
    (case xw_BadMessage_BadText => first | kernel_rfl | exact rfl | decide +kernel | k_is)
    (case xw_BadMessage_MillError => first | kernel_rfl | exact rfl | decide +kernel | k_is)


