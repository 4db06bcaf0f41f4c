import PyProof.Rows.All
import Wide.All
import OpenK.AllK
import Wide.FinOn
import KE.KStateDown
import HandS.ForMost
import HandS.ForExc
import HandS.Defaults
import HandS.Deep
import HandS.Wide
import HandS.Conv
import HandS.Zip
import HandS.WideBits
import KE.DatumOrd
import KE.KDictKeyed
import KE.KeyNested
import HandS.TupAny
import HandS.SortInts
import HandS.More
import KE.GoesMore
import KE.GoesEnum
import HandS.EndBits
import HandS.HeadHook2
import HandS.Codes
import HandS.Head0
import HandS.Head1
import HandS.Head2
import HandS.HeadEnd
import HandS.HeadHook1
import HandS.HeadHook3
import PySem.Challenge.RW_spotlook_k12_whole_parted_covers_the_sam
set_option Elab.async false
set_option linter.all false
set_option maxRecDepth 100000
set_option maxHeartbeats 0
/-! A layer over the hand layer: data with tuples as values, an abstract heap of them, readings by data. -/
namespace MM
open PySem PySem.Spec PyProof.Rows L2

/-- data: tuples are values; what may change is behind an address -/
inductive D where
  | non | bl (b : Bool) | int (i : Int) | str (x : Str) | tup (ds : List D) | ref (a : Addr) | ty (n : String) | kl (ds : List D)

/-- the written part, the program, the world -/
structure Kw where
  K : PySem.W.Frag
  P : Program
  w : World
abbrev _root_.L2.Cx.kw (X : Cx) : Kw := ⟨X.K, X.prog, X.w⟩

/-! ### how data stand in a heap -/
/-- a list of the written part -/
def KLs (K : PySem.W.Frag) (a : Addr) (xs : List V) : Prop := ∃ (o : Obj) (its : Array Value) (n : Nat), K.lookup a = some o ∧ o.cls = .type "list" ∧ o.dict = none ∧ o.data = .seq its n ∧ its.size ≤ sizeLine ∧ Vals xs its.toList
theorem KLs.sq {K : PySem.W.Frag} {H : Hp} {a : Addr} {xs : List V} (h : KLs K a xs) : SqL K H a xs := .inr h
mutual
def Rp (K : Kw) (H : Hp) : D → V → Prop
  | .non, v => v = .non
  | .bl b, v => v = .bl b
  | .int i, v => v = .int i
  | .str x, v => v = .str x
  | .ref a, v => v = .ref a
  | .ty n, v => v = .ty n
  | .kl ds, v => ∃ a xs, v = .ref a ∧ KLs K.K a xs ∧ RpL K H ds xs
  | .tup ds, v => ∃ a xs, v = .ref a ∧ SqT K.K H a xs ∧ RpL K H ds xs
def RpL (K : Kw) (H : Hp) : List D → List V → Prop
  | [], xs => xs = []
  | d :: ds, xs => ∃ y ys, xs = y :: ys ∧ Rp K H d y ∧ RpL K H ds ys
end
/-- tuples stay -/
def Up (H H' : Hp) : Prop := ∀ a xs, Rd H a (.tup xs) → Rd H' a (.tup xs)
theorem Up.refl (H : Hp) : Up H H := fun _ _ h => h
theorem Up.trans {H H1 H2 : Hp} (a : Up H H1) (b : Up H1 H2) : Up H H2 := fun x xs h => b x xs (a x xs h)
theorem Up.sq {K : Kw} {H H' : Hp} (u : Up H H') {a : Addr} {xs : List V} (h : SqT K.K H a xs) : SqT K.K H' a xs := h.imp (u a xs) id
mutual
theorem Rp.up {K : Kw} {H H' : Hp} (u : Up H H') : ∀ {d : D} {v : V}, Rp K H d v → Rp K H' d v
  | .non, _, h => by unfold Rp at h ⊢; exact h
  | .bl _, _, h => by unfold Rp at h ⊢; exact h
  | .int _, _, h => by unfold Rp at h ⊢; exact h
  | .str _, _, h => by unfold Rp at h ⊢; exact h
  | .ref _, _, h => by unfold Rp at h ⊢; exact h
  | .ty _, _, h => by unfold Rp at h ⊢; exact h
  | .kl ds, _, h => by
    unfold Rp at h ⊢
    obtain ⟨a, xs, e, s, r⟩ := h
    exact ⟨a, xs, e, s, RpL.up u r⟩
  | .tup ds, _, h => by
    unfold Rp at h ⊢
    obtain ⟨a, xs, e, s, r⟩ := h
    exact ⟨a, xs, e, u.sq s, RpL.up u r⟩
theorem RpL.up {K : Kw} {H H' : Hp} (u : Up H H') : ∀ {ds : List D} {xs : List V}, RpL K H ds xs → RpL K H' ds xs
  | [], _, h => by unfold RpL at h ⊢; exact h
  | d :: ds, _, h => by
    unfold RpL at h ⊢
    obtain ⟨y, ys, e, r, t⟩ := h
    exact ⟨y, ys, e, Rp.up u r, RpL.up u t⟩
end
section
variable {K : Kw} {H : Hp}
theorem RpL.nil : RpL K H [] [] := by unfold RpL; rfl
theorem RpL.cons {d : D} {ds : List D} {x : V} {xs : List V} (h : Rp K H d x) (t : RpL K H ds xs) : RpL K H (d :: ds) (x :: xs) := by
  unfold RpL; exact ⟨x, xs, rfl, h, t⟩
theorem RpL.length : ∀ {ds : List D} {xs : List V}, RpL K H ds xs → xs.length = ds.length
  | [], _, h => by unfold RpL at h; subst h; rfl
  | d :: ds, _, h => by
    unfold RpL at h
    obtain ⟨y, ys, rfl, r, t⟩ := h
    simp [RpL.length t]
theorem RpL.get : ∀ {ds : List D} {xs : List V} {i : Nat} {d : D}, RpL K H ds xs → ds[i]? = some d → ∃ x, xs[i]? = some x ∧ Rp K H d x
  | [], _, _, _, _, e => by simp at e
  | d :: ds, _, 0, e', h, e => by
    unfold RpL at h
    obtain ⟨y, ys, rfl, r, t⟩ := h
    simp at e; subst e
    exact ⟨y, rfl, r⟩
  | d :: ds, _, i + 1, e', h, e => by
    unfold RpL at h
    obtain ⟨y, ys, rfl, r, t⟩ := h
    obtain ⟨x, e1, r1⟩ := RpL.get (i := i) t (by simpa using e)
    exact ⟨x, by simpa using e1, r1⟩
theorem RpL.getV : ∀ {ds : List D} {xs : List V} {i : Nat} {x : V}, RpL K H ds xs → xs[i]? = some x → ∃ d, ds[i]? = some d ∧ Rp K H d x := fun {ds xs i x} h e => by
  have l := h.length
  have hi : i < xs.length := (List.getElem?_eq_some_iff.mp e).1
  obtain ⟨d, ed⟩ : ∃ d, ds[i]? = some d := ⟨ds[i]'(by omega), by simp [List.getElem?_eq_getElem (show i < ds.length by omega)]⟩
  obtain ⟨y, e2, r⟩ := h.get ed
  rw [e] at e2; cases e2
  exact ⟨d, ed, r⟩
theorem RpL.append : ∀ {ds es : List D} {xs ys : List V}, RpL K H ds xs → RpL K H es ys → RpL K H (ds ++ es) (xs ++ ys)
  | [], _, _, _, h, t => by unfold RpL at h; subst h; exact t
  | d :: ds, es, _, ys, h, t => by
    unfold RpL at h
    obtain ⟨y, zs, rfl, r, u⟩ := h
    exact RpL.cons r (RpL.append u t)
theorem RpL.take : ∀ {ds : List D} {xs : List V} (n : Nat), RpL K H ds xs → RpL K H (ds.take n) (xs.take n)
  | _, _, 0, _ => by simp; exact RpL.nil
  | [], _, n + 1, h => by unfold RpL at h; subst h; exact RpL.nil
  | d :: ds, _, n + 1, h => by
    unfold RpL at h
    obtain ⟨y, ys, rfl, r, t⟩ := h
    exact RpL.cons r (RpL.take n t)
theorem RpL.drop : ∀ {ds : List D} {xs : List V} (n : Nat), RpL K H ds xs → RpL K H (ds.drop n) (xs.drop n)
  | _, _, 0, h => h
  | [], _, n + 1, h => by unfold RpL at h; subst h; exact RpL.nil
  | d :: ds, _, n + 1, h => by
    unfold RpL at h
    obtain ⟨y, ys, rfl, r, t⟩ := h
    exact RpL.drop n t
theorem RpL.set : ∀ {ds : List D} {xs : List V} {d : D} {x : V} (i : Nat), RpL K H ds xs → Rp K H d x → RpL K H (ds.set i d) (xs.set i x)
  | [], _, _, _, _, h, _ => by unfold RpL at h; subst h; exact RpL.nil
  | e :: ds, _, d, x, 0, h, q => by
    unfold RpL at h
    obtain ⟨y, ys, rfl, r, t⟩ := h
    exact RpL.cons q t
  | e :: ds, _, d, x, i + 1, h, q => by
    unfold RpL at h
    obtain ⟨y, ys, rfl, r, t⟩ := h
    exact RpL.cons r (RpL.set i t q)
theorem RpL.dropLast : ∀ {ds : List D} {xs : List V}, RpL K H ds xs → RpL K H ds.dropLast xs.dropLast := fun {ds xs} h => by
  rw [List.dropLast_eq_take, List.dropLast_eq_take, h.length]
  exact h.take _
theorem RpL.eraseIdx {ds : List D} {xs : List V} (i : Nat) (h : RpL K H ds xs) : RpL K H (ds.eraseIdx i) (xs.eraseIdx i) := by
  rw [List.eraseIdx_eq_take_drop_succ, List.eraseIdx_eq_take_drop_succ]
  exact (h.take _).append (h.drop _)
theorem RpL.reverse : ∀ {ds : List D} {xs : List V}, RpL K H ds xs → RpL K H ds.reverse xs.reverse
  | [], _, h => by unfold RpL at h; subst h; exact RpL.nil
  | d :: ds, _, h => by
    unfold RpL at h
    obtain ⟨y, ys, rfl, r, t⟩ := h
    simp only [List.reverse_cons]
    exact (RpL.reverse t).append (RpL.cons r RpL.nil)
theorem RpL.ints : ∀ {ns : List Int} {xs : List V}, RpL K H (ns.map D.int) xs → xs = ns.map V.int
  | [], _, h => by
    simp only [List.map_nil] at h
    unfold RpL at h; exact h
  | n :: ns, _, h => by
    simp only [List.map_cons] at h
    unfold RpL at h
    obtain ⟨y, ys, rfl, r, t⟩ := h
    unfold Rp at r
    rw [r, RpL.ints t]; rfl
theorem RpL.ofInts : ∀ {ns : List Int}, RpL K H (ns.map D.int) (ns.map V.int)
  | [] => RpL.nil
  | n :: ns => RpL.cons (by unfold Rp; rfl) RpL.ofInts
theorem RpL.bools : ∀ {ns : List Bool} {xs : List V}, RpL K H (ns.map D.bl) xs → xs = ns.map V.bl
  | [], _, h => by
    simp only [List.map_nil] at h
    unfold RpL at h; exact h
  | n :: ns, _, h => by
    simp only [List.map_cons] at h
    unfold RpL at h
    obtain ⟨y, ys, rfl, r, t⟩ := h
    unfold Rp at r
    rw [r, RpL.bools t]; rfl
theorem RpL.strs : ∀ {ns : List Str} {xs : List V}, RpL K H (ns.map D.str) xs → xs = ns.map V.str
  | [], _, h => by
    simp only [List.map_nil] at h
    unfold RpL at h; exact h
  | n :: ns, _, h => by
    simp only [List.map_cons] at h
    unfold RpL at h
    obtain ⟨y, ys, rfl, r, t⟩ := h
    unfold Rp at r
    rw [r, RpL.strs t]; rfl
theorem RpL.ofStrs : ∀ {ns : List Str}, RpL K H (ns.map D.str) (ns.map V.str)
  | [] => RpL.nil
  | n :: ns => RpL.cons (by unfold Rp; rfl) RpL.ofStrs
@[simp] theorem rp_non {v : V} : Rp K H .non v ↔ v = .non := by unfold Rp; rfl
@[simp] theorem rp_bl {b : Bool} {v : V} : Rp K H (.bl b) v ↔ v = .bl b := by unfold Rp; rfl
@[simp] theorem rp_int {i : Int} {v : V} : Rp K H (.int i) v ↔ v = .int i := by unfold Rp; rfl
@[simp] theorem rp_str {x : Str} {v : V} : Rp K H (.str x) v ↔ v = .str x := by unfold Rp; rfl
@[simp] theorem rp_ref {a : Addr} {v : V} : Rp K H (.ref a) v ↔ v = .ref a := by unfold Rp; rfl
theorem rp_kl {ds : List D} {v : V} : Rp K H (.kl ds) v ↔ ∃ a xs, v = .ref a ∧ KLs K.K a xs ∧ RpL K H ds xs := by unfold Rp; rfl
@[simp] theorem rp_ty {n : String} {v : V} : Rp K H (.ty n) v ↔ v = .ty n := by unfold Rp; rfl
theorem rp_tup {ds : List D} {v : V} : Rp K H (.tup ds) v ↔ ∃ a xs, v = .ref a ∧ SqT K.K H a xs ∧ RpL K H ds xs := by unfold Rp; rfl
end

/-! ### keys of any depth -/
mutual
def nkD : D → Option NestedKey
  | .non => some .none
  | .bl b => some (.num (if b = true then 1 else 0))
  | .int i => some (.num i)
  | .str x => some (.text x)
  | .tup ds => (nkL ds).map .tup
  | .ref _ => none
  | .ty _ => none
  | .kl _ => none
def nkL : List D → Option (List NestedKey)
  | [] => some []
  | d :: ds => match nkD d, nkL ds with
    | some k, some ks => some (k :: ks)
    | _, _ => none
end
/-- a dict whose keys are tuples of any depth, by its object alone: keys, where they stand, values -/
abbrev NE : Type := NestedKey × Addr × V
def NdO (P : Program) (w : World) (a : Addr) (es : List NE) : HO := .ext fun h => (a == sysModules) = false ∧ es.length ≤ sizeLine ∧ ∃ xs : List (NestedKey × Addr × Value), Paired (fun (p : NE) (q : NestedKey × Addr × Value) => p.1 = q.1 ∧ p.2.1 = q.2.1 ∧ RelV p.2.2 q.2.2) es xs ∧
  ∃ o ents ep, h.get? a = some o ∧ o.ExactDict ∧ o.data = .dict ents ep ∧ ents.toList = xs.map (entryOfKey (nestedKind P w)) ∧ (xs.map (·.1)).Nodup
/-! ### the heap of data -/
inductive MO where
  /-- a dict whose keys are tuples of any depth -/
  | dcn (kvs : List (D × D))
  | lst (ds : List D)
  /-- read alone -/
  | rol (ds : List D)
  | dic (kvs : List (Key × D))
  | ins (C : Addr) (fs : List (Str × D))
abbrev MH := Addr → Option MO
def ud (M : MH) (a : Addr) (o : MO) : MH := fun b => if b = a then some o else M b
@[simp] theorem ud_same {M : MH} {a : Addr} {o : MO} : ud M a o a = some o := by unfold ud; rw [if_pos rfl]
theorem ud_ne {M : MH} {a b : Addr} {o : MO} (h : b ≠ a) : ud M a o b = M b := by unfold ud; rw [if_neg h]
@[simp] theorem ud_ud {M : MH} {a : Addr} {o u : MO} : ud (ud M a o) a u = ud M a u := by
  funext b; unfold ud; split <;> rfl
def PrK {κ : Type} (K : Kw) (H : Hp) : List (κ × D) → List (κ × V) → Prop := Paired fun (p : κ × D) (q : κ × V) => p.1 = q.1 ∧ Rp K H p.2 q.2
theorem PrK.up {κ : Type} {K : Kw} {H H' : Hp} (u : Up H H') {l : List (κ × D)} {m : List (κ × V)} (h : PrK K H l m) : PrK K H' l m := Paired.mapP h fun _ _ z => ⟨z.1, z.2.up u⟩
def PrN (K : Kw) (H : Hp) : List (D × D) → List NE → Prop := Paired fun (p : D × D) (q : NE) => nkD p.1 = some q.1 ∧ q.1.depth ≤ 8 ∧ Rp K H p.1 (.ref q.2.1) ∧ Rp K H p.2 q.2.2
theorem PrN.up {K : Kw} {H H' : Hp} (u : Up H H') {l : List (D × D)} {m : List NE} (h : PrN K H l m) : PrN K H' l m := Paired.mapP h fun _ _ z => ⟨z.1, z.2.1, z.2.2.1.up u, z.2.2.2.up u⟩
def OR (K : Kw) (H : Hp) (a : Addr) : MO → Prop
  | .lst ds => ∃ xs, H a = some (.lst xs) ∧ RpL K H ds xs
  | .rol ds => ∃ xs, Rd H a (.lst xs) ∧ RpL K H ds xs
  | .dic kvs => ∃ ks, H a = some (.dK ks) ∧ PrK K H kvs ks
  | .dcn kvs => ∃ es, H a = some (NdO K.P K.w a es) ∧ PrN K H kvs es
  | .ins C fs => ∃ dx gs, H a = some (.ins C dx gs) ∧ H dx = some (.own a) ∧ PrK K H fs gs
def MR (K : Kw) (M : MH) (H : Hp) : Prop := ∀ a o, M a = some o → OR K H a o
theorem OR.there {K : Kw} {H : Hp} {a : Addr} {o : MO} (h : OR K H a o) : H a ≠ none := by
  cases o with
  | rol ds =>
    obtain ⟨_, e, _⟩ := h
    rcases e with e | ⟨_, e⟩ <;> (rw [e]; simp)
  | lst ds => obtain ⟨_, e, _⟩ := h; rw [e]; simp
  | dic ds => obtain ⟨_, e, _⟩ := h; rw [e]; simp
  | dcn ds => obtain ⟨_, e, _⟩ := h; rw [e]; simp
  | ins C fs => obtain ⟨_, _, e, _⟩ := h; rw [e]; simp
theorem MR.free {K : Kw} {M : MH} {H : Hp} (h : MR K M H) {p : Addr} (e : H p = none) : M p = none := by
  cases q : M p with
  | none => rfl
  | some o => exact absurd e (h p o q).there
/-- an address that is new to H is another one than those that M tracks -/
theorem MR.ne {K : Kw} {M : MH} {H : Hp} (h : MR K M H) {p a : Addr} {o : MO} (e : H p = none) (q : M a = some o) : a ≠ p := fun z => by
  subst z; exact (h a o q).there e
theorem Up.new {H : Hp} {p : Addr} {o : HO} (e : H p = none) : Up H (upd H p o) := fun a xs h => by
  have n : a ≠ p := fun z => by
    subst z
    rcases h with h | ⟨_, h⟩ <;> (rw [e] at h; cases h)
  rcases h with h | ⟨u, h⟩
  · exact .inl (by rw [upd_ne n]; exact h)
  · exact .inr ⟨u, by rw [upd_ne n]; exact h⟩
/-- a list (or a dict ..) is written -/
theorem Up.mut {H : Hp} {p : Addr} {o : HO} (mu : Mut (H p)) : Up H (upd H p o) := fun a xs h => by
  have n : a ≠ p := fun z => by
    subst z
    rcases h with h | ⟨_, h⟩ <;> (rw [h] at mu; exact mu)
  rcases h with h | ⟨u, h⟩
  · exact .inl (by rw [upd_ne n]; exact h)
  · exact .inr ⟨u, by rw [upd_ne n]; exact h⟩
theorem OR.move {K : Kw} {H H' : Hp} (u : Up H H') {a : Addr} {o : MO} (h : OR K H a o) (e : H' a = H a) (ed : ∀ d, H d = some (.own a) → H' d = some (.own a)) : OR K H' a o := by
  cases o with
  | rol ds =>
    obtain ⟨xs, r, t⟩ := h
    refine ⟨xs, ?_, t.up u⟩
    rcases r with r | ⟨w, r⟩
    · exact .inl (by rw [e]; exact r)
    · exact .inr ⟨w, by rw [e]; exact r⟩
  | lst ds => obtain ⟨xs, r, t⟩ := h; exact ⟨xs, by rw [e]; exact r, t.up u⟩
  | dic ds => obtain ⟨xs, r, t⟩ := h; exact ⟨xs, by rw [e]; exact r, t.up u⟩
  | dcn ds => obtain ⟨xs, r, t⟩ := h; exact ⟨xs, by rw [e]; exact r, t.up u⟩
  | ins C fs => obtain ⟨dx, xs, r, t, q⟩ := h; exact ⟨dx, xs, by rw [e]; exact r, ed _ t, q.up u⟩
/-- a new object that M does not track -/
theorem MR.new {K : Kw} {M : MH} {H : Hp} (h : MR K M H) {p : Addr} {o : HO} (e : H p = none) : MR K M (upd H p o) := fun a u q =>
  (h a u q).move (.new e) (upd_ne (h.ne e q)) fun d z => by rw [upd_ne (ne_of_none z e)]; exact z
/-- a new object that M tracks -/
theorem MR.laid {K : Kw} {M : MH} {H : Hp} (h : MR K M H) {p : Addr} {o : HO} {m : MO} (e : H p = none) (n : OR K (upd H p o) p m) : MR K (ud M p m) (upd H p o) := fun a u q => by
  by_cases z : a = p
  · subst z; rw [ud_same] at q; cases q; exact n
  · rw [ud_ne z] at q; exact h.new e a u q
/-- an object that M tracks is written -/
theorem MR.wrote {K : Kw} {M : MH} {H : Hp} (h : MR K M H) {p : Addr} {o : HO} {m : MO} (mu : Mut (H p)) (n : OR K (upd H p o) p m) : MR K (ud M p m) (upd H p o) := fun a u q => by
  by_cases z : a = p
  · subst z; rw [ud_same] at q; cases q; exact n
  · rw [ud_ne z] at q
    exact (h a u q).move (.mut mu) (upd_ne z) fun d w => by
      rw [upd_ne (fun y => by subst y; rw [w] at mu; exact mu)]; exact w
theorem MR.up {K : Kw} {M M' : MH} {H : Hp} (h : MR K M H) (f : ∀ a o, M' a = some o → M a = some o) : MR K M' H := fun a o e => h a o (f a o e)

/-! ### frames -/
abbrev Fr := List (Option D)
def SR (K : Kw) (H : Hp) (σ : L2.St) (δ : Fr) : Prop := σ.length = δ.length ∧ ∀ (i : Nat) (d : D), δ[i]? = some (some d) → ∃ v, σ[i]? = some (some v) ∧ Rp K H d v
theorem SR.up {K : Kw} {H H' : Hp} (u : Up H H') {σ : L2.St} {δ : Fr} (h : SR K H σ δ) : SR K H' σ δ := ⟨h.1, fun i d e => let ⟨v, e1, r⟩ := h.2 i d e; ⟨v, e1, r.up u⟩⟩
theorem SR.set {K : Kw} {H : Hp} {σ : L2.St} {δ : Fr} (h : SR K H σ δ) {d : D} {v : V} (r : Rp K H d v) (i : Nat) : SR K H (σ.set i (some v)) (δ.set i (some d)) := by
  refine ⟨by simp [h.1], fun j e q => ?_⟩
  by_cases hj : i = j
  · subst hj
    by_cases hl : i < δ.length
    · rw [List.getElem?_set_self hl] at q; cases q
      exact ⟨v, List.getElem?_set_self (by rw [h.1]; exact hl), r⟩
    · rw [List.getElem?_eq_none (by simpa using hl)] at q; cases q
  · rw [List.getElem?_set_ne hj] at q ⊢
    exact h.2 j e q
def wipeM (δ : Fr) : List Nat → Fr
  | [] => δ
  | v :: vs => (wipeM δ vs).set v none
theorem SR.clear {K : Kw} {H : Hp} {σ : L2.St} {δ : Fr} (h : SR K H σ δ) (i : Nat) : SR K H (σ.set i none) (δ.set i none) := by
  refine ⟨by simp [h.1], fun j e q => ?_⟩
  by_cases hj : i = j
  · subst hj
    by_cases hl : i < δ.length
    · rw [List.getElem?_set_self hl] at q; cases q
    · rw [List.getElem?_eq_none (by simpa using hl)] at q; cases q
  · rw [List.getElem?_set_ne hj] at q ⊢
    exact h.2 j e q
theorem SR.wipe {K : Kw} {H : Hp} {σ : L2.St} {δ : Fr} (h : SR K H σ δ) : ∀ vs : List Nat, SR K H (wipe σ vs) (wipeM δ vs)
  | [] => h
  | v :: vs => by unfold L2.wipe wipeM; exact (SR.wipe h vs).clear v
structure Rel (K : Kw) (σ : L2.St) (H : Hp) (δ : Fr) (M : MH) : Prop where
  s : SR K H σ δ
  m : MR K M H
end MM

namespace MM
open PySem PySem.Spec PyProof.Rows L2

/-! ### readings by data -/
abbrev MQ := D → MH → Prop
abbrev ME := Fr → MH → MQ → Prop
abbrev MT := Fr → MH → (Bool → MH → Prop) → Prop
abbrev MA := Fr → MH → (List D → MH → Prop) → Prop
structure MEnds where
  nx : Fr → MH → Prop
  rt : MQ
  bk : Fr → MH → Prop := fun _ _ => False
  ct : Fr → MH → Prop := fun _ _ => False
abbrev MS := MEnds → Fr → MH → Prop

def JE (X : Cx) (e : Expr) (m : ME) : Prop := ∃ t, PE X e t ∧ ∀ (σ : L2.St) (H : Hp) (δ : Fr) (M : MH) (Q : MQ) (R : VK), Rel X.kw σ H δ M → m δ M Q →
  (∀ v d H' M', Rp X.kw H' d v → Rel X.kw σ H' δ M' → Up H H' → Q d M' → R v H') → t σ H R
def JT (X : Cx) (e : Expr) (m : MT) : Prop := ∃ t, PT X e t ∧ ∀ (σ : L2.St) (H : Hp) (δ : Fr) (M : MH) (Q : Bool → MH → Prop) (R : Bool → Hp → Prop), Rel X.kw σ H δ M → m δ M Q →
  (∀ b H' M', Rel X.kw σ H' δ M' → Up H H' → Q b M' → R b H') → t σ H R
def JW (X : Cx) (e : Expr) (m : MT) : Prop := ∃ t, PW X e t ∧ ∀ (σ : L2.St) (H : Hp) (δ : Fr) (M : MH) (Q : Bool → MH → Prop) (R : Bool → Hp → Prop), Rel X.kw σ H δ M → m δ M Q →
  (∀ b H' M', Rel X.kw σ H' δ M' → Up H H' → Q b M' → R b H') → t σ H R
def JA (X : Cx) (es : List Expr) (m : MA) : Prop := ∃ t, PA X es t ∧ ∀ (σ : L2.St) (H : Hp) (δ : Fr) (M : MH) (Q : List D → MH → Prop) (R : List V → Hp → Prop), Rel X.kw σ H δ M → m δ M Q →
  (∀ vs ds H' M', RpL X.kw H' ds vs → Rel X.kw σ H' δ M' → Up H H' → Q ds M' → R vs H') → t σ H R
/-- what is wanted behind a statement, over the wants by data -/
structure EndR (K : Kw) (H : Hp) (E : MEnds) (F : Ends) : Prop where
  nx : ∀ σ δ H' M', Rel K σ H' δ M' → Up H H' → E.nx δ M' → F.nx σ H'
  rt : ∀ v d H' M', Rp K H' d v → MR K M' H' → Up H H' → E.rt d M' → F.rt v H'
  bk : ∀ σ δ H' M', Rel K σ H' δ M' → Up H H' → E.bk δ M' → F.bk σ H'
  ct : ∀ σ δ H' M', Rel K σ H' δ M' → Up H H' → E.ct δ M' → F.ct σ H'
theorem EndR.up {K : Kw} {H H' : Hp} {E : MEnds} {F : Ends} (r : EndR K H E F) (u : Up H H') : EndR K H' E F :=
  ⟨fun σ δ H2 M' a b c => r.nx σ δ H2 M' a (u.trans b) c, fun v d H2 M' x a b c => r.rt v d H2 M' x a (u.trans b) c, fun σ δ H2 M' a b c => r.bk σ δ H2 M' a (u.trans b) c, fun σ δ H2 M' a b c => r.ct σ δ H2 M' a (u.trans b) c⟩
def JS (X : Cx) (st : Stmt) (m : MS) : Prop := ∃ t, PS X st t ∧ ∀ (σ : L2.St) (H : Hp) (δ : Fr) (M : MH) (E : MEnds) (F : Ends), Rel X.kw σ H δ M → m E δ M → EndR X.kw H E F → t F σ H
def JB (X : Cx) (sts : List Stmt) (m : MS) : Prop := ∃ t, PSs X sts t ∧ ∀ (σ : L2.St) (H : Hp) (δ : Fr) (M : MH) (E : MEnds) (F : Ends), Rel X.kw σ H δ M → m E δ M → EndR X.kw H E F → t F σ H

section
variable {X : Cx} {a b c e : Expr} {es : List Expr} {ma mb mc : ME} {pos : Pos}

/-! ### names, constants -/
def mV (i : Nat) : ME := fun δ M Q => ∃ d, δ[i]? = some (some d) ∧ Q d M
theorem jv (i : Nat) {x : Str} {pos : Pos} (hN : X.N[i]? = some x := by rfl) (hv : Vis X.env.scope x := by first | exact Or.inl rfl | exact Or.inr (Or.inl rfl) | exact Or.inr (Or.inr rfl)) (hd : (x == ("__debug__" : Str)) = false := by decide)
    (hcd : (x == ("__classdict__" : Str)) = false := by decide) : JE X (.Name x pos) (mV i) :=
  ⟨_, pe_var (i := i) hN hv hd hcd, fun σ H δ M Q R r ⟨d, e1, q⟩ k => let ⟨v, e2, rv⟩ := r.s.2 i d e1; ⟨v, e2, k v d H M rv r (.refl H) q⟩⟩
def mC (d : D) : ME := fun _ M Q => Q d M
theorem jint {i j pos} : JE X (.Constant (.int i) j pos) (mC (.int i)) := ⟨_, pe_int, fun σ H δ M Q R r q k => k _ _ H M (rp_int.mpr rfl) r (.refl H) q⟩
theorem jbl {b j pos} : JE X (.Constant (.bool b) j pos) (mC (.bl b)) := ⟨_, pe_bl, fun σ H δ M Q R r q k => k _ _ H M (rp_bl.mpr rfl) r (.refl H) q⟩
theorem jnon {j pos} : JE X (.Constant .none j pos) (mC .non) := ⟨_, pe_non, fun σ H δ M Q R r q k => k _ _ H M (rp_non.mpr rfl) r (.refl H) q⟩
theorem jstr {x j pos} : JE X (.Constant (.str x) j pos) (mC (.str x)) := ⟨_, pe_str, fun σ H δ M Q R r q k => k _ _ H M (rp_str.mpr rfl) r (.refl H) q⟩
/-- a module's constant -/
theorem jglob {x : Str} {v : V} {d : D} {pos : Pos} (hg : Gl X x) (hm : ∃ u, X.mg x = some u ∧ RelV v u) (hr : ∀ H, Rp X.kw H d v) (hd : (x == ("__debug__" : Str)) = false := by decide) : JE X (.Name x pos) (mC d) :=
  let ⟨_, h1, h2⟩ := hm; ⟨_, pe_glob hg h1 h2 hd, fun σ H δ M Q R r q k => k _ _ H M (hr H) r (.refl H) q⟩

/-! ### operators -/
abbrev MR2 := D → D → MH → MQ → Prop
abbrev MR1 := D → MH → MQ → Prop
/-- an operator's reading by data is right -/
def JO (X : Cx) (f : Value → Value → Sem Value) (m : MR2) : Prop := ∃ r : R2, OpR X f r ∧ ∀ (x y : V) (d d' : D) (H : Hp) (M : MH) (Q : MQ) (R : VK), MR X.kw M H → Rp X.kw H d x → Rp X.kw H d' y → m d d' M Q →
  (∀ v z H' M', Rp X.kw H' z v → MR X.kw M' H' → Up H H' → Q z M' → R v H') → r x y H R
def JU (X : Cx) (f : Value → Sem Value) (m : MR1) : Prop := ∃ r : V → Hp → VK → Prop, UnR X f r ∧ ∀ (x : V) (d : D) (H : Hp) (M : MH) (Q : MQ) (R : VK), MR X.kw M H → Rp X.kw H d x → m d M Q →
  (∀ v z H' M', Rp X.kw H' z v → MR X.kw M' H' → Up H H' → Q z M' → R v H') → r x H R
def m2 (r : MR2) (ma mb : ME) : ME := fun δ M Q => ma δ M fun x M1 => mb δ M1 fun y M2 => r x y M2 Q
def m1 (r : MR1) (ma : ME) : ME := fun δ M Q => ma δ M fun x M1 => r x M1 Q
theorem Rel.mk' {K : Kw} {σ : L2.St} {H H' : Hp} {δ : Fr} {M M' : MH} (r : Rel K σ H δ M) (u : Up H H') (m : MR K M' H') : Rel K σ H' δ M' := ⟨r.s.up u, m⟩
theorem j2_of {r : R2} {m : MR2} {ta tb : TE} (hr : ∀ (x y : V) (d d' : D) (H : Hp) (M : MH) (Q : MQ) (R : VK), MR X.kw M H → Rp X.kw H d x → Rp X.kw H d' y → m d d' M Q → (∀ v z H' M', Rp X.kw H' z v → MR X.kw M' H' → Up H H' → Q z M' → R v H') → r x y H R)
    (h1 : ∀ (σ : L2.St) (H : Hp) (δ : Fr) (M : MH) (Q : MQ) (R : VK), Rel X.kw σ H δ M → ma δ M Q → (∀ v d H' M', Rp X.kw H' d v → Rel X.kw σ H' δ M' → Up H H' → Q d M' → R v H') → ta σ H R)
    (h2 : ∀ (σ : L2.St) (H : Hp) (δ : Fr) (M : MH) (Q : MQ) (R : VK), Rel X.kw σ H δ M → mb δ M Q → (∀ v d H' M', Rp X.kw H' d v → Rel X.kw σ H' δ M' → Up H H' → Q d M' → R v H') → tb σ H R)
    (σ : L2.St) (H : Hp) (δ : Fr) (M : MH) (Q : MQ) (R : VK) (rl : Rel X.kw σ H δ M) (q : m2 m ma mb δ M Q) (k : ∀ v d H' M', Rp X.kw H' d v → Rel X.kw σ H' δ M' → Up H H' → Q d M' → R v H') : tOp r ta tb σ H R :=
  h1 σ H δ M _ _ rl q fun x d H1 M1 rx r1 u1 q1 => h2 σ H1 δ M1 _ _ r1 q1 fun y d' H2 M2 ry r2 u2 q2 =>
    hr x y d d' H2 M2 Q R r2.m (rx.up u2) ry q2 fun v z H3 M3 rz r3 u3 q3 => k v z H3 M3 rz (r2.mk' u3 r3) ((u1.trans u2).trans u3) q3
theorem jop {op : Operator} {m : MR2} (ho : JO X (binaryOp op) m) (ha : JE X a ma) (hb : JE X b mb) : JE X (.BinOp a op b pos) (m2 m ma mb) := by
  obtain ⟨r, o, hr⟩ := ho
  obtain ⟨ta, pa, h1⟩ := ha
  obtain ⟨tb, pb, h2⟩ := hb
  exact ⟨_, pe_op o pa pb, j2_of hr h1 h2⟩
theorem jcmp {op : CmpOp} {m : MR2} (ho : JO X (compareOp op) m) (ha : JE X a ma) (hb : JE X b mb) (hm : behindInMarks op b = false := by first | exact nomark _ | with_unfolding_all rfl) : JE X (.Compare a [op] [b] pos) (m2 m ma mb) := by
  obtain ⟨r, o, hr⟩ := ho
  obtain ⟨ta, pa, h1⟩ := ha
  obtain ⟨tb, pb, h2⟩ := hb
  exact ⟨_, pe_cmpR o pa pb hm, j2_of hr h1 h2⟩
/-- a value as a test -/
def mTs (m : ME) : MT := fun δ M Q => m δ M fun x M1 => ∃ k, x = .bl k ∧ Q k M1
theorem jcmpT {op : CmpOp} {m : MR2} (ho : JO X (compareOp op) m) (ha : JE X a ma) (hb : JE X b mb) (hm : behindInMarks op b = false := by first | exact nomark _ | with_unfolding_all rfl) : JT X (.Compare a [op] [b] pos) (mTs (m2 m ma mb)) := by
  obtain ⟨r, o, hr⟩ := ho
  obtain ⟨ta, pa, h1⟩ := ha
  obtain ⟨tb, pb, h2⟩ := hb
  refine ⟨_, pt_cmpR o pa pb hm, fun σ H δ M Q R rl q k => j2_of hr h1 h2 σ H δ M _ _ rl q fun v d H' M' rv r' u ⟨c, e, q'⟩ => ?_⟩
  subst e
  exact ⟨c, rp_bl.mp rv, k c H' M' r' u q'⟩
theorem jun {op : UnaryOp} {m : MR1} (ho : JU X (unaryOp op) m) (ha : JE X a ma) : JE X (.UnaryOp op a pos) (m1 m ma) := by
  obtain ⟨r, o, hr⟩ := ho
  obtain ⟨ta, pa, h1⟩ := ha
  exact ⟨_, pe_un o pa, fun σ H δ M Q R rl q k => h1 σ H δ M _ _ rl q fun x d H1 M1 rx r1 u1 q1 => hr x d H1 M1 Q R r1.m rx q1 fun v z H3 M3 rz r3 u3 q3 => k v z H3 M3 rz (r1.mk' u3 r3) (u1.trans u3) q3⟩

/-! ### the operators -/
def rInt (C : Int → Int → Prop) (g : Int → Int → D) : MR2 := fun x y M Q => ∃ i j, x = .int i ∧ y = .int j ∧ C i j ∧ Q (g i j) M
def rInt0 (g : Int → Int → D) : MR2 := fun x y M Q => ∃ i j, x = .int i ∧ y = .int j ∧ Q (g i j) M
theorem jo_int {f : Value → Value → Sem Value} {C : Int → Int → Prop} {g : Int → Int → V} {gd : Int → Int → D} (o : OpR X f (rI C g)) (hg : ∀ i j H, Rp X.kw H (gd i j) (g i j)) : JO X f (rInt C gd) :=
  ⟨_, o, fun x y d d' H M Q R m rx ry ⟨i, j, e1, e2, c, q⟩ k => by
    subst e1; subst e2
    exact ⟨i, j, rp_int.mp rx, rp_int.mp ry, c, k _ _ H M (hg i j H) m (.refl H) q⟩⟩
theorem jo_int0 {f : Value → Value → Sem Value} {g : Int → Int → V} {gd : Int → Int → D} (o : OpR X f (rI0 g)) (hg : ∀ i j H, Rp X.kw H (gd i j) (g i j)) : JO X f (rInt0 gd) :=
  ⟨_, o, fun x y d d' H M Q R m rx ry ⟨i, j, e1, e2, q⟩ k => by
    subst e1; subst e2
    exact ⟨i, j, rp_int.mp rx, rp_int.mp ry, k _ _ H M (hg i j H) m (.refl H) q⟩⟩
abbrev oAdd : MR2 := rInt0 fun i j => .int (i + j)
abbrev oSub : MR2 := rInt0 fun i j => .int (i - j)
/-- a product: together below 10 ^ 8 bits -/
def CMu (i j : Int) : Prop := i.natAbs.log2 + j.natAbs.log2 < 100000000
/-- a quotient: any divisor below 2 ^ 9000 but 0 -/
def CDi (_ j : Int) : Prop := j ≠ 0 ∧ j.natAbs.log2 < 9000
abbrev oMul : MR2 := rInt CMu fun i j => .int (i * j)
abbrev oDiv : MR2 := rInt CDi fun i j => .int (i.fdiv j)
abbrev oMod : MR2 := rInt (fun _ j => j ≠ 0) fun i j => .int (i.fmod j)
abbrev oPow : MR2 := rInt CPow fun i j => .int (i ^ j.toNat)
abbrev oLt : MR2 := rInt0 fun i j => .bl (decide (i < j))
abbrev oLe : MR2 := rInt0 fun i j => .bl (decide (i ≤ j))
abbrev oGt : MR2 := rInt0 fun i j => .bl (decide (j < i))
abbrev oGe : MR2 := rInt0 fun i j => .bl (decide (j ≤ i))
theorem op_div : OpR X (binaryOp .FloorDiv) (rI CDi fun i j => .int (i.fdiv j)) := opI fun i j t u s Q E hc q => floordiv_int hc.1 q (.inl (PyProof.noPylong_of_log2 hc.2))
theorem jadd : JO X (binaryOp .Add) oAdd := jo_int0 op_add fun _ _ _ => rp_int.mpr rfl
theorem jsub : JO X (binaryOp .Sub) oSub := jo_int0 op_sub fun _ _ _ => rp_int.mpr rfl
theorem op_mulC : OpR X (binaryOp .Mult) (rI CMu fun i j => .int (i * j)) := opI fun i j _ _ _ _ _ hc q => mul_int q (mulx_ok (a := i.natAbs.log2 + 1) (b := j.natAbs.log2 + 1) Nat.lt_log2_self Nat.lt_log2_self (by have : i.natAbs.log2 + j.natAbs.log2 < 100000000 := hc; omega)).ok
theorem jmul : JO X (binaryOp .Mult) oMul := jo_int (C := CMu) op_mulC fun _ _ _ => rp_int.mpr rfl
theorem jdiv : JO X (binaryOp .FloorDiv) oDiv := jo_int op_div fun _ _ _ => rp_int.mpr rfl
theorem jmod : JO X (binaryOp .Mod) oMod := jo_int op_modN fun _ _ _ => rp_int.mpr rfl
theorem jpow : JO X (binaryOp .Pow) oPow := jo_int op_pow fun _ _ _ => rp_int.mpr rfl
theorem jlt : JO X (compareOp .Lt) oLt := jo_int0 op_lt fun _ _ _ => rp_bl.mpr rfl
theorem jle : JO X (compareOp .LtE) oLe := jo_int0 op_le fun _ _ _ => rp_bl.mpr rfl
theorem jgt : JO X (compareOp .Gt) oGt := jo_int0 op_gt fun _ _ _ => rp_bl.mpr rfl
theorem jge : JO X (compareOp .GtE) oGe := jo_int0 op_ge fun _ _ _ => rp_bl.mpr rfl
abbrev oNeg : MR1 := fun x M Q => ∃ i, x = .int i ∧ Q (.int (-i)) M
theorem jneg : JU X (unaryOp .USub) oNeg := ⟨_, un_neg, fun x d H M Q R m rx ⟨i, e, q⟩ k => by
  subst e; exact ⟨i, rp_int.mp rx, k _ _ H M (rp_int.mpr rfl) m (.refl H) q⟩⟩

/-! ### equality -/
mutual
def toP : D → PyData
  | .non => .none
  | .bl b => .bool b
  | .int i => .int i
  | .str x => .str x
  | .tup ds => .tuple (toPs ds)
  | .ref _ => .none
  | .ty _ => .none
  | .kl _ => .none
def toPs : List D → List PyData
  | [] => []
  | d :: ds => toP d :: toPs ds
end
mutual
/-- no address, texts in order -/
def pur : D → Bool
  | .ref _ => false
  | .ty _ => false
  | .kl _ => false
  | .tup ds => purs ds
  | .str x => (PyData.str x).canLay0
  | .non => true
  | .bl _ => true
  | .int _ => true
def purs : List D → Bool
  | [] => true
  | d :: ds => pur d && purs ds
end
mutual
def dep : D → Nat
  | .tup ds => deps ds + 1
  | .non => 0
  | .bl _ => 0
  | .int _ => 0
  | .str _ => 0
  | .ref _ => 0
  | .ty _ => 0
  | .kl _ => 0
def deps : List D → Nat
  | [] => 0
  | d :: ds => max (dep d) (deps ds)
end
mutual
theorem canLay_of : ∀ {d : D}, pur d = true → (toP d).canLay0 = true
  | .non, _ => by unfold toP; rfl
  | .bl _, _ => by unfold toP; rfl
  | .int _, _ => by unfold toP; rfl
  | .str x, h => by unfold toP; unfold pur at h; exact h
  | .tup ds, h => by
    unfold pur at h
    unfold toP
    show (PyData.tuple (toPs ds)).canLay0 = true
    unfold PyData.canLay0
    exact canLays_of h
  | .ref _, h => by unfold pur at h; cases h
  | .ty _, h => by unfold pur at h; cases h
  | .kl _, h => by unfold pur at h; cases h
theorem canLays_of : ∀ {ds : List D}, purs ds = true → PyData.canLayAll0 (toPs ds) = true
  | [], _ => by unfold toPs PyData.canLayAll0; rfl
  | d :: ds, h => by
    unfold purs at h
    rw [Bool.and_eq_true] at h
    unfold toPs PyData.canLayAll0
    rw [canLay_of h.1, canLays_of h.2]; rfl
end
mutual
theorem dep_of : ∀ {d : D}, (toP d).depth = dep d
  | .non => by unfold toP dep; rfl
  | .bl _ => by unfold toP dep; rfl
  | .int _ => by unfold toP dep; rfl
  | .str x => by unfold toP dep; rfl
  | .tup ds => by
    unfold toP dep
    show (PyData.tuple (toPs ds)).depth = _
    unfold PyData.depth
    rw [deps_of]
  | .ref _ => by unfold toP dep; rfl
  | .ty _ => by unfold toP dep; rfl
  | .kl _ => by unfold toP dep; rfl
theorem deps_of : ∀ {ds : List D}, PyData.depthAll (toPs ds) = deps ds
  | [] => by unfold toPs deps PyData.depthAll; rfl
  | d :: ds => by
    unfold toPs deps PyData.depthAll
    rw [dep_of, deps_of]
end
theorem shaped_of {d : D} (h : pur d = true) (h2 : dep d ≤ 64) : SeqAt.shaped (toP d) = true := by
  unfold SeqAt.shaped
  rw [canLay_of h, dep_of]
  simp [h2]
mutual
theorem dp_of {K : Kw} {H : Hp} : ∀ {d : D} {v : V}, pur d = true → Rp K H d v → Dp K.K H v (toP d)
  | .non, v, _, r => by rw [rp_non.mp r]; unfold toP; exact .non
  | .bl b, v, _, r => by rw [rp_bl.mp r]; unfold toP; exact .bl b
  | .int i, v, _, r => by rw [rp_int.mp r]; unfold toP; exact .int i
  | .str x, v, _, r => by rw [rp_str.mp r]; unfold toP; exact .str x
  | .tup ds, v, h, r => by
    obtain ⟨a, xs, rfl, s, t⟩ := rp_tup.mp r
    unfold pur at h
    unfold toP
    exact .tup s (dps_of h t)
  | .ref _, v, h, _ => by unfold pur at h; cases h
  | .ty _, v, h, _ => by unfold pur at h; cases h
  | .kl _, v, h, _ => by unfold pur at h; cases h
theorem dps_of {K : Kw} {H : Hp} : ∀ {ds : List D} {vs : List V}, purs ds = true → RpL K H ds vs → DpAll K.K H vs (toPs ds)
  | [], vs, _, r => by unfold RpL at r; subst r; unfold toPs; exact .nil
  | d :: ds, vs, h, r => by
    unfold purs at h
    rw [Bool.and_eq_true] at h
    unfold RpL at r
    obtain ⟨y, ys, rfl, r1, r2⟩ := r
    unfold toPs
    exact .cons (dp_of h.1 r1) (dps_of h.2 r2)
end
def eqD (d e : D) : Bool := PyData.eqv (toP d) (toP e)
def eqL (ds es : List D) : Bool := PyData.eqvAll (toPs ds) (toPs es)
/-- fit to be compared -/
def fitD (d : D) : Prop := pur d = true ∧ dep d ≤ 64
def fitL (ds : List D) : Prop := purs ds = true ∧ deps ds ≤ 63
theorem shapedL_of {ds : List D} (h : fitL ds) : SeqAt.shaped (.list (toPs ds)) = true := by
  unfold SeqAt.shaped
  have e1 : (PyData.list (toPs ds)).canLay0 = true := by unfold PyData.canLay0; exact canLays_of h.1
  have e2 : (PyData.list (toPs ds)).depth = deps ds + 1 := by unfold PyData.depth; rw [deps_of]
  rw [e1, e2]
  have := h.2
  simp; omega
/-- == of data without addresses, of lists of such -/
def oEqF (f : Bool → Bool) : MR2 := fun x y M Q => (fitD x ∧ fitD y ∧ Q (.bl (f (eqD x y))) M) ∨ ∃ a b ds es, x = .ref a ∧ y = .ref b ∧ (M a = some (.lst ds) ∨ M a = some (.rol ds)) ∧ (M b = some (.lst es) ∨ M b = some (.rol es)) ∧ fitL ds ∧ fitL es ∧ Q (.bl (f (eqL ds es))) M
abbrev oEq : MR2 := oEqF id
abbrev oNe : MR2 := oEqF not
theorem sql_of {K : Kw} {M : MH} {H : Hp} (m : MR K M H) {a : Addr} {ds : List D} (h : M a = some (.lst ds) ∨ M a = some (.rol ds)) : ∃ xs, SqL K.K H a xs ∧ RpL K H ds xs := by
  rcases h with h | h
  · obtain ⟨xs, e, r⟩ := m a _ h
    exact ⟨xs, .of e, r⟩
  · obtain ⟨xs, e, r⟩ := m a _ h
    exact ⟨xs, .inl e, r⟩
theorem jeqF {op : CmpOp} {f : Bool → Bool} (ho : OpR X (compareOp op) fun x y H Q => ∃ d e, Dp X.K H x d ∧ Dp X.K H y e ∧ SeqAt.shaped d = true ∧ SeqAt.shaped e = true ∧ Q (.bl (f (PyData.eqv d e))) H) : JO X (compareOp op) (oEqF f) :=
  ⟨_, ho, fun x y d d' H M Q R m rx ry q k => by
    rcases q with ⟨f1, f2, q⟩ | ⟨a, b, ds, es, rfl, rfl, ha, hb, f1, f2, q⟩
    · exact ⟨_, _, dp_of f1.1 rx, dp_of f2.1 ry, shaped_of f1.1 f1.2, shaped_of f2.1 f2.2, k _ _ H M (rp_bl.mpr rfl) m (.refl H) q⟩
    · obtain ⟨xs, s1, r1⟩ := sql_of m ha
      obtain ⟨ys, s2, r2⟩ := sql_of m hb
      obtain rfl := rp_ref.mp rx
      obtain rfl := rp_ref.mp ry
      refine ⟨_, _, .lst s1 (dps_of f1.1 r1), .lst s2 (dps_of f2.1 r2), shapedL_of f1, shapedL_of f2, k _ _ H M (rp_bl.mpr ?_) m (.refl H) q⟩
      unfold eqL PyData.eqv; rfl⟩
theorem jeq (hu : X.A.units + 64 < cLine) : JO X (compareOp .Eq) oEq := jeqF (f := id) (op_eqD hu)
theorem jne (hu : X.A.units + 64 < cLine) : JO X (compareOp .NotEq) oNe := jeqF (f := not) (op_neD hu)
/-- the items of a list, of a tuple -/
def SeqOf (M : MH) (y : D) (es : List D) : Prop := match y with
  | .tup ds => ds = es
  | .ref b => M b = some (.lst es) ∨ M b = some (.rol es)
  | _ => False
/-- x in a list, a tuple of data -/
def oInF (f : Bool → Bool) : MR2 := fun x y M Q => ∃ es, SeqOf M y es ∧ fitD x ∧ fitL es ∧ Q (.bl (f (es.any fun z => eqD z x))) M
theorem any_toPs {d : PyData} : ∀ es : List D, ((toPs es).any fun z => PyData.eqv z d) = es.any fun z => PyData.eqv (toP z) d
  | [] => by unfold toPs; rfl
  | e :: es => by unfold toPs; rw [List.any_cons, List.any_cons, any_toPs es]
def rInS (K : PySem.W.Frag) (f : Bool → Bool) : R2 := fun x y H Q => ∃ (d : PyData) (ds : List PyData), Dp K H x d ∧ (Dp K H y (.list ds) ∨ Dp K H y (.tuple ds)) ∧ SeqAt.shaped d = true ∧ SeqAt.shaped (.list ds) = true ∧ Q (.bl (f (ds.any fun z => PyData.eqv z d))) H
theorem shaped_tl {ds : List PyData} (h : SeqAt.shaped (.list ds) = true) : SeqAt.shaped (.tuple ds) = true := by
  unfold SeqAt.shaped at h ⊢
  have e1 : (PyData.tuple ds).canLay0 = (PyData.list ds).canLay0 := by unfold PyData.canLay0; rfl
  have e2 : (PyData.tuple ds).depth = (PyData.list ds).depth := by unfold PyData.depth; rfl
  rw [e1, e2]; exact h
theorem op_inS (hu : X.A.units + 65 < cLine) : OpR X (compareOp .In) (rInS X.K id) := by
  intro pins s σ H x y v u Q I rx ry ⟨d, ds, hd, he, sd, se, q⟩
  obtain ⟨as, r1⟩ := Dp.reads I d x v hd rx
  rcases he with he | he
  · obtain ⟨bs, r2⟩ := Dp.reads I (.list ds) y u he ry
    exact SeqAt.in_list_reads r2 r1 (SeqAt.canLay_of_shaped se) (SeqAt.canLay_of_shaped sd) (room_in_shaped sd hu) ⟨.bl _, H, I, rfl, q⟩
  · obtain ⟨bs, r2⟩ := Dp.reads I (.tuple ds) y u he ry
    exact SeqAt.in_tuple_reads r2 r1 (SeqAt.canLay_of_shaped (shaped_tl se)) (SeqAt.canLay_of_shaped sd) (room_in_shaped sd hu) ⟨.bl _, H, I, rfl, q⟩
theorem op_notInS (hu : X.A.units + 65 < cLine) : OpR X (compareOp .NotIn) (rInS X.K not) := by
  intro pins s σ H x y v u Q I rx ry ⟨d, ds, hd, he, sd, se, q⟩
  obtain ⟨as, r1⟩ := Dp.reads I d x v hd rx
  rcases he with he | he
  · obtain ⟨bs, r2⟩ := Dp.reads I (.list ds) y u he ry
    exact SeqAt.notIn_list_reads r2 r1 (SeqAt.canLay_of_shaped se) (SeqAt.canLay_of_shaped sd) (room_in_shaped sd hu) ⟨.bl _, H, I, rfl, q⟩
  · obtain ⟨bs, r2⟩ := Dp.reads I (.tuple ds) y u he ry
    exact SeqAt.notIn_tuple_reads r2 r1 (SeqAt.canLay_of_shaped (shaped_tl se)) (SeqAt.canLay_of_shaped sd) (room_in_shaped sd hu) ⟨.bl _, H, I, rfl, q⟩
theorem jinF {op : CmpOp} {f : Bool → Bool} (ho : OpR X (compareOp op) (rInS X.K f)) : JO X (compareOp op) (oInF f) :=
  ⟨_, ho, fun x y d d' H M Q R m rx ry ⟨es, hs, f1, f2, q⟩ k => by
    have fin : R (.bl (f ((toPs es).any fun z => PyData.eqv z (toP d)))) H := by
      rw [any_toPs]
      exact k _ _ H M (rp_bl.mpr rfl) m (.refl H) q
    cases d' with
    | tup ds =>
      have e : ds = es := hs
      subst e
      obtain ⟨p, xs, ep, s2, r2⟩ := rp_tup.mp ry
      exact ⟨_, _, dp_of f1.1 rx, .inr (by rw [ep]; exact .tup s2 (dps_of f2.1 r2)), shaped_of f1.1 f1.2, shapedL_of f2, fin⟩
    | ref b =>
      obtain ⟨ys, s2, r2⟩ := sql_of m hs
      exact ⟨_, _, dp_of f1.1 rx, .inl (by rw [rp_ref.mp ry]; exact .lst s2 (dps_of f2.1 r2)), shaped_of f1.1 f1.2, shapedL_of f2, fin⟩
    | _ => exact hs.elim⟩
theorem jin (hu : X.A.units + 65 < cLine) : JO X (compareOp .In) (oInF id) := jinF (op_inS hu)
theorem jnotin (hu : X.A.units + 65 < cLine) : JO X (compareOp .NotIn) (oInF not) := jinF (op_notInS hu)
/-! a chain of two comparisons -/
def mChain (r r' : MR2) (ma mb mc : ME) : ME := fun δ M Q => ma δ M fun x M1 => mb δ M1 fun y M2 => r x y M2 fun z M3 => ∃ k, z = .bl k ∧ (if k = true then mc δ M3 fun w M4 => r' y w M4 Q else Q (.bl false) M3)
theorem chain_of {r r' : R2} {m m' : MR2} {ta tb tc : TE} (hr : ∀ (x y : V) (d d' : D) (H : Hp) (M : MH) (Q : MQ) (R : VK), MR X.kw M H → Rp X.kw H d x → Rp X.kw H d' y → m d d' M Q → (∀ v z H' M', Rp X.kw H' z v → MR X.kw M' H' → Up H H' → Q z M' → R v H') → r x y H R)
    (hr' : ∀ (x y : V) (d d' : D) (H : Hp) (M : MH) (Q : MQ) (R : VK), MR X.kw M H → Rp X.kw H d x → Rp X.kw H d' y → m' d d' M Q → (∀ v z H' M', Rp X.kw H' z v → MR X.kw M' H' → Up H H' → Q z M' → R v H') → r' x y H R)
    (h1 : ∀ (σ : L2.St) (H : Hp) (δ : Fr) (M : MH) (Q : MQ) (R : VK), Rel X.kw σ H δ M → ma δ M Q → (∀ v d H' M', Rp X.kw H' d v → Rel X.kw σ H' δ M' → Up H H' → Q d M' → R v H') → ta σ H R)
    (h2 : ∀ (σ : L2.St) (H : Hp) (δ : Fr) (M : MH) (Q : MQ) (R : VK), Rel X.kw σ H δ M → mb δ M Q → (∀ v d H' M', Rp X.kw H' d v → Rel X.kw σ H' δ M' → Up H H' → Q d M' → R v H') → tb σ H R)
    (h3 : ∀ (σ : L2.St) (H : Hp) (δ : Fr) (M : MH) (Q : MQ) (R : VK), Rel X.kw σ H δ M → mc δ M Q → (∀ v d H' M', Rp X.kw H' d v → Rel X.kw σ H' δ M' → Up H H' → Q d M' → R v H') → tc σ H R)
    (σ : L2.St) (H : Hp) (δ : Fr) (M : MH) (Q : MQ) (R : VK) (rl : Rel X.kw σ H δ M) (q : mChain m m' ma mb mc δ M Q) (k : ∀ v d H' M', Rp X.kw H' d v → Rel X.kw σ H' δ M' → Up H H' → Q d M' → R v H') : tChain r r' ta tb tc σ H R :=
  h1 σ H δ M _ _ rl q fun x d H1 M1 rx r1 u1 q1 => h2 σ H1 δ M1 _ _ r1 q1 fun y d' H2 M2 ry r2 u2 q2 =>
    hr x y d d' H2 M2 _ _ r2.m (rx.up u2) ry q2 fun v z H3 M3 rz m3 u3 ⟨b, e, q3⟩ => by
      subst e
      refine ⟨b, rp_bl.mp rz, ?_⟩
      have r3 := r2.mk' u3 m3
      have u := (u1.trans u2).trans u3
      cases b with
      | true => exact h3 σ H3 δ M3 _ _ r3 q3 fun w dw H4 M4 rw' r4 u4 q4 => hr' y w d' dw H4 M4 Q R r4.m (ry.up (u3.trans u4)) rw' q4 fun v z H5 M5 rv m5 u5 q5 => k v z H5 M5 rv (r4.mk' u5 m5) ((u.trans u4).trans u5) q5
      | false => exact k _ _ H3 M3 (rp_bl.mpr rfl) r3 u q3
theorem jchain {op op' : CmpOp} {m m' : MR2} (ho : JO X (compareOp op) m) (ho' : JO X (compareOp op') m') (ha : JE X a ma) (hb : JE X b mb) (hc : JE X c mc) (hm : lastMarks [op, op'] [b, c] = false := by with_unfolding_all rfl) : JE X (.Compare a [op, op'] [b, c] pos) (mChain m m' ma mb mc) := by
  obtain ⟨r, o, hr⟩ := ho
  obtain ⟨r', o', hr'⟩ := ho'
  obtain ⟨ta, pa, h1⟩ := ha
  obtain ⟨tb, pb, h2⟩ := hb
  obtain ⟨tc, pc, h3⟩ := hc
  exact ⟨_, pe_chain o o' pa pb pc hm, chain_of hr hr' h1 h2 h3⟩
theorem jchainT {op op' : CmpOp} {m m' : MR2} (ho : JO X (compareOp op) m) (ho' : JO X (compareOp op') m') (ha : JE X a ma) (hb : JE X b mb) (hc : JE X c mc) (hm : lastMarks [op, op'] [b, c] = false := by with_unfolding_all rfl) : JT X (.Compare a [op, op'] [b, c] pos) (mTs (mChain m m' ma mb mc)) := by
  obtain ⟨r, o, hr⟩ := ho
  obtain ⟨r', o', hr'⟩ := ho'
  obtain ⟨ta, pa, h1⟩ := ha
  obtain ⟨tb, pb, h2⟩ := hb
  obtain ⟨tc, pc, h3⟩ := hc
  refine ⟨_, pt_chain o o' pa pb pc hm, fun σ H δ M Q R rl q k => chain_of hr hr' h1 h2 h3 σ H δ M _ _ rl q fun v d H' M' rv r' u ⟨c, e, q'⟩ => ?_⟩
  subst e
  exact ⟨c, rp_bl.mp rv, k c H' M' r' u q'⟩
/-- is None -/
def isN : D → Bool
  | .non => true
  | _ => false
def oIsF (f : Bool → Bool) : MR2 := fun x y M Q => y = .non ∧ Q (.bl (f (isN x))) M
theorem isn_of {K : Kw} {H : Hp} {d : D} {v : V} (r : Rp K H d v) : decide (v = .non) = isN d := by
  cases d with
  | non => rw [rp_non.mp r]; rfl
  | bl b => rw [rp_bl.mp r]; rfl
  | int b => rw [rp_int.mp r]; rfl
  | str b => rw [rp_str.mp r]; rfl
  | ref b => rw [rp_ref.mp r]; rfl
  | ty b => rw [rp_ty.mp r]; rfl
  | tup ds => obtain ⟨a, xs, e, _⟩ := rp_tup.mp r; rw [e]; rfl
  | kl ds => obtain ⟨a, xs, e, _⟩ := rp_kl.mp r; rw [e]; rfl
theorem jis : JO X (compareOp .Is) (oIsF id) := ⟨_, op_isN, fun x y d d' H M Q R m rx ry ⟨e, q⟩ k => by
  subst e; exact ⟨rp_non.mp ry, k _ _ H M (rp_bl.mpr (by rw [isn_of rx]; rfl)) m (.refl H) q⟩⟩
theorem jisnot : JO X (compareOp .IsNot) (oIsF not) := ⟨_, op_notN, fun x y d d' H M Q R m rx ry ⟨e, q⟩ k => by
  subst e; exact ⟨rp_non.mp ry, k _ _ H M (rp_bl.mpr (by rw [isn_of rx])) m (.refl H) q⟩⟩
end
end MM

namespace MM
open PySem PySem.Spec PyProof.Rows L2
section
variable {X : Cx} {a b c e : Expr} {es rest : List Expr} {ma mb mc : ME} {mt mt' : MT} {pos : Pos}

/-! ### tests -/
/-- an expression whose value is a truth, as a test -/
theorem jtv {m : ME} (h : JE X e m) (he : ∀ whole, isTrue e X.env whole = (do let v ← whole; standAt e.pos; holding [v] (truthy v)) := by intro _; rfl) : JT X e (mTs m) := by
  obtain ⟨t, p, h1⟩ := h
  refine ⟨_, pt_val p he, fun σ H δ M Q R rl q k => h1 σ H δ M _ _ rl q fun v d H' M' rv r' u ⟨c, e, q'⟩ => ?_⟩
  subst e
  exact ⟨c, rp_bl.mp rv, k c H' M' r' u q'⟩
theorem JW.t {m : MT} (h : JW X e m) : JT X e m := let ⟨t, p, k⟩ := h; ⟨t, p.pt, k⟩
def mAnd (t u : MT) : MT := fun δ M Q => t δ M fun c M1 => if c = true then u δ M1 Q else Q false M1
def mOr (t u : MT) : MT := fun δ M Q => t δ M fun c M1 => if c = true then Q true M1 else u δ M1 Q
def mNot (t : MT) : MT := fun δ M Q => t δ M fun c M1 => Q (!c) M1
theorem jw_and1 (ha : JT X a mt) : JW X (.BoolOp .And [a] pos) mt := let ⟨_, p, k⟩ := ha; ⟨_, pw_and1 p, k⟩
theorem jw_or1 (ha : JT X a mt) : JW X (.BoolOp .Or [a] pos) mt := let ⟨_, p, k⟩ := ha; ⟨_, pw_or1 p, k⟩
theorem jw_and (ha : JT X a mt) (hb : JW X (.BoolOp .And (b :: rest) pos) mt') : JW X (.BoolOp .And (a :: b :: rest) pos) (mAnd mt mt') := by
  obtain ⟨_, p1, k1⟩ := ha
  obtain ⟨_, p2, k2⟩ := hb
  refine ⟨_, pw_and p1 p2, fun σ H δ M Q R rl q k => k1 σ H δ M _ _ rl q fun b H1 M1 r1 u1 q1 => ?_⟩
  cases b with
  | true => exact k2 σ H1 δ M1 Q R r1 q1 fun b H2 M2 r2 u2 q2 => k b H2 M2 r2 (u1.trans u2) q2
  | false => exact k false H1 M1 r1 u1 q1
theorem jw_or (ha : JT X a mt) (hb : JW X (.BoolOp .Or (b :: rest) pos) mt') : JW X (.BoolOp .Or (a :: b :: rest) pos) (mOr mt mt') := by
  obtain ⟨_, p1, k1⟩ := ha
  obtain ⟨_, p2, k2⟩ := hb
  refine ⟨_, pw_or p1 p2, fun σ H δ M Q R rl q k => k1 σ H δ M _ _ rl q fun b H1 M1 r1 u1 q1 => ?_⟩
  cases b with
  | false => exact k2 σ H1 δ M1 Q R r1 q1 fun b H2 M2 r2 u2 q2 => k b H2 M2 r2 (u1.trans u2) q2
  | true => exact k true H1 M1 r1 u1 q1
theorem jt_not (ha : JT X a mt) : JT X (.UnaryOp .Not a pos) (mNot mt) := by
  obtain ⟨_, p1, k1⟩ := ha
  exact ⟨_, pt_not p1, fun σ H δ M Q R rl q k => k1 σ H δ M _ _ rl q fun b H1 M1 r1 u1 q1 => k (!b) H1 M1 r1 u1 q1⟩
/-! .. as values -/
def mAndV (ma mb : ME) : ME := fun δ M Q => ma δ M fun x M1 => ∃ c, x = .bl c ∧ if c = true then mb δ M1 Q else Q (.bl false) M1
def mOrV (ma mb : ME) : ME := fun δ M Q => ma δ M fun x M1 => ∃ c, x = .bl c ∧ if c = true then Q (.bl true) M1 else mb δ M1 Q
def mNotV (ma : ME) : ME := fun δ M Q => ma δ M fun x M1 => ∃ c, x = .bl c ∧ Q (.bl (!c)) M1
theorem je_one {op} {m : ME} (h : JE X a m) : JE X (.BoolOp op [a] pos) m := let ⟨_, p, k⟩ := h; ⟨_, pe_one p, k⟩
theorem je_and (ha : JE X a ma) (hb : JE X (.BoolOp .And (b :: rest) pos) mb) : JE X (.BoolOp .And (a :: b :: rest) pos) (mAndV ma mb) := by
  obtain ⟨_, p1, k1⟩ := ha
  obtain ⟨_, p2, k2⟩ := hb
  refine ⟨_, pe_and p1 p2, fun σ H δ M Q R rl q k => k1 σ H δ M _ _ rl q fun v d H1 M1 rv r1 u1 ⟨c, e, q1⟩ => ?_⟩
  subst e
  refine ⟨c, rp_bl.mp rv, ?_⟩
  cases c with
  | true => exact k2 σ H1 δ M1 Q R r1 q1 fun v d H2 M2 rv r2 u2 q2 => k v d H2 M2 rv r2 (u1.trans u2) q2
  | false => exact k _ _ H1 M1 (rp_bl.mpr rfl) r1 u1 q1
theorem je_or (ha : JE X a ma) (hb : JE X (.BoolOp .Or (b :: rest) pos) mb) : JE X (.BoolOp .Or (a :: b :: rest) pos) (mOrV ma mb) := by
  obtain ⟨_, p1, k1⟩ := ha
  obtain ⟨_, p2, k2⟩ := hb
  refine ⟨_, pe_or p1 p2, fun σ H δ M Q R rl q k => k1 σ H δ M _ _ rl q fun v d H1 M1 rv r1 u1 ⟨c, e, q1⟩ => ?_⟩
  subst e
  refine ⟨c, rp_bl.mp rv, ?_⟩
  cases c with
  | false => exact k2 σ H1 δ M1 Q R r1 q1 fun v d H2 M2 rv r2 u2 q2 => k v d H2 M2 rv r2 (u1.trans u2) q2
  | true => exact k _ _ H1 M1 (rp_bl.mpr rfl) r1 u1 q1
theorem je_not (ha : JE X a ma) : JE X (.UnaryOp .Not a pos) (mNotV ma) := by
  obtain ⟨_, p1, k1⟩ := ha
  refine ⟨_, pe_not p1, fun σ H δ M Q R rl q k => k1 σ H δ M _ _ rl q fun v d H1 M1 rv r1 u1 ⟨c, e, q1⟩ => ?_⟩
  subst e
  exact ⟨c, rp_bl.mp rv, k _ _ H1 M1 (rp_bl.mpr rfl) r1 u1 q1⟩
def mIf (t : MT) (ma mb : ME) : ME := fun δ M Q => t δ M fun c M1 => if c = true then ma δ M1 Q else mb δ M1 Q
theorem je_if (hc : JT X c mt) (ha : JE X a ma) (hb : JE X b mb) : JE X (.IfExp c a b pos) (mIf mt ma mb) := by
  obtain ⟨_, p0, k0⟩ := hc
  obtain ⟨_, p1, k1⟩ := ha
  obtain ⟨_, p2, k2⟩ := hb
  refine ⟨_, pe_ifExp p0 p1 p2, fun σ H δ M Q R rl q k => k0 σ H δ M _ _ rl q fun b H1 M1 r1 u1 q1 => ?_⟩
  cases b with
  | true => exact k1 σ H1 δ M1 Q R r1 q1 fun v d H2 M2 rv r2 u2 q2 => k v d H2 M2 rv r2 (u1.trans u2) q2
  | false => exact k2 σ H1 δ M1 Q R r1 q1 fun v d H2 M2 rv r2 u2 q2 => k v d H2 M2 rv r2 (u1.trans u2) q2

/-! ### argument lists, displays -/
def maN : MA := fun _ M Q => Q [] M
def maC (m : ME) (r : MA) : MA := fun δ M Q => m δ M fun x M1 => r δ M1 fun xs M2 => Q (x :: xs) M2
theorem ja_nil : JA X [] maN := ⟨_, pa_nil, fun σ H δ M Q R rl q k => k _ _ H M .nil rl (.refl H) q⟩
theorem ja_cons {mr : MA} (ha : JE X e ma) (hr : JA X es mr) (hs : starEach (e :: es) X.env = (false, eval e X.env) :: starEach es X.env := by rfl) : JA X (e :: es) (maC ma mr) := by
  obtain ⟨_, p1, k1⟩ := ha
  obtain ⟨_, p2, k2⟩ := hr
  exact ⟨_, pa_cons p1 p2 hs, fun σ H δ M Q R rl q k => k1 σ H δ M _ _ rl q fun v d H1 M1 rv r1 u1 q1 => k2 σ H1 δ M1 _ _ r1 q1 fun vs ds H2 M2 rs r2 u2 q2 =>
    k (v :: vs) (d :: ds) H2 M2 (.cons (rv.up u2) rs) r2 (u1.trans u2) q2⟩
def mTup (m : MA) : ME := fun δ M Q => m δ M fun ds M1 => ds.length ≤ sizeLine ∧ Q (.tup ds) M1
def mLst (m : MA) : ME := fun δ M Q => m δ M fun ds M1 => ds.length ≤ sizeLine ∧ ∀ p, M1 p = none → Q (.ref p) (ud M1 p (.lst ds))
theorem je_tup {m : MA} {x1} (h : JA X es m) : JE X (.Tuple es x1 pos) (mTup m) := by
  obtain ⟨_, p1, k1⟩ := h
  refine ⟨_, pe_tup p1, fun σ H δ M Q R rl q k => k1 σ H δ M _ _ rl q fun vs ds H1 M1 rs r1 u1 ⟨z, q1⟩ => ⟨by rw [rs.length]; exact z, fun p hp => ?_⟩⟩
  have u2 : Up H1 (upd H1 p (.tup vs)) := .new hp
  exact k _ _ _ M1 (rp_tup.mpr ⟨p, vs, rfl, .of upd_same, rs.up u2⟩) (r1.mk' u2 (r1.m.new hp)) (u1.trans u2) q1
theorem je_lst {m : MA} (h : JA X es m) : JE X (.List es pos) (mLst m) := by
  obtain ⟨_, p1, k1⟩ := h
  refine ⟨_, pe_lst p1, fun σ H δ M Q R rl q k => k1 σ H δ M _ _ rl q fun vs ds H1 M1 rs r1 u1 ⟨z, q1⟩ => ⟨by rw [rs.length]; exact z, fun p hp => ?_⟩⟩
  have u2 : Up H1 (upd H1 p (.lst vs)) := .new hp
  exact k _ _ _ _ (rp_ref.mpr rfl) (r1.mk' u2 (r1.m.laid (m := .lst ds) hp ⟨vs, upd_same, rs.up u2⟩)) (u1.trans u2) (q1 p (r1.m.free hp))
/-- {} with keys that are ints and texts -/
def mDct : ME := fun _ M Q => ∀ p, M p = none → Q (.ref p) (ud M p (.dic []))
theorem je_dct : JE X (.Dict [] [] pos) mDct := ⟨_, pe_dnewK, fun σ H δ M Q R rl q k p hp => by
  have u2 : Up H (upd H p (.dK [])) := .new hp
  exact k _ _ _ _ (rp_ref.mpr rfl) (rl.mk' u2 (rl.m.laid (m := .dic []) hp ⟨[], upd_same, .nil⟩)) u2 (q p (rl.m.free hp))⟩

/-! ### dicts whose keys are ints and texts -/
def kD : Key → D
  | .inl i => .int i
  | .inr x => .str x
theorem kD_rp {K : Kw} {H : Hp} {k : Key} {v : V} : Rp K H (kD k) v ↔ v = kV k := by
  cases k <;> simp [kD, kV]
def lkD {κ : Type} [DecidableEq κ] (kvs : List (κ × D)) (k : κ) : Option D := (kvs.find? fun kv => decide (kv.1 = k)).map (·.2)
def ptD {κ : Type} [DecidableEq κ] (kvs : List (κ × D)) (k : κ) (v : D) : List (κ × D) :=
  if (kvs.any fun kv => decide (kv.1 = k)) = true then kvs.map (fun kv => if kv.1 = k then (kv.1, v) else kv) else kvs ++ [(k, v)]
theorem PrK.get {κ : Type} [DecidableEq κ] {K : Kw} {H : Hp} {k : κ} : ∀ {l : List (κ × D)} {m : List (κ × V)}, PrK K H l m → (∀ d, lkD l k = some d → ∃ v, valV m k = some v ∧ Rp K H d v) ∧ (lkD l k = none → valV m k = none)
  | _, _, .nil => ⟨fun d h => by simp [lkD] at h, fun _ => rfl⟩
  | (a, d) :: l, (b, v) :: m, .cons ⟨e, r⟩ t => by
    have e' : a = b := e
    subst e'
    have r' : Rp K H d v := r
    by_cases h : a = k
    · subst h
      refine ⟨fun d' h' => ?_, fun h' => ?_⟩
      · simp [lkD] at h'; subst h'
        exact ⟨v, by simp [valV], r'⟩
      · simp [lkD] at h'
    · have i := PrK.get (k := k) t
      have e1 : lkD ((a, d) :: l) k = lkD l k := by simp [lkD, List.find?_cons, h]
      have e2 : valV ((a, v) :: m) k = valV m k := by simp [valV, List.find?_cons, h]
      rw [e1, e2]; exact i
theorem PrK.any {κ : Type} [DecidableEq κ] {K : Kw} {H : Hp} {k : κ} : ∀ {l : List (κ × D)} {m : List (κ × V)}, PrK K H l m → (l.any fun kv => decide (kv.1 = k)) = (m.any fun kv => decide (kv.1 = k))
  | _, _, .nil => rfl
  | (a, d) :: l, (b, v) :: m, .cons ⟨e, r⟩ t => by
    have e' : a = b := e
    subst e'
    rw [List.any_cons, List.any_cons, PrK.any t]
theorem PrK.maps {κ : Type} [DecidableEq κ] {K : Kw} {H : Hp} {k : κ} {d : D} {v : V} (q : Rp K H d v) : ∀ {l : List (κ × D)} {m : List (κ × V)}, PrK K H l m → PrK K H (l.map (fun kv => if kv.1 = k then (kv.1, d) else kv)) (m.map (fun kv => if kv.1 = k then (kv.1, v) else kv))
  | _, _, .nil => .nil
  | (a, d') :: l, (b, v') :: m, .cons ⟨e, r⟩ t => by
    have e' : a = b := e
    subst e'
    refine .cons ?_ (PrK.maps q t)
    by_cases h : a = k
    · simp only [h, if_true]; exact ⟨trivial, q⟩
    · simp only [h, if_false]; exact ⟨trivial, r⟩
theorem PrK.snoc {κ : Type} {K : Kw} {H : Hp} {k : κ} {d : D} {v : V} (q : Rp K H d v) : ∀ {l : List (κ × D)} {m : List (κ × V)}, PrK K H l m → PrK K H (l ++ [(k, d)]) (m ++ [(k, v)])
  | _, _, .nil => .cons ⟨rfl, q⟩ .nil
  | _ :: _, _ :: _, .cons r t => .cons r (PrK.snoc q t)
theorem PrK.put {κ : Type} [DecidableEq κ] {K : Kw} {H : Hp} {k : κ} {d : D} {v : V} {l : List (κ × D)} {m : List (κ × V)} (h : PrK K H l m) (q : Rp K H d v) : PrK K H (ptD l k d) (putK m k v) := by
  unfold ptD putK
  rw [h.any]
  split
  · exact h.maps q
  · exact h.snoc q
theorem PrK.len {κ : Type} {K : Kw} {H : Hp} {l : List (κ × D)} {m : List (κ × V)} (h : PrK K H l m) : m.length = l.length := (Paired.length h).symm

/-! ### subscripts -/
def oIx : MR2 := fun x y M Q => match x with
  | .tup ds => ∃ i d, y = .int i ∧ atI ds i = some d ∧ Q d M
  | .ref p => ∃ ds i d, (M p = some (.lst ds) ∨ M p = some (.rol ds)) ∧ y = .int i ∧ atI ds i = some d ∧ Q d M
  | .kl ds => ∃ i d, y = .int i ∧ atI ds i = some d ∧ Q d M
  | _ => False
theorem atI_rel {K : Kw} {H : Hp} {ds : List D} {xs : List V} {i : Int} {d : D} (h : RpL K H ds xs) (e : atI ds i = some d) : ∃ v, atI xs i = some v ∧ Rp K H d v := by
  unfold atI at e ⊢
  rw [h.length]
  cases q : ixN ds.length i with
  | none => rw [q] at e; cases e
  | some j =>
    rw [q] at e
    exact h.get (i := j) e
theorem jix (ha : JE X a ma) (hb : JE X b mb) (hs : PlainIx b := by exact fun _ _ => rfl) : JE X (.Subscript a b pos) (m2 oIx ma mb) := by
  obtain ⟨ta, pa, h1⟩ := ha
  obtain ⟨tb, pb, h2⟩ := hb
  refine ⟨_, pe_ix (IxR.or ix_tup ix_list) pa pb hs, j2_of (fun x y d d' H M Q R m rx ry q k => ?_) h1 h2⟩
  cases d with
  | tup ds =>
    obtain ⟨i, z, rfl, e, q⟩ := (show ∃ i z, d' = .int i ∧ atI ds i = some z ∧ Q z M from q)
    obtain ⟨p, xs, rfl, s, r⟩ := rp_tup.mp rx
    obtain ⟨v, ev, rv⟩ := atI_rel r e
    exact .inl ⟨p, xs, i, v, rfl, rp_int.mp ry, s, ev, k _ _ H M rv m (.refl H) q⟩
  | ref p =>
    obtain ⟨ds, i, z, hl, rfl, e, q⟩ := (show ∃ ds i z, (M p = some (.lst ds) ∨ M p = some (.rol ds)) ∧ d' = .int i ∧ atI ds i = some z ∧ Q z M from q)
    obtain ⟨xs, s, r⟩ := sql_of m hl
    obtain ⟨v, ev, rv⟩ := atI_rel r e
    exact .inr ⟨p, xs, i, v, rp_ref.mp rx, rp_int.mp ry, s, ev, k _ _ H M rv m (.refl H) q⟩
  | kl ds =>
    obtain ⟨i, z, rfl, e, q⟩ := (show ∃ i z, d' = .int i ∧ atI ds i = some z ∧ Q z M from q)
    obtain ⟨p, xs, rfl, s, r⟩ := rp_kl.mp rx
    obtain ⟨v, ev, rv⟩ := atI_rel r e
    exact .inr ⟨p, xs, i, v, rfl, rp_int.mp ry, s.sq, ev, k _ _ H M rv m (.refl H) q⟩
  | _ => exact q.elim
/-- d[k] -/
def mDget (ma mb : ME) : ME := fun δ M Q => ma δ M fun x M1 => mb δ M1 fun y M2 => ∃ p kvs k d, x = .ref p ∧ M2 p = some (.dic kvs) ∧ y = kD k ∧ lkD kvs k = some d ∧ Q d M2
theorem dget_of {K : Kw} {M : MH} {H : Hp} (m : MR K M H) {p : Addr} {kvs : List (Key × D)} (e : M p = some (.dic kvs)) (k : Key) : (∀ d, lkD kvs k = some d → ∃ v, DGet H p (kV k) (some v) ∧ Rp K H d v) ∧ (lkD kvs k = none → DGet H p (kV k) none) := by
  obtain ⟨ks, h, r⟩ := m p _ e
  refine ⟨fun d q => ?_, fun q => ?_⟩
  · obtain ⟨v, ev, rv⟩ := (r.get (k := k)).1 d q
    exact ⟨v, by rw [← ev]; exact DGet.k h, rv⟩
  · rw [← (r.get (k := k)).2 q]; exact DGet.k h
theorem jdget (hu : X.A.units + 1 < cLine) (ha : JE X a ma) (hb : JE X b mb) (hs : NoSl b := by exact fun _ _ => rfl) : JE X (.Subscript a b pos) (mDget ma mb) := by
  obtain ⟨ta, pa, h1⟩ := ha
  obtain ⟨tb, pb, h2⟩ := hb
  refine ⟨_, pe_dget hu pa pb hs, fun σ H δ M Q R rl q k => h1 σ H δ M _ _ rl q fun x d H1 M1 rx r1 u1 q1 => h2 σ H1 δ M1 _ _ r1 q1 fun y d' H2 M2 ry r2 u2 ⟨p, kvs, ky, z, e1, e2, e3, e4, q2⟩ => ?_⟩
  subst e1; subst e3
  obtain ⟨v, g, rv⟩ := (dget_of r2.m e2 ky).1 z e4
  refine ⟨p, v, rp_ref.mp rx, ?_, k v z H2 M2 rv r2 (u1.trans u2) q2⟩
  rw [kD_rp.mp ry]; exact g
/-- k in d -/
def mDin (f : Bool → Bool) (mb ma : ME) : ME := fun δ M Q => mb δ M fun y M1 => ma δ M1 fun x M2 => ∃ p kvs k, x = .ref p ∧ M2 p = some (.dic kvs) ∧ y = kD k ∧ Q (.bl (f (lkD kvs k).isSome)) M2
theorem jdinF {op : CmpOp} {f : Bool → Bool} {t : TE → TE → TE} (hp : ∀ {ty td : TE}, PE X b ty → PE X a td → PC X op b a (t ty td))
    (ht : ∀ {ty td : TE} {σ : L2.St} {H : Hp} {R : VK}, (ty σ H fun y H1 => td σ H1 fun x H2 => ∃ a o, x = .ref a ∧ DGet H2 a y o ∧ R (.bl (f o.isSome)) H2) → t ty td σ H R) (hb : JE X b mb) (ha : JE X a ma)
    (h1 : behindInMarks op a = false := by first | exact nobehind _ (by decide) (by decide) | rfl) : JE X (.Compare b [op] [a] pos) (mDin f mb ma) := by
  obtain ⟨ta, pa, ka⟩ := ha
  obtain ⟨tb, pb, kb⟩ := hb
  refine ⟨_, pe_cmp (hp pb pa) h1, fun σ H δ M Q R rl q k => ht (kb σ H δ M _ _ rl q fun y d' H1 M1 ry r1 u1 q1 => ka σ H1 δ M1 _ _ r1 q1 fun x d H2 M2 rx r2 u2 ⟨p, kvs, ky, e1, e2, e3, q2⟩ => ?_)⟩
  subst e1; subst e3
  have g := dget_of r2.m e2 ky
  rw [kD_rp.mp (ry.up u2)]
  cases e4 : lkD kvs ky with
  | some z =>
    obtain ⟨v, g1, _⟩ := g.1 z e4
    rw [e4] at q2
    exact ⟨p, _, rp_ref.mp rx, g1, k _ _ H2 M2 (rp_bl.mpr rfl) r2 (u1.trans u2) q2⟩
  | none =>
    rw [e4] at q2
    exact ⟨p, _, rp_ref.mp rx, g.2 e4, k _ _ H2 M2 (rp_bl.mpr rfl) r2 (u1.trans u2) q2⟩
theorem jdin (hu : X.A.units + 1 < cLine) (hb : JE X b mb) (ha : JE X a ma) (h1 : behindInMarks .In a = false := by with_unfolding_all rfl) : JE X (.Compare b [.In] [a] pos) (mDin id mb ma) := jdinF (fun pb pa => pc_din hu pb pa) (fun h => h) hb ha h1
theorem jdnotin (hu : X.A.units + 1 < cLine) (hb : JE X b mb) (ha : JE X a ma) (h1 : behindInMarks .NotIn a = false := by with_unfolding_all rfl) : JE X (.Compare b [.NotIn] [a] pos) (mDin not mb ma) := jdinF (f := not) (fun pb pa => pc_dnotin hu pb pa) (fun h => h) hb ha h1

/-! ### slices -/
abbrev MP := Fr → MH → (Option Int → MH → Prop) → Prop
def mpN : MP := fun _ M Q => Q none M
def mpS (m : ME) : MP := fun δ M Q => m δ M fun x M1 => ∃ i, x = .int i ∧ Q (some i) M1
def JP (X : Cx) (o : Option Expr) (m : MP) : Prop := ∃ t, PO X o t ∧ ∀ (σ : L2.St) (H : Hp) (δ : Fr) (M : MH) (Q : Option Int → MH → Prop) (R : Option Int → Hp → Prop), Rel X.kw σ H δ M → m δ M Q →
  (∀ i H' M', Rel X.kw σ H' δ M' → Up H H' → Q i M' → R i H') → t σ H R
theorem jp_none : JP X none mpN := ⟨_, po_none, fun σ H δ M Q R rl q k => k none H M rl (.refl H) q⟩
theorem jp_some (h : JE X e ma) : JP X (some e) (mpS ma) := by
  obtain ⟨_, p1, k1⟩ := h
  refine ⟨_, po_some p1, fun σ H δ M Q R rl q k => k1 σ H δ M _ _ rl q fun v d H' M' rv r' u ⟨i, e, q'⟩ => ?_⟩
  subst e
  exact ⟨i, rp_int.mp rv, k _ H' M' r' u q'⟩
def cutD (ds : List D) (lo hi : Option Int) : List D := (ds.drop (HT.sIx ds.length 0 lo)).take (HT.sIx ds.length ds.length hi - HT.sIx ds.length 0 lo)
theorem cut_rel {K : Kw} {H : Hp} {ds : List D} {xs : List V} (h : RpL K H ds xs) (lo hi : Option Int) : RpL K H (cutD ds lo hi) (cutV xs lo hi) := by
  unfold cutD cutV
  rw [h.length]
  exact (h.drop _).take _
def mSl (ma : ME) (l h : MP) : ME := fun δ M Q => ma δ M fun x M1 => l δ M1 fun i M2 => h δ M2 fun j M3 => match x with
  | .tup ds => Q (.tup (cutD ds i j)) M3
  | .ref p => ∃ ds, (M3 p = some (.lst ds) ∨ M3 p = some (.rol ds)) ∧ ∀ q, M3 q = none → Q (.ref q) (ud M3 q (.lst (cutD ds i j)))
  | _ => False
theorem cut_all {ds : List D} {i j : Option Int} (h : HT.sIx ds.length 0 i = 0 ∧ HT.sIx ds.length ds.length j = ds.length) : cutD ds i j = ds := by
  unfold cutD; rw [h.1, h.2]; simp
theorem jsl {lo hi : Option Expr} {ml mh : MP} {p2 : Pos} (ha : JE X a ma) (hl : JP X lo ml) (hh : JP X hi mh) : JE X (.Subscript a (.Slice lo hi none p2) pos) (mSl ma ml mh) := by
  obtain ⟨_, p1, k1⟩ := ha
  obtain ⟨_, pl, kl⟩ := hl
  obtain ⟨_, ph, kh⟩ := hh
  refine ⟨_, pe_slice (SlR.or sl_tupA sl_list) p1 pl ph, fun σ H δ M Q R rl q k => k1 σ H δ M _ _ rl q fun x d H1 M1 rx r1 u1 q1 => kl σ H1 δ M1 _ _ r1 q1 fun i H2 M2 r2 u2 q2 => kh σ H2 δ M2 _ _ r2 q2 fun j H3 M3 r3 u3 q3 => ?_⟩
  have u := (u1.trans u2).trans u3
  have rx3 := rx.up (u2.trans u3)
  cases d with
  | tup ds =>
    obtain ⟨p, xs, rfl, s, r⟩ := rp_tup.mp rx3
    have q3 : Q (.tup (cutD ds i j)) M3 := q3
    refine .inl ⟨p, xs, rfl, s, fun h => ?_, fun h t ht => ?_⟩
    · rw [r.length] at h
      rw [cut_all h] at q3
      exact k _ _ H3 M3 (rp_tup.mpr ⟨p, xs, rfl, s, r⟩) r3 u q3
    · have u4 : Up H3 (upd H3 t (.tup (cutV xs i j))) := .new ht
      exact k _ _ _ M3 (rp_tup.mpr ⟨t, _, rfl, .of upd_same, (cut_rel r i j).up u4⟩) (r3.mk' u4 (r3.m.new ht)) (u.trans u4) q3
  | ref p =>
    obtain ⟨ds, hl, q3⟩ := (show ∃ ds, (M3 p = some (.lst ds) ∨ M3 p = some (.rol ds)) ∧ ∀ q, M3 q = none → Q (.ref q) (ud M3 q (.lst (cutD ds i j))) from q3)
    obtain ⟨xs, s, r⟩ := sql_of r3.m hl
    refine .inr ⟨p, xs, rp_ref.mp rx3, s, fun t ht => ?_⟩
    have u4 : Up H3 (upd H3 t (.lst (cutV xs i j))) := .new ht
    exact k _ _ _ _ (rp_ref.mpr rfl) (r3.mk' u4 (r3.m.laid (m := .lst (cutD ds i j)) ht ⟨_, upd_same, (cut_rel r i j).up u4⟩)) (u.trans u4) (q3 t (r3.m.free ht))
  | _ => exact q3.elim
end
end MM

namespace MM
open PySem PySem.Spec PyProof.Rows L2

/-! ### what a def promises, by data -/
/-- an exception: its class, its fields -/
abbrev MX := Addr → List (Str × D) → MH → Prop
abbrev MSp := List D → MH → MQ → MX → Prop
def mx0 : MX := fun _ _ _ => False
def XF (K : Kw) (H : Hp) (d : Option Addr) (fs : List (Str × D)) : Prop := (fs = [] ∧ d = none) ∨ ∃ a gs, d = some a ∧ H a = some (.xd gs) ∧ PrK K H fs gs
def XR (K : Kw) (H : Hp) (Em : MX) (E : XK) : Prop := ∀ C fs d H' M', XF K H' d fs → MR K M' H' → Up H H' → Em C fs M' → E (.ref C) d H'
def lift (K : Kw) (n : Nat) (sp : MSp) : Sp := fun vs H Q E => vs.length = n ∧ ∃ ds M Qm Em, RpL K H ds vs ∧ MR K M H ∧ sp ds M Qm Em ∧ (∀ v d H' M', Rp K H' d v → MR K M' H' → Up H H' → Qm d M' → Q v H') ∧ XR K H Em E
/-- the def that the module's name x stands for, of n parameters, keeps the promise -/
structure Fn (P : Program) (w : World) (K : PySem.W.Frag) (mg : Str → Option Value) (base : Heap) (CX : CXT) (k : Nat) (x : Str) (n : Nat) (sp : MSp) : Prop where
  ex : ∃ f fd ps, FnOk P w K mg base CX k f fd ps (lift ⟨K, P, w⟩ n sp) ∧ mg x = some (.ref f) ∧ PySem.W.keepIn K (.ref f) = true ∧ Binds K fd ps []
theorem Fn.mono {P : Program} {w : World} {K : PySem.W.Frag} {mg : Str → Option Value} {base : Heap} {CX : CXT} {j k : Nat} {x : Str} {n : Nat} {sp : MSp} (F : Fn P w K mg base CX j x n sp) (h : j ≤ k) : Fn P w K mg base CX k x n sp :=
  let ⟨f, fd, ps, a, b, c, d⟩ := F.ex; ⟨f, fd, ps, a.mono h, b, c, d⟩
section
variable {X : Cx} {a b c e o : Expr} {es rest : List Expr} {ma mb mc : ME} {mt mt' : MT} {mr : MA} {p pos apos cpos : Pos} {x : Str} {k n : Nat} {sp : MSp}

def mCall (n : Nat) (sp : MSp) (m : MA) : ME := fun δ M Q => m δ M fun ds M1 => ds.length = n ∧ sp ds M1 Q mx0
theorem jcall (G : Fn X.prog X.w X.K X.mg X.base CX0 k x n sp) (hr : Room k X.A) (ha : JA X (e :: es) mr) (hg : Gl X x := by rfl) (hdb : (x == ("__debug__" : Str)) = false := by decide) (he : starEach (e :: es) X.env = (false, eval e X.env) :: starEach es X.env := by rfl)
    (hpl : (backTo pos (starEach es X.env)).any (·.1) = false := by rfl) : JE X (.Call (.Name x p) (e :: es) [] pos) (mCall n sp mr) := by
  obtain ⟨f, fd, ps, F, hm, hk, hb⟩ := G.ex
  obtain ⟨ta, pa, h1⟩ := ha
  refine ⟨_, pe_call F hr hg hm hk hb .nil pass0 pa hdb he hpl, fun σ H δ M Q R rl q kk => h1 σ H δ M _ _ rl q fun vs ds H1 M1 rs r1 u1 ⟨el, q1⟩ => ?_⟩
  rw [List.append_nil]
  exact ⟨by rw [rs.length]; exact el, ds, M1, Q, mx0, rs, r1.m, q1, fun v d H' M' rv m' u q2 => kk v d H' M' rv (r1.mk' u m') (u1.trans u) q2, fun _ _ _ _ _ _ _ _ z => z.elim⟩
theorem jcall0 (G : Fn X.prog X.w X.K X.mg X.base CX0 k x 0 sp) (hr : Room k X.A) (hg : Gl X x := by rfl) (hdb : (x == ("__debug__" : Str)) = false := by decide) : JE X (.Call (.Name x p) [] [] pos) (mCall 0 sp maN) := by
  obtain ⟨f, fd, ps, F, hm, hk, hb⟩ := G.ex
  refine ⟨_, pe_call0 F hr hg hm hk hb .nil pass0 hdb, fun σ H δ M Q R rl q kk => ?_⟩
  obtain ⟨el, q1⟩ := q
  exact ⟨rfl, [], M, Q, mx0, .nil, rl.m, q1, fun v d H' M' rv m' u q2 => kk v d H' M' rv (rl.mk' u m') u q2, fun _ _ _ _ _ _ _ _ z => z.elim⟩

/-! ### built-in functions and types -/
abbrev MR0 := List D → MH → MQ → Prop
def JC (X : Cx) (f : Value) (m : MR0) : Prop := ∃ r : List V → Hp → VK → Prop, CallR X f r ∧ ∀ (xs : List V) (ds : List D) (H : Hp) (M : MH) (Q : MQ) (R : VK), MR X.kw M H → RpL X.kw H ds xs → m ds M Q →
  (∀ v z H' M', Rp X.kw H' z v → MR X.kw M' H' → Up H H' → Q z M' → R v H') → r xs H R
def mB (m : MR0) (r : MA) : ME := fun δ M Q => r δ M fun ds M1 => m ds M1 Q
theorem jcb {id : String} {m : MR0} (hc : JC X (.builtin id) m) (hv : bootBuiltins x = some (.builtin id)) (hm : X.mg x = none) (ha : JA X (e :: es) mr) (hg : Gl X x := by rfl) (hn : x ≠ "__name__" := by decide) (hdb : (x == ("__debug__" : Str)) = false := by decide)
    (he : starEach (e :: es) X.env = (false, eval e X.env) :: starEach es X.env := by rfl) (hpl : (backTo pos (starEach es X.env)).any (·.1) = false := by rfl) : JE X (.Call (.Name x p) (e :: es) [] pos) (mB m mr) := by
  obtain ⟨r, c, hr⟩ := hc
  obtain ⟨ta, pa, h1⟩ := ha
  exact ⟨_, pe_callB c hg hm hv pa hn hdb he hpl, fun σ H δ M Q R rl q kk => h1 σ H δ M _ _ rl q fun vs ds H1 M1 rs r1 u1 q1 => hr vs ds H1 M1 Q R r1.m rs q1 fun v z H' M' rv m' u q2 => kk v z H' M' rv (r1.mk' u m') (u1.trans u) q2⟩
theorem jct {T : String} {m : MR0} (hc : JC X (.type T) m) (hv : bootBuiltins x = some (.type T)) (hm : X.mg x = none) (ha : JA X (e :: es) mr) (hg : Gl X x := by rfl) (hn : x ≠ "__name__" := by decide) (hdb : (x == ("__debug__" : Str)) = false := by decide)
    (he : starEach (e :: es) X.env = (false, eval e X.env) :: starEach es X.env := by rfl) (hpl : (backTo pos (starEach es X.env)).any (·.1) = false := by rfl) : JE X (.Call (.Name x p) (e :: es) [] pos) (mB m mr) := by
  obtain ⟨r, c, hr⟩ := hc
  obtain ⟨ta, pa, h1⟩ := ha
  exact ⟨_, pe_callTy c hg hm hv pa hn hdb he hpl, fun σ H δ M Q R rl q kk => h1 σ H δ M _ _ rl q fun vs ds H1 M1 rs r1 u1 q1 => hr vs ds H1 M1 Q R r1.m rs q1 fun v z H' M' rv m' u q2 => kk v z H' M' rv (r1.mk' u m') (u1.trans u) q2⟩
theorem rpl1 {K : Kw} {H : Hp} {d : D} {xs : List V} (h : RpL K H [d] xs) : ∃ v, xs = [v] ∧ Rp K H d v := by
  unfold RpL at h
  obtain ⟨y, ys, rfl, r, t⟩ := h
  unfold RpL at t; subst t
  exact ⟨y, rfl, r⟩
theorem rpl2 {K : Kw} {H : Hp} {d d' : D} {xs : List V} (h : RpL K H [d, d'] xs) : ∃ v v', xs = [v, v'] ∧ Rp K H d v ∧ Rp K H d' v' := by
  unfold RpL at h
  obtain ⟨y, ys, rfl, r, t⟩ := h
  obtain ⟨z, rfl, r'⟩ := rpl1 t
  exact ⟨y, z, rfl, r, r'⟩
abbrev bAbs : MR0 := fun ds M Q => ∃ i, ds = [.int i] ∧ Q (.int (if i < 0 then -i else i)) M
theorem jabs : JC X (.builtin "abs") bAbs := ⟨_, call_abs, fun xs ds H M Q R m rs ⟨i, e, q⟩ k => by
  subst e
  obtain ⟨v, rfl, rv⟩ := rpl1 rs
  exact ⟨i, by rw [rp_int.mp rv], k _ _ H M (rp_int.mpr rfl) m (.refl H) q⟩⟩
abbrev bMax : MR0 := fun ds M Q => ∃ i j, ds = [.int i, .int j] ∧ Q (.int (max i j)) M
theorem jmax (hc : X.calm = true) : JC X (.builtin "max") bMax := ⟨_, call_max2 hc, fun xs ds H M Q R m rs ⟨i, j, e, q⟩ k => by
  subst e
  obtain ⟨v, v', rfl, rv, rv'⟩ := rpl2 rs
  refine ⟨i, j, by rw [rp_int.mp rv, rp_int.mp rv'], k _ _ H M (rp_int.mpr ?_) m (.refl H) q⟩
  rw [show (if j > i then j else i) = max i j from by split <;> omega]⟩
abbrev bMin : MR0 := fun ds M Q => ∃ i j, ds = [.int i, .int j] ∧ Q (.int (min i j)) M
theorem jmin (hc : X.calm = true) : JC X (.builtin "min") bMin := ⟨_, call_min2 hc, fun xs ds H M Q R m rs ⟨i, j, e, q⟩ k => by
  subst e
  obtain ⟨v, v', rfl, rv, rv'⟩ := rpl2 rs
  refine ⟨i, j, by rw [rp_int.mp rv, rp_int.mp rv'], k _ _ H M (rp_int.mpr ?_) m (.refl H) q⟩
  rw [show (if j < i then j else i) = min i j from by split <;> omega]⟩
def bInt : MR0 := fun ds M Q => match ds with
  | [.int i] => Q (.int i) M
  | [.bl b] => Q (.int (if b then 1 else 0)) M
  | _ => False
theorem jintc : JC X (.type "int") bInt := ⟨_, call_int1, fun xs ds H M Q R m rs q k => by
  unfold bInt at q
  split at q
  · obtain ⟨v, rfl, rv⟩ := rpl1 rs
    exact .inl ⟨_, by rw [rp_int.mp rv], k _ _ H M (rp_int.mpr rfl) m (.refl H) q⟩
  · obtain ⟨v, rfl, rv⟩ := rpl1 rs
    exact .inr ⟨_, by rw [rp_bl.mp rv], k _ _ H M (rp_int.mpr rfl) m (.refl H) q⟩
  · exact q.elim⟩
def bLen : MR0 := fun ds M Q => match ds with
  | [.tup es] => Q (.int es.length) M
  | [.ref p] => ∃ es, (M p = some (.lst es) ∨ M p = some (.rol es)) ∧ Q (.int es.length) M
  | [.kl es] => Q (.int es.length) M
  | _ => False
theorem jlen : JC X (.builtin "len") bLen := ⟨_, call_len_seq, fun xs ds H M Q R m rs q k => by
  unfold bLen at q
  split at q
  · obtain ⟨v, rfl, rv⟩ := rpl1 rs
    obtain ⟨a, ys, rfl, s, r⟩ := rp_tup.mp rv
    refine ⟨a, ys, rfl, .inr s, k _ _ H M (rp_int.mpr ?_) m (.refl H) q⟩
    rw [r.length]
  · obtain ⟨v, rfl, rv⟩ := rpl1 rs
    obtain ⟨es, hl, q⟩ := q
    obtain ⟨ys, s, r⟩ := sql_of m hl
    refine ⟨_, ys, by rw [rp_ref.mp rv], .inl s, k _ _ H M (rp_int.mpr ?_) m (.refl H) q⟩
    rw [r.length]
  · obtain ⟨v, rfl, rv⟩ := rpl1 rs
    obtain ⟨a, ys, rfl, s, r⟩ := rp_kl.mp rv
    refine ⟨a, ys, rfl, .inl s.sq, k _ _ H M (rp_int.mpr ?_) m (.refl H) q⟩
    rw [r.length]
  · exact q.elim⟩
/-- list(x), x a list or a tuple -/
def bList : MR0 := fun ds M Q => match ds with
  | [.tup es] => ∀ p, M p = none → Q (.ref p) (ud M p (.lst es))
  | [.ref p] => ∃ es, (M p = some (.lst es) ∨ M p = some (.rol es)) ∧ ∀ q, M q = none → Q (.ref q) (ud M q (.lst es))
  | _ => False
theorem jlist : JC X (.type "list") bList := ⟨_, call_list_of, fun xs ds H M Q R m rs q k => by
  unfold bList at q
  split at q
  · obtain ⟨v, rfl, rv⟩ := rpl1 rs
    obtain ⟨a, ys, rfl, s, r⟩ := rp_tup.mp rv
    refine ⟨a, ys, rfl, .inr s, fun p hp => ?_⟩
    exact k _ _ _ _ (rp_ref.mpr rfl) (m.laid (m := .lst _) hp ⟨_, upd_same, r.up (.new hp)⟩) (.new hp) (q p (m.free hp))
  · obtain ⟨v, rfl, rv⟩ := rpl1 rs
    obtain ⟨es, hl, q⟩ := q
    obtain ⟨ys, s, r⟩ := sql_of m hl
    refine ⟨_, ys, by rw [rp_ref.mp rv], .inl s, fun p hp => ?_⟩
    exact k _ _ _ _ (rp_ref.mpr rfl) (m.laid (m := .lst _) hp ⟨_, upd_same, r.up (.new hp)⟩) (.new hp) (q p (m.free hp))
  · exact q.elim⟩
/-- tuple(x), x a list or a tuple -/
def bTup : MR0 := fun ds M Q => match ds with
  | [.tup es] => Q (.tup es) M
  | [.ref p] => ∃ es, (M p = some (.lst es) ∨ M p = some (.rol es)) ∧ Q (.tup es) M
  | _ => False
theorem jtup : JC X (.type "tuple") bTup := ⟨_, call_tuple_of, fun xs ds H M Q R m rs q k => by
  unfold bTup at q
  split at q
  · obtain ⟨v, rfl, rv⟩ := rpl1 rs
    obtain ⟨a, ys, rfl, s, r⟩ := rp_tup.mp rv
    exact ⟨a, ys, rfl, .inr ⟨s, k _ _ H M (rp_tup.mpr ⟨a, ys, rfl, s, r⟩) m (.refl H) q⟩⟩
  · obtain ⟨v, rfl, rv⟩ := rpl1 rs
    obtain ⟨es, hl, q⟩ := q
    obtain ⟨ys, s, r⟩ := sql_of m hl
    refine ⟨_, ys, by rw [rp_ref.mp rv], .inl ⟨s, fun p hp => ?_⟩⟩
    exact k _ _ _ M (rp_tup.mpr ⟨p, ys, rfl, .of upd_same, r.up (.new hp)⟩) (m.new hp) (.new hp) q
  · exact q.elim⟩
/-- of a list of ints -/
def isInts (M : MH) (d : D) (ns : List Int) : Prop := ∃ p, d = .ref p ∧ (M p = some (.lst (ns.map .int)) ∨ M p = some (.rol (ns.map .int)))
theorem ints_of {K : Kw} {M : MH} {H : Hp} (m : MR K M H) {ns : List Int} {xs : List V} {p : Addr} (rs : RpL K H [.ref p] xs) (h : M p = some (.lst (ns.map .int)) ∨ M p = some (.rol (ns.map .int))) : xs = [.ref p] ∧ SqL K.K H p (ns.map V.int) := by
  obtain ⟨v, rfl, rv⟩ := rpl1 rs
  obtain ⟨ys, s, r⟩ := sql_of m h
  rw [r.ints] at s
  exact ⟨by rw [rp_ref.mp rv], s⟩
abbrev bMaxL : MR0 := fun ds M Q => ∃ (p : Addr) (ns : List Int), ds = [.ref p] ∧ (M p = some (.lst (ns.map .int)) ∨ M p = some (.rol (ns.map .int))) ∧ ns ≠ [] ∧ ∀ m, m ∈ ns → (∀ y, y ∈ ns → y ≤ m) → Q (.int m) M
theorem jmaxl (hc : X.calm = true) : JC X (.builtin "max") bMaxL := ⟨_, cr_max hc, fun xs ds H M Q R m rs ⟨p, ns, e, h, hne, q⟩ k => by
  subst e
  obtain ⟨e, s⟩ := ints_of m rs h
  exact ⟨p, ns, e, s, List.length_pos_iff.mpr hne, fun z h1 h2 => k _ _ H M (rp_int.mpr rfl) m (.refl H) (q z h1 h2)⟩⟩
abbrev bMinL : MR0 := fun ds M Q => ∃ (p : Addr) (ns : List Int), ds = [.ref p] ∧ (M p = some (.lst (ns.map .int)) ∨ M p = some (.rol (ns.map .int))) ∧ ns ≠ [] ∧ ∀ m, m ∈ ns → (∀ y, y ∈ ns → m ≤ y) → Q (.int m) M
theorem jminl (hc : X.calm = true) : JC X (.builtin "min") bMinL := ⟨_, cr_min hc, fun xs ds H M Q R m rs ⟨p, ns, e, h, hne, q⟩ k => by
  subst e
  obtain ⟨e, s⟩ := ints_of m rs h
  exact ⟨p, ns, e, s, List.length_pos_iff.mpr hne, fun z h1 h2 => k _ _ H M (rp_int.mpr rfl) m (.refl H) (q z h1 h2)⟩⟩
abbrev bSum : MR0 := fun ds M Q => ∃ (p : Addr) (ns : List Int), ds = [.ref p] ∧ (M p = some (.lst (ns.map .int)) ∨ M p = some (.rol (ns.map .int))) ∧ Q (.int ns.sum) M
theorem jsum (hc : X.calm = true) : JC X (.builtin "sum") bSum := ⟨_, cr_sum hc, fun xs ds H M Q R m rs ⟨p, ns, e, h, q⟩ k => by
  subst e
  obtain ⟨e, s⟩ := ints_of m rs h
  exact ⟨p, ns, e, s, k _ _ H M (rp_int.mpr rfl) m (.refl H) q⟩⟩
abbrev bSorted : MR0 := fun ds M Q => ∃ (p : Addr) (ns : List Int), ds = [.ref p] ∧ (M p = some (.lst (ns.map .int)) ∨ M p = some (.rol (ns.map .int))) ∧ ∀ (ms : List Int) (q : Addr), ms.Perm ns → ms.Pairwise (· ≤ ·) → M q = none → Q (.ref q) (ud M q (.lst (ms.map .int)))
theorem jsorted : JC X (.builtin "sorted") bSorted := ⟨_, cr_sortedI, fun xs ds H M Q R m rs ⟨p, ns, e, h, q⟩ k => by
  subst e
  obtain ⟨e, s⟩ := ints_of m rs h
  exact ⟨p, ns, e, s, fun ms t h1 h2 ht => k _ _ _ _ (rp_ref.mpr rfl) (m.laid (m := .lst (ms.map .int)) ht ⟨_, upd_same, .ofInts⟩) (.new ht) (q ms t h1 h2 (m.free ht))⟩⟩
abbrev bAll : MR0 := fun ds M Q => ∃ (p : Addr) (bs : List Bool), ds = [.ref p] ∧ (M p = some (.lst (bs.map .bl)) ∨ M p = some (.rol (bs.map .bl))) ∧ Q (.bl (bs.all id)) M
theorem jall (hc : X.calm = true) : JC X (.builtin "all") bAll := ⟨_, cr_all hc, fun xs ds H M Q R m rs ⟨p, bs, e, h, q⟩ k => by
  subst e
  obtain ⟨v, rfl, rv⟩ := rpl1 rs
  obtain ⟨ys, s, r⟩ := sql_of m h
  rw [r.bools] at s
  exact ⟨p, bs, by rw [rp_ref.mp rv], s, k _ _ H M (rp_bl.mpr rfl) m (.refl H) q⟩⟩

/-! ### methods of lists -/
abbrev MRm := D → List D → MH → MQ → Prop
def JM (X : Cx) (id : String) (m : MRm) : Prop := ∃ r : V → List V → Hp → VK → Prop, MtR X id r ∧ ∀ (x : V) (d : D) (xs : List V) (ds : List D) (H : Hp) (M : MH) (Q : MQ) (R : VK), MR X.kw M H → Rp X.kw H d x → RpL X.kw H ds xs → m d ds M Q →
  (∀ v z H' M', Rp X.kw H' z v → MR X.kw M' H' → Up H H' → Q z M' → R v H') → r x xs H R
/-- o.m(e, ..), o a list -/
def mML (m : MRm) (mo : ME) (r : MA) : ME := fun δ M Q => mo δ M fun x M1 => (∃ p es, x = .ref p ∧ (M1 p = some (.lst es) ∨ M1 p = some (.rol es))) ∧ r δ M1 fun ds M2 => m x ds M2 Q
theorem jml {name : Str} {id : String} {m : MRm} {mo : ME} (slot : Slot "list" name id) (hty : typeOf (.builtin id) = pure (.type "method_descriptor")) (hm : JM X id m) (ho : JE X o mo) (ha : JA X (e :: es) mr)
    (hbase : attributeBase o name X.env (eval o X.env) = eval o X.env := by rfl)
    (hfew : ((backTo cpos (starEach (e :: es) X.env)).all (fun x => !x.1) && (backToKw cpos (keywordEach [] X.env)).all (fun x => x.1.isSome)
      && decide ((e :: es).length + ([] : List Keyword).length + (if ([] : List Keyword).isEmpty then 0 else 1) < 30)) = true := by rfl)
    (hline : (apos.endLine == cpos.line) = true := by rfl) (hs : starEach (e :: es) X.env = (false, eval e X.env) :: starEach es X.env := by rfl) (hplain : (backTo cpos (starEach es X.env)).any (·.1) = false := by rfl) :
    JE X (.Call (.Attribute o name apos) (e :: es) [] cpos) (mML m mo mr) := by
  obtain ⟨r, c, hr⟩ := hm
  obtain ⟨to, po, h0⟩ := ho
  obtain ⟨ta, pa, h1⟩ := ha
  refine ⟨_, pe_bm PySem.F.plainAttrs_list slot hty c po pa hbase hfew hline hs hplain, fun σ H δ M Q R rl q kk => h0 σ H δ M _ _ rl q fun x d H0 M0 rx r0 u0 ⟨⟨p, es, ed, hl⟩, q0⟩ => ⟨?_, ?_⟩⟩
  · subst ed
    obtain ⟨ys, s, _⟩ := sql_of r0.m hl
    rw [rp_ref.mp rx]
    exact .inl ⟨rfl, ys, s⟩
  · exact h1 σ H0 δ M0 _ _ r0 q0 fun vs ds H1 M1 rs r1 u1 q1 => hr x d vs ds H1 M1 Q R r1.m (rx.up u1) rs q1 fun v z H' M' rv m' u q2 => kk v z H' M' rv (r1.mk' u m') ((u0.trans u1).trans u) q2
def mML0 (m : MRm) (mo : ME) : ME := fun δ M Q => mo δ M fun x M1 => (∃ p es, x = .ref p ∧ (M1 p = some (.lst es) ∨ M1 p = some (.rol es))) ∧ m x [] M1 Q
theorem jml0 {name : Str} {id : String} {m : MRm} {mo : ME} (slot : Slot "list" name id) (hty : typeOf (.builtin id) = pure (.type "method_descriptor")) (hm : JM X id m) (ho : JE X o mo)
    (hbase : attributeBase o name X.env (eval o X.env) = eval o X.env := by rfl) (hline : (apos.endLine == cpos.line) = true := by rfl) : JE X (.Call (.Attribute o name apos) [] [] cpos) (mML0 m mo) := by
  obtain ⟨r, c, hr⟩ := hm
  obtain ⟨to, po, h0⟩ := ho
  refine ⟨_, pe_bm0 PySem.F.plainAttrs_list slot hty c po hbase hline, fun σ H δ M Q R rl q kk => h0 σ H δ M _ _ rl q fun x d H0 M0 rx r0 u0 ⟨⟨p, es, ed, hl⟩, q0⟩ => ⟨?_, ?_⟩⟩
  · subst ed
    obtain ⟨ys, s, _⟩ := sql_of r0.m hl
    rw [rp_ref.mp rx]
    exact .inl ⟨rfl, ys, s⟩
  · exact hr x d [] [] H0 M0 Q R r0.m rx .nil q0 fun v z H' M' rv m' u q2 => kk v z H' M' rv (r0.mk' u m') (u0.trans u) q2
/-- what writes the list at p -/
theorem wrote_of {K : Kw} {M : MH} {H : Hp} (m : MR K M H) {p : Addr} {es es' : List D} {xs' : List V} (e : M p = some (.lst es)) (r : RpL K H es' xs') : MR K (ud M p (.lst es')) (upd H p (.lst xs')) ∧ Up H (upd H p (.lst xs')) := by
  obtain ⟨xs, h, _⟩ := m p _ e
  have mu : Mut (H p) := by rw [h]; trivial
  exact ⟨m.wrote (m := .lst es') mu ⟨_, upd_same, r.up (.mut mu)⟩, .mut mu⟩
def lApp : MRm := fun x ds M Q => ∃ p es y, x = .ref p ∧ ds = [y] ∧ M p = some (.lst es) ∧ es.length < sizeLine ∧ Q .non (ud M p (.lst (es ++ [y])))
theorem japp : JM X "list.append" lApp := ⟨_, mt_append, fun x d xs ds H M Q R m rx rs ⟨p, es, y, e1, e2, e3, z, q⟩ k => by
  subst e1; subst e2
  obtain ⟨v, rfl, rv⟩ := rpl1 rs
  obtain ⟨ys, h, r⟩ := m p _ e3
  obtain ⟨m', u⟩ := wrote_of m e3 (r.append (.cons rv .nil))
  exact ⟨p, ys, v, rp_ref.mp rx, rfl, h, by rw [r.length]; exact z, k _ _ _ _ (rp_non.mpr rfl) m' u q⟩⟩
def lIns : MRm := fun x ds M Q => ∃ p es i y, x = .ref p ∧ ds = [.int i, y] ∧ M p = some (.lst es) ∧ es.length < sizeLine ∧ 0 ≤ i ∧ i < 2 ^ 63 ∧ Q .non (ud M p (.lst (es.take i.toNat ++ [y] ++ es.drop i.toNat)))
theorem jins : JM X "list.insert" lIns := ⟨_, mt_insert, fun x d xs ds H M Q R m rx rs ⟨p, es, i, y, e1, e2, e3, z, h0, h1, q⟩ k => by
  subst e1; subst e2
  obtain ⟨v, v', rfl, rv, rv'⟩ := rpl2 rs
  obtain ⟨ys, h, r⟩ := m p _ e3
  obtain ⟨m', u⟩ := wrote_of m e3 (((r.take i.toNat).append (.cons rv' .nil)).append (r.drop i.toNat))
  exact ⟨p, ys, i, v', rp_ref.mp rx, by rw [rp_int.mp rv], h, by rw [r.length]; exact z, h0, h1, k _ _ _ _ (rp_non.mpr rfl) m' u q⟩⟩
def lPop : MRm := fun x ds M Q => ∃ p es y, x = .ref p ∧ ds = [] ∧ M p = some (.lst es) ∧ es[es.length - 1]? = some y ∧ Q y (ud M p (.lst es.dropLast))
theorem jpop : JM X "list.pop" lPop := ⟨_, mt_pop, fun x d xs ds H M Q R m rx rs ⟨p, es, y, e1, e2, e3, z, q⟩ k => by
  subst e1; subst e2
  obtain ⟨ys, h, r⟩ := m p _ e3
  obtain ⟨v, ev, rv⟩ := r.get z
  obtain ⟨m', u⟩ := wrote_of m e3 r.dropLast
  unfold RpL at rs
  exact ⟨p, ys, v, rp_ref.mp rx, rs, h, by rw [r.length]; exact ev, k _ _ _ _ (rv.up u) m' u q⟩⟩
def lPopAt : MRm := fun x ds M Q => ∃ p es i j y, x = .ref p ∧ ds = [.int i] ∧ M p = some (.lst es) ∧ -(2 ^ 63) ≤ i ∧ i < 2 ^ 63 ∧ seqIndex? i es.length = some j ∧ es[j]? = some y ∧ Q y (ud M p (.lst (es.eraseIdx j)))
theorem jpopat : JM X "list.pop" lPopAt := ⟨_, mt_popAt, fun x d xs ds H M Q R m rx rs ⟨p, es, i, j, y, e1, e2, e3, h1, h2, hj, z, q⟩ k => by
  subst e1; subst e2
  obtain ⟨w, rfl, rw'⟩ := rpl1 rs
  obtain ⟨ys, h, r⟩ := m p _ e3
  obtain ⟨v, ev, rv⟩ := r.get z
  obtain ⟨m', u⟩ := wrote_of m e3 (r.eraseIdx j)
  exact ⟨p, ys, i, j, v, rp_ref.mp rx, by rw [rp_int.mp rw'], h, h1, h2, by rw [r.length]; exact hj, ev, k _ _ _ _ (rv.up u) m' u q⟩⟩
def lExt : MRm := fun x ds M Q => ∃ p b es fs, x = .ref p ∧ ds = [.ref b] ∧ M p = some (.lst es) ∧ M b = some (.lst fs) ∧ es.length + fs.length ≤ sizeLine ∧ Q .non (ud M p (.lst (es ++ fs)))
theorem jext : JM X "list.extend" lExt := ⟨_, mt_extend, fun x d xs ds H M Q R m rx rs ⟨p, b, es, fs, e1, e2, e3, e4, z, q⟩ k => by
  subst e1; subst e2
  obtain ⟨w, rfl, rw'⟩ := rpl1 rs
  obtain ⟨ys, h, r⟩ := m p _ e3
  obtain ⟨zs, h', r'⟩ := m b _ e4
  obtain ⟨m', u⟩ := wrote_of m e3 (r.append r')
  exact ⟨p, b, ys, zs, rp_ref.mp rx, by rw [rp_ref.mp rw'], h, h', by rw [r.length, r'.length]; exact z, k _ _ _ _ (rp_non.mpr rfl) m' u q⟩⟩
def lRev : MRm := fun x ds M Q => ∃ p es, x = .ref p ∧ ds = [] ∧ M p = some (.lst es) ∧ Q .non (ud M p (.lst es.reverse))
theorem jrev : JM X "list.reverse" lRev := ⟨_, mt_reverse, fun x d xs ds H M Q R m rx rs ⟨p, es, e1, e2, e3, q⟩ k => by
  subst e1; subst e2
  obtain ⟨ys, h, r⟩ := m p _ e3
  obtain ⟨m', u⟩ := wrote_of m e3 r.reverse
  unfold RpL at rs
  exact ⟨p, ys, rp_ref.mp rx, rs, h, k _ _ _ _ (rp_non.mpr rfl) m' u q⟩⟩
def lClr : MRm := fun x ds M Q => ∃ p es, x = .ref p ∧ ds = [] ∧ M p = some (.lst es) ∧ Q .non (ud M p (.lst []))
theorem jclr : JM X "list.clear" lClr := ⟨_, mt_clear, fun x d xs ds H M Q R m rx rs ⟨p, es, e1, e2, e3, q⟩ k => by
  subst e1; subst e2
  obtain ⟨ys, h, r⟩ := m p _ e3
  obtain ⟨m', u⟩ := wrote_of (es' := []) (xs' := []) m e3 .nil
  unfold RpL at rs
  exact ⟨p, ys, rp_ref.mp rx, rs, h, k _ _ _ _ (rp_non.mpr rfl) m' u q⟩⟩
def lIdx : MRm := fun x ds M Q => ∃ p es y j z, x = .ref p ∧ ds = [y] ∧ (M p = some (.lst es) ∨ M p = some (.rol es)) ∧ fitL es ∧ fitD y ∧ es[j]? = some z ∧ eqD z y = true ∧ (∀ (m : Nat) z', m < j → es[m]? = some z' → eqD z' y = false) ∧ Q (.int (j : Nat)) M
theorem toPs_get : ∀ {es : List D} {j : Nat}, (toPs es)[j]? = (es[j]?).map toP
  | [], j => by unfold toPs; simp
  | e :: es, 0 => by unfold toPs; rfl
  | e :: es, j + 1 => by unfold toPs; simpa using toPs_get (es := es) (j := j)
theorem jidx (hu : X.A.units + 65 < cLine) : JM X "list.index" lIdx := ⟨_, mt_indexD hu, fun x d xs ds H M Q R m rx rs ⟨p, es, y, j, z, e1, e2, e3, f1, f2, hj, hz, hno, q⟩ k => by
  subst e1; subst e2
  obtain ⟨w, rfl, rw'⟩ := rpl1 rs
  obtain ⟨ys, s, r⟩ := sql_of m e3
  refine ⟨p, w, _, _, j, toP z, rp_ref.mp rx, rfl, .lst s (dps_of f1.1 r), dp_of f2.1 rw', shapedL_of f1, shaped_of f2.1 f2.2, by rw [toPs_get, hj]; rfl, hz, fun i z' hi h' => ?_, k _ _ H M (rp_int.mpr rfl) m (.refl H) q⟩
  rw [toPs_get] at h'
  cases h2 : es[i]? with
  | none => rw [h2] at h'; cases h'
  | some d => rw [h2] at h'; cases h'; exact hno i d hi h2⟩
end
end MM

namespace MM
open PySem PySem.Spec PyProof.Rows L2
section
variable {X : Cx} {a b c e o : Expr} {es rest : List Expr} {st : Stmt} {sts : List Stmt} {ma mb mc : ME} {mt mt' : MT} {mr : MA} {ms ms' : MS} {p pos apos cpos pos' : Pos} {x : Str}

/-! ### targets -/
abbrev MG := D → Fr → MH → (Fr → MH → Prop) → Prop
abbrev MGs := List D → Fr → MH → (Fr → MH → Prop) → Prop
def Sm (wr : List Nat) (σ σ' : L2.St) : Prop := σ'.length = σ.length ∧ ∀ j, j ∉ wr → σ'[j]? = σ[j]?
theorem Sm.refl {wr : List Nat} {σ : L2.St} : Sm wr σ σ := ⟨rfl, fun _ _ => rfl⟩
theorem Sm.trans {wr : List Nat} {σ σ' σ2 : L2.St} (a : Sm wr σ σ') (b : Sm wr σ' σ2) : Sm wr σ σ2 := ⟨b.1.trans a.1, fun j h => (b.2 j h).trans (a.2 j h)⟩
theorem Sm.mono {wr wr' : List Nat} {σ σ' : L2.St} (a : Sm wr σ σ') (h : ∀ j ∈ wr, j ∈ wr') : Sm wr' σ σ' := ⟨a.1, fun j n => a.2 j fun z => n (h j z)⟩
theorem wipe_get {σ : L2.St} {j : Nat} : ∀ {vs : List Nat}, j ∉ vs → (wipe σ vs)[j]? = σ[j]?
  | [], _ => rfl
  | v :: vs, h => by
    simp only [List.mem_cons, not_or] at h
    unfold wipe
    rw [List.getElem?_set_ne (fun e => h.1 e.symm), wipe_get h.2]
theorem wipe_in {σ : L2.St} {j : Nat} : ∀ {vs : List Nat}, j ∈ vs → j < σ.length → (wipe σ vs)[j]? = some none
  | v :: vs, h, l => by
    unfold wipe
    by_cases e : v = j
    · subst e; rw [List.getElem?_set_self (by rw [wipe_length]; exact l)]
    · rw [List.getElem?_set_ne e]
      refine wipe_in ?_ l
      rcases List.mem_cons.mp h with z | z
      · exact absurd z.symm e
      · exact z
/-- what is written in slots that are forgotten anyway -/
theorem Sm.wipe {vs : List Nat} {σ σ2 : L2.St} (h : Sm vs (wipe σ vs) σ2) : wipe σ2 vs = wipe σ vs := by
  refine List.ext_getElem? fun j => ?_
  by_cases hj : j ∈ vs
  · by_cases l : j < σ.length
    · rw [wipe_in hj l, wipe_in hj (by rw [h.1, wipe_length]; exact l)]
    · rw [List.getElem?_eq_none (by rw [wipe_length, h.1, wipe_length]; omega), List.getElem?_eq_none (by rw [wipe_length]; omega)]
  · rw [wipe_get hj, h.2 j hj]
def JG (X : Cx) (tg : Expr) (g : MG) (wr : List Nat) : Prop := ∃ t, PG X tg t ∧ ∀ (σ : L2.St) (H : Hp) (δ : Fr) (M : MH) (v : V) (d : D) (Q : Fr → MH → Prop) (R : L2.St → Hp → Prop), Rel X.kw σ H δ M → Rp X.kw H d v → g d δ M Q →
  (∀ σ' δ' H' M', Sm wr σ σ' → Rel X.kw σ' H' δ' M' → Up H H' → Q δ' M' → R σ' H') → t v σ H R
def JGs (X : Cx) (ts : List Expr) (g : MGs) (wr : List Nat) : Prop := ∃ t, PGs X ts t ∧ ∀ (σ : L2.St) (H : Hp) (δ : Fr) (M : MH) (vs : List V) (ds : List D) (Q : Fr → MH → Prop) (R : L2.St → Hp → Prop), Rel X.kw σ H δ M → RpL X.kw H ds vs → g ds δ M Q →
  (∀ σ' δ' H' M', Sm wr σ σ' → Rel X.kw σ' H' δ' M' → Up H H' → Q δ' M' → R σ' H') → t vs σ H R
def gN (i : Nat) : MG := fun d δ M Q => Q (δ.set i (some d)) M
theorem jgn (i : Nat) {x : Str} (hN : X.N.Nodup) (hi : X.N[i]? = some x := by rfl) (hx : Loc X.env.scope x := by first | exact Or.inl rfl | exact Or.inr rfl) (hf : X.fn x = true ∨ X.env.scope.names.lookup x = some .local := by first | exact .inl rfl | exact .inr rfl) : JG X (.Name x pos) (gN i) [i] :=
  ⟨_, pg_name hN hi hx hf, fun σ H δ M v d Q R rl rv q k => k _ _ H M ⟨by simp, fun j h => List.getElem?_set_ne (by simp at h; exact fun e => h e.symm)⟩ ⟨rl.s.set rv i, rl.m⟩ (.refl H) q⟩
def gsN : MGs := fun ds δ M Q => ds = [] ∧ Q δ M
def gsC (g : MG) (gs : MGs) : MGs := fun ds δ M Q => ∃ d r, ds = d :: r ∧ g d δ M fun δ' M' => gs r δ' M' Q
theorem jgs_nil : JGs X [] gsN [] := ⟨_, pgs_nil, fun σ H δ M vs ds Q R rl rv ⟨e, q⟩ k => by
  subst e
  unfold RpL at rv
  exact ⟨rv, k _ _ H M .refl rl (.refl H) q⟩⟩
theorem jgs_cons {g : MG} {gs : MGs} {w1 w2 : List Nat} (h1 : JG X e g w1) (h2 : JGs X es gs w2) (hs : (assignEach (e :: es) X.env).map (·.2) = assign e X.env :: (assignEach es X.env).map (·.2) := by rfl) : JGs X (e :: es) (gsC g gs) (w1 ++ w2) := by
  obtain ⟨t, p1, k1⟩ := h1
  obtain ⟨u, p2, k2⟩ := h2
  refine ⟨_, pgs_cons p1 p2 hs, fun σ H δ M vs ds Q R rl rv ⟨d, r, e, q⟩ k => ?_⟩
  subst e
  unfold RpL at rv
  obtain ⟨y, ys, rfl, r1, r2⟩ := rv
  exact ⟨y, ys, rfl, k1 σ H δ M y d _ _ rl r1 q fun σ' δ' H' M' s1 rl' u' q' => k2 σ' H' δ' M' ys r Q R rl' (r2.up u') q' fun σ2 δ2 H2 M2 s2 rl2 u2 q2 =>
    k σ2 δ2 H2 M2 ((s1.mono fun j h => List.mem_append_left _ h).trans (s2.mono fun j h => List.mem_append_right _ h)) rl2 (u'.trans u2) q2⟩
def gT (n : Nat) (gs : MGs) : MG := fun d δ M Q => ∃ ds, d = .tup ds ∧ ds.length = n ∧ gs ds δ M Q
theorem jgtu {gs : MGs} {wr : List Nat} {n k : Nat} (h : JGs X es gs wr) (hc : X.calm = true := by rfl) (hn : (assignEach es X.env).length = n := by rfl) (hst : (assignEach es X.env).findIdx? (·.1) = none := by rfl) : JG X (.Tuple es k pos) (gT n gs) wr := by
  obtain ⟨t, p, kk⟩ := h
  refine ⟨_, pg_tup hc p hn hst, fun σ H δ M v d Q R rl rv ⟨ds, e, l, q⟩ k => ?_⟩
  subst e
  obtain ⟨a, xs, rfl, s, r⟩ := rp_tup.mp rv
  exact ⟨a, xs, rfl, s, by rw [r.length]; exact l, kk σ H δ M xs ds Q R rl r q k⟩

/-! ### statements -/
def mNext : MS := fun E δ M => E.nx δ M
def mSeq (t u : MS) : MS := fun E δ M => t { E with nx := u E } δ M
theorem EndR.seq {K : Kw} {H : Hp} {E : MEnds} {F : Ends} {u : MS} {tu : TS} (r : EndR K H E F) (hu : ∀ (σ : L2.St) (H' : Hp) (δ : Fr) (M : MH), Rel K σ H' δ M → Up H H' → u E δ M → tu F σ H') : EndR K H { E with nx := u E } { F with nx := tu F } :=
  ⟨fun σ δ H' M' a b c => hu σ H' δ M' a b c, r.rt, r.bk, r.ct⟩
theorem jb_nil : JB X [] mNext := ⟨_, pss_nil, fun σ H δ M E F rl q r => r.nx σ δ H M rl (.refl H) q⟩
theorem jb_one (h : JS X st ms) : JB X [st] ms := let ⟨_, p, k⟩ := h; ⟨_, pss_one p, k⟩
theorem jb_cons (h1 : JS X st ms) (h2 : JB X sts ms') : JB X (st :: sts) (mSeq ms ms') := by
  obtain ⟨_, p1, k1⟩ := h1
  obtain ⟨_, p2, k2⟩ := h2
  exact ⟨_, pss_cons p1 p2, fun σ H δ M E F rl q r => k1 σ H δ M _ _ rl q (r.seq fun σ' H' δ' M' rl' u q' => k2 σ' H' δ' M' E F rl' q' (r.up u))⟩
theorem js_pass : JS X (.Pass pos) mNext := ⟨_, ps_pass, fun σ H δ M E F rl q r => r.nx σ δ H M rl (.refl H) q⟩
def mBrk : MS := fun E δ M => E.bk δ M
def mCnt : MS := fun E δ M => E.ct δ M
theorem js_break : JS X (.Break pos) mBrk := ⟨_, ps_break, fun σ H δ M E F rl q r => r.bk σ δ H M rl (.refl H) q⟩
theorem js_cont : JS X (.Continue pos) mCnt := ⟨_, ps_continue, fun σ H δ M E F rl q r => r.ct σ δ H M rl (.refl H) q⟩
def mNever : MS := fun _ _ _ => False
theorem js_never : JS X st mNever := ⟨_, ps_never, fun _ _ _ _ _ _ _ q _ => q.elim⟩
theorem jb_never : JB X sts mNever := ⟨_, pss_never, fun _ _ _ _ _ _ _ q _ => q.elim⟩
def mDrop (m : ME) : MS := fun E δ M => m δ M fun _ M1 => E.nx δ M1
theorem js_expr (he : JE X e ma) (hs : swapsWith e none pos.line X.env = pure false := by rfl) : JS X (.Expr e pos) (mDrop ma) := by
  obtain ⟨_, p, k⟩ := he
  exact ⟨_, ps_expr p hs, fun σ H δ M E F rl q r => k σ H δ M _ _ rl q fun v d H' M' rv rl' u q' => r.nx σ δ H' M' rl' u q'⟩
def mRet (m : ME) : MS := fun E δ M => m δ M E.rt
theorem js_ret (he : JE X e ma) : JS X (.Return (some e) pos) (mRet ma) := by
  obtain ⟨_, p, k⟩ := he
  exact ⟨_, ps_ret p, fun σ H δ M E F rl q r => k σ H δ M _ _ rl q fun v d H' M' rv rl' u q' => r.rt v d H' M' rv rl'.m u q'⟩
def mRetN : MS := fun E _ M => E.rt .non M
theorem js_retn : JS X (.Return none pos) mRetN := ⟨_, ps_retN, fun σ H δ M E F rl q r => r.rt _ _ H M (rp_non.mpr rfl) rl.m (.refl H) q⟩
def mIte (t : MT) (u v : MS) : MS := fun E δ M => t δ M fun b M1 => if b = true then u E δ M1 else v E δ M1
theorem js_if {as bs : List Stmt} (hc : JT X c mt) (ha : JB X as ms) (hb : JB X bs ms') : JS X (.If c as bs pos) (mIte mt ms ms') := by
  obtain ⟨_, p0, k0⟩ := hc
  obtain ⟨_, p1, k1⟩ := ha
  obtain ⟨_, p2, k2⟩ := hb
  refine ⟨_, ps_if p0 p1 p2, fun σ H δ M E F rl q r => k0 σ H δ M _ _ rl q fun b H1 M1 r1 u1 q1 => ?_⟩
  cases b with
  | true => exact k1 σ H1 δ M1 E F r1 q1 (r.up u1)
  | false => exact k2 σ H1 δ M1 E F r1 q1 (r.up u1)
def mAsg (m : ME) (g : MG) : MS := fun E δ M => m δ M fun d M1 => g d δ M1 E.nx
theorem js_asg {tg : Expr} {g : MG} {wr : List Nat} (he : JE X e ma) (hg : JG X tg g wr) (hs : swapsWithSole [tg] e pos.line X.env = pure false := by rfl) (hw : swappedStores [tg] e X.env = pure none := by rfl)
    (h1 : (assignEach [tg] X.env).map (·.2) = [assign tg X.env] := by rfl) : JS X (.Assign [tg] e pos) (mAsg ma g) := by
  obtain ⟨_, p, k⟩ := he
  obtain ⟨_, pg, kg⟩ := hg
  exact ⟨_, ps_asg p pg hs hw h1, fun σ H δ M E F rl q r => k σ H δ M _ _ rl q fun v d H' M' rv rl' u q' => kg σ H' δ M' v d E.nx F.nx rl' rv q' fun σ2 δ2 H2 M2 _ rl2 u2 q2 => r.nx σ2 δ2 H2 M2 rl2 (u.trans u2) q2⟩
theorem js_set (i : Nat) {x : Str} (he : JE X e ma) (hN : X.N.Nodup) (hi : X.N[i]? = some x := by rfl) (hx : Loc X.env.scope x := by first | exact Or.inl rfl | exact Or.inr rfl) (hs : swapsWith e (some (.Name x pos')) pos.line X.env = pure false := by rfl)
    (hf : X.fn x = true ∨ X.env.scope.names.lookup x = some .local := by first | exact .inl rfl | exact .inr rfl) : JS X (.Assign [.Name x pos'] e pos) (mAsg ma (gN i)) := by
  obtain ⟨_, p, k⟩ := he
  exact ⟨_, ps_set hN hi hx p hs hf, fun σ H δ M E F rl q r => k σ H δ M _ _ rl q fun v d H' M' rv rl' u q' => r.nx _ _ H' M' ⟨rl'.s.set rv i, rl'.m⟩ u q'⟩
def mPar (i j : Nat) (m : MA) : MS := fun E δ M => m δ M fun ds M1 => ∃ d d', ds = [d, d'] ∧ E.nx ((δ.set i (some d)).set j (some d')) M1
theorem js_par (i j : Nat) {x y : Str} {px py pt : Pos} {kt k2 pt2} (hN : X.N.Nodup) (ha : JA X [a, b] mr) (hi : X.N[i]? = some x := by rfl) (hj : X.N[j]? = some y := by rfl) (hc : X.calm = true := by rfl) (hij : i ≠ j := by decide)
    (hx : X.env.scope.names.lookup x = some .local := by rfl) (hy : X.env.scope.names.lookup y = some .local := by rfl)
    (hw : swappedStores [.Tuple [.Name x px, .Name y py] kt pt] (.Tuple [a, b] k2 pt2) X.env = pure (some [x, y]) := by rfl)
    (hs : swapsWithSole [.Tuple [.Name x px, .Name y py] kt pt] (.Tuple [a, b] k2 pt2) pos.line X.env = pure false := by rfl) :
    JS X (.Assign [.Tuple [.Name x px, .Name y py] kt pt] (.Tuple [a, b] k2 pt2) pos) (mPar i j mr) := by
  obtain ⟨_, p, k⟩ := ha
  refine ⟨_, ps_par hc hN hi hj hij hx hy p hw hs, fun σ H δ M E F rl q r => k σ H δ M _ _ rl q fun vs ds H' M' rs rl' u ⟨d, d', e, q'⟩ => ?_⟩
  subst e
  obtain ⟨v, v', rfl, r1, r2⟩ := rpl2 rs
  exact ⟨v, v', rfl, r.nx _ _ H' M' ⟨(rl'.s.set r1 i).set r2 j, rl'.m⟩ u q'⟩
/-- o[i] = e, o a list -/
def mSubL (mv mo mi : ME) : MS := fun E δ M => mv δ M fun z M1 => mo δ M1 fun x M2 => mi δ M2 fun y M3 => ∃ p es k j, x = .ref p ∧ y = .int k ∧ M3 p = some (.lst es) ∧ ixN es.length k = some j ∧ E.nx δ (ud M3 p (.lst (es.set j z)))
theorem js_subl {v i : Expr} (hv : JE X v mc) (ho : JE X o ma) (hi : JE X i mb)
    (hs : swapsWithSole [.Subscript o i pos'] v pos.line X.env = pure false := by rfl) (hw : swappedStores [.Subscript o i pos'] v X.env = pure none := by rfl) (h1 : (assignEach [.Subscript o i pos'] X.env).map (·.2) = [assign (.Subscript o i pos') X.env] := by rfl)
    (ha : ∀ v, assign (.Subscript o i pos') X.env v = (do
      let ov ← holding [v] (eval o X.env)
      let iv ← holding [v, ov] (eval i X.env)
      standAt pos'
      holding [v, ov, iv] (setItem ov iv v)
      release [v, ov, iv] []) := by intro _; rfl) : JS X (.Assign [.Subscript o i pos'] v pos) (mSubL mc ma mb) := by
  obtain ⟨_, pv', kv⟩ := hv
  obtain ⟨_, po, ko⟩ := ho
  obtain ⟨_, pi, ki⟩ := hi
  refine ⟨_, ps_asg pv' (pg_sub po pi set_list ha) hs hw h1, fun σ H δ M E F rl q r => kv σ H δ M _ _ rl q fun v d H1 M1 rv r1 u1 q1 => ko σ H1 δ M1 _ _ r1 q1 fun x dx H2 M2 rx r2 u2 q2 => ki σ H2 δ M2 _ _ r2 q2 fun y dy H3 M3 ry r3 u3 ⟨p, es, k, j, e1, e2, e3, e4, q3⟩ => ?_⟩
  subst e1; subst e2
  obtain ⟨xs, h, rr⟩ := r3.m p _ e3
  obtain ⟨m', u'⟩ := wrote_of r3.m e3 (rr.set j (rv.up (u2.trans u3)))
  exact ⟨p, xs, k, j, rp_ref.mp (rx.up u3), rp_int.mp ry, h, by rw [rr.length]; exact e4, r.nx σ δ _ _ (r3.mk' u' m') (((u1.trans u2).trans u3).trans u') q3⟩
/-- d[k] = e -/
def mSubD (mv mo mi : ME) : MS := fun E δ M => mv δ M fun z M1 => mo δ M1 fun x M2 => mi δ M2 fun y M3 => ∃ p kvs k, x = .ref p ∧ y = kD k ∧ M3 p = some (.dic kvs) ∧ kvs.length < sizeLine ∧ E.nx δ (ud M3 p (.dic (ptD kvs k z)))
theorem js_subd {v i : Expr} (hu : X.A.units + 1 < cLine) (hv : JE X v mc) (ho : JE X o ma) (hi : JE X i mb) (hs : swapsWith v (some (.Subscript o i pos')) pos.line X.env = pure false := by rfl) : JS X (.Assign [.Subscript o i pos'] v pos) (mSubD mc ma mb) := by
  obtain ⟨_, pv', kv⟩ := hv
  obtain ⟨_, po, ko⟩ := ho
  obtain ⟨_, pi, ki⟩ := hi
  refine ⟨_, ps_dput hu po pi pv' hs, fun σ H δ M E F rl q r => kv σ H δ M _ _ rl q fun v d H1 M1 rv r1 u1 q1 => ko σ H1 δ M1 _ _ r1 q1 fun x dx H2 M2 rx r2 u2 q2 => ki σ H2 δ M2 _ _ r2 q2 fun y dy H3 M3 ry r3 u3 ⟨p, kvs, k, e1, e2, e3, e4, q3⟩ => ?_⟩
  subst e1; subst e2
  obtain ⟨ks, h, rr⟩ := r3.m p _ e3
  have mu : Mut (H3 p) := by rw [h]; trivial
  refine ⟨p, _, rp_ref.mp (rx.up u3), .inl ⟨ks, k, h, kD_rp.mp ry, by rw [rr.len]; exact e4, rfl⟩, r.nx σ δ _ _ (r3.mk' (.mut mu) (r3.m.wrote (m := .dic (ptD kvs k d)) mu ⟨_, upd_same, ?_⟩)) (((u1.trans u2).trans u3).trans (.mut mu)) q3⟩
  exact PrK.up (.mut mu) (rr.put (rv.up (u2.trans u3)))

/-! ### loops -/
def mWhile (c : MT) (tb : MS) : MS := fun E δ M => ∃ W : Nat → Fr → MH → Prop, (∃ m, W m δ M) ∧ ∀ m δ M, W m δ M → c δ M fun b M1 => if b = true then tb { E with nx := fun δ' M' => ∃ m', m' < m ∧ W m' δ' M', ct := fun δ' M' => ∃ m', m' < m ∧ W m' δ' M', bk := E.nx } δ M1 else E.nx δ M1
theorem js_while (hp : PassesOwn (model X.prog X.w) X.A X.env X.xe) (hc : JT X c mt) (hb : JB X sts ms) : JS X (.While c sts [] pos) (mWhile mt ms) := by
  obtain ⟨_, p0, k0⟩ := hc
  obtain ⟨_, p1, k1⟩ := hb
  refine ⟨_, ps_while hp p0 p1, fun σ H δ M E F rl ⟨W, ⟨m, w0⟩, turn⟩ r => ⟨fun m σ' H' => ∃ δ' M', Rel X.kw σ' H' δ' M' ∧ Up H H' ∧ W m δ' M', ⟨m, δ, M, rl, .refl H, w0⟩, ?_⟩⟩
  rintro m σ1 H1 ⟨δ1, M1, rl1, u1, w1⟩
  refine k0 σ1 H1 δ1 M1 _ _ rl1 (turn m δ1 M1 w1) fun b H2 M2 rl2 u2 q2 => ?_
  cases b with
  | true =>
    refine ⟨fun σ' H' => ∃ m', m' < m ∧ ∃ δ' M', Rel X.kw σ' H' δ' M' ∧ Up H H' ∧ W m' δ' M', fun σ' H' z => z, ?_⟩
    refine k1 σ1 H2 δ1 M2 _ _ rl2 q2 ⟨?_, fun v d H' M' rv m' u q => r.rt v d H' M' rv m' ((u1.trans u2).trans u) q, fun σ' δ' H' M' rl' u q => r.nx σ' δ' H' M' rl' ((u1.trans u2).trans u) q, ?_⟩
    · exact fun σ' δ' H' M' rl' u ⟨m', l, w'⟩ => ⟨m', l, δ', M', rl', (u1.trans u2).trans u, w'⟩
    · exact fun σ' δ' H' M' rl' u ⟨m', l, w'⟩ => ⟨m', l, δ', M', rl', (u1.trans u2).trans u, w'⟩
  | false => exact r.nx σ1 δ1 H2 M2 rl2 (u1.trans u2) q2
/-- what an iterator yields: the things in a row, and what must stand at each turn -/
abbrev MI := Fr → MH → (List D → (MH → Prop) → MH → Prop) → Prop
structure ItOk (K : Kw) (H1 : Hp) (J : It) (ds : List D) (Kp : MH → Prop) : Prop where
  stop : ∀ H M, Up H1 H → MR K M H → Kp M → J.stop ds.length H
  go : ∀ i H M, Up H1 H → i < ds.length → MR K M H → Kp M → J.go i H
  yld : ∀ i H M x H', Up H1 H → i < ds.length → MR K M H → Kp M → J.yld i H x H' → ∃ d, ds[i]? = some d ∧ Rp K H' d x ∧ MR K M H' ∧ Up H H' ∧ ∀ p, H' p = none → H p = none
def JI (X : Cx) (tg iter : Expr) (m : MI) : Prop := ∃ wi, PI X tg iter wi ∧ ∀ (σ : L2.St) (H : Hp) (δ : Fr) (M : MH) (Q : List D → (MH → Prop) → MH → Prop) (R : It → Hp → Prop), Rel X.kw σ H δ M → m δ M Q →
  (∀ J ds Kp H' M', ItOk X.kw H' J ds Kp → ds.length ≤ sizeLine → Rel X.kw σ H' δ M' → Up H H' → Q ds Kp M' → R J H') → wi σ H R
def mFor (mi : MI) (g : MG) (tb : MS) : MS := fun E δ M => mi δ M fun ds Kp M1 => ∃ P : Nat → Fr → MH → Prop, P 0 δ M1 ∧ (∀ i δ' M', i ≤ ds.length → P i δ' M' → Kp M') ∧
  (∀ i d δ' M', ds[i]? = some d → P i δ' M' → g d δ' M' fun δ2 M2 => tb { E with nx := P (i + 1), ct := P (i + 1), bk := E.nx } δ2 M2) ∧ ∀ δ' M', P ds.length δ' M' → E.nx δ' M'
theorem js_for {tg iter : Expr} {mi : MI} {g : MG} {wr : List Nat} (hp : PassesOwn (model X.prog X.w) X.A X.env X.xe) (hi : JI X tg iter mi) (hg : JG X tg g wr) (hb : JB X sts ms) (hc : X.calm = true := by rfl) (hs : ∀ x, foldedSetIterable iter X.env x = pure x := by intro _; rfl) :
    JS X (.For tg iter sts [] pos) (mFor mi g ms) := by
  obtain ⟨_, p0, k0⟩ := hi
  obtain ⟨_, pg, kg⟩ := hg
  obtain ⟨_, pb, kb⟩ := hb
  refine ⟨_, ps_for hp hc p0 pg pb hs, fun σ H δ M E F rl q r => k0 σ H δ M _ _ rl q fun J ds Kp H1 M1 ok hl r1 u1 ⟨P, h0, hk, ht, hd⟩ => ?_⟩
  refine ⟨fun i m σ' H' => m = ds.length - i ∧ i ≤ ds.length ∧ ∃ δ' M', Rel X.kw σ' H' δ' M' ∧ Up H1 H' ∧ P i δ' M', ⟨ds.length, by omega, Nat.zero_le _, δ, M1, r1, .refl H1, h0⟩, ?_⟩
  rintro i m σ2 H2 ⟨rfl, hi, δ2, M2, r2, u2, p2⟩
  have kp := hk i δ2 M2 hi p2
  by_cases hlt : i < ds.length
  · refine .inr ⟨ok.go i H2 M2 u2 hlt r2.m kp, fun σ' H' => ∃ δ' M', Rel X.kw σ' H' δ' M' ∧ Up H1 H' ∧ P (i + 1) δ' M', fun σ' H' z => ⟨ds.length - (i + 1), by omega, rfl, hlt, z⟩, fun x H3 y => ?_⟩
    obtain ⟨d, ed, rx, m3, u3, _⟩ := ok.yld i H2 M2 x H3 u2 hlt r2.m kp y
    refine kg σ2 H3 δ2 M2 x d _ _ (r2.mk' u3 m3) rx (ht i d δ2 M2 ed p2) fun σ4 δ4 H4 M4 _ r4 u4 q4 => ?_
    have u : Up H1 H4 := (u2.trans u3).trans u4
    have uu : Up H H4 := u1.trans u
    exact kb σ4 H4 δ4 M4 _ _ r4 q4 ⟨fun σ' δ' H' M' rl' u' z => ⟨δ', M', rl', u.trans u', z⟩, fun v d H' M' rv m' u' z => r.rt v d H' M' rv m' (uu.trans u') z, fun σ' δ' H' M' rl' u' z => r.nx σ' δ' H' M' rl' (uu.trans u') z, fun σ' δ' H' M' rl' u' z => ⟨δ', M', rl', u.trans u', z⟩⟩
  · have e : i = ds.length := by omega
    subst e
    exact .inl ⟨ok.stop H2 M2 u2 r2.m kp, r.nx σ2 δ2 H2 M2 r2 (u1.trans u2) (hd δ2 M2 p2)⟩
/-! ### what is walked -/
def LstAt (p : Addr) (ds : List D) : MH → Prop := fun M => M p = some (.lst ds) ∨ M p = some (.rol ds)
theorem itl_ok {K : Kw} {H1 : Hp} {p : Addr} {ds : List D} : ItOk K H1 (Itl K.K p) ds (LstAt p ds) where
  stop := fun H M _ m kp => let ⟨xs, s, r⟩ := sql_of m kp; ⟨xs, s, by rw [r.length]; exact Nat.le_refl _⟩
  go := fun i H M _ hi m kp => by
    obtain ⟨xs, s, r⟩ := sql_of m kp
    exact ⟨xs, xs[i]'(by rw [r.length]; exact hi), s, List.getElem?_eq_getElem _⟩
  yld := fun i H M x H' _ hi m kp ⟨e, y⟩ => by
    obtain ⟨xs, s, r⟩ := sql_of m kp
    subst e
    obtain ⟨d, ed, rd⟩ := r.getV (y xs s)
    exact ⟨d, ed, rd, m, .refl _, fun _ z => z⟩
theorem itt_ok {K : Kw} {H1 : Hp} {p : Addr} {ds : List D} {xs : List V} (s0 : SqT K.K H1 p xs) (r0 : RpL K H1 ds xs) : ItOk K H1 (Itt K.K p) ds (fun _ => True) where
  stop := fun H M u m _ => ⟨xs, u.sq s0, by rw [r0.length]; exact Nat.le_refl _⟩
  go := fun i H M u hi m _ => ⟨xs, xs[i]'(by rw [r0.length]; exact hi), u.sq s0, List.getElem?_eq_getElem _⟩
  yld := fun i H M x H' u hi m _ ⟨e, y⟩ => by
    subst e
    obtain ⟨d, ed, rd⟩ := (r0.up u).getV (y xs (u.sq s0))
    exact ⟨d, ed, rd, m, .refl _, fun _ z => z⟩
/-- a list -/
def iL (m : ME) : MI := fun δ M Q => m δ M fun x M1 => ∃ p ds, x = .ref p ∧ LstAt p ds M1 ∧ Q ds (LstAt p ds) M1
theorem ji_list' {l : Expr} {tl : TE} {tg : Expr} (hl : PE X l tl) : PI X tg l (fun σ H R => tl σ H fun x H1 => ∃ a xs, x = .ref a ∧ SqL X.K H1 a xs ∧ (xs.length ≤ sizeLine → R (Itl X.K a) H1)) := by
  refine ⟨fun pins s σ H R I h => ?_⟩
  refine thn (hl.run pins s σ H _ I h) fun v s1 ⟨y, H1, I1, r1, q1⟩ => ?_
  obtain ⟨a, xs, ea, hq, q⟩ := q1
  subst ea
  obtain ⟨its, rv, pl, hz⟩ := I1.list hq
  have hv : v = Value.ref a := r1
  subst hv
  refine wpAny_pyIter_list pl.isList ⟨s1.heap.objs.size, [s1.heap.objs.size], _, _, H1, rfl, I1.kept (t' := s1.toks) fun b o e => Heap.get?_push_of_some _ e, turn_list a _, ⟨_, Heap.get?_push_size _ rfl, rfl, rfl⟩, fun b hb => ?_, q hz⟩
  have eb : b = s1.heap.objs.size := by simpa using hb
  rw [eb]
  exact I1.fpOk (Nat.le_refl _) (I1.hok.fresh (Nat.le_refl _))
theorem ji_list {l tg : Expr} (hl : JE X l ma) : JI X tg l (iL ma) := by
  obtain ⟨_, p, k⟩ := hl
  refine ⟨_, ji_list' p, fun σ H δ M Q R rl q kk => k σ H δ M _ _ rl q fun v d H' M' rv rl' u ⟨a, ds, e, la, q'⟩ => ?_⟩
  subst e
  obtain ⟨xs, s, r⟩ := sql_of rl'.m la
  exact ⟨a, xs, rp_ref.mp rv, s, fun z => kk _ ds _ H' M' itl_ok (by rw [← r.length]; exact z) rl' u q'⟩
/-- a tuple -/
def iT (m : ME) : MI := fun δ M Q => m δ M fun x M1 => ∃ ds, x = .tup ds ∧ Q ds (fun _ => True) M1
theorem ji_tup' {l : Expr} {tl : TE} {tg : Expr} (hl : PE X l tl) : PI X tg l (fun σ H R => tl σ H fun x H1 => ∃ a xs, x = .ref a ∧ SqT X.K H1 a xs ∧ (xs.length ≤ sizeLine → R (Itt X.K a) H1)) := by
  refine ⟨fun pins s σ H R I h => ?_⟩
  refine thn (hl.run pins s σ H _ I h) fun v s1 ⟨y, H1, I1, r1, q1⟩ => ?_
  obtain ⟨a, xs, ea, hq, q⟩ := q1
  subst ea
  obtain ⟨its, rv, pl, hz⟩ := I1.tuple hq
  have hv : v = Value.ref a := r1
  subst hv
  refine wpAny_pyIter_tuple (show s1.heap.IsTuple a its.toArray from pl) ⟨s1.heap.objs.size, [s1.heap.objs.size], _, _, H1, rfl, I1.kept (t' := s1.toks) fun b o e => Heap.get?_push_of_some _ e, turn_tuple a _, ⟨_, Heap.get?_push_size _ rfl, rfl, rfl⟩, fun b hb => ?_, q hz⟩
  have eb : b = s1.heap.objs.size := by simpa using hb
  rw [eb]
  exact I1.fpOk (Nat.le_refl _) (I1.hok.fresh (Nat.le_refl _))
theorem ji_tup {l tg : Expr} (hl : JE X l ma) : JI X tg l (iT ma) := by
  obtain ⟨_, p, k⟩ := hl
  refine ⟨_, ji_tup' p, fun σ H δ M Q R rl q kk => k σ H δ M _ _ rl q fun v d H' M' rv rl' u ⟨ds, e, q'⟩ => ?_⟩
  subst e
  obtain ⟨a, xs, ea, s, r⟩ := rp_tup.mp rv
  exact ⟨a, xs, ea, s, fun z => kk _ ds _ H' M' (itt_ok s r) (by rw [← r.length]; exact z) rl' u q'⟩
/-- range(n) -/
def rngD (i : Int) (n : Nat) : List D := (List.range n).map fun k => D.int (i + (k : Nat))
def iR1 (m : MA) : MI := fun δ M Q => m δ M fun ds M1 => ∃ n : Int, ds = [.int n] ∧ -(2 ^ 62) ≤ n ∧ n ≤ 16777216 ∧ Q (rngD 0 n.toNat) (fun _ => True) M1
theorem itr_ok {K : Kw} {H1 : Hp} {i : Int} {n : Nat} : ItOk K H1 (Itr i n) (rngD i n) (fun _ => True) where
  stop := fun H M u m _ => by show n ≤ _; simp [rngD]
  go := fun k H M u hi m _ => by
    show k < n
    simpa [rngD] using hi
  yld := fun k H M x H' u hi m _ ⟨e, y⟩ => by
    subst e
    refine ⟨.int (i + k), ?_, rp_int.mpr y, m, .refl _, fun _ z => z⟩
    have hk : k < n := by simpa [rngD] using hi
    simp [rngD, hk]
theorem ji_rng1 {tg : Expr} (hm : X.mg "range" = none) (ha : JA X [a] mr) (hg : Gl X "range" := by rfl) (hs : starEach [a] X.env = [(false, eval a X.env)] := by rfl) : JI X tg (.Call (.Name "range" p) [a] [] pos) (iR1 mr) := by
  obtain ⟨_, pa, k⟩ := ha
  refine ⟨_, pi_range1 hg hm pa hs, fun σ H δ M Q R rl q kk => k σ H δ M _ _ rl q fun vs ds H' M' rs rl' u ⟨n, e, h0, hn, q'⟩ => ?_⟩
  subst e
  obtain ⟨v, rfl, rv⟩ := rpl1 rs
  refine ⟨n, by rw [rp_int.mp rv], h0, by omega, kk _ _ _ H' M' itr_ok ?_ rl' u q'⟩
  simp only [rngD, List.length_map, List.length_range]
  have := sizeLine_eq
  omega
def iR2 (m : MA) : MI := fun δ M Q => m δ M fun ds M1 => ∃ i j : Int, ds = [.int i, .int j] ∧ -(2 ^ 61) ≤ i ∧ i < 2 ^ 61 ∧ -(2 ^ 61) ≤ j ∧ j < 2 ^ 61 ∧ j - i ≤ 16777216 ∧ Q (rngD i (j - i).toNat) (fun _ => True) M1
theorem ji_rng2 {tg : Expr} (hm : X.mg "range" = none) (ha : JA X [a, b] mr) (hg : Gl X "range" := by rfl) (hs : starEach [a, b] X.env = [(false, eval a X.env), (false, eval b X.env)] := by rfl) (hs2 : starEach [b] X.env = [(false, eval b X.env)] := by rfl) : JI X tg (.Call (.Name "range" p) [a, b] [] pos) (iR2 mr) := by
  obtain ⟨_, pa, k⟩ := ha
  refine ⟨_, pi_range2 hg hm pa hs hs2, fun σ H δ M Q R rl q kk => k σ H δ M _ _ rl q fun vs ds H' M' rs rl' u ⟨i, j, e, h1, h2, h3, h4, hn, q'⟩ => ?_⟩
  subst e
  obtain ⟨v, v', rfl, rv, rv'⟩ := rpl2 rs
  refine ⟨i, j, by rw [rp_int.mp rv, rp_int.mp rv'], by omega, kk _ _ _ H' M' itr_ok ?_ rl' u q'⟩
  simp only [rngD, List.length_map, List.length_range]
  have := sizeLine_eq
  omega
/-- what enumerate, zip yield -/
def enumD (ds : List D) : List D := ds.mapIdx fun i d => .tup [.int (i : Nat), d]
def iEn (m : MA) : MI := fun δ M Q => m δ M fun ds M1 => ∃ p es, ds = [.ref p] ∧ LstAt p es M1 ∧ Q (enumD es) (LstAt p es) M1
theorem pair_ok {K : Kw} {M : MH} {H : Hp} {T : Addr} {d d' : D} {x x' : V} (m : MR K M H) (hT : H T = none) (r : Rp K H d x) (r' : Rp K H d' x') : Rp K (upd H T (.tup [x, x'])) (.tup [d, d']) (.ref T) ∧ MR K M (upd H T (.tup [x, x'])) ∧ Up H (upd H T (.tup [x, x'])) ∧ ∀ p, upd H T (.tup [x, x']) p = none → H p = none := by
  have u : Up H (upd H T (.tup [x, x'])) := .new hT
  refine ⟨rp_tup.mpr ⟨T, _, rfl, .of upd_same, .cons (r.up u) (.cons (r'.up u) .nil)⟩, m.new hT, u, fun p hp => ?_⟩
  by_cases z : p = T
  · subst z; exact hT
  · rw [upd_ne z] at hp; exact hp
theorem ite_ok {K : Kw} {H1 : Hp} {p : Addr} {ds : List D} : ItOk K H1 (Ite K.K p) (enumD ds) (LstAt p ds) where
  stop := fun H M _ m kp => let ⟨xs, s, r⟩ := sql_of m kp; ⟨xs, s, by rw [r.length]; simp [enumD]⟩
  go := fun i H M _ hi m kp => by
    obtain ⟨xs, s, r⟩ := sql_of m kp
    have hi' : i < ds.length := by simpa [enumD] using hi
    exact ⟨xs, xs[i]'(by rw [r.length]; exact hi'), s, List.getElem?_eq_getElem _⟩
  yld := fun i H M x H' _ hi m kp ⟨T, y, ex, hT, eH, hy⟩ => by
    obtain ⟨xs, s, r⟩ := sql_of m kp
    obtain ⟨d, ed, rd⟩ := r.getV (hy xs s)
    subst ex; subst eH
    exact ⟨.tup [.int (i : Nat), d], by simp [enumD, ed], pair_ok m hT (rp_int.mpr rfl) rd⟩
theorem ji_enum {elts : List Expr} {kk : Nat} {tpos : Pos} (hm : X.mg "enumerate" = none) (ha : JA X [a] mr) (hg : Gl X "enumerate" := by rfl) (hs : starEach [a] X.env = [(false, eval a X.env)] := by rfl) : JI X (.Tuple elts kk tpos) (.Call (.Name "enumerate" p) [a] [] pos) (iEn mr) := by
  obtain ⟨_, pa, k⟩ := ha
  refine ⟨fun σ H R => _, ⟨fun pins s σ H R I h => ?_⟩, fun σ H δ M Q R rl q kk => k σ H δ M _ (fun vs H1 => ∃ a xs, vs = [.ref a] ∧ SqL X.K H1 a xs ∧ (xs.length ≤ sizeLine → R (Ite X.K a) H1)) rl q fun vs ds H' M' rs rl' u ⟨b, es, e, la, q'⟩ => ?_⟩
  · refine Call_ (ld_blt I hg hm boot_enumerate (PyProof.Rows.callWith_type1 (thn (pa.run pos pins s σ H _ I h) fun us s1 ⟨vs, H1, I1, r1, q1⟩ => ?_) hs rfl))
    obtain ⟨b, xs, eb, hq, q⟩ := q1
    subst eb
    obtain ⟨w1, ew, hw⟩ := Vals.one r1
    subst ew
    have hv : w1 = Value.ref b := hw
    subst hv
    obtain ⟨its, rv, pl, hz⟩ := I1.list hq
    refine call_enumerate_list pl.isList fun h2 he hit hsz hk => wpAny_pyIter_enum he ⟨s1.heap.objs.size + 1, [s1.heap.objs.size + 1, s1.heap.objs.size], _, _, H1, rfl, I1.kept (t' := s1.toks) hk, turn_enum b _ _, ⟨⟨.none, he⟩, hit, Nat.succ_ne_self _⟩, fun c hc => ?_, q hz⟩
    have hle : s1.heap.objs.size ≤ c := by
      have ec : c = s1.heap.objs.size + 1 ∨ c = s1.heap.objs.size := by simpa using hc
      rcases ec with z | z
      · rw [z]; exact Nat.le_succ _
      · rw [z]; exact Nat.le_refl _
    exact I1.fpOk hle (I1.hok.fresh hle)
  · subst e
    obtain ⟨v, rfl, rv⟩ := rpl1 rs
    obtain ⟨xs, s, r⟩ := sql_of rl'.m la
    refine ⟨b, xs, by rw [rp_ref.mp rv], s, fun z => kk _ _ _ H' M' ite_ok ?_ rl' u q'⟩
    simp only [enumD, List.length_mapIdx]
    rw [← r.length]; exact z
end
end MM

namespace MM
open PySem PySem.Spec PyProof.Rows L2
/-! ### enumerate(a tuple) -/
theorem new_enum1 {v : Value} {ob : Obj} {G : Heap → Prop} (Bg : Begins v ob G) :
    Meets (Builtin.«enumerate.__new__» ⟨[.type "enumerate", v], []⟩) (fun _ R st => G st.heap ∧
      R (.ok (.ret (.ref (st.heap.push ob).objs.size))) { st with heap := (st.heap.push ob).push { cls := .type "enumerate", data := .fields #[.none, .bool false, .ref st.heap.objs.size, rawInt 0, .none, .none] } }) :=
  .of_wp fun P1 w1 A1 R1 st hst => by
    obtain ⟨hp, gn, dr, tk, os⟩ := st
    obtain ⟨g1, g2⟩ := hst
    have hsubE := sub_enumerate
    have it1 : ∀ {A' : Around} {E : Value → Shared → Prop} {Q : Value → Shared → Prop}, Q (.ref hp.objs.size) ⟨hp.push ob, gn, dr, tk, os⟩ → wpAny (model P1 w1) A' (pyIter v) Q E ⟨hp, gn, dr, tk, os⟩ :=
      fun q => Bg.iter P1 w1 _ _ ⟨hp, gn, dr, tk, os⟩ _ g1 q
    wp_walk using it1
    refine wpAny_stack_any fun sk => wpAny_pure ?_
    split
    · rename_i cc _ _ _ _ _
      cases (cc == Value.type "enumerate") <;>
      · wp_walk using it1
        exact ⟨_, rfl, g2⟩
    · wp_walk using it1
      exact ⟨_, rfl, g2⟩
theorem call_enum1 {prog : Program} {w : World} {A : Around} {E : Value → Shared → Prop} {s : Shared} {v : Value} {ob : Obj} {G : Heap → Prop} {Q : Value → Shared → Prop} (Bg : Begins v ob G) (g1 : G s.heap)
    (hQ : ∀ hh, IsEnum hh (s.heap.objs.size + 1) s.heap.objs.size 0 .none → hh.get? s.heap.objs.size = some ob → (∀ b o, s.heap.get? b = some o → hh.get? b = some o) → Q (.ref (s.heap.objs.size + 1)) { s with heap := hh }) :
    wpAny (model prog w) A (call (.type "enumerate") [v]) Q E s := by
  refine callType_new F.called_enumerate (by decide) (F.typeCall_enumerate_1 _) (F.newCall_enumerate_1 _) (fun obj => F.args_object_init_2 obj _) F.entry_enumerate_new (new_enum1 Bg) ⟨g1, ?_⟩
  have sz : (s.heap.push ob).objs.size = s.heap.objs.size + 1 := Heap.size_push ..
  have en : IsEnum ((s.heap.push ob).push { cls := .type "enumerate", data := .fields #[.none, .bool false, .ref s.heap.objs.size, rawInt 0, .none, .none] }) (s.heap.objs.size + 1) s.heap.objs.size 0 .none := by
    have t1 := Heap.get?_push_size (s.heap.push ob) (o := { cls := .type "enumerate", data := .fields #[.none, .bool false, .ref s.heap.objs.size, rawInt 0, .none, .none] }) rfl
    rw [sz] at t1
    exact t1
  show _ ∧ _
  rw [sz]
  exact ⟨⟨_, en, rfl⟩, hQ _ en (Heap.get?_push_of_some _ (Heap.get?_push_size _ Bg.free)) fun b o q => Heap.get?_push_of_some _ (Heap.get?_push_of_some _ q)⟩
/-- the items of the tuple at a, each in a new pair with its place -/
def IteT (K : PySem.W.Frag) (a : Addr) : It where
  go := fun i H => ∃ (xs : List V) (x : V), SqT K H a xs ∧ xs[i]? = some x
  yld := fun i H v H' => ∃ (T : Addr) (x : V), v = .ref T ∧ H T = none ∧ H' = upd H T (.tup [.int (i : Nat), x]) ∧ ∀ xs, SqT K H a xs → xs[i]? = some x
  stop := fun i H => ∃ xs : List V, SqT K H a xs ∧ xs.length = i
theorem turn_enumT {P : Program} {w : World} {K : PySem.W.Frag} {elts : List Expr} {kk : Nat} {tpos : Pos} (a e it : Addr) :
    Turn P w K (.Tuple elts kk tpos) (IteT K a) [e, it] e (fun i h => (∃ old, IsEnum h e it ((i : Nat) : Int) old) ∧ h.IsTupleIter it a i ∧ e ≠ it ∧ a ≠ it ∧ a ≠ e) where
  mem := by simp
  obj := fun i h st b hb => by
    obtain ⟨⟨old, h1⟩, ⟨o, h2, _, h3⟩, _⟩ := st
    rcases List.mem_cons.mp hb with z | hb
    · subst z; exact ⟨_, h1, fun v q => nomatch q⟩
    · have z := List.mem_singleton.mp hb
      subst z; exact ⟨o, h2, fun v q => by rw [h3] at q; cases q⟩
  keep := fun i h h' st k => by
    obtain ⟨⟨old, h1⟩, h2, h3⟩ := st
    exact ⟨⟨old, k e (by simp) _ h1⟩, h2.at fun o q => k it (by simp) o q, h3⟩
  item := by
    intro X hP hw hK hc i pins s σ H E I hf st hg
    subst hP hw hK
    obtain ⟨⟨old, h1⟩, h2, hne, ha1, ha2⟩ := st
    obtain ⟨xs, x, hq, hx⟩ := hg
    obtain ⟨its, rv, tp, hz⟩ := I.tuple hq
    obtain ⟨u, hu, ru⟩ := rv.get hx
    have le : e < s.heap.objs.size := Heap.lt_size h1
    have li : it < s.heap.objs.size := by
      obtain ⟨_, q, _⟩ := h2
      exact Heap.lt_size q
    have hi : i < its.toArray.size := by
      have z := (List.getElem?_eq_some_iff.mp hu).1
      simpa using z
    have DT : Draws X.prog X.w X.A.in1 it [it, a] its.toArray.size (fun i v => its.toArray[i]? = some v) (fun i h => h.IsTupleIter it a i ∧ h.IsTuple a its.toArray) := Draws.tuple (show X.A.in1.handled = none from I.ok.hd hc) it a ha1 its.toArray
    refine wpAny_pyNext_enum_itemD DT h1 ⟨h2, tp⟩ hi hne (by simp [hne, Ne.symm ha2]) fun y h' tk hy ho hst hT hsz hk => ?_
    have ey : y = u := by
      rw [List.getElem?_toArray, hu] at hy
      exact (Option.some.inj hy).symm
    subst ey
    refine ⟨_, rfl, wpAny_letOwnedTupleGo_enum (s := { s with heap := h', toks := tk + 1 }) ho fun h2' he' sb => ?_⟩
    have tup2 : h2'.get? s.heap.objs.size = some { cls := .type "tuple", data := .seq #[.int i tk, y] } := (sb.2 _ (Nat.ne_of_gt le)).trans hT
    have nw : ObjOk X.prog X.w (upd H s.heap.objs.size (.tup [.int (i : Nat), x])) h2' s.heap.objs.size (.tup [.int (i : Nat), x]) :=
      ⟨by show 2 ≤ sizeLine; decide, [.int i tk, y], .cons ⟨_, rfl⟩ (.cons ru .nil), ⟨_, tup2, rfl, _, rfl⟩⟩
    have I1 : Inv X pins σ (upd H s.heap.objs.size (.tup [.int (i : Nat), x])) { s with heap := h2', toks := tk + 1 } :=
      I.turnedNew (ch := [e, it]) (fun b ob hb q => (sb.2 b (fun z => hb (by simp [z]))).trans (hk b ob (fun z => hb (by simp [z])) (fun z => hb (by simp [z])) q)) hf (Nat.le_refl _) nw
    refine ⟨.ref s.heap.objs.size, _, I1, rfl, ⟨_, x, rfl, I.hok.fresh (Nat.le_refl _), rfl, fun ys hy' => by rw [I.tuple_inj hy' hq]; exact hx⟩, ⟨⟨y, ?_⟩, hst.1.at fun o q => (sb.2 it (Ne.symm hne)).trans q, hne, ha1, ha2⟩, fun b hb => ?_⟩
    · have e1 : ((i + 1 : Nat) : Int) = (i : Int) + 1 := by omega
      rw [e1]
      exact he'
    · have lb : b < s.heap.objs.size := by
        rcases List.mem_cons.mp hb with z | hb
        · rw [z]; exact le
        · rw [List.mem_singleton.mp hb]; exact li
      rw [upd_ne (Nat.ne_of_lt lb)]
      exact (hf b hb).1
  done := by
    intro X hP hw hK hc i pins s σ H E I hf st hg
    subst hP hw hK
    obtain ⟨⟨old, h1⟩, h2, hne, ha1, ha2⟩ := st
    obtain ⟨xs, hq, hx⟩ := hg
    obtain ⟨its, rv, tp, hz⟩ := I.tuple hq
    obtain ⟨f0, f1, f2, f3, f4, f5⟩ := hf it (by simp)
    have hl : i = its.toArray.size := by
      rw [← hx, rv.length]; simp
    subst hl
    have DT : Draws X.prog X.w X.A.in1 it [it, a] its.toArray.size (fun i v => its.toArray[i]? = some v) (fun i h => h.IsTupleIter it a i ∧ h.IsTuple a its.toArray) := Draws.tuple (show X.A.in1.handled = none from I.ok.hd hc) it a ha1 its.toArray
    exact wpAny_pyNext_enum_endD DT h1 ⟨h2, tp⟩ fun h' eb => ⟨rfl, I.turned (t' := s.toks) (fun b o hb q => eb b o hb q) f0 f1 f3 f4 f5⟩
  self := fun A i s Q E st h => let ⟨⟨_, h1⟩, _⟩ := st; wpAny_pyIter_enum h1 h
section
variable {X : Cx} {a b c e o elt iter tg : Expr} {es rest ifs : List Expr} {st : Stmt} {sts : List Stmt} {ma mb mc : ME} {mt mt' : MT} {mr : MA} {ms ms' : MS} {p pos apos cpos pos' tpos : Pos} {x : Str} {elts : List Expr} {kk : Nat}
theorem iteT_ok {K : Kw} {H1 : Hp} {p : Addr} {ds : List D} {xs : List V} (s0 : SqT K.K H1 p xs) (r0 : RpL K H1 ds xs) : ItOk K H1 (IteT K.K p) (enumD ds) (fun _ => True) where
  stop := fun H M u m _ => ⟨xs, u.sq s0, by rw [r0.length]; simp [enumD]⟩
  go := fun i H M u hi m _ => by
    have hi' : i < ds.length := by simpa [enumD] using hi
    exact ⟨xs, xs[i]'(by rw [r0.length]; exact hi'), u.sq s0, List.getElem?_eq_getElem _⟩
  yld := fun i H M x H' u hi m _ ⟨T, y, ex, hT, eH, hy⟩ => by
    obtain ⟨d, ed, rd⟩ := (r0.up u).getV (hy xs (u.sq s0))
    subst ex; subst eH
    exact ⟨.tup [.int (i : Nat), d], by simp [enumD, ed], pair_ok m hT (rp_int.mpr rfl) rd⟩
def iEnT (m : MA) : MI := fun δ M Q => m δ M fun ds M1 => ∃ es, ds = [.tup es] ∧ Q (enumD es) (fun _ => True) M1
theorem ji_enumT (hm : X.mg "enumerate" = none) (ha : JA X [a] mr) (hg : Gl X "enumerate" := by rfl) (hs : starEach [a] X.env = [(false, eval a X.env)] := by rfl) : JI X (.Tuple elts kk tpos) (.Call (.Name "enumerate" p) [a] [] pos) (iEnT mr) := by
  obtain ⟨_, pa, k⟩ := ha
  refine ⟨fun σ H R => _, ⟨fun pins s σ H R I h => ?_⟩, fun σ H δ M Q R rl q kk => k σ H δ M _ (fun vs H1 => ∃ a xs, vs = [.ref a] ∧ SqT X.K H1 a xs ∧ (xs.length ≤ sizeLine → R (IteT X.K a) H1)) rl q fun vs ds H' M' rs rl' u ⟨es, e, q'⟩ => ?_⟩
  · refine Call_ (ld_blt I hg hm boot_enumerate (PyProof.Rows.callWith_type1 (thn (pa.run pos pins s σ H _ I h) fun us s1 ⟨vs, H1, I1, r1, q1⟩ => ?_) hs rfl))
    obtain ⟨b, xs, eb, hq, q⟩ := q1
    subst eb
    obtain ⟨w1, ew, hw⟩ := Vals.one r1
    subst ew
    have hv : w1 = Value.ref b := hw
    subst hv
    obtain ⟨its, rv, tp, hz⟩ := I1.tuple hq
    have lb : b < s1.heap.objs.size := IsTup.lt tp
    refine call_enum1 (begins_tuple b its.toArray) tp fun h2 he hit hk => wpAny_pyIter_enum he ⟨s1.heap.objs.size + 1, [s1.heap.objs.size + 1, s1.heap.objs.size], _, _, H1, rfl, I1.kept (t' := s1.toks) hk, turn_enumT b _ s1.heap.objs.size, ⟨⟨.none, he⟩, ⟨_, hit, rfl, rfl⟩, Nat.succ_ne_self _, Nat.ne_of_lt lb, Nat.ne_of_lt (Nat.lt_succ_of_lt lb)⟩, fun c hc => ?_, q hz⟩
    have hle : s1.heap.objs.size ≤ c := by
      have ec : c = s1.heap.objs.size + 1 ∨ c = s1.heap.objs.size := by simpa using hc
      rcases ec with z | z
      · rw [z]; exact Nat.le_succ _
      · rw [z]; exact Nat.le_refl _
    exact I1.fpOk hle (I1.hok.fresh hle)
  · subst e
    obtain ⟨v, rfl, rv⟩ := rpl1 rs
    obtain ⟨a, xs, rfl, s, r⟩ := rp_tup.mp rv
    refine ⟨a, xs, rfl, s, fun z => kk _ _ _ H' M' (iteT_ok s r) ?_ rl' u q'⟩
    simp only [enumD, List.length_mapIdx]
    rw [← r.length]; exact z
/-- zip of two lists, to a target of several names -/
def zipD (ds es : List D) : List D := (ds.zip es).map fun q => .tup [q.1, q.2]
def iZp (m : MA) : MI := fun δ M Q => m δ M fun ds M1 => ∃ p q es fs, ds = [.ref p, .ref q] ∧ LstAt p es M1 ∧ LstAt q fs M1 ∧ Q (zipD es fs) (fun M => LstAt p es M ∧ LstAt q fs M) M1
theorem itz_ok {K : Kw} {H1 : Hp} {p q : Addr} {ds es : List D} : ItOk K H1 (Itz K.K p q) (zipD ds es) (fun M => LstAt p ds M ∧ LstAt q es M) where
  stop := fun H M _ m kp => by
    obtain ⟨xs, s, r⟩ := sql_of m kp.1
    obtain ⟨ys, s', r'⟩ := sql_of m kp.2
    refine ⟨xs, ys, s, s', ?_⟩
    rw [r.length, r'.length]
    simp only [zipD, List.length_map, List.length_zip]
    omega
  go := fun i H M _ hi m kp => by
    obtain ⟨xs, s, r⟩ := sql_of m kp.1
    obtain ⟨ys, s', r'⟩ := sql_of m kp.2
    have hi' : i < ds.length ∧ i < es.length := by simpa [zipD, Nat.lt_min] using hi
    exact ⟨xs, ys, xs[i]'(by rw [r.length]; exact hi'.1), ys[i]'(by rw [r'.length]; exact hi'.2), s, s', List.getElem?_eq_getElem _, List.getElem?_eq_getElem _⟩
  yld := fun i H M x H' _ hi m kp ⟨T, y, y', ex, hT, eH, hy, hy'⟩ => by
    obtain ⟨xs, s, r⟩ := sql_of m kp.1
    obtain ⟨ys, s', r'⟩ := sql_of m kp.2
    obtain ⟨d, ed, rd⟩ := r.getV (hy xs s)
    obtain ⟨d', ed', rd'⟩ := r'.getV (hy' ys s')
    subst ex; subst eH
    refine ⟨.tup [d, d'], ?_, pair_ok m hT rd rd'⟩
    have z : (ds.zip es)[i]? = some (d, d') := List.getElem?_zip_eq_some.mpr ⟨ed, ed'⟩
    simp [zipD, z]
theorem ji_zip (hm : X.mg "zip" = none) (ha : JA X [a, b] mr) (hg : Gl X "zip" := by rfl) (hs : starEach [a, b] X.env = (false, eval a X.env) :: starEach [b] X.env := by rfl) (hpl : (backTo pos (starEach [b] X.env)).any (·.1) = false := by rfl) :
    JI X (.Tuple elts kk tpos) (.Call (.Name "zip" p) [a, b] [] pos) (iZp mr) := by
  obtain ⟨_, pa, k⟩ := ha
  refine ⟨fun σ H R => _, ⟨fun pins s σ H R I h => ?_⟩, fun σ H δ M Q R rl q kk => k σ H δ M _ (fun vs H1 => ∃ a b xs ys, vs = [.ref a, .ref b] ∧ SqL X.K H1 a xs ∧ SqL X.K H1 b ys ∧ (xs.length ≤ sizeLine → R (Itz X.K a b) H1)) rl q fun vs ds H' M' rs rl' u ⟨c, d, es, fs, e, la, lb, q'⟩ => ?_⟩
  · refine Call_ (ld_blt I hg hm PyProof.Rows.boot_zip (PyProof.Rows.callWith_type1 (thn (pa.run pos pins s σ H _ I h) fun us s1 ⟨vs, H1, I1, r1, q1⟩ => ?_) hs hpl))
    obtain ⟨c, d, xs, ys, eb, hq, hq', q⟩ := q1
    subst eb
    obtain ⟨w1, w2, ew, hw, hw'⟩ := Vals.two r1
    subst ew
    have hv : w1 = Value.ref c := hw
    have hv' : w2 = Value.ref d := hw'
    subst hv hv'
    obtain ⟨its, rv, pl, hz⟩ := I1.list hq
    obtain ⟨its', rv', pl', hz'⟩ := I1.list hq'
    refine call_zip_2 pl.isList pl'.isList fun h2 z1 z2 z3 z4 z5 hsz hk => wpAny_pyIter_zip z1 ⟨s1.heap.objs.size + 4, [s1.heap.objs.size + 4, s1.heap.objs.size + 2, s1.heap.objs.size + 3, s1.heap.objs.size, s1.heap.objs.size + 1], _, _, H1, rfl, I1.kept (t' := s1.toks) hk, turn_zip (PySem.W.ktu_apart s1.heap.objs.size c d pl.lt pl'.lt), ⟨z1, z2, ⟨_, _, z3⟩, z4, z5⟩, fun b hb => ?_, q hz⟩
    have hle : s1.heap.objs.size ≤ b := by
      have eb : b = s1.heap.objs.size + 4 ∨ b = s1.heap.objs.size + 2 ∨ b = s1.heap.objs.size + 3 ∨ b = s1.heap.objs.size ∨ b = s1.heap.objs.size + 1 := by simpa using hb
      rcases eb with z | z | z | z | z <;> rw [z] <;> first | exact Nat.le_add_right _ _ | exact Nat.le_refl _
    exact I1.fpOk hle (I1.hok.fresh hle)
  · subst e
    obtain ⟨v, v', rfl, rv, rv'⟩ := rpl2 rs
    obtain ⟨xs, s, r⟩ := sql_of rl'.m la
    obtain ⟨ys, s', r'⟩ := sql_of rl'.m lb
    refine ⟨c, d, xs, ys, by rw [rp_ref.mp rv, rp_ref.mp rv'], s, s', fun z => kk _ _ _ H' M' itz_ok ?_ rl' u q'⟩
    simp only [zipD, List.length_map, List.length_zip]
    rw [r.length] at z
    omega

/-! ### comprehensions -/
/-- the tests of a clause -/
def JTs (X : Cx) (es : List Expr) (m : MT) : Prop := ∃ t, PTs X es t ∧ ∀ (σ : L2.St) (H : Hp) (δ : Fr) (M : MH) (Q : Bool → MH → Prop) (R : Bool → Hp → Prop), Rel X.kw σ H δ M → m δ M Q →
  (∀ b H' M', Rel X.kw σ H' δ M' → Up H H' → Q b M' → R b H') → t σ H R
def mYes : MT := fun _ M Q => Q true M
theorem jts_nil : JTs X [] mYes := ⟨_, pts_nil, fun σ H δ M Q R rl q k => k true H M rl (.refl H) q⟩
theorem jts_one (h : JT X e mt) : JTs X [e] mt := let ⟨_, p, k⟩ := h; ⟨_, pts_one p, k⟩
def mLc (mi : MI) (g : MG) (mt : MT) (me : ME) (vs : List Nat) : ME := fun δ M Q => mi δ M fun ds Kp M1 => ∀ L, M1 L = none → ∃ P : Nat → List D → MH → Prop, P 0 [] (ud M1 L (.lst [])) ∧ (∀ i acc M', i ≤ ds.length → P i acc M' → Kp M') ∧
  (∀ i d acc M', ds[i]? = some d → acc.length ≤ i → P i acc M' → g d (wipeM δ vs) M' fun δ2 M2 => mt δ2 M2 fun b M3 => if b = true then me δ2 M3 fun y M4 => M4 L = some (.lst acc) ∧ P (i + 1) (acc ++ [y]) (ud M4 L (.lst (acc ++ [y]))) else P (i + 1) acc M3) ∧
  ∀ acc M', acc.length ≤ ds.length → P ds.length acc M' → Q (.ref L) M'
theorem lc_of {X : Cx} {mi : MI} {g : MG} {mt : MT} {me : ME} {vs : List Nat} {wi : TI} {tg' : TG} {tt : TT} {te : TE}
    (k0 : ∀ (σ : L2.St) (H : Hp) (δ : Fr) (M : MH) (Q : List D → (MH → Prop) → MH → Prop) (R : It → Hp → Prop), Rel X.kw σ H δ M → mi δ M Q → (∀ J ds Kp H' M', ItOk X.kw H' J ds Kp → ds.length ≤ sizeLine → Rel X.kw σ H' δ M' → Up H H' → Q ds Kp M' → R J H') → wi σ H R)
    (kg : ∀ (σ : L2.St) (H : Hp) (δ : Fr) (M : MH) (v : V) (d : D) (Q : Fr → MH → Prop) (R : L2.St → Hp → Prop), Rel X.kw σ H δ M → Rp X.kw H d v → g d δ M Q → (∀ σ' δ' H' M', Sm vs σ σ' → Rel X.kw σ' H' δ' M' → Up H H' → Q δ' M' → R σ' H') → tg' v σ H R)
    (kt : ∀ (σ : L2.St) (H : Hp) (δ : Fr) (M : MH) (Q : Bool → MH → Prop) (R : Bool → Hp → Prop), Rel X.kw σ H δ M → mt δ M Q → (∀ b H' M', Rel X.kw σ H' δ M' → Up H H' → Q b M' → R b H') → tt σ H R)
    (ke : ∀ (σ : L2.St) (H : Hp) (δ : Fr) (M : MH) (Q : MQ) (R : VK), Rel X.kw σ H δ M → me δ M Q → (∀ v d H' M', Rp X.kw H' d v → Rel X.kw σ H' δ M' → Up H H' → Q d M' → R v H') → te σ H R)
    (σ : L2.St) (H : Hp) (δ : Fr) (M : MH) (Q : MQ) (R : VK) (rl : Rel X.kw σ H δ M) (q : mLc mi g mt me vs δ M Q) (k : ∀ v d H' M', Rp X.kw H' d v → Rel X.kw σ H' δ M' → Up H H' → Q d M' → R v H') : tLc wi tg' tt te vs σ H R := by
  refine k0 σ H δ M _ _ rl q fun J ds Kp H1 M1 ok hl r1 u1 q1 L hL => ?_
  obtain ⟨P, h0, hk, ht, hd⟩ := q1 L (r1.m.free hL)
  have uL : Up H1 (upd H1 L (.lst [])) := .new hL
  -- the state ahead of turn i
  refine ⟨fun i m H' => m = ds.length - i ∧ i ≤ ds.length ∧ ∃ acc M', acc.length ≤ i ∧ MR X.kw M' H' ∧ Up H1 H' ∧ P i acc M', ⟨ds.length, by omega, Nat.zero_le _, [], _, Nat.le_refl _, r1.m.laid (m := .lst []) hL ⟨[], upd_same, .nil⟩, uL, h0⟩, ?_⟩
  rintro i m H2 ⟨rfl, hi, acc, M2, ha, m2, u2, p2⟩
  have kp := hk i acc M2 hi p2
  have r2 : Rel X.kw σ H2 δ M2 := r1.mk' u2 m2
  by_cases hlt : i < ds.length
  · refine .inr ⟨ok.go i H2 M2 u2 hlt m2 kp, fun H' => ∃ acc M', acc.length ≤ i + 1 ∧ MR X.kw M' H' ∧ Up H1 H' ∧ P (i + 1) acc M', fun H' z => ⟨ds.length - (i + 1), by omega, rfl, hlt, z⟩, fun x H3 y => ?_⟩
    obtain ⟨d, ed, rx, m3, u3, _⟩ := ok.yld i H2 M2 x H3 u2 hlt m2 kp y
    have r3 : Rel X.kw (wipe σ vs) H3 (wipeM δ vs) M2 := ⟨(r2.s.up u3).wipe vs, m3⟩
    refine kg _ H3 _ M2 x d _ _ r3 rx (ht i d acc M2 ed ha p2) fun σ4 δ4 H4 M4 s4 r4 u4 q4 => ⟨s4.wipe, ?_⟩
    refine kt σ4 H4 δ4 M4 _ _ r4 q4 fun b H5 M5 r5 u5 q5 => ?_
    have u : Up H1 H5 := ((u2.trans u3).trans u4).trans u5
    cases b with
    | false => exact ⟨acc, M5, by omega, r5.m, u, q5⟩
    | true =>
      refine ke σ4 H5 δ4 M5 _ _ r5 q5 fun v d' H6 M6 rv r6 u6 ⟨eL, q6⟩ => ?_
      obtain ⟨xs, hx, rr⟩ := r6.m L _ eL
      obtain ⟨m', u'⟩ := wrote_of r6.m eL (rr.append (.cons rv .nil))
      have hsz : acc.length < sizeLine := by omega
      exact ⟨xs, hx, by rw [rr.length]; exact hsz, acc ++ [d'], _, by simp; exact ha, m', (u.trans u6).trans u', q6⟩
  · have e : i = ds.length := by omega
    subst e
    exact .inl ⟨ok.stop H2 M2 u2 m2 kp, k _ _ H2 M2 (rp_ref.mpr rfl) r2 (u1.trans u2) (hd acc M2 ha p2)⟩
/-! the readings that lean on data alone -/
def canE (K : Kw) (m : ME) : TE := fun σ H R => ∃ δ M Q, Rel K σ H δ M ∧ m δ M Q ∧ ∀ v d H' M', Rp K H' d v → Rel K σ H' δ M' → Up H H' → Q d M' → R v H'
def canT (K : Kw) (m : MT) : TT := fun σ H R => ∃ δ M Q, Rel K σ H δ M ∧ m δ M Q ∧ ∀ b H' M', Rel K σ H' δ M' → Up H H' → Q b M' → R b H'
def canG (K : Kw) (g : MG) (wr : List Nat) : TG := fun v σ H R => ∃ δ M d Q, Rel K σ H δ M ∧ Rp K H d v ∧ g d δ M Q ∧ ∀ σ' δ' H' M', Sm wr σ σ' → Rel K σ' H' δ' M' → Up H H' → Q δ' M' → R σ' H'
theorem JE.can {m : ME} (h : JE X e m) : PE X e (canE X.kw m) := let ⟨_, p, k⟩ := h; ⟨fun pins s σ H R I ⟨δ, M, Q, rl, q, kk⟩ => p.run pins s σ H R I (k σ H δ M Q R rl q kk)⟩
theorem JTs.can {m : MT} (h : JTs X es m) : PTs X es (canT X.kw m) := let ⟨_, p, k⟩ := h; ⟨fun pins s σ H R I ⟨δ, M, Q, rl, q, kk⟩ => p.run pins s σ H R I (k σ H δ M Q R rl q kk)⟩
theorem JG.can {g : MG} {wr : List Nat} (h : JG X tg g wr) : PG X tg (canG X.kw g wr) := let ⟨_, p, k⟩ := h; ⟨fun pins s σ H v u R I rv ⟨δ, M, d, Q, rl, rd, q, kk⟩ => p.run pins s σ H v u R I rv (k σ H δ M v d Q R rl rd q kk)⟩
theorem jlc {scope : Scope} {own : List (Str × Nat)} {mi : MI} {g : MG} {me : ME} {wr : List Nat} (hN : X.N.Nodup) (ok : BlkOk X.N X.env.scope scope own) (hi : JI X tg iter mi)
    (hw : ∀ j ∈ wr, j ∈ own.map (·.2)) (hg : ∀ (s : Shared) (H : Hp) (C : Addr) (cl : List (Str × Addr)) (fp : List Addr), JG (X.blk s H scope (compEnvC scope cl C X.env) fp) tg g wr)
    (ht : ∀ (s : Shared) (H : Hp) (C : Addr) (cl : List (Str × Addr)) (fp : List Addr), JTs (X.blk s H scope (compEnvC scope cl C X.env) fp) ifs mt)
    (he : ∀ (s : Shared) (H : Hp) (C : Addr) (cl : List (Str × Addr)) (fp : List Addr), JE (X.blk s H scope (compEnvC scope cl C X.env) fp) elt me)
    (hc : X.calm = true := by rfl) (hs : ∀ x, foldedSetIterable iter X.env x = pure x := by intro _; rfl) : JE X (.ListComp elt [⟨tg, iter, ifs, 0⟩] scope pos) (mLc mi g mt me (own.map (·.2))) := by
  obtain ⟨_, p0, k0⟩ := hi
  exact ⟨_, pe_lc (g := canG X.kw g wr) (tt := canT X.kw mt) (te := canE X.kw me) hc hN p0 ok (fun s H C cl fp => (hg s H C cl fp).can) (fun s H C cl fp => (ht s H C cl fp).can) (fun s H C cl fp => (he s H C cl fp).can) hs,
    lc_of k0 (fun σ H δ M v d Q R rl rv q k => ⟨δ, M, d, Q, rl, rv, q, fun σ' δ' H' M' s => k σ' δ' H' M' (s.mono hw)⟩) (fun σ H δ M Q R rl q k => ⟨δ, M, Q, rl, q, k⟩) (fun σ H δ M Q R rl q k => ⟨δ, M, Q, rl, q, k⟩)⟩
/-- y = [.. for ..] on one line, y a local -/
theorem js_setlc (i : Nat) {y : Str} {py spos : Pos} {scope : Scope} {own : List (Str × Nat)} {mi : MI} {g : MG} {me : ME} {wr : List Nat} (hN : X.N.Nodup) (hsw : swapsWith (.ListComp elt [⟨tg, iter, ifs, 0⟩] scope pos) (some (.Name y py)) spos.line X.env = pure true) (ok : BlkOk X.N X.env.scope scope own) (hi : JI X tg iter mi)
    (hw : ∀ j ∈ wr, j ∈ own.map (·.2)) (hg : ∀ (s : Shared) (H : Hp) (C : Addr) (cl : List (Str × Addr)) (fp : List Addr), JG (X.blk s H scope (compEnvC scope cl C X.env) fp) tg g wr)
    (ht : ∀ (s : Shared) (H : Hp) (C : Addr) (cl : List (Str × Addr)) (fp : List Addr), JTs (X.blk s H scope (compEnvC scope cl C X.env) fp) ifs mt)
    (he : ∀ (s : Shared) (H : Hp) (C : Addr) (cl : List (Str × Addr)) (fp : List Addr), JE (X.blk s H scope (compEnvC scope cl C X.env) fp) elt me)
    (hy : X.N[i]? = some y := by rfl) (hyl : X.env.scope.names.lookup y = some .local := by rfl) (hc : X.calm = true := by rfl) (hs : ∀ x, foldedSetIterable iter X.env x = pure x := by intro _; rfl) :
    JS X (.Assign [.Name y py] (.ListComp elt [⟨tg, iter, ifs, 0⟩] scope pos) spos) (mAsg (mLc mi g mt me (own.map (·.2))) (gN i)) := by
  obtain ⟨_, p0, k0⟩ := hi
  refine ⟨_, ps_setLc (g := canG X.kw g wr) (tt := canT X.kw mt) (te := canE X.kw me) hc hN hy hyl hsw p0 ok (fun s H C cl fp => (hg s H C cl fp).can) (fun s H C cl fp => (ht s H C cl fp).can) (fun s H C cl fp => (he s H C cl fp).can) hs, fun σ H δ M E F rl q r => ?_⟩
  exact lc_of k0 (fun σ H δ M v d Q R rl rv q k => ⟨δ, M, d, Q, rl, rv, q, fun σ' δ' H' M' s => k σ' δ' H' M' (s.mono hw)⟩) (fun σ H δ M Q R rl q k => ⟨δ, M, Q, rl, q, k⟩) (fun σ H δ M Q R rl q k => ⟨δ, M, Q, rl, q, k⟩) σ H δ M _ _ rl q
    fun v d H' M' rv rl' u q' => r.nx _ _ H' M' ⟨rl'.s.set rv i, rl'.m⟩ u q'

/-! ### a def keeps its promise -/
def startD (N : List Str) (ds : List D) : Fr := ds.map some ++ List.replicate (N.length - ds.length) none
theorem start_rel {K : Kw} {H : Hp} {N : List Str} {ds : List D} {vs : List V} (h : RpL K H ds vs) : SR K H (L2.start N vs) (startD N ds) := by
  have l := h.length
  refine ⟨by unfold L2.start startD; simp [l], fun i d e => ?_⟩
  unfold startD at e
  unfold L2.start
  by_cases hi : i < ds.length
  · rw [List.getElem?_append_left (by simpa using hi), List.getElem?_map] at e
    rw [List.getElem?_append_left (by simp [l]; exact hi), List.getElem?_map]
    cases q : ds[i]? with
    | none => rw [q] at e; cases e
    | some d' =>
      rw [q] at e
      cases e
      obtain ⟨v, ev, rv⟩ := h.get q
      exact ⟨v, by rw [ev]; rfl, rv⟩
  · rw [List.getElem?_append_right (by simpa using hi)] at e
    rw [List.getElem?_replicate] at e
    split at e <;> cases e
end
/-- what a def's term is made for -/
abbrev BodyOk (P : Program) (w : World) (K : PySem.W.Frag) (mg : Str → Option Value) (base : Heap) (N : List Str) (k : Nat) (d : He.DefD) (ms : MS) : Prop :=
  ∀ (cdv : Value) (A : Around) (outer : List Env) (s : Shared) (H : Hp) (f : Addr) (E : XK), Room k (A.deeper (envOfC d.qual d.scope s.heap.objs.size f cdv)) → JB (cxOf CX0 P w K mg base N d.qual d.scope f cdv A outer s H E).nox d.body ms
theorem fn_ok {P : Program} {w : World} {K : PySem.W.Frag} {mg : Str → Option Value} {base : Heap} {d : He.DefD} {fd : FuncData} {N ps : List Str} {k : Nat} {sp : MSp} {ms : MS} (F : FunD K d.name d.qual d.params d.body d.scope [] [] (He.fAd K d.at_) fd) (S : FnScope N ps d.scope)
    (J : BodyOk P w K mg base N k d ms) (h : ∀ ds M Q, ds.length = ps.length → sp ds M Q mx0 → ms ⟨fun _ M' => Q .non M', Q, fun _ _ => False, fun _ _ => False⟩ (startD N ds) M)
    (hx : ∀ ds M Q Em, sp ds M Q Em → sp ds M Q mx0 := by exact fun _ _ _ _ z => z) : FnOk P w K mg base CX0 (k + 1) (He.fAd K d.at_) fd ps (lift ⟨K, P, w⟩ ps.length sp) := by
  refine F.ok S (fun vs H Q E q => q.1) fun cdv A outer s H vs Q E hr hsp => ?_
  obtain ⟨el, ds, M, Qm, Em, rs, m, q, kk, _⟩ := hsp
  obtain ⟨t, p, kt⟩ := J cdv A outer s H (He.fAd K d.at_) E hr
  refine ⟨t, PSs.nox p, kt _ H (startD N ds) M _ _ ⟨start_rel rs, m⟩ (h ds M Qm (by rw [← rs.length]; exact el) (hx _ _ _ _ q)) ⟨?_, ?_, ?_, ?_⟩⟩
  · exact fun σ δ H' M' rl u q => kk _ _ H' M' (rp_non.mpr rfl) rl.m u q
  · exact fun v d H' M' rv m' u q => kk v d H' M' rv m' u q
  · exact fun _ _ _ _ _ _ z => z.elim
  · exact fun _ _ _ _ _ _ z => z.elim
theorem fn_by {P : Program} {w : World} {K : PySem.W.Frag} {mg : Str → Option Value} {base : Heap} {d : He.DefD} {fd : FuncData} {N ps : List Str} {k : Nat} {sp : MSp} {ms : MS} (F : FunD K d.name d.qual d.params d.body d.scope [] [] (He.fAd K d.at_) fd) (S : FnScope N ps d.scope)
    (hm : mg d.name = some (.ref (He.fAd K d.at_))) (hb : ∀ (kV doc pm : Value) (an : Option Addr) (cdv ct : Value) (us : List Value), us.length = ps.length → bindArgs (PySem.W.fnOf d.name d.qual d.params d.body d.scope .none kV doc pm an cdv ct) ⟨us, []⟩ = pure (ps.zip us))
    (J : BodyOk P w K mg base N k d ms) (h : ∀ ds M Q, ds.length = ps.length → sp ds M Q mx0 → ms ⟨fun _ M' => Q .non M', Q, fun _ _ => False, fun _ _ => False⟩ (startD N ds) M)
    (hx : ∀ ds M Q Em, sp ds M Q Em → sp ds M Q mx0 := by exact fun _ _ _ _ z => z) : Fn P w K mg base CX0 (k + 1) d.name ps.length sp :=
  ⟨_, fd, ps, fn_ok F S J h hx, hm, F.kp, F.bindsN hb⟩
end MM

namespace MM
open PySem PySem.Spec PyProof.Rows L2
/-! ### small things for terms -/
theorem hu1 {k : Nat} {A : Around} (r : Room k A) : A.units + 1 < cLine := by have := r.un; omega
theorem hu64 {k : Nat} {A : Around} (r : Room k A) : A.units + 64 < cLine := by have := r.un; omega
theorem hu65 {k : Nat} {A : Around} (r : Room k A) : A.units + 65 < cLine := by have := r.un; omega
/-! ### what simp may use -/
@[simp] theorem ex2 {α β : Type} {a : α} {b : β} {p : α → β → Prop} : (∃ x y, (a = x ∧ b = y) ∧ p x y) ↔ p a b :=
  ⟨fun ⟨_, _, ⟨e1, e2⟩, h⟩ => by subst e1; subst e2; exact h, fun h => ⟨a, b, ⟨rfl, rfl⟩, h⟩⟩
@[simp] theorem ex3 {α β γ : Type} {a : α} {b : β} {c : γ} {p : α → β → γ → Prop} : (∃ x y z, (a = x ∧ b = y ∧ c = z) ∧ p x y z) ↔ p a b c :=
  ⟨fun ⟨_, _, _, ⟨e1, e2, e3⟩, h⟩ => by subst e1; subst e2; subst e3; exact h, fun h => ⟨a, b, c, ⟨rfl, rfl, rfl⟩, h⟩⟩
section
variable {δ : Fr} {M : MH} {Q : MQ} {E : MEnds} {x y : D} {ds es : List D} {i j : Int}
@[simp] theorem mV_eq {n : Nat} : mV n δ M Q = ∃ d, δ[n]? = some (some d) ∧ Q d M := rfl
@[simp] theorem mC_eq : mC x δ M Q = Q x M := rfl
@[simp] theorem m2_eq {r : MR2} {a b : ME} : m2 r a b δ M Q = a δ M fun x M1 => b δ M1 fun y M2 => r x y M2 Q := rfl
@[simp] theorem m1_eq {r : MR1} {a : ME} : m1 r a δ M Q = a δ M fun x M1 => r x M1 Q := rfl
@[simp] theorem mTs_eq {m : ME} {Q : Bool → MH → Prop} : mTs m δ M Q = m δ M fun x M1 => ∃ k, x = .bl k ∧ Q k M1 := rfl
@[simp] theorem mAnd_eq {t u : MT} {Q : Bool → MH → Prop} : mAnd t u δ M Q = t δ M fun c M1 => if c = true then u δ M1 Q else Q false M1 := rfl
@[simp] theorem mOr_eq {t u : MT} {Q : Bool → MH → Prop} : mOr t u δ M Q = t δ M fun c M1 => if c = true then Q true M1 else u δ M1 Q := rfl
@[simp] theorem mNot_eq {t : MT} {Q : Bool → MH → Prop} : mNot t δ M Q = t δ M fun c M1 => Q (!c) M1 := rfl
@[simp] theorem mAndV_eq {a b : ME} : mAndV a b δ M Q = a δ M fun x M1 => ∃ c, x = .bl c ∧ if c = true then b δ M1 Q else Q (.bl false) M1 := rfl
@[simp] theorem mOrV_eq {a b : ME} : mOrV a b δ M Q = a δ M fun x M1 => ∃ c, x = .bl c ∧ if c = true then Q (.bl true) M1 else b δ M1 Q := rfl
@[simp] theorem mNotV_eq {a : ME} : mNotV a δ M Q = a δ M fun x M1 => ∃ c, x = .bl c ∧ Q (.bl (!c)) M1 := rfl
@[simp] theorem mIf_eq {t : MT} {a b : ME} : mIf t a b δ M Q = t δ M fun c M1 => if c = true then a δ M1 Q else b δ M1 Q := rfl
@[simp] theorem maN_eq {Q : List D → MH → Prop} : maN δ M Q = Q [] M := rfl
@[simp] theorem maC_eq {a : ME} {r : MA} {Q : List D → MH → Prop} : maC a r δ M Q = a δ M fun x M1 => r δ M1 fun xs M2 => Q (x :: xs) M2 := rfl
theorem le_size {n : Nat} (h : n ≤ 1000) : n ≤ sizeLine := by have := sizeLine_eq; omega
theorem lt_size {n : Nat} (h : n ≤ 1000000) : n < sizeLine := by have := sizeLine_eq; omega
@[simp] theorem mTup_eq {a : MA} : mTup a δ M Q = a δ M fun ds M1 => ds.length ≤ sizeLine ∧ Q (.tup ds) M1 := rfl
@[simp] theorem mLst_eq {a : MA} : mLst a δ M Q = a δ M fun ds M1 => ds.length ≤ sizeLine ∧ ∀ p, M1 p = none → Q (.ref p) (ud M1 p (.lst ds)) := rfl
@[simp] theorem sz0 : 0 ≤ sizeLine := Nat.zero_le _
@[simp] theorem sz1 : 1 ≤ sizeLine := le_size (by omega)
@[simp] theorem sz2 : 2 ≤ sizeLine := le_size (by omega)
@[simp] theorem sz3 : 3 ≤ sizeLine := le_size (by omega)
@[simp] theorem sz4 : 4 ≤ sizeLine := le_size (by omega)
@[simp] theorem sz5 : 5 ≤ sizeLine := le_size (by omega)
@[simp] theorem mCall_eq {n : Nat} {sp : MSp} {a : MA} : mCall n sp a δ M Q = a δ M fun ds M1 => ds.length = n ∧ sp ds M1 Q mx0 := rfl
@[simp] theorem mB_eq {r : MR0} {a : MA} : mB r a δ M Q = a δ M fun ds M1 => r ds M1 Q := rfl
@[simp] theorem mDct_eq : mDct δ M Q = ∀ p, M p = none → Q (.ref p) (ud M p (.dic [])) := rfl
@[simp] theorem mNext_eq : mNext E δ M = E.nx δ M := rfl
@[simp] theorem mSeq_eq {t u : MS} : mSeq t u E δ M = t { E with nx := u E } δ M := rfl
@[simp] theorem mBrk_eq : mBrk E δ M = E.bk δ M := rfl
@[simp] theorem mCnt_eq : mCnt E δ M = E.ct δ M := rfl
@[simp] theorem mNever_eq : mNever E δ M = False := rfl
@[simp] theorem mDrop_eq {m : ME} : mDrop m E δ M = m δ M fun _ M1 => E.nx δ M1 := rfl
@[simp] theorem mRet_eq {m : ME} : mRet m E δ M = m δ M E.rt := rfl
@[simp] theorem mRetN_eq : mRetN E δ M = E.rt .non M := rfl
@[simp] theorem mIte_eq {t : MT} {u v : MS} : mIte t u v E δ M = t δ M fun b M1 => if b = true then u E δ M1 else v E δ M1 := rfl
@[simp] theorem mAsg_eq {m : ME} {g : MG} : mAsg m g E δ M = m δ M fun d M1 => g d δ M1 E.nx := rfl
@[simp] theorem gN_eq {i : Nat} {Q : Fr → MH → Prop} : gN i x δ M Q = Q (δ.set i (some x)) M := rfl
theorem gsN_eq {Q : Fr → MH → Prop} : gsN ds δ M Q = (ds = [] ∧ Q δ M) := rfl
theorem gsC_eq {g : MG} {gs : MGs} {Q : Fr → MH → Prop} : gsC g gs ds δ M Q = ∃ d r, ds = d :: r ∧ g d δ M fun δ' M' => gs r δ' M' Q := rfl
theorem gT_eq {n : Nat} {gs : MGs} {Q : Fr → MH → Prop} : gT n gs x δ M Q = ∃ ds, x = .tup ds ∧ ds.length = n ∧ gs ds δ M Q := rfl
@[simp] theorem mPar_eq {i j : Nat} {m : MA} : mPar i j m E δ M = m δ M fun ds M1 => ∃ d d', ds = [d, d'] ∧ E.nx ((δ.set i (some d)).set j (some d')) M1 := rfl
def oSetL (z x y : D) (M : MH) (Q : MH → Prop) : Prop := ∃ p es k j, x = .ref p ∧ y = .int k ∧ M p = some (.lst es) ∧ ixN es.length k = some j ∧ Q (ud M p (.lst (es.set j z)))
@[simp] theorem mSubL_eq {mv mo mi : ME} : mSubL mv mo mi E δ M = mv δ M fun z M1 => mo δ M1 fun x M2 => mi δ M2 fun y M3 => oSetL z x y M3 (E.nx δ) := rfl
theorem oSetL_nat {p : Addr} {n : Nat} {z : D} {Q : MH → Prop} (h : M p = some (.lst es)) (hn : n < es.length) (q : Q (ud M p (.lst (es.set n z)))) : oSetL z (.ref p) (.int n) M Q :=
  ⟨p, es, n, n, rfl, rfl, h, by unfold ixN; rw [if_pos (by omega), if_pos (by omega)]; simp, q⟩
def oSetD (z x y : D) (M : MH) (Q : MH → Prop) : Prop := ∃ p kvs k, x = .ref p ∧ y = kD k ∧ M p = some (.dic kvs) ∧ kvs.length < sizeLine ∧ Q (ud M p (.dic (ptD kvs k z)))
@[simp] theorem mSubD_eq {mv mo mi : ME} : mSubD mv mo mi E δ M = mv δ M fun z M1 => mo δ M1 fun x M2 => mi δ M2 fun y M3 => oSetD z x y M3 (E.nx δ) := rfl
theorem oSetD_int {p : Addr} {i : Int} {z : D} {kvs : List (Key × D)} {Q : MH → Prop} (h : M p = some (.dic kvs)) (hn : kvs.length < sizeLine) (q : Q (ud M p (.dic (ptD kvs (.inl i) z)))) : oSetD z (.ref p) (.int i) M Q :=
  ⟨p, kvs, .inl i, rfl, rfl, h, hn, q⟩
@[simp] theorem rInt0_eq {g : Int → Int → D} : rInt0 g (.int i) (.int j) M Q = Q (g i j) M := by simp [rInt0]
@[simp] theorem rInt_eq {C : Int → Int → Prop} {g : Int → Int → D} : rInt C g (.int i) (.int j) M Q = (C i j ∧ Q (g i j) M) := by simp [rInt]
@[simp] theorem oNeg_eq : oNeg (.int i) M Q = Q (.int (-i)) M := by simp [oNeg]
/-! equality of data -/
@[simp] theorem eqD_int : eqD (.int i) (.int j) = decide (i = j) := by simp [eqD, toP, PyData.eqv, Bool.beq_eq_decide_eq]
@[simp] theorem eqD_bl {b c : Bool} : eqD (.bl b) (.bl c) = (b == c) := by simp [eqD, toP, PyData.eqv]
@[simp] theorem eqD_str {b c : Str} : eqD (.str b) (.str c) = (b == c) := by simp [eqD, toP, PyData.eqv]
@[simp] theorem eqD_tup : eqD (.tup ds) (.tup es) = eqL ds es := by simp [eqD, eqL, toP, PyData.eqv]
@[simp] theorem eqD_non : eqD .non .non = true := by simp [eqD, toP, PyData.eqv]
@[simp] theorem eqL_nil : eqL [] [] = true := by simp [eqL, toPs, PyData.eqvAll]
@[simp] theorem eqL_cons : eqL (x :: ds) (y :: es) = (eqD x y && eqL ds es) := by simp [eqL, eqD, toPs, PyData.eqvAll]
@[simp] theorem eqL_nc : eqL [] (y :: es) = false := by simp [eqL, toPs, PyData.eqvAll]
@[simp] theorem eqL_cn : eqL (x :: ds) [] = false := by simp [eqL, toPs, PyData.eqvAll]
@[simp] theorem fit_int : fitD (.int i) := ⟨by simp [pur], by simp [dep]⟩
@[simp] theorem fit_bl {b : Bool} : fitD (.bl b) := ⟨by simp [pur], by simp [dep]⟩
@[simp] theorem fit_non : fitD .non := ⟨by simp [pur], by simp [dep]⟩
theorem oEqF_fit {f : Bool → Bool} (h1 : fitD x) (h2 : fitD y) (hr : ∀ a, x ≠ .ref a) : oEqF f x y M Q = Q (.bl (f (eqD x y))) M := by
  unfold oEqF
  refine propext ⟨fun h => ?_, fun h => .inl ⟨h1, h2, h⟩⟩
  rcases h with ⟨_, _, h⟩ | ⟨a, b, _, _, e, _⟩
  · exact h
  · exact absurd e (hr a)
@[simp] theorem oEqF_int {f : Bool → Bool} : oEqF f (.int i) (.int j) M Q = Q (.bl (f (decide (i = j)))) M := by
  rw [oEqF_fit fit_int fit_int (by simp), eqD_int]
@[simp] theorem oIsF_eq {f : Bool → Bool} : oIsF f x .non M Q = Q (.bl (f (isN x))) M := by simp [oIsF]
@[simp] theorem isN_non : isN .non = true := rfl
@[simp] theorem isN_int : isN (.int i) = false := rfl
@[simp] theorem isN_tup : isN (.tup ds) = false := rfl
@[simp] theorem isN_str {s : Str} : isN (.str s) = false := rfl
@[simp] theorem isN_ref {s : Addr} : isN (.ref s) = false := rfl
/-! items -/
theorem oIx_tup : oIx (.tup ds) (.int i) M Q = ∃ d, atI ds i = some d ∧ Q d M := by simp [oIx]
@[simp] theorem at0 {α : Type} {x : α} {l : List α} : atI (x :: l) 0 = some x := atI_nat (j := 0) rfl
@[simp] theorem at1 {α : Type} {x y : α} {l : List α} : atI (x :: y :: l) 1 = some y := atI_nat (j := 1) rfl
@[simp] theorem at2 {α : Type} {x y z : α} {l : List α} : atI (x :: y :: z :: l) 2 = some z := atI_nat (j := 2) rfl
@[simp] theorem at3 {α : Type} {x y z w : α} {l : List α} : atI (x :: y :: z :: w :: l) 3 = some w := atI_nat (j := 3) rfl
@[simp] theorem oIx0 {l : List D} : oIx (.tup (x :: l)) (.int 0) M Q = Q x M := by simp [oIx_tup]
@[simp] theorem oIx1 {l : List D} {z : D} : oIx (.tup (z :: x :: l)) (.int 1) M Q = Q x M := by simp [oIx_tup]
@[simp] theorem oIx2 {l : List D} {z w : D} : oIx (.tup (z :: w :: x :: l)) (.int 2) M Q = Q x M := by simp [oIx_tup]
@[simp] theorem oIx3 {l : List D} {z w v : D} : oIx (.tup (z :: w :: v :: x :: l)) (.int 3) M Q = Q x M := by simp [oIx_tup]
theorem oIx_nat {n : Nat} {d : D} (h : ds[n]? = some d) (q : Q d M) : oIx (.tup ds) (.int n) M Q := by
  rw [oIx_tup]; exact ⟨d, atI_nat h, q⟩
theorem oIx_ref {p : Addr} {n : Nat} {d : D} (hl : M p = some (.lst ds) ∨ M p = some (.rol ds)) (h : ds[n]? = some d) (q : Q d M) : oIx (.ref p) (.int n) M Q := by
  show ∃ ds i d, _ ∧ _ ∧ _ ∧ _
  exact ⟨ds, n, d, hl, rfl, atI_nat h, q⟩
@[simp] theorem bLen_tup : bLen [.tup ds] M Q = Q (.int ds.length) M := rfl
@[simp] theorem bInt_int : bInt [.int i] M Q = Q (.int i) M := rfl
@[simp] theorem bInt_bl {b : Bool} : bInt [.bl b] M Q = Q (.int (if b then 1 else 0)) M := rfl
@[simp] theorem bTup_tup : bTup [.tup ds] M Q = Q (.tup ds) M := rfl
@[simp] theorem bAbs_eq : bAbs [.int i] M Q = Q (.int (if i < 0 then -i else i)) M := by simp [bAbs]
@[simp] theorem bMax_eq : bMax [.int i, .int j] M Q = Q (.int (max i j)) M := by simp [bMax]
@[simp] theorem bMin_eq : bMin [.int i, .int j] M Q = Q (.int (min i j)) M := by simp [bMin]
/-- what is wanted of a body that ends so -/
abbrev ends (Q : MQ) : MEnds := ⟨fun _ M' => Q .non M', Q, fun _ _ => False, fun _ _ => False⟩
end
theorem gsC_cons {g : MG} {gs : MGs} {d : D} {r : List D} {δ : Fr} {M : MH} {Q : Fr → MH → Prop} : gsC g gs (d :: r) δ M Q = g d δ M fun δ' M' => gs r δ' M' Q :=
  propext ⟨fun ⟨_, _, e, h⟩ => by cases e; exact h, fun h => ⟨d, r, rfl, h⟩⟩
theorem gsN_nil {δ : Fr} {M : MH} {Q : Fr → MH → Prop} : gsN [] δ M Q = Q δ M := propext ⟨And.right, fun h => ⟨rfl, h⟩⟩
theorem gT_tup {n : Nat} {gs : MGs} {ds : List D} (h : ds.length = n) {δ : Fr} {M : MH} {Q : Fr → MH → Prop} : gT n gs (.tup ds) δ M Q = gs ds δ M Q :=
  propext ⟨fun ⟨_, e, _, q⟩ => by cases e; exact q, fun q => ⟨ds, rfl, h, q⟩⟩
@[simp high] theorem gT2 {g g' : MG} {x y : D} {δ : Fr} {M : MH} {Q : Fr → MH → Prop} : gT 2 (gsC g (gsC g' gsN)) (.tup [x, y]) δ M Q = g x δ M fun δ1 M1 => g' y δ1 M1 Q := by
  rw [gT_tup (n := 2) (ds := [x, y]) rfl, gsC_cons]; simp only [gsC_cons, gsN_nil]
@[simp high] theorem gT4 {g g' g'' g3 : MG} {x y z w : D} {δ : Fr} {M : MH} {Q : Fr → MH → Prop} : gT 4 (gsC g (gsC g' (gsC g'' (gsC g3 gsN)))) (.tup [x, y, z, w]) δ M Q = g x δ M fun δ1 M1 => g' y δ1 M1 fun δ2 M2 => g'' z δ2 M2 fun δ3 M3 => g3 w δ3 M3 Q := by
  rw [gT_tup (n := 4) (ds := [x, y, z, w]) rfl, gsC_cons]; simp only [gsC_cons, gsN_nil]
@[simp high] theorem gT3 {g g' g'' : MG} {x y z : D} {δ : Fr} {M : MH} {Q : Fr → MH → Prop} : gT 3 (gsC g (gsC g' (gsC g'' gsN))) (.tup [x, y, z]) δ M Q = g x δ M fun δ1 M1 => g' y δ1 M1 fun δ2 M2 => g'' z δ2 M2 Q := by
  rw [gT_tup (n := 3) (ds := [x, y, z]) rfl, gsC_cons]; simp only [gsC_cons, gsN_nil]
end MM

namespace MM
open PySem PySem.Spec PyProof.Rows L2
/-! ### dicts whose keys are tuples of any depth -/
theorem room8 {P : Program} {w : World} {A : Around} (hu : A.units + 64 < cLine) : (nestedKind P w).room A.in1 := by
  show A.units + 1 + 8 < cLine
  omega
section
variable {X : Cx} {pins : List (Addr × Obj)} {σ : L2.St} {H : Hp} {M : MH} {s : Shared}
mutual
theorem nested_is (I : Inv X pins σ H s) : ∀ {d : D} {v : V} {u : Value} {k : NestedKey}, Rp X.kw H d v → RelV v u → nkD d = some k → NestedIs s.heap k u
  | .non, v, u, k, r, q, e => by
    rw [rp_non.mp r] at q
    unfold nkD at e; cases e
    cases (show u = Value.none from q)
    exact .none
  | .bl b, v, u, k, r, q, e => by
    rw [rp_bl.mp r] at q
    unfold nkD at e; cases e
    cases (show u = Value.bool b from q)
    exact .bool rfl
  | .int i, v, u, k, r, q, e => by
    rw [rp_int.mp r] at q
    unfold nkD at e; cases e
    obtain ⟨t, rfl⟩ := (show ∃ t, u = Value.int i t from q)
    exact .int i t
  | .str x, v, u, k, r, q, e => by
    rw [rp_str.mp r] at q
    unfold nkD at e; cases e
    obtain ⟨t, rfl⟩ := (show ∃ t, u = Value.str x t from q)
    exact .text x t
  | .tup ds, v, u, k, r, q, e => by
    obtain ⟨a, xs, rfl, sq, rr⟩ := rp_tup.mp r
    cases (show u = Value.ref a from q)
    unfold nkD at e
    cases h : nkL ds with
    | none => rw [h] at e; cases e
    | some ks =>
      rw [h] at e; cases e
      obtain ⟨its, rv, ⟨o, h1, h2, n, h3⟩, hz⟩ := I.tuple sq
      exact .tup h1 h2 h3 (by simpa using nested_all I rr rv h)
  | .ref _, v, u, k, r, q, e => by unfold nkD at e; cases e
  | .ty _, v, u, k, r, q, e => by unfold nkD at e; cases e
  | .kl _, v, u, k, r, q, e => by unfold nkD at e; cases e
theorem nested_all (I : Inv X pins σ H s) : ∀ {ds : List D} {vs : List V} {us : List Value} {ks : List NestedKey}, RpL X.kw H ds vs → Vals vs us → nkL ds = some ks → NestedAll s.heap ks us
  | [], vs, us, ks, r, q, e => by
    unfold RpL at r; subst r
    unfold nkL at e; cases e
    cases q
    exact .nil
  | d :: ds, vs, us, ks, r, q, e => by
    unfold RpL at r
    obtain ⟨y, ys, rfl, r1, r2⟩ := r
    unfold nkL at e
    cases h1 : nkD d with
    | none => rw [h1] at e; cases e
    | some k =>
      cases h2 : nkL ds with
      | none => rw [h1, h2] at e; cases e
      | some ks' =>
        rw [h1, h2] at e; cases e
        cases q with
        | cons q1 q2 => exact .cons (nested_is I r1 q1 h1) (nested_all I r2 q2 h2)
end
theorem is_key (I : Inv X pins σ H s) {d : D} {b : Addr} {k : NestedKey} (r : Rp X.kw H d (.ref b)) (e : nkD d = some k) (hd : k.depth ≤ 8) : (nestedKind X.prog X.w).is s.heap k b := ⟨nested_is I r rfl e, hd⟩
def lkN (kvs : List (D × D)) (k : NestedKey) : Option D := (kvs.find? fun kv => decide (nkD kv.1 = some k)).map (·.2)
def ptN (kvs : List (D × D)) (d : D) (k : NestedKey) (z : D) : List (D × D) := if (lkN kvs k).isSome then kvs.map (fun kv => if nkD kv.1 = some k then (kv.1, z) else kv) else kvs ++ [(d, z)]
def ptE (es : List NE) (b : Addr) (k : NestedKey) (v : V) : List NE := if es.any (fun q => decide (q.1 = k)) = true then es.map (fun q => if q.1 = k then (q.1, q.2.1, v) else q) else es ++ [(k, b, v)]
abbrev PX : List NE → List (NestedKey × Addr × Value) → Prop := Paired fun (p : NE) (q : NestedKey × Addr × Value) => p.1 = q.1 ∧ p.2.1 = q.2.1 ∧ RelV p.2.2 q.2.2
theorem prn_look {K : Kw} {k : NestedKey} : ∀ {kvs : List (D × D)} {es : List NE} {xs : List (NestedKey × Addr × Value)}, PrN K H kvs es → PX es xs →
    (∀ d, lkN kvs k = some d → ∃ b v u, atKey xs k = some (b, u) ∧ Rp K H d v ∧ RelV v u) ∧ (lkN kvs k = none → atKey xs k = none) ∧ (es.any (fun q => decide (q.1 = k)) = (lkN kvs k).isSome)
  | [], _, _, .nil, .nil => ⟨fun d h => by simp [lkN] at h, fun _ => rfl, by simp [lkN]⟩
  | p :: kvs, q :: es, x :: xs, .cons r t, .cons y z => by
    obtain ⟨i1, i2, i3⟩ := prn_look (k := k) t z
    have r1 : nkD p.1 = some q.1 := r.1
    have y1 : q.1 = x.1 := y.1
    by_cases h : q.1 = k
    · have e1 : lkN (p :: kvs) k = some p.2 := by simp [lkN, List.find?_cons, r1, h]
      have e2 : atKey (x :: xs) k = some x.2 := by simp [atKey, List.find?_cons, ← y1, h]
      rw [e1, e2]
      refine ⟨fun d e => ?_, (fun e => by cases e), by simp [h]⟩
      cases e
      exact ⟨x.2.1, q.2.2, x.2.2, rfl, r.2.2.2, y.2.2⟩
    · have hn : ¬ nkD p.1 = some k := by rw [r1]; intro e; cases e; exact h rfl
      have hx : ¬ x.1 = k := by rw [← y1]; exact h
      have e1 : lkN (p :: kvs) k = lkN kvs k := by simp [lkN, List.find?_cons, hn]
      have e2 : atKey (x :: xs) k = atKey xs k := by simp [atKey, List.find?_cons, hx]
      rw [e1, e2]
      exact ⟨i1, i2, by simp [h, i3]⟩
theorem px_map {k : NestedKey} {v : V} {u : Value} (r : RelV v u) : ∀ {es : List NE} {xs : List (NestedKey × Addr × Value)}, PX es xs → PX (es.map (fun q => if q.1 = k then (q.1, q.2.1, v) else q)) (xs.map (putAt k u))
  | _, _, .nil => .nil
  | q :: es, x :: xs, .cons y z => by
    refine .cons ?_ (px_map r z)
    have y1 : q.1 = x.1 := y.1
    by_cases h : q.1 = k
    · have e : x.1 = k := by rw [← y1, h]
      simp only [h, if_true, putAt, e]
      exact ⟨trivial, y.2.1, r⟩
    · have e : ¬ x.1 = k := by rw [← y1]; exact h
      simp only [h, if_false, putAt, e]
      exact y
theorem px_snoc {k : NestedKey} {b : Addr} {v : V} {u : Value} (r : RelV v u) : ∀ {es : List NE} {xs : List (NestedKey × Addr × Value)}, PX es xs → PX (es ++ [(k, b, v)]) (xs ++ [(k, b, u)])
  | _, _, .nil => .cons ⟨rfl, rfl, r⟩ .nil
  | _ :: _, _ :: _, .cons y z => .cons y (px_snoc r z)
theorem prn_map {K : Kw} {k : NestedKey} {z : D} {v : V} (r : Rp K H z v) : ∀ {kvs : List (D × D)} {es : List NE}, PrN K H kvs es → PrN K H (kvs.map (fun kv => if nkD kv.1 = some k then (kv.1, z) else kv)) (es.map (fun q => if q.1 = k then (q.1, q.2.1, v) else q))
  | _, _, .nil => .nil
  | p :: kvs, q :: es, .cons y t => by
    refine .cons ?_ (prn_map r t)
    have y1 : nkD p.1 = some q.1 := y.1
    by_cases h : q.1 = k
    · have e : nkD p.1 = some k := by rw [y1, h]
      simp only [h, if_true, e]
      exact ⟨trivial, h ▸ y.2.1, y.2.2.1, r⟩
    · have e : ¬ nkD p.1 = some k := by rw [y1]; intro e; cases e; exact h rfl
      simp only [h, if_false, e]
      exact y
theorem prn_snoc {K : Kw} {k : NestedKey} {b : Addr} {d z : D} {v : V} (hk : nkD d = some k) (hd : k.depth ≤ 8) (rk : Rp K H d (.ref b)) (r : Rp K H z v) : ∀ {kvs : List (D × D)} {es : List NE}, PrN K H kvs es → PrN K H (kvs ++ [(d, z)]) (es ++ [(k, b, v)])
  | _, _, .nil => .cons ⟨hk, hd, rk, r⟩ .nil
  | _ :: _, _ :: _, .cons y t => .cons y (prn_snoc hk hd rk r t)
theorem prn_put {K : Kw} {k : NestedKey} {b : Addr} {d z : D} {v : V} (hk : nkD d = some k) (hd : k.depth ≤ 8) (rk : Rp K H d (.ref b)) (r : Rp K H z v) {kvs : List (D × D)} {es : List NE} (h : PrN K H kvs es) (hs : es.any (fun q => decide (q.1 = k)) = (lkN kvs k).isSome) : PrN K H (ptN kvs d k z) (ptE es b k v) := by
  unfold ptN ptE
  rw [hs]
  split
  · exact prn_map r h
  · exact prn_snoc hk hd rk r h
/-- the library's dict behind what M tracks -/
theorem dcn_of (I : Inv X pins σ H s) (m : MR X.kw M H) {p : Addr} {kvs : List (D × D)} (e : M p = some (.dcn kvs)) : ∃ es xs, H p = some (NdO X.prog X.w p es) ∧ PrN X.kw H kvs es ∧ PX es xs ∧ s.heap.DictOfH (nestedKind X.prog X.w) p xs ∧ (p == sysModules) = false ∧ es.length ≤ sizeLine := by
  obtain ⟨es, h, r⟩ := m p _ e
  obtain ⟨⟨h1, h2, xs, px, o, ents, ep, g1, g2, g3, g4, g5⟩, _, _⟩ := (show ObjOk X.prog X.w H s.heap p (NdO X.prog X.w p es) from I.hok p _ h)
  refine ⟨es, xs, h, r, px, ⟨o, ents, ep, g1, g2, g3, g4, fun x hx => ?_, g5⟩, h1, h2⟩
  have all : ∀ {kvs : List (D × D)} {es : List NE} {xs : List (NestedKey × Addr × Value)}, PrN X.kw H kvs es → PX es xs → ∀ x ∈ xs, (nestedKind X.prog X.w).is s.heap x.1 x.2.1 := by
    intro kvs es xs a b
    induction b generalizing kvs with
    | nil => intro x hx; cases hx
    | cons y _ ih =>
      cases a with
      | cons r1 t1 =>
        intro x hx
        rcases List.mem_cons.mp hx with rfl | hx
        · rw [← y.1, ← y.2.1]
          exact is_key I r1.2.2.1 r1.1 r1.2.1
        · exact ih t1 x hx
  exact all r px x hx
/-- behind a write -/
theorem ndo_ok {P : Program} {w : World} {H' : Hp} {h' : Heap} {p : Addr} {es : List NE} {xs : List (NestedKey × Addr × Value)} (hd : (p == sysModules) = false) (hl : es.length ≤ sizeLine) (px : PX es xs) (dd : h'.DictOfH (nestedKind P w) p xs) : ObjOk P w H' h' p (NdO P w p es) := by
  obtain ⟨o, ents, ep, g1, g2, g3, g4, _, g5⟩ := dd
  refine ⟨⟨hd, hl, xs, px, o, ents, ep, g1, g2, g3, g4, g5⟩, ⟨o, g1⟩, fun h1 h2 q k => ?_⟩
  obtain ⟨a, b, xs', px', o', en', ep', q1, q2⟩ := q
  exact ⟨a, b, xs', px', o', en', ep', k _ q1, q2⟩
theorem ptE_len (es : List NE) (b : Addr) (k : NestedKey) (v : V) : (ptE es b k v).length ≤ es.length + 1 := by
  unfold ptE; split <;> simp
theorem px_put {k : NestedKey} {b : Addr} {v : V} {u : Value} (r : RelV v u) {kvs : List (D × D)} {es : List NE} {xs : List (NestedKey × Addr × Value)} {K : Kw} (h : PrN K H kvs es) (px : PX es xs) : PX (ptE es b k v) (storedH xs k b u) := by
  obtain ⟨i1, i2, i3⟩ := prn_look (k := k) h px
  unfold ptE storedH
  rw [i3]
  cases e : lkN kvs k with
  | none => rw [i2 e]; exact px_snoc r px
  | some d =>
    obtain ⟨b', v', u', e', _⟩ := i1 d e
    rw [e']; exact px_map r px
end
section
variable {X : Cx} {a b c e o f : Expr} {ma mb mc : ME} {pos pos' apos cpos : Pos}
/-- {} -/
def mDctN : ME := fun _ M Q => ∀ p, M p = none → Q (.ref p) (ud M p (.dcn []))
theorem je_dctn : JE X (.Dict [] [] pos) mDctN := by
  refine ⟨fun σ H Q => ∀ p, H p = none → Q (.ref p) (upd H p (NdO X.prog X.w p [])), ⟨fun pins s σ H Q I h => ?_⟩, fun σ H δ M Q R rl q k p hp => ?_⟩
  · have hf : H s.heap.objs.size = none := I.hok.fresh (Nat.le_refl _)
    have hne : (s.heap.objs.size == sysModules) = false := by
      have := I.big
      have ne : s.heap.objs.size ≠ sysModules := Nat.ne_of_gt this
      simpa using ne
    refine wpAny_Dict_empty ⟨.ref s.heap.objs.size, upd H s.heap.objs.size (NdO X.prog X.w s.heap.objs.size []), I.laid (t' := s.toks) (fun b u e => Heap.get?_push_of_some _ e) (Nat.le_refl _) ?_, rfl, h _ hf⟩
    exact ndo_ok hne (Nat.zero_le _) .nil (Heap.DictOfH.new s.heap)
  · have u2 : Up H (upd H p (NdO X.prog X.w p [])) := .new hp
    exact k _ _ _ _ (rp_ref.mpr rfl) (rl.mk' u2 (rl.m.laid (m := .dcn []) hp ⟨[], upd_same, .nil⟩)) u2 (q p (rl.m.free hp))
/-- a run over the data: what is wanted of an expression's value, with all that is known there -/
theorem je_run {m : ME} (h : JE X e m) {pins : List (Addr × Obj)} {s : Shared} {σ : L2.St} {H : Hp} {δ : Fr} {M : MH} {Q : MQ} {R : Value → Shared → Prop} (I : Inv X pins σ H s) (rl : Rel X.kw σ H δ M) (q : m δ M Q)
    (k : ∀ v u d H' M' s', Inv X pins σ H' s' → RelV v u → Rp X.kw H' d v → Rel X.kw σ H' δ M' → Up H H' → Q d M' → R u s') : wpAny (model X.prog X.w) X.A (eval e X.env) R X.xe s := by
  obtain ⟨t, p, kk⟩ := h
  refine thn (p.run pins s σ H (fun v H' => ∃ d M', Rp X.kw H' d v ∧ Rel X.kw σ H' δ M' ∧ Up H H' ∧ Q d M') I (kk σ H δ M Q _ rl q fun v d H' M' a b c e => ⟨d, M', a, b, c, e⟩)) fun u s' ⟨v, H', I', rv, d, M', a, b, c, e⟩ => k v u d H' M' s' I' rv a b c e
/-- .. of what such a run makes an expression's reading -/
theorem je_of {m : ME} (h : ∀ (pins : List (Addr × Obj)) (s : Shared) (σ : L2.St) (H : Hp) (δ : Fr) (M : MH) (Q : MQ) (R : Value → Shared → Prop), Inv X pins σ H s → Rel X.kw σ H δ M → m δ M Q →
    (∀ v u d H' M' s', Inv X pins σ H' s' → RelV v u → Rp X.kw H' d v → Rel X.kw σ H' δ M' → Up H H' → Q d M' → R u s') → wpAny (model X.prog X.w) X.A (eval e X.env) R X.xe s) : JE X e m :=
  ⟨canE X.kw m, ⟨fun pins s σ H R I ⟨δ, M, Q, rl, q, kk⟩ => h pins s σ H δ M Q _ I rl q fun v u d H' M' s' I' rv rd rl' up q' => ⟨v, H', I', rv, kk v d H' M' rd rl' up q'⟩⟩, fun σ H δ M Q R rl q k => ⟨δ, M, Q, rl, q, k⟩⟩
def canS (K : Kw) (m : MS) : TS := fun F σ H => ∃ δ M E, Rel K σ H δ M ∧ m E δ M ∧ EndR K H E F
/-- .. of a statement that goes on behind itself -/
theorem js_of {st : Stmt} {m : (Fr → MH → Prop) → Fr → MH → Prop} (h : ∀ (pins : List (Addr × Obj)) (s : Shared) (σ : L2.St) (H : Hp) (δ : Fr) (M : MH) (Q : Fr → MH → Prop) (R : Flow → Shared → Prop), Inv X pins σ H s → Rel X.kw σ H δ M → m Q δ M →
    (∀ σ' δ' H' M' s', Inv X pins σ' H' s' → Rel X.kw σ' H' δ' M' → Up H H' → Q δ' M' → R .next s') → wpAny (model X.prog X.w) X.A (exec st X.env) R X.xe s) : JS X st (fun E δ M => m E.nx δ M) :=
  ⟨canS X.kw (fun E δ M => m E.nx δ M), ⟨fun pins s σ H F I ⟨δ, M, E, rl, q, kk⟩ => h pins s σ H δ M E.nx _ I rl q fun σ' δ' H' M' s' I' rl' up q' => ⟨σ', H', I', kk.nx σ' δ' H' M' rl' up q'⟩⟩, fun σ H δ M E F rl q k => ⟨δ, M, E, rl, q, k⟩⟩
/-- d[k], k a tuple -/
def mNget (ma mb : ME) : ME := fun δ M Q => ma δ M fun x M1 => mb δ M1 fun y M2 => ∃ p kvs k d ks, x = .ref p ∧ M2 p = some (.dcn kvs) ∧ y = .tup ks ∧ nkD y = some k ∧ k.depth ≤ 8 ∧ lkN kvs k = some d ∧ Q d M2
theorem tup_ref {K : Kw} {H : Hp} {ds : List D} {v : V} {u : Value} (r : Rp K H (.tup ds) v) (q : RelV v u) : ∃ b, v = .ref b ∧ u = .ref b := by
  obtain ⟨b, xs, rfl, _⟩ := rp_tup.mp r
  exact ⟨b, rfl, q⟩
theorem ref_ref {K : Kw} {H : Hp} {p : Addr} {v : V} {u : Value} (r : Rp K H (.ref p) v) (q : RelV v u) : v = .ref p ∧ u = .ref p := by
  obtain rfl := rp_ref.mp r
  exact ⟨rfl, q⟩
theorem jngetx (hu : X.A.units + 64 < cLine) (ha : JE X a ma) (hb : JE X b mb) (hs : NoSl b := by exact fun _ _ => rfl) : JE X (.Subscript a b pos) (mNget ma mb) := by
  refine je_of fun pins s σ H δ M Q R I rl q k => ?_
  refine subD_of PySem.F.slot_dict_getitem.lookup hs (je_run ha I rl q fun v u d H1 M1 s1 I1 rv rd r1 u1 q1 => je_run hb I1 r1 q1 fun v' u' d' H2 M2 s2 I2 rv' rd' r2 u2 ⟨p, kvs, ky, z, ks, e1, e2, e3, e4, e5, e6, q2⟩ => ?_)
  subst e1; subst e3
  obtain ⟨rfl, rfl⟩ := ref_ref rd rv
  obtain ⟨bb, rfl, rfl⟩ := tup_ref rd' rv'
  obtain ⟨es, xs, h1, h2, px, dd, hd, hl⟩ := dcn_of I2 r2.m e2
  obtain ⟨b', w1, u1', e7, rw1, ru1⟩ := (prn_look (k := ky) h2 px).1 z e6
  refine ⟨dd.typeIs, getItem_keyed (knd := nestedKind X.prog X.w) (room8 hu) (is_key I2 rd' e4 e5) ⟨xs, dd, rfl⟩ (v := u1') (by rw [valueAt_pairsH, e7]; rfl) ?_⟩
  exact k w1 u1' z H2 M2 _ (I2.tok _) ru1 rw1 r2 (u1.trans u2) q2
/-- d.setdefault(k, x), k a tuple -/
def mNsetd (mo ma mb : ME) : ME := fun δ M Q => mo δ M fun x M1 => (∃ p kvs, x = .ref p ∧ M1 p = some (.dcn kvs)) ∧ ma δ M1 fun y M2 => mb δ M2 fun z M3 => ∃ p kvs k ks, x = .ref p ∧ M3 p = some (.dcn kvs) ∧ y = .tup ks ∧ nkD y = some k ∧ k.depth ≤ 8 ∧ kvs.length < 1000000 ∧
  (∀ d, lkN kvs k = some d → Q d M3) ∧ (lkN kvs k = none → Q z (ud M3 p (.dcn (ptN kvs y k z))))
theorem prn_len {K : Kw} {H : Hp} {kvs : List (D × D)} {es : List NE} (h : PrN K H kvs es) : es.length = kvs.length := (Paired.length h).symm
theorem nd_write {pins : List (Addr × Obj)} {s : Shared} {σ : L2.St} {H : Hp} {δ : Fr} {M : MH} {p : Addr} {bb : Addr} {kvs : List (D × D)} {y z : D} {ky : NestedKey} {v : V} {u : Value} {es : List NE} {xs : List (NestedKey × Addr × Value)} {h' : Heap} {tk : Nat} (I : Inv X pins σ H s) (rl : Rel X.kw σ H δ M) (e2 : M p = some (.dcn kvs))
    (h1 : H p = some (NdO X.prog X.w p es)) (h2 : PrN X.kw H kvs es) (px : PX es xs) (hd : (p == sysModules) = false) (hl : es.length < sizeLine) (e4 : nkD y = some ky) (e5 : ky.depth ≤ 8) (rk : Rp X.kw H y (.ref bb)) (rz : Rp X.kw H z v) (rv : RelV v u)
    (dx : h'.DictOfH (nestedKind X.prog X.w) p (storedH xs ky bb u)) (sb : Heap.SameBut p s.heap h') :
    ∃ H', Inv X pins σ H' { s with heap := h', toks := tk } ∧ Rel X.kw σ H' δ (ud M p (.dcn (ptN kvs y ky z))) ∧ Up H H' := by
  have mu : Mut (H p) := by rw [h1]; trivial
  have i3 := (prn_look (k := ky) h2 px).2.2
  have he : ∃ q, h'.get? p = some q := let ⟨q, _, _, hq, _⟩ := dx; ⟨q, hq⟩
  refine ⟨upd H p (NdO X.prog X.w p (ptE es bb ky v)), d_write I mu sb he (ndo_ok hd (by have := ptE_len es bb ky v; omega) (px_put rv h2 px) dx), rl.mk' (.mut mu) (rl.m.wrote (m := .dcn (ptN kvs y ky z)) mu ⟨_, upd_same, ?_⟩), .mut mu⟩
  exact PrN.up (.mut mu) (prn_put e4 e5 rk rz h2 i3)
theorem jnsetd (hu : X.A.units + 64 < cLine) (ho : JE X o mc) (ha : JE X e ma) (hb : JE X f mb) (hbase : attributeBase o "setdefault" X.env (eval o X.env) = eval o X.env := by rfl)
    (hfew : ((backTo cpos (starEach [e, f] X.env)).all (fun x => !x.1) && (backToKw cpos (keywordEach [] X.env)).all (fun x => x.1.isSome) && decide (([e, f] : List Expr).length + ([] : List Keyword).length + (if ([] : List Keyword).isEmpty then 0 else 1) < 30)) = true := by rfl)
    (hline : (apos.endLine == cpos.line) = true := by rfl) (htr : backTo cpos (starEach [e, f] X.env) = [(false, eval e X.env), (false, eval f X.env)] := by rfl) : JE X (.Call (.Attribute o "setdefault" apos) [e, f] [] cpos) (mNsetd mc ma mb) := by
  refine je_of fun pins s σ H δ M Q R I rl q k => ?_
  refine wpAny_Call_method hbase hfew hline PySem.F.plainAttrs_dict PySem.F.slot_dict_setdefault PySem.F.type_dict_setdefault (je_run ho I rl q fun v u d H1 M1 s1 I1 rv rd r1 u1 ⟨⟨p, kvs, e1, e2⟩, q1⟩ => ?_)
  subst e1
  obtain ⟨rfl, rfl⟩ := ref_ref rd rv
  obtain ⟨es, xs, h1, h2, px, dd, hd, hl⟩ := dcn_of I1 r1.m e2
  refine ⟨dd.typeIs, fun c ec => ?_, ?_⟩
  · cases ec
    obtain ⟨ob, _, _, g1, g2, _⟩ := dd
    exact ⟨ob, g1, g2.2.1⟩
  rw [htr]
  refine Calls.callWith_builtin rfl (Calls.evalArgs_plain (Calls.spliced_cons (je_run ha I1 r1 q1 fun v' u' d' H2 M2 s2 I2 rv' rd' r2 u2 q2 => Calls.spliced_cons (je_run hb I2 r2 q2 fun w wu z H3 M3 s3 I3 rw' rz r3 u3 q3 => Calls.spliced_nil ?_))))
  obtain ⟨p', kvs', ky, ks, e1, e2', e3, e4, e5, hl', qa, qb⟩ := q3
  cases e1
  subst e3
  obtain ⟨bb, rfl, rfl⟩ := tup_ref rd' rv'
  obtain ⟨es', xs', h1', h2', px', dd', hd', hsz⟩ := dcn_of I3 r3.m e2'
  have l1 : es'.length = kvs'.length := prn_len h2'
  have l2 : es'.length = xs'.length := Paired.length px'
  have hsl := sizeLine_eq
  have up : Up H H3 := (u1.trans u2).trans u3
  have rk := rd'.up u3
  obtain ⟨i1, i2, i3⟩ := prn_look (k := ky) h2' px'
  refine call_setdefault_heap (knd := nestedKind X.prog X.w) (room8 hu) (is_key I3 rk e4 e5) hd' dd' (fun pv hpv => ?_) (fun hn h' dx sb => ?_) (by omega)
  · cases eq : lkN kvs' ky with
    | none => rw [i2 eq] at hpv; cases hpv
    | some d0 =>
      obtain ⟨b', w1, u1', e7, rw1, ru1⟩ := i1 d0 eq
      rw [e7] at hpv; cases hpv
      exact k w1 u1' d0 H3 M3 _ (I3.tok _) ru1 rw1 r3 up (qa d0 eq)
  · have en : lkN kvs' ky = none := by
      cases eq : lkN kvs' ky with
      | none => rfl
      | some d0 =>
        obtain ⟨b', w1, u1', e7, _⟩ := i1 d0 eq
        rw [e7] at hn; cases hn
    obtain ⟨H4, I4, r4, u4⟩ := nd_write (tk := s3.toks + (nestedKind X.prog X.w).draws ky) I3 r3 e2' h1' h2' px' hd' (by omega) e4 e5 rk rz rw' dx sb
    exact k w wu z H4 _ _ I4 rw' (rz.up u4) r4 (up.trans u4) (qb en)
/-- d[k] = v, k a tuple -/
def mNsub (mv mo mi : ME) (Q : Fr → MH → Prop) : Fr → MH → Prop := fun δ M => mv δ M fun z M1 => mo δ M1 fun x M2 => mi δ M2 fun y M3 => ∃ p kvs k ks, x = .ref p ∧ y = .tup ks ∧ M3 p = some (.dcn kvs) ∧ nkD y = some k ∧ k.depth ≤ 8 ∧ kvs.length < 1000000 ∧ Q δ (ud M3 p (.dcn (ptN kvs y k z)))
def mSubN (mv mo mi : ME) : MS := fun E δ M => mNsub mv mo mi E.nx δ M
theorem js_subn {v i : Expr} (hu : X.A.units + 64 < cLine) (hv : JE X v mc) (ho : JE X o ma) (hi : JE X i mb) (hs : swapsWith v (some (.Subscript o i pos')) pos.line X.env = pure false := by rfl) : JS X (.Assign [.Subscript o i pos'] v pos) (mSubN mc ma mb) := by
  refine js_of (m := mNsub mc ma mb) fun pins s σ H δ M Q R I rl q k => ?_
  refine wpAny_Assign_Subscript (je_run hv I rl q fun w wu z H1 M1 s1 I1 rw' rz r1 u1 q1 => je_run ho I1 r1 q1 fun v u d H2 M2 s2 I2 rv rd r2 u2 q2 => je_run hi I2 r2 q2 fun v' u' d' H3 M3 s3 I3 rv' rd' r3 u3 ⟨p, kvs, ky, ks, e1, e3, e2, e4, e5, hl', q3⟩ => ?_) hs
  subst e1; subst e3
  obtain ⟨rfl, rfl⟩ := ref_ref rd rv
  obtain ⟨bb, rfl, rfl⟩ := tup_ref rd' rv'
  obtain ⟨es, xs, h1, h2, px, dd, hd, hsz⟩ := dcn_of I3 r3.m e2
  have l1 : es.length = kvs.length := prn_len h2
  have l2 : es.length = xs.length := Paired.length px
  have hsl := sizeLine_eq
  refine wpAny_setItem_heap (knd := nestedKind X.prog X.w) (room8 hu) (is_key I3 rd' e4 e5) dd (fun h' dx sb => ?_) (by omega)
  obtain ⟨H4, I4, r4, u4⟩ := nd_write (tk := s3.toks + (nestedKind X.prog X.w).draws ky) I3 r3 e2 h1 h2 px hd (by omega) e4 e5 rd' (rz.up (u2.trans u3)) rw' dx sb
  exact k σ δ H4 _ _ I4 r4 (((u1.trans u2).trans u3).trans u4) q3
/-- k in d, k a tuple -/
def mNin (f : Bool → Bool) (mb ma : ME) : ME := fun δ M Q => mb δ M fun y M1 => ma δ M1 fun x M2 => ∃ p kvs k ks, x = .ref p ∧ M2 p = some (.dcn kvs) ∧ y = .tup ks ∧ nkD y = some k ∧ k.depth ≤ 8 ∧ Q (.bl (f (lkN kvs k).isSome)) M2
theorem nin_fin {pins : List (Addr × Obj)} {s : Shared} {σ : L2.St} {H : Hp} {M : MH} {p : Addr} {kvs : List (D × D)} {k : NestedKey} {es : List NE} {xs : List (NestedKey × Addr × Value)} (h2 : PrN X.kw H kvs es) (px : PX es xs) : (valueAt (pairsH xs) k).isSome = (lkN kvs k).isSome := by
  obtain ⟨i1, i2, i3⟩ := prn_look (k := k) h2 px
  rw [valueAt_pairsH]
  cases eq : lkN kvs k with
  | none => rw [i2 eq]; rfl
  | some d0 => obtain ⟨b', w1, u1', e7, _⟩ := i1 d0 eq; rw [e7]; rfl
theorem jnin (hu : X.A.units + 64 < cLine) (hb : JE X b mb) (ha : JE X a ma) (hm : behindInMarks .In a = false := by with_unfolding_all rfl) : JE X (.Compare b [.In] [a] pos) (mNin id mb ma) := by
  refine je_of fun pins s σ H δ M Q R I rl q k => ?_
  refine wpAny_Compare1 (je_run hb I rl q fun v' u' d' H2 M2 s2 I2 rv' rd' r2 u2 q2 => je_run ha I2 r2 q2 fun v u d H3 M3 s3 I3 rv rd r3 u3 ⟨p, kvs, ky, ks, e1, e2, e3, e4, e5, q3⟩ => ?_) hm
  subst e1; subst e3
  obtain ⟨rfl, rfl⟩ := ref_ref rd rv
  obtain ⟨bb, rfl, rfl⟩ := tup_ref rd' rv'
  obtain ⟨es, xs, h1, h2, px, dd, hd, hsz⟩ := dcn_of I3 r3.m e2
  refine in_keyed (knd := nestedKind X.prog X.w) (room8 hu) (is_key I3 (rd'.up u3) e4 e5) hd ⟨xs, dd, rfl⟩ ?_
  rw [nin_fin (pins := pins) (s := s) (σ := σ) (M := M) (p := p) (k := ky) h2 px]
  exact k (.bl _) _ _ H3 M3 _ (I3.tok _) rfl (rp_bl.mpr rfl) r3 (u2.trans u3) q3
theorem jnnotin (hu : X.A.units + 64 < cLine) (hb : JE X b mb) (ha : JE X a ma) (hm : behindInMarks .NotIn a = false := by with_unfolding_all rfl) : JE X (.Compare b [.NotIn] [a] pos) (mNin not mb ma) := by
  refine je_of fun pins s σ H δ M Q R I rl q k => ?_
  refine wpAny_Compare1 (je_run hb I rl q fun v' u' d' H2 M2 s2 I2 rv' rd' r2 u2 q2 => je_run ha I2 r2 q2 fun v u d H3 M3 s3 I3 rv rd r3 u3 ⟨p, kvs, ky, ks, e1, e2, e3, e4, e5, q3⟩ => ?_) hm
  subst e1; subst e3
  obtain ⟨rfl, rfl⟩ := ref_ref rd rv
  obtain ⟨bb, rfl, rfl⟩ := tup_ref rd' rv'
  obtain ⟨es, xs, h1, h2, px, dd, hd, hsz⟩ := dcn_of I3 r3.m e2
  refine notIn_keyed (knd := nestedKind X.prog X.w) (room8 hu) (is_key I3 (rd'.up u3) e4 e5) hd ⟨xs, dd, rfl⟩ ?_
  rw [nin_fin (pins := pins) (s := s) (σ := σ) (M := M) (p := p) (k := ky) h2 px]
  exact k (.bl _) _ _ H3 M3 _ (I3.tok _) rfl (rp_bl.mpr rfl) r3 (u2.trans u3) q3
end
end MM

namespace MM
open PySem PySem.Spec PyProof.Rows L2
/-! ### loops and comprehensions that change nothing but slots -/
theorem LstAt.ud {M : MH} {p L : Addr} {ds : List D} {o : MO} (h : LstAt p ds M) (hL : M L = none) : LstAt p ds (ud M L o) := by
  have n : p ≠ L := fun z => by subst z; rcases h with h | h <;> (rw [hL] at h; cases h)
  rcases h with h | h
  · exact .inl (by rw [ud_ne n]; exact h)
  · exact .inr (by rw [ud_ne n]; exact h)
theorem ud_keep {M : MH} {p L : Addr} {o u : MO} (h : M p = some u) (hL : M L = none) : ud M L o p = some u := by
  have n : p ≠ L := fun z => by subst z; rw [hL] at h; cases h
  rw [ud_ne n]; exact h
theorem ud_self {M : MH} {p : Addr} {o : MO} (h : M p = some o) : ud M p o = M := by
  funext b; unfold ud; split
  · rename_i e; subst e; exact h.symm
  · rfl
theorem lc_pure {mi : MI} {g : MG} {mt : MT} {me : ME} {vs : List Nat} {δ : Fr} {M : MH} {Q : MQ} {ds : List D} {Kp : MH → Prop} (f : D → Option D) (hmi : ∀ R : List D → (MH → Prop) → MH → Prop, R ds Kp M → mi δ M R) (hK : ∀ L o, M L = none → Kp (ud M L o))
    (ht : ∀ L acc d, d ∈ ds → M L = none → ∀ (R1 : MQ) (R0 : MH → Prop), (∀ y, f d = some y → R1 y (ud M L (.lst acc))) → (f d = none → R0 (ud M L (.lst acc))) → g d (wipeM δ vs) (ud M L (.lst acc)) fun δ2 M2 => mt δ2 M2 fun b M3 => if b = true then me δ2 M3 R1 else R0 M3)
    (hq : ∀ L, M L = none → Q (.ref L) (ud M L (.lst (ds.filterMap f)))) : mLc mi g mt me vs δ M Q := by
  refine hmi _ fun L hL => ⟨fun i acc M' => acc = (ds.take i).filterMap f ∧ M' = ud M L (.lst acc), ⟨by simp, rfl⟩, ?_, ?_, ?_⟩
  · rintro i acc M' _ ⟨rfl, rfl⟩
    exact hK L _ hL
  · rintro i d acc M' hd _ ⟨rfl, rfl⟩
    have e : ds.take (i + 1) = ds.take i ++ [d] := by rw [List.take_add_one, hd]; rfl
    refine ht L _ d (List.mem_of_getElem? hd) hL _ _ (fun y hy => ?_) (fun hn => ?_)
    · refine ⟨ud_same, ?_, ?_⟩
      · rw [e, List.filterMap_append]; simp [hy]
      · rw [ud_ud]
    · refine ⟨?_, rfl⟩
      rw [e, List.filterMap_append]; simp [hn]
  · rintro acc M' _ ⟨rfl, rfl⟩
    rw [List.take_length]
    exact hq L hL
theorem for_pure {mi : MI} {g : MG} {tb : MS} {E : MEnds} {δ : Fr} {M : MH} {ds : List D} {Kp : MH → Prop} (hmi : ∀ R : List D → (MH → Prop) → MH → Prop, R ds Kp M → mi δ M R) (hK : Kp M) (S : Nat → Fr → Prop) (h0 : S 0 δ)
    (ht : ∀ i d δ', ds[i]? = some d → S i δ' → g d δ' M fun δ2 M2 => tb { E with nx := fun δ' M' => S (i + 1) δ' ∧ M' = M, ct := fun δ' M' => S (i + 1) δ' ∧ M' = M, bk := E.nx } δ2 M2) (hd : ∀ δ', S ds.length δ' → E.nx δ' M) : mFor mi g tb E δ M := by
  refine hmi _ ⟨fun i δ' M' => S i δ' ∧ M' = M, ⟨h0, rfl⟩, ?_, ?_, ?_⟩
  · rintro i δ' M' _ ⟨_, rfl⟩; exact hK
  · rintro i d δ' M' e ⟨s, rfl⟩; exact ht i d δ' e s
  · rintro δ' M' ⟨s, rfl⟩; exact hd δ' s
section
variable {δ : Fr} {M : MH} {k : Nat} {p : Addr} {ds es : List D} {R : List D → (MH → Prop) → MH → Prop}
theorem mi_L (h : δ[k]? = some (some (.ref p))) (hl : LstAt p ds M) (q : R ds (LstAt p ds) M) : iL (mV k) δ M R := ⟨_, h, p, ds, rfl, hl, q⟩
theorem mi_T (h : δ[k]? = some (some (.tup ds))) (q : R ds (fun _ => True) M) : iT (mV k) δ M R := ⟨_, h, ds, rfl, q⟩
theorem mi_EnT (h : δ[k]? = some (some (.tup ds))) (q : R (enumD ds) (fun _ => True) M) : iEnT (maC (mV k) maN) δ M R := ⟨_, h, ds, rfl, q⟩
theorem mi_En (h : δ[k]? = some (some (.ref p))) (hl : LstAt p ds M) (q : R (enumD ds) (LstAt p ds) M) : iEn (maC (mV k) maN) δ M R := ⟨_, h, p, ds, rfl, hl, q⟩
theorem mi_Zp {j : Nat} {p' : Addr} (h : δ[k]? = some (some (.ref p))) (h' : δ[j]? = some (some (.ref p'))) (hl : LstAt p ds M) (hl' : LstAt p' es M) (q : R (zipD ds es) (fun M => LstAt p ds M ∧ LstAt p' es M) M) : iZp (maC (mV k) (maC (mV j) maN)) δ M R :=
  ⟨_, h, _, h', p, p', ds, es, rfl, hl, hl', q⟩
end
/-! ### cuts of lists -/
theorem drop_min (ds : List D) (i : Nat) : ds.drop (min i ds.length) = ds.drop i := by
  by_cases h : i ≤ ds.length
  · rw [Nat.min_eq_left h]
  · rw [Nat.min_eq_right (by omega), List.drop_of_length_le (Nat.le_refl _), List.drop_of_length_le (by omega)]
theorem take_min (ds : List D) (i : Nat) : ds.take (min i ds.length) = ds.take i := by
  by_cases h : i ≤ ds.length
  · rw [Nat.min_eq_left h]
  · rw [Nat.min_eq_right (by omega), List.take_of_length_le (Nat.le_refl _), List.take_of_length_le (by omega)]
theorem cutD_nat (ds : List D) (i j : Nat) (hi : i ≤ j) : cutD ds (some (i : Int)) (some (j : Int)) = (ds.drop i).take (j - i) := by
  unfold cutD
  rw [HT.sIx_nat, HT.sIx_nat, drop_min]
  by_cases h : j - i ≤ (ds.drop i).length
  · rw [show min j ds.length - min i ds.length = j - i by simp at h; omega]
  · rw [List.take_of_length_le (by simp at h ⊢; omega), List.take_of_length_le (by omega)]
theorem cutD_from (ds : List D) (i : Nat) : cutD ds (some (i : Int)) none = ds.drop i := by
  unfold cutD
  rw [HT.sIx_nat, HT.sIx_none, drop_min, List.take_of_length_le (by simp; omega)]
theorem cutD_to (ds : List D) (j : Nat) : cutD ds none (some (j : Int)) = ds.take j := by
  unfold cutD
  rw [HT.sIx_nat, HT.sIx_none]
  simp
/-! ### lists of data that are fit to be compared -/
theorem purs_map {α : Type} {f : α → D} (h : ∀ a, pur (f a) = true) : ∀ l : List α, purs (l.map f) = true
  | [] => by simp [purs]
  | a :: l => by simp [purs, h a, purs_map h l]
theorem deps_map {α : Type} {f : α → D} {n : Nat} (h : ∀ a, dep (f a) ≤ n) : ∀ l : List α, deps (l.map f) ≤ n
  | [] => by simp [deps]
  | a :: l => by have := h a; have := deps_map h l; simp [deps]; omega
theorem fitL_map {α : Type} {f : α → D} (h : ∀ a, fitD (f a)) (n : Nat) (hn : n ≤ 63) (h2 : ∀ a, dep (f a) ≤ n) (l : List α) : fitL (l.map f) := ⟨purs_map (fun a => (h a).1) l, Nat.le_trans (deps_map h2 l) hn⟩
theorem eqL_map {α : Type} [DecidableEq α] {f : α → D} (h : ∀ a b, eqD (f a) (f b) = decide (a = b)) : ∀ l m : List α, eqL (l.map f) (m.map f) = decide (l = m)
  | [], [] => by simp
  | a :: l, [] => by simp
  | [], b :: m => by simp
  | a :: l, b :: m => by simp [h a b, eqL_map h l m]
theorem oEqF_lst {f : Bool → Bool} {M : MH} {Q : MQ} {a b : Addr} {ds es : List D} (ha : LstAt a ds M) (hb : LstAt b es M) (f1 : fitL ds) (f2 : fitL es) (q : Q (.bl (f (eqL ds es))) M) : oEqF f (.ref a) (.ref b) M Q :=
  .inr ⟨a, b, ds, es, rfl, rfl, ha, hb, f1, f2, q⟩
@[simp] theorem fitL_nil : fitL [] := ⟨by simp [purs], by simp [deps]⟩
theorem any_map_eq {α : Type} [DecidableEq α] {f : α → D} (h : ∀ a b, eqD (f a) (f b) = decide (a = b)) (l : List α) (x : α) : ((l.map f).any fun z => eqD z (f x)) = decide (x ∈ l) := by
  induction l with
  | nil => simp
  | cons a l ih =>
    rw [List.map_cons, List.any_cons, ih, h]
    by_cases e : a = x
    · subst e; simp
    · have : ¬ x = a := fun z => e z.symm
      simp [e, this]
/-! ### what simp may use of cuts -/
section
variable {δ : Fr} {M : MH} {Q : MQ} {x y : D} {ds es : List D} {i j : Int}
def oSl (x : D) (i j : Option Int) (M : MH) (Q : MQ) : Prop := match x with
  | .tup ds => Q (.tup (cutD ds i j)) M
  | .ref p => ∃ ds, (M p = some (.lst ds) ∨ M p = some (.rol ds)) ∧ ∀ q, M q = none → Q (.ref q) (ud M q (.lst (cutD ds i j)))
  | _ => False
@[simp] theorem mSl_eq {ma : ME} {l h : MP} : mSl ma l h δ M Q = ma δ M fun x M1 => l δ M1 fun i M2 => h δ M2 fun j M3 => oSl x i j M3 Q := rfl
@[simp] theorem mpS_eq {m : ME} {Q : Option Int → MH → Prop} : mpS m δ M Q = m δ M fun x M1 => ∃ i, x = .int i ∧ Q (some i) M1 := rfl
@[simp] theorem mpN_eq {Q : Option Int → MH → Prop} : mpN δ M Q = Q none M := rfl
@[simp] theorem oSl_tup {i j : Option Int} : oSl (.tup ds) i j M Q = Q (.tup (cutD ds i j)) M := rfl
theorem oSl_ref {p : Addr} {i j : Option Int} (h : LstAt p ds M) (q : ∀ t, M t = none → Q (.ref t) (ud M t (.lst (cutD ds i j)))) : oSl (.ref p) i j M Q := ⟨ds, h, q⟩
/-- ds[k:k+1] and [x] -/
theorem cutD_one (n : Nat) : cutD ds (some (n : Int)) (some ((n : Int) + 1)) = (ds[n]?).toList := by
  rw [show ((n : Int) + 1) = ((n + 1 : Nat) : Int) by omega, cutD_nat _ _ _ (by omega), show n + 1 - n = 1 by omega, List.take_one, List.head?_drop]
end
/-! ### heaps that grow -/
def Ext (M M' : MH) : Prop := ∀ b o, M b = some o → M' b = some o
/-- all but what is at p stays -/
def ExtB (p : Addr) (M M' : MH) : Prop := ∀ b o, b ≠ p → M b = some o → M' b = some o
theorem Ext.refl (M : MH) : Ext M M := fun _ _ h => h
theorem Ext.trans {M M1 M2 : MH} (a : Ext M M1) (b : Ext M1 M2) : Ext M M2 := fun x o h => b x o (a x o h)
theorem Ext.new {M : MH} {p : Addr} (o : MO) (e : M p = none) : Ext M (ud M p o) := fun b u h => ud_keep h e
theorem Ext.ud {M M1 : MH} {p : Addr} (o : MO) (a : Ext M M1) (e : M1 p = none) : Ext M (ud M1 p o) := a.trans (.new o e)
theorem Ext.B {M M1 : MH} (a : Ext M M1) (p : Addr) : ExtB p M M1 := fun b o _ h => a b o h
theorem ExtB.set {M M1 : MH} {p : Addr} (a : ExtB p M M1) (o : MO) : ExtB p M (MM.ud M1 p o) := fun b u n h => by rw [ud_ne n]; exact a b u n h
theorem ExtB.refl (p : Addr) (M : MH) : ExtB p M M := fun _ _ _ h => h
theorem ExtB.trans {p : Addr} {M M1 M2 : MH} (a : ExtB p M M1) (b : ExtB p M1 M2) : ExtB p M M2 := fun x o n h => b x o n (a x o n h)
/-- a new list is grown: what was there stays -/
theorem ExtB.ext {p : Addr} {M M1 : MH} (a : ExtB p M M1) (e : M p = none) : Ext M M1 := fun b o h => a b o (fun z => by subst z; rw [e] at h; cases h) h
theorem ExtB.of {p : Addr} {M M1 M2 : MH} (e : Ext M M1) (a : ExtB p M1 M2) (hp : M p = none) : Ext M M2 := fun b o h => a b o (fun z => by subst z; rw [hp] at h; cases h) (e b o h)
theorem LstAt.ext {p : Addr} {ds : List D} {M M' : MH} (h : LstAt p ds M) (e : Ext M M') : LstAt p ds M' := h.imp (e _ _) (e _ _)
theorem LstAt.extB {p q : Addr} {ds : List D} {M M' : MH} (h : LstAt p ds M) (e : ExtB q M M') (n : p ≠ q) : LstAt p ds M' := h.imp (e _ _ n) (e _ _ n)
def isLst (x : D) (M : MH) : Prop := ∃ p es, x = .ref p ∧ (M p = some (.lst es) ∨ M p = some (.rol es))
theorem isLst_of {p : Addr} {es : List D} {M : MH} (h : M p = some (.lst es)) : isLst (.ref p) M := ⟨p, es, rfl, .inl h⟩
@[simp] theorem mML_eq {δ : Fr} {M : MH} {Q : MQ} {m : MRm} {mo : ME} {r : MA} : mML m mo r δ M Q = mo δ M fun x M1 => isLst x M1 ∧ r δ M1 fun ds M2 => m x ds M2 Q := rfl
@[simp] theorem mML0_eq {δ : Fr} {M : MH} {Q : MQ} {m : MRm} {mo : ME} : mML0 m mo δ M Q = mo δ M fun x M1 => isLst x M1 ∧ m x [] M1 Q := rfl
theorem lApp_of {p : Addr} {es : List D} {y : D} {M : MH} {Q : MQ} (h : M p = some (.lst es)) (n : es.length ≤ 1000000) (q : Q .non (ud M p (.lst (es ++ [y])))) : lApp (.ref p) [y] M Q := ⟨p, es, y, rfl, rfl, h, lt_size n, q⟩
theorem lIns_of {p : Addr} {es : List D} {y : D} {k : Nat} {M : MH} {Q : MQ} (h : M p = some (.lst es)) (n : es.length ≤ 1000000) (hk : k ≤ 1000000) (q : Q .non (ud M p (.lst (es.take k ++ [y] ++ es.drop k)))) : lIns (.ref p) [.int k, y] M Q := ⟨p, es, k, y, rfl, rfl, h, lt_size n, by omega, by omega, q⟩
theorem lExt_of {p b : Addr} {es fs : List D} {M : MH} {Q : MQ} (h : M p = some (.lst es)) (hb : M b = some (.lst fs)) (n : es.length + fs.length ≤ 1000000) (q : Q .non (ud M p (.lst (es ++ fs)))) : lExt (.ref p) [.ref b] M Q := ⟨p, b, es, fs, rfl, rfl, h, hb, Nat.le_of_lt (lt_size n), q⟩
theorem lPop_of {p : Addr} {es : List D} {y : D} {M : MH} {Q : MQ} (h : M p = some (.lst (es ++ [y]))) (q : Q y (ud M p (.lst es))) : lPop (.ref p) [] M Q := ⟨p, es ++ [y], y, rfl, rfl, h, by simp, by simpa using q⟩
theorem lPopAt0 {p : Addr} {es : List D} {y : D} {M : MH} {Q : MQ} (h : M p = some (.lst (y :: es))) (q : Q y (ud M p (.lst es))) : lPopAt (.ref p) [.int 0] M Q := ⟨p, y :: es, 0, 0, y, rfl, rfl, h, by decide, by decide, by simp [seqIndex?], rfl, q⟩
theorem lIdx_of {p : Addr} {es : List D} {y z : D} {j : Nat} {M : MH} {Q : MQ} (h : LstAt p es M) (f1 : fitL es) (f2 : fitD y) (hj : es[j]? = some z) (e : eqD z y = true) (hn : ∀ (m : Nat) z', m < j → es[m]? = some z' → eqD z' y = false) (q : Q (.int (j : Nat)) M) : lIdx (.ref p) [y] M Q := ⟨p, es, y, j, z, rfl, rfl, h, f1, f2, hj, e, hn, q⟩
end MM

namespace MM
open PySem PySem.Spec PyProof.Rows L2
/-! ### for p in zip(xs, ys): the pair is held, its zip keeps the first one -/
/-- the zip's own objects ahead of turn i; o: the first pair that it gave out -/
def ZipSt (z TI TO i1 i2 a b : Addr) (o : Option Addr) (i : Nat) (h : Heap) : Prop :=
  IsPair h TI (.ref i1) (.ref i2) ∧ (∃ x y, IsPair h TO x y) ∧ h.IsListIter i1 a i ∧ h.IsListIter i2 b i ∧
  match o with
  | none => IsZip h z TI TO .none
  | some T => ∃ f, IsZipHeld h z TI TO T f
theorem ZipSt.keep {z TI TO i1 i2 a b : Addr} {o : Option Addr} {i : Nat} {h h' : Heap} (st : ZipSt z TI TO i1 i2 a b o i h) (k : ∀ c ∈ [z, TI, TO, i1, i2], ∀ u, h.get? c = some u → h'.get? c = some u) : ZipSt z TI TO i1 i2 a b o i h' := by
  obtain ⟨t1, ⟨x, y, t2⟩, t3, t4, t5⟩ := st
  refine ⟨k TI (by simp) _ t1, ⟨x, y, k TO (by simp) _ t2⟩, t3.at fun u q => k i1 (by simp) u q, t4.at fun u q => k i2 (by simp) u q, ?_⟩
  cases o with
  | none => exact k z (by simp) _ t5
  | some T => obtain ⟨f, t5⟩ := t5; exact ⟨f, k z (by simp) _ t5⟩
theorem ZipSt.obj {z TI TO i1 i2 a b : Addr} {o : Option Addr} {i : Nat} {h : Heap} (st : ZipSt z TI TO i1 i2 a b o i h) : ∀ c ∈ [z, TI, TO, i1, i2], ∃ u, h.get? c = some u ∧ ∀ v, u.data ≠ .cell v := fun c hc => by
  obtain ⟨t1, ⟨x, y, t2⟩, ⟨u3, e3, _, d3⟩, ⟨u4, e4, _, d4⟩, t5⟩ := st
  have ec : c = z ∨ c = TI ∨ c = TO ∨ c = i1 ∨ c = i2 := by simpa using hc
  rcases ec with q | q | q | q | q <;> subst q
  · cases o with
    | none => exact ⟨_, t5, fun v q => nomatch q⟩
    | some T => obtain ⟨f, t5⟩ := t5; exact ⟨_, t5, fun v q => nomatch q⟩
  · exact ⟨_, t1, fun v q => nomatch q⟩
  · exact ⟨_, t2, fun v q => nomatch q⟩
  · exact ⟨u3, e3, fun v q => by rw [d3] at q; cases q⟩
  · exact ⟨u4, e4, fun v q => by rw [d4] at q; cases q⟩
section
variable {X : Cx}
theorem zipH_item (hc : X.calm = true) {z TI TO i1 i2 a b : Addr} (DZ : ZipApart z TI TO i1 i2 a b) {o : Option Addr} {i : Nat} {pins : List (Addr × Obj)} {s : Shared} {σ : L2.St} {H : Hp} {E : Value → Shared → Prop} {nm : Str} {np : Pos} {Q : Value → Shared → Prop}
    (I : Inv X pins σ H s) (hf : ∀ c ∈ [z, TI, TO, i1, i2], FpOk X pins H c) (st : ZipSt z TI TO i1 i2 a b o i s.heap) (hT : ∀ T, o = some T → ∃ xs, SqT X.K H T xs) {xs ys : List V} {x y : V} (hxs : SqL X.K H a xs) (hys : SqL X.K H b ys) (hx : xs[i]? = some x) (hy : ys[i]? = some y)
    (k : ∀ T s2, H T = none → Inv X pins σ (upd H T (.tup [x, y])) s2 → ZipSt z TI TO i1 i2 a b (some (o.getD T)) (i + 1) s2.heap → (∀ c ∈ [z, TI, TO, i1, i2], c ≠ T) → Q (.ref T) s2) :
    wpAny (model X.prog X.w) X.A (pyNext (.ref z)) (fun r s1 => ∃ u, r = some u ∧ wpAny (model X.prog X.w) X.A (letOwnedTupleGo (.Name nm np) (.ref z) u) (fun _ s2 => Q u s2) E s1) E s := by
  obtain ⟨its, rv, p, _⟩ := I.list hxs
  obtain ⟨its2, rv2, p2, _⟩ := I.list hys
  obtain ⟨u, hu, ru⟩ := rv.get hx
  obtain ⟨u2, hu2, ru2⟩ := rv2.get hy
  have young : ∀ c ∈ [z, TI, TO, i1, i2], c ≠ s.heap.objs.size := fun c hc => by
    obtain ⟨w, e, _⟩ := st.obj c hc
    exact Nat.ne_of_lt (Heap.lt_size e)
  obtain ⟨t1, ⟨x0, y0, t2⟩, t3, t4, t5⟩ := st
  have grown : ∀ {h' : Heap}, (∀ c w, c ∉ [z, TI, TO, i1, i2] → s.heap.get? c = some w → h'.get? c = some w) → IsPair h' s.heap.objs.size u u2 → ∀ tk, Inv X pins σ (upd H s.heap.objs.size (.tup [x, y])) { s with heap := h', toks := tk } := fun {h'} hk hp tk =>
    I.turnedNew (t' := tk) (ch := [z, TI, TO, i1, i2]) (fun c w hb q => hk c w hb q) hf (Nat.le_refl _) ⟨by show 2 ≤ sizeLine; decide, [u, u2], .cons ru (.cons ru2 .nil), ⟨_, hp, rfl, _, rfl⟩⟩
  have go : ∀ {s1 : Shared} {v : Value}, Q v s1 → wpAny (model X.prog X.w) X.A (letOwnedTupleGo (.Name nm np) (.ref z) v) (fun _ s2 => Q v s2) E s1 := fun q => by
    unfold letOwnedTupleGo
    exact wpAny_pure q
  cases o with
  | none =>
    refine wpAny_pyNext_zip_item DZ t5 t1 t2 t3 t4 p.isList p2.isList (x := u) (y := u2) (by simpa using hu) (by simpa using hu2) fun h' b1 b2 b3 b4 b5 b6 hk => ⟨_, rfl, go ?_⟩
    refine k _ _ (I.hok.fresh (Nat.le_refl _)) (grown (fun c w hb q => hk c w (fun q' => hb (by simp [q'])) (fun q' => hb (by simp [q'])) (fun q' => hb (by simp [q'])) (fun q' => hb (by simp [q'])) q) b5 s.toks) ?_ young
    exact ⟨hk _ _ DZ.TIz DZ.TITO DZ.TIi1 DZ.TIi2 t1, ⟨_, _, b2⟩, b3, b4, false, b1⟩
  | some T =>
    obtain ⟨f, t5⟩ := t5
    obtain ⟨zs, hz⟩ := hT T rfl
    obtain ⟨_, _, pT, _⟩ := I.tuple hz
    obtain ⟨oT, hoT, _⟩ := id (show s.heap.IsTuple T _ from pT)
    refine wpAny_pyNext_zip_item_held DZ t5 hoT t1 t3 t4 p.isList p2.isList (x := u) (y := u2) (by simpa using hu) (by simpa using hu2) fun h' b1 b3 b4 b5 b6 hk => ⟨_, rfl, go ?_⟩
    refine k _ _ (I.hok.fresh (Nat.le_refl _)) (grown (fun c w hb q => hk c w (fun q' => hb (by simp [q'])) (fun q' => hb (by simp [q'])) (fun q' => hb (by simp [q'])) q) b5 s.toks) ?_ young
    exact ⟨hk _ _ DZ.TIz DZ.TIi1 DZ.TIi2 t1, ⟨_, _, hk _ _ DZ.TOz DZ.TOi1 DZ.TOi2 t2⟩, b3, b4, true, b1⟩
theorem zipH_done (hc : X.calm = true) {z TI TO i1 i2 a b : Addr} (DZ : ZipApart z TI TO i1 i2 a b) {o : Option Addr} {i : Nat} {pins : List (Addr × Obj)} {s : Shared} {σ : L2.St} {H : Hp} {E : Value → Shared → Prop}
    (I : Inv X pins σ H s) (hf : ∀ c ∈ [z, TI, TO, i1, i2], FpOk X pins H c) (st : ZipSt z TI TO i1 i2 a b o i s.heap) (hT : ∀ T, o = some T → ∃ xs, SqT X.K H T xs) {xs ys : List V} (hxs : SqL X.K H a xs) (hys : SqL X.K H b ys) (he : xs.length ≤ i ∨ ys.length ≤ i) :
    wpAny (model X.prog X.w) X.A (pyNext (.ref z)) (fun r s1 => r = none ∧ Inv X pins σ H s1) E s := by
  obtain ⟨its, rv, p, _⟩ := I.list hxs
  obtain ⟨its2, rv2, p2, _⟩ := I.list hys
  have l1 := rv.length
  have l2 := rv2.length
  have hend : its.toArray[i]? = none ∨ its2.toArray[i]? = none := he.imp (fun q => by simp; omega) (fun q => by simp; omega)
  obtain ⟨t1, ⟨x0, y0, t2⟩, t3, t4, t5⟩ := st
  cases o with
  | none => exact wpAny_pyNext_zip_end (I.ok.hd hc) DZ t5 t1 t2 t3 t4 p.isList p2.isList hend fun h' hk => ⟨rfl, I.turnedL (t' := s.toks) (ch := [z, TI, TO, i1, i2]) (fun c w hb q => hk c w (fun q' => hb (by simp [q'])) (fun q' => hb (by simp [q'])) (fun q' => hb (by simp [q'])) (fun q' => hb (by simp [q'])) q) hf⟩
  | some T =>
    obtain ⟨f, t5⟩ := t5
    obtain ⟨zs, hz⟩ := hT T rfl
    obtain ⟨_, _, pT, _⟩ := I.tuple hz
    obtain ⟨oT, hoT, _⟩ := id (show s.heap.IsTuple T _ from pT)
    exact wpAny_pyNext_zip_end_held (I.ok.hd hc) DZ t5 hoT t1 t3 t4 p.isList p2.isList hend fun h' hk => ⟨rfl, I.turnedL (t' := s.toks) (ch := [z, TI, TO, i1, i2]) (fun c w hb q => hk c w (fun q' => hb (by simp [q'])) (fun q' => hb (by simp [q'])) (fun q' => hb (by simp [q'])) q) hf⟩
def tForZ (K : PySem.W.Frag) (ta : TA) (g : TG) (tb : TS) : TS := fun F σ H => ta σ H fun vs H1 => ∃ a b xs0 ys0, vs = [.ref a, .ref b] ∧ SqL K H1 a xs0 ∧ SqL K H1 b ys0 ∧ (xs0.length ≤ sizeLine → ∃ W : Option Addr → Nat → Nat → L2.St → Hp → Prop, (∃ m, W none 0 m σ H1) ∧
  ∀ o i m σ H, W o i m σ H → (∀ T, o = some T → ∃ xs, SqT K H T xs) ∧ ∃ xs ys, SqL K H a xs ∧ SqL K H b ys ∧ (((xs.length ≤ i ∨ ys.length ≤ i) ∧ F.nx σ H) ∨
    ∃ x y, xs[i]? = some x ∧ ys[i]? = some y ∧ ∃ N : Option Addr → L2.St → Hp → Prop, (∀ o' σ' H', N o' σ' H' → ∃ m', m' < m ∧ W o' (i + 1) m' σ' H') ∧
      ∀ T, H T = none → g (.ref T) σ (upd H T (.tup [x, y])) fun σ2 H2 => tb { F with nx := N (some (o.getD T)), ct := N (some (o.getD T)), bk := F.nx } σ2 H2))
theorem ps_forZ {nm : Str} {np p pos zpos : Pos} {a b : Expr} {body : List Stmt} {ta : TA} {g : TG} {tb : TS} (hp : PassesOwn (model X.prog X.w) X.A X.env X.xe) (hc : X.calm = true) (hm : X.mg "zip" = none) (ha : PA X [a, b] ta) (hg : PG X (.Name nm np) g) (hb : PSs X body tb) (hgl : Gl X "zip" := by rfl)
    (hs : starEach [a, b] X.env = (false, eval a X.env) :: starEach [b] X.env := by rfl) (hpl : (backTo zpos (starEach [b] X.env)).any (·.1) = false := by rfl) (hf : ∀ x, foldedSetIterable (.Call (.Name "zip" p) [a, b] [] zpos) X.env x = pure x := by intro _; rfl) :
    PS X (.For (.Name nm np) (.Call (.Name "zip" p) [a, b] [] zpos) body [] pos) (tForZ X.K ta g tb) := by
  refine ⟨fun pins s σ H F I h => ?_⟩
  refine wpAny_For (Q := fun _ s' => _) ?_ hf
  refine Call_ (ld_blt I hgl hm PyProof.Rows.boot_zip (PyProof.Rows.callWith_type1 (thn (ha.run zpos pins s σ H _ I h) fun us s1 ⟨vs, H1, I1, r1, q1⟩ => ?_) hs hpl))
  obtain ⟨c, d, xs0, ys0, ev, hq, hq', q⟩ := q1
  subst ev
  obtain ⟨w1, w2, ew, hw, hw'⟩ := Vals.two r1
  subst ew
  have hv : w1 = Value.ref c := hw
  have hv' : w2 = Value.ref d := hw'
  subst hv hv'
  obtain ⟨its, rv, pl, hz⟩ := I1.list hq
  obtain ⟨its', rv', pl', hz'⟩ := I1.list hq'
  obtain ⟨W, ⟨m0, w0⟩, turn⟩ := q hz
  refine call_zip_2 pl.isList pl'.isList fun h2 z1 z2 z3 z4 z5 hsz hk => wpAny_pyIter_zip z1 ?_
  have I2 : Inv X pins σ H1 { s1 with heap := h2 } := I1.kept (t' := s1.toks) hk
  have DZ := PySem.W.ktu_apart s1.heap.objs.size c d pl.lt pl'.lt
  have hfp : ∀ b ∈ [s1.heap.objs.size + 4, s1.heap.objs.size + 2, s1.heap.objs.size + 3, s1.heap.objs.size, s1.heap.objs.size + 1], FpOk X pins H1 b := fun b hb => by
    have hle : s1.heap.objs.size ≤ b := by
      have eb : b = s1.heap.objs.size + 4 ∨ b = s1.heap.objs.size + 2 ∨ b = s1.heap.objs.size + 3 ∨ b = s1.heap.objs.size ∨ b = s1.heap.objs.size + 1 := by simpa using hb
      omega
    exact I1.fpOk hle (I1.hok.fresh hle)
  have st2 : ZipSt (s1.heap.objs.size + 4) (s1.heap.objs.size + 2) (s1.heap.objs.size + 3) s1.heap.objs.size (s1.heap.objs.size + 1) c d none 0 h2 := ⟨z2, ⟨_, _, z3⟩, z4, z5, z1⟩
  generalize hfe : [s1.heap.objs.size + 4, s1.heap.objs.size + 2, s1.heap.objs.size + 3, s1.heap.objs.size, s1.heap.objs.size + 1] = fp at hfp
  have sub : ∀ {H' : Hp}, (∀ b ∈ fp, H' b = none) → ∀ b ∈ fp, FpOk X pins H' b := fun hn b hb => ⟨hn b hb, (hfp b hb).2⟩
  refine codeAny_forLoop_any (fun n s' => ∃ o i σ' H', Inv X pins σ' H' s' ∧ ZipSt (s1.heap.objs.size + 4) (s1.heap.objs.size + 2) (s1.heap.objs.size + 3) s1.heap.objs.size (s1.heap.objs.size + 1) c d o i s'.heap ∧ (∀ b ∈ fp, H' b = none) ∧ W o i n σ' H') ?_ m0 ⟨none, 0, σ, H1, I2, st2, fun b hb => (hfp b hb).1, w0⟩
  rintro n s3 ⟨o, i, σ3, H3, I3, st3, fr3, w3⟩
  obtain ⟨hT, xs, ys, hxs, hys, w3⟩ := turn o i n σ3 H3 w3
  rcases w3 with ⟨he, qn⟩ | ⟨x, y, hx, hy, N, hN, step⟩
  · refine wpAny_passesOwn hp (thn (zipH_done hc DZ I3 (by rw [hfe]; exact sub fr3) st3 hT hxs hys he) fun r s4 ⟨hr, I4⟩ => ?_)
    subst hr
    exact wpAny_execs_nil ⟨σ3, H3, I4, qn⟩
  · refine wpAny_passesOwn hp (thn (zipH_item (nm := nm) (np := np) (Q := fun u s5 => ∃ T, u = .ref T ∧ H3 T = none ∧ Inv X pins σ3 (upd H3 T (.tup [x, y])) s5 ∧ ZipSt (s1.heap.objs.size + 4) (s1.heap.objs.size + 2) (s1.heap.objs.size + 3) s1.heap.objs.size (s1.heap.objs.size + 1) c d (some (o.getD T)) (i + 1) s5.heap ∧ ∀ b ∈ fp, b ≠ T)
      hc DZ I3 (by rw [hfe]; exact sub fr3) st3 hT hxs hys hx hy fun T s2 g1 g2 g3 g4 => ⟨T, rfl, g1, g2, g3, by rw [← hfe]; exact g4⟩) fun r s4 ⟨u, hr, h4⟩ => ?_)
    subst hr
    refine wpAny_passesOwn hp (thn h4 fun _ s5 ⟨T, eu, hTn, I5, st5, nT⟩ => ?_)
    subst eu
    have fr5 : ∀ b ∈ fp, (upd H3 T (.tup [x, y])) b = none := fun b hb => by rw [upd_ne (nT b hb)]; exact fr3 b hb
    have ob5 := st5.obj
    rw [hfe] at ob5
    have kp5 := fun h' => st5.keep (h' := h')
    rw [hfe] at kp5
    have I5' := I5.pinned (sub fr5) ob5
    refine wpAny_passesOwn hp (thn (hg.run _ s5 σ3 _ (.ref T) (.ref T) _ I5' rfl (step T hTn)) fun _ s6 ⟨σ6, H6, I6, q6⟩ => ?_)
    refine wpAny_passesOwn hp (thn (hb.run _ s6 σ6 H6 _ I6 q6) fun f s7 q7 => ?_)
    have again : ∀ {σ7 : L2.St} {H7 : Hp}, Inv X (pins ++ pinsAt fp s5.heap) σ7 H7 s7 → N (some (o.getD T)) σ7 H7 → ∃ m, m < n ∧ ∃ o i σ' H', Inv X pins σ' H' s7 ∧ ZipSt (s1.heap.objs.size + 4) (s1.heap.objs.size + 2) (s1.heap.objs.size + 3) s1.heap.objs.size (s1.heap.objs.size + 1) c d o i s7.heap ∧ (∀ b ∈ fp, H' b = none) ∧ W o i m σ' H' := fun {σ7 H7} I7 n7 => by
      obtain ⟨m', hm, w7⟩ := hN _ σ7 H7 n7
      refine ⟨m', hm, _, i + 1, σ7, H7, I7.unpinned, kp5 _ fun b hb u e => (I7.pin (b, u) (List.mem_append_right _ (List.mem_append_right _ (mem_pinsAt hb e)))).1, fun b hb => ?_, w7⟩
      obtain ⟨u, e, _⟩ := ob5 b hb
      exact (I7.pin (b, u) (List.mem_append_right _ (List.mem_append_right _ (mem_pinsAt hb e)))).2.1
    cases f with
    | next => obtain ⟨σ7, H7, I7, n7⟩ := q7; exact again I7 n7
    | cont => obtain ⟨σ7, H7, I7, n7⟩ := q7; exact again I7 n7
    | brk => obtain ⟨σ7, H7, I7, q7⟩ := q7; exact ⟨σ7, H7, I7.unpinned, q7⟩
    | ret v => obtain ⟨x7, σ7, H7, I7, r7, q7⟩ := q7; exact ⟨x7, σ7, H7, I7.unpinned, r7, q7⟩
end
section
variable {X : Cx} {a b : Expr} {sts : List Stmt} {mr : MA} {ms : MS} {p zpos pos np : Pos} {nm : Str}
theorem js_forZ {g : MG} {wr : List Nat} (hp : PassesOwn (model X.prog X.w) X.A X.env X.xe) (hm : X.mg "zip" = none) (ha : JA X [a, b] mr) (hg : JG X (.Name nm np) g wr) (hb : JB X sts ms) (hc : X.calm = true := by rfl) (hgl : Gl X "zip" := by rfl)
    (hs : starEach [a, b] X.env = (false, eval a X.env) :: starEach [b] X.env := by rfl) (hpl : (backTo zpos (starEach [b] X.env)).any (·.1) = false := by rfl) (hf : ∀ x, foldedSetIterable (.Call (.Name "zip" p) [a, b] [] zpos) X.env x = pure x := by intro _; rfl) :
    JS X (.For (.Name nm np) (.Call (.Name "zip" p) [a, b] [] zpos) sts [] pos) (mFor (iZp mr) g ms) := by
  obtain ⟨_, pa, k0⟩ := ha
  obtain ⟨_, pg, kg⟩ := hg
  obtain ⟨_, pb, kb⟩ := hb
  refine ⟨_, ps_forZ hp hc hm pa pg pb hgl hs hpl hf, fun σ H δ M E F rl q r => k0 σ H δ M _ _ rl q fun vs zs H1 M1 rs r1 u1 ⟨c, d, es, fs, e, la, lb, P, h0, hk, ht, hd⟩ => ?_⟩
  subst e
  obtain ⟨v, v', rfl, rv, rv'⟩ := rpl2 rs
  obtain ⟨xs0, s0, rx0⟩ := sql_of r1.m la
  obtain ⟨ys0, s0', ry0⟩ := sql_of r1.m lb
  refine ⟨c, d, xs0, ys0, by rw [rp_ref.mp rv, rp_ref.mp rv'], s0, s0', fun _ => ?_⟩
  refine ⟨fun o i m σ' H' => m = (zipD es fs).length - i ∧ i ≤ (zipD es fs).length ∧ (∀ T, o = some T → ∃ xs, SqT X.K H' T xs) ∧ ∃ δ' M', Rel X.kw σ' H' δ' M' ∧ Up H1 H' ∧ P i δ' M', ⟨_, rfl, Nat.zero_le _, fun T z => (by cases z), δ, M1, r1, .refl H1, h0⟩, ?_⟩
  rintro o i m σ2 H2 ⟨rfl, hi, hT, δ2, M2, r2, u2, p2⟩
  have kp := hk i δ2 M2 hi p2
  obtain ⟨xs, s, rx⟩ := sql_of r2.m kp.1
  obtain ⟨ys, s', ry⟩ := sql_of r2.m kp.2
  refine ⟨hT, xs, ys, s, s', ?_⟩
  have hlen : (zipD es fs).length = min es.length fs.length := by simp [zipD]
  by_cases hlt : i < (zipD es fs).length
  · have h1 : i < es.length := by omega
    have h2 : i < fs.length := by omega
    obtain ⟨x, ex, rdx⟩ := rx.get (List.getElem?_eq_getElem h1)
    obtain ⟨y, ey, rdy⟩ := ry.get (List.getElem?_eq_getElem h2)
    refine .inr ⟨x, y, ex, ey, fun o' σ' H' => (∀ T, o' = some T → ∃ xs, SqT X.K H' T xs) ∧ ∃ δ' M', Rel X.kw σ' H' δ' M' ∧ Up H1 H' ∧ P (i + 1) δ' M', fun o' σ' H' z => ⟨_, by omega, rfl, hlt, z⟩, fun T hTn => ?_⟩
    have ed : (zipD es fs)[i]? = some (.tup [es[i], fs[i]]) := by
      have z : (es.zip fs)[i]? = some (es[i], fs[i]) := List.getElem?_zip_eq_some.mpr ⟨List.getElem?_eq_getElem h1, List.getElem?_eq_getElem h2⟩
      simp [zipD, z]
    obtain ⟨rp, m3, u3, _⟩ := pair_ok r2.m hTn rdx rdy
    have hold : ∀ T', some (o.getD T) = some T' → ∃ xs, SqT X.K (upd H2 T (.tup [x, y])) T' xs := fun T' z => by
      cases o with
      | none => cases z; exact ⟨_, .of upd_same⟩
      | some T1 =>
        cases z
        obtain ⟨ws, hw⟩ := hT T1 rfl
        exact ⟨ws, u3.sq (K := X.kw) hw⟩
    refine kg σ2 _ δ2 M2 (.ref T) (.tup [es[i], fs[i]]) _ _ (r2.mk' u3 m3) rp (ht i _ δ2 M2 ed p2) fun σ4 δ4 H4 M4 _ r4 u4 q4 => ?_
    have u : Up H1 H4 := (u2.trans u3).trans u4
    have uu : Up H H4 := u1.trans u
    have hold4 : ∀ {H' : Hp}, Up H4 H' → ∀ T', some (o.getD T) = some T' → ∃ xs, SqT X.K H' T' xs := fun u' T' z => by
      obtain ⟨ws, hw⟩ := hold T' z
      exact ⟨ws, (u4.trans u').sq (K := X.kw) hw⟩
    exact kb σ4 H4 δ4 M4 _ _ r4 q4 ⟨fun σ' δ' H' M' rl' u' z => ⟨hold4 u', δ', M', rl', u.trans u', z⟩, fun v d H' M' rv m' u' z => r.rt v d H' M' rv m' (uu.trans u') z, fun σ' δ' H' M' rl' u' z => r.nx σ' δ' H' M' rl' (uu.trans u') z, fun σ' δ' H' M' rl' u' z => ⟨hold4 u', δ', M', rl', u.trans u', z⟩⟩
  · have e : i = (zipD es fs).length := by omega
    refine .inl ⟨?_, r.nx σ2 δ2 H2 M2 r2 (u1.trans u2) (hd δ2 M2 (by rw [← e]; exact p2))⟩
    have l1 := rx.length
    have l2 := ry.length
    omega
end
/-! ### loops that build -/
theorem foldl_take {α β : Type} {f : β → α → β} {l : List α} {i : Nat} {x : α} (h : l[i]? = some x) (b : β) : (l.take (i + 1)).foldl f b = f ((l.take i).foldl f b) x := by
  rw [List.take_add_one, h]; simp
theorem map_get {α : Type} {f : α → D} {l : List α} {i : Nat} {d : D} (h : (l.map f)[i]? = some d) : ∃ a, l[i]? = some a ∧ d = f a := by
  rw [List.getElem?_map] at h
  cases e : l[i]? with
  | none => rw [e] at h; cases h
  | some a => rw [e] at h; cases h; exact ⟨a, rfl, rfl⟩
theorem for_st {mi : MI} {g : MG} {tb : MS} {E : MEnds} {δ : Fr} {M : MH} {ds : List D} {Kp : MH → Prop} (S : Nat → Fr → MH → Prop) (hmi : ∀ R : List D → (MH → Prop) → MH → Prop, R ds Kp M → mi δ M R) (h0 : S 0 δ M) (hK : ∀ i δ' M', i ≤ ds.length → S i δ' M' → Kp M')
    (ht : ∀ i d δ' M', ds[i]? = some d → S i δ' M' → g d δ' M' fun δ2 M2 => tb { E with nx := S (i + 1), ct := S (i + 1), bk := E.nx } δ2 M2) (hd : ∀ δ' M', S ds.length δ' M' → E.nx δ' M') : mFor mi g tb E δ M := hmi _ ⟨S, h0, hK, ht, hd⟩
theorem fit_str {b : Str} (h : (PyData.str b).canLay0 = true) : fitD (.str b) := ⟨by simp [pur, h], by simp [dep]⟩
theorem oEqF_str {f : Bool → Bool} {b c : Str} {M : MH} {Q : MQ} (h : (PyData.str b).canLay0 = true := by decide +kernel) (h' : (PyData.str c).canLay0 = true := by decide +kernel) : oEqF f (.str b) (.str c) M Q = Q (.bl (f (b == c))) M := by
  rw [oEqF_fit (fit_str h) (fit_str h') (by simp), eqD_str]
/-! ### a list or a tuple -/
section
variable {X : Cx} {ma : ME}
def iS (m : ME) : MI := fun δ M Q => m δ M fun x M1 => (∃ p ds, x = .ref p ∧ LstAt p ds M1 ∧ Q ds (LstAt p ds) M1) ∨ ∃ ds, x = .tup ds ∧ Q ds (fun _ => True) M1
theorem ji_seq' {l : Expr} {tl : TE} {tg : Expr} (hl : PE X l tl) : PI X tg l (fun σ H R => tl σ H fun x H1 => (∃ a xs, x = .ref a ∧ SqL X.K H1 a xs ∧ (xs.length ≤ sizeLine → R (Itl X.K a) H1)) ∨ ∃ a xs, x = .ref a ∧ SqT X.K H1 a xs ∧ (xs.length ≤ sizeLine → R (Itt X.K a) H1)) := by
  refine ⟨fun pins s σ H R I h => ?_⟩
  refine thn (hl.run pins s σ H _ I h) fun v s1 ⟨y, H1, I1, r1, q1⟩ => ?_
  have fp : ∀ (H' : Hp), Inv X pins σ H1 s1 → ∀ b ∈ [s1.heap.objs.size], FpOk X pins H1 b := fun _ I b hb => by
    have eb : b = s1.heap.objs.size := by simpa using hb
    rw [eb]
    exact I.fpOk (Nat.le_refl _) (I.hok.fresh (Nat.le_refl _))
  rcases q1 with ⟨a, xs, ea, hq, q⟩ | ⟨a, xs, ea, hq, q⟩
  · subst ea
    obtain ⟨its, rv, pl, hz⟩ := I1.list hq
    have hv : v = Value.ref a := r1
    subst hv
    exact wpAny_pyIter_list pl.isList ⟨s1.heap.objs.size, [s1.heap.objs.size], _, _, H1, rfl, I1.kept (t' := s1.toks) fun b o e => Heap.get?_push_of_some _ e, turn_list a _, ⟨_, Heap.get?_push_size _ rfl, rfl, rfl⟩, fp H1 I1, q hz⟩
  · subst ea
    obtain ⟨its, rv, pl, hz⟩ := I1.tuple hq
    have hv : v = Value.ref a := r1
    subst hv
    exact wpAny_pyIter_tuple (show s1.heap.IsTuple a its.toArray from pl) ⟨s1.heap.objs.size, [s1.heap.objs.size], _, _, H1, rfl, I1.kept (t' := s1.toks) fun b o e => Heap.get?_push_of_some _ e, turn_tuple a _, ⟨_, Heap.get?_push_size _ rfl, rfl, rfl⟩, fp H1 I1, q hz⟩
theorem ji_seq {l tg : Expr} (hl : JE X l ma) : JI X tg l (iS ma) := by
  obtain ⟨_, p, k⟩ := hl
  refine ⟨_, ji_seq' p, fun σ H δ M Q R rl q kk => k σ H δ M _ _ rl q fun v d H' M' rv rl' u q' => ?_⟩
  rcases q' with ⟨a, ds, e, la, q'⟩ | ⟨ds, e, q'⟩
  · subst e
    obtain ⟨xs, s, r⟩ := sql_of rl'.m la
    exact .inl ⟨a, xs, rp_ref.mp rv, s, fun z => kk _ ds _ H' M' itl_ok (by rw [← r.length]; exact z) rl' u q'⟩
  · subst e
    obtain ⟨a, xs, ea, s, r⟩ := rp_tup.mp rv
    exact .inr ⟨a, xs, ea, s, fun z => kk _ ds _ H' M' (itt_ok s r) (by rw [← r.length]; exact z) rl' u q'⟩
end
end MM

namespace MM
open PySem PySem.Spec PyProof.Rows L2
/-! ### order of data -/
theorem dep_toP {d : D} {n : Nat} (h : dep d ≤ n) : (toP d).depth ≤ n := by rw [dep_of]; exact h
/-- two data that can be told apart by < -/
def cmpF (x y : D) : Prop := pur x = true ∧ pur y = true ∧ dep x ≤ 60 ∧ dep y ≤ 60 ∧ PySem.W.alike (toP x) (toP y) = true ∧ toP x ≠ .none
def ltD (x y : D) : Bool := PySem.W.dataLt (toP x) (toP y)
def oCmpF (f : D → D → Bool) : MR2 := fun x y M Q => cmpF x y ∧ Q (.bl (f x y)) M
section
variable {X : Cx}
def rCmpD (K : PySem.W.Frag) (f : PyData → PyData → Bool) : R2 := fun x y H Q => ∃ d e, Dp K H x d ∧ Dp K H y e ∧ PySem.W.alike d e = true ∧ d ≠ .none ∧ d.depth ≤ 60 ∧ e.depth ≤ 60 ∧ Q (.bl (f d e)) H
theorem op_cmpD {op : CmpOp} {f : PyData → PyData → Bool} (hu : X.A.units + 64 < cLine)
    (hop : ∀ {prog : Program} {w : World} {A : Around} {E : Value → Shared → Prop} {s : Shared} {a b : Value} {da db : PyData} {as bs : List Addr} {Q : Value → Shared → Prop}, Reads s.heap a da as → Reads s.heap b db bs → PySem.W.alike da db = true → da ≠ .none → A.units + min da.depth db.depth < cLine → Q (.bool (f da db)) s → wpAny (model prog w) A (compareOp op a b) Q E s) :
    OpR X (compareOp op) (rCmpD X.K f) := by
  intro pins s σ H x y v u Q I rx ry h
  obtain ⟨d, e, hd, he, al, nn, d1, d2, q⟩ := h
  obtain ⟨as, r1⟩ := Dp.reads I d x v hd rx
  obtain ⟨bs, r2⟩ := Dp.reads I e y u he ry
  exact hop r1 r2 al nn (by omega) ⟨.bl _, H, I, rfl, q⟩
theorem jcmpD {op : CmpOp} {f : PyData → PyData → Bool} (o : OpR X (compareOp op) (rCmpD X.K f)) : JO X (compareOp op) (oCmpF fun x y => f (toP x) (toP y)) :=
  ⟨_, o, fun x y d d' H M Q R m rx ry ⟨⟨p1, p2, d1, d2, al, nn⟩, q⟩ k => ⟨_, _, dp_of p1 rx, dp_of p2 ry, al, nn, dep_toP d1, dep_toP d2, k _ _ H M (rp_bl.mpr rfl) m (.refl H) q⟩⟩
abbrev oLtD : MR2 := oCmpF fun x y => ltD x y
abbrev oGtD : MR2 := oCmpF fun x y => ltD y x
abbrev oLeD : MR2 := oCmpF fun x y => !ltD y x
abbrev oGeD : MR2 := oCmpF fun x y => !ltD x y
theorem jltD (hu : X.A.units + 64 < cLine) : JO X (compareOp .Lt) oLtD := jcmpD (f := fun a b => PySem.W.dataLt a b) (op_cmpD hu fun a b c d e f => PySem.W.lt_data a b c d e f)
theorem jgtD (hu : X.A.units + 64 < cLine) : JO X (compareOp .Gt) oGtD := jcmpD (f := fun a b => PySem.W.dataLt b a) (op_cmpD hu fun a b c d e f => PySem.W.gt_data a b c d e f)
theorem jleD (hu : X.A.units + 64 < cLine) : JO X (compareOp .LtE) oLeD := jcmpD (f := fun a b => !PySem.W.dataLt b a) (op_cmpD hu fun a b c d e f => PySem.W.le_data a b c d e f)
theorem jgeD (hu : X.A.units + 64 < cLine) : JO X (compareOp .GtE) oGeD := jcmpD (f := fun a b => !PySem.W.dataLt a b) (op_cmpD hu fun a b c d e f => PySem.W.ge_data a b c d e f)
end
/-- pairs of ints -/
def dP (p : Int × Int) : D := .tup [.int p.1, .int p.2]
def ltP (p q : Int × Int) : Bool := if p.1 = q.1 then decide (p.2 < q.2) else decide (p.1 < q.1)
@[simp] theorem pur_dP {p : Int × Int} : pur (dP p) = true := by simp [dP, pur, purs]
@[simp] theorem dep_dP {p : Int × Int} : dep (dP p) = 1 := by simp [dP, dep, deps]
@[simp] theorem fit_dP {p : Int × Int} : fitD (dP p) := ⟨by simp, by simp⟩
theorem dP_inj {p q : Int × Int} : dP p = dP q ↔ p = q := by simp [dP, Prod.ext_iff]
@[simp] theorem eqD_dP {p q : Int × Int} : eqD (dP p) (dP q) = decide (p = q) := by
  simp [dP]
  rw [← Bool.decide_and, decide_eq_decide]
  exact ⟨fun h => Prod.ext h.1 h.2, fun h => by subst h; exact ⟨rfl, rfl⟩⟩
theorem toP_dP (p : Int × Int) : toP (dP p) = PySem.W.Datum.toD p := by
  simp only [dP, toP, toPs]; rfl
theorem cmpF_dP (p q : Int × Int) : cmpF (dP p) (dP q) := ⟨by simp, by simp, by simp, by simp, by rw [toP_dP, toP_dP]; exact PySem.W.DatumOrd.alike p q, by rw [toP_dP]; exact PySem.W.DatumOrd.notNone p⟩
theorem ltD_dP (p q : Int × Int) : ltD (dP p) (dP q) = ltP p q := by
  unfold ltD
  rw [toP_dP, toP_dP, PySem.W.DatumOrd.lt_eq]
  rfl
@[simp] theorem oCmpF_dP {f : D → D → Bool} {p q : Int × Int} {M : MH} {Q : MQ} : oCmpF f (dP p) (dP q) M Q = Q (.bl (f (dP p) (dP q))) M := by
  simp [oCmpF, cmpF_dP]
@[simp] theorem oEqF_dP {f : Bool → Bool} {r s : Int × Int} {M : MH} {Q : MQ} : oEqF f (dP r) (dP s) M Q = Q (.bl (f (decide (r = s)))) M := by
  rw [oEqF_fit fit_dP fit_dP (by simp [dP]), eqD_dP]
@[simp] theorem ixP0 {s : Int × Int} {M : MH} {Q : MQ} : oIx (dP s) (.int 0) M Q = Q (.int s.1) M := by simp [dP]
@[simp] theorem ixP1 {s : Int × Int} {M : MH} {Q : MQ} : oIx (dP s) (.int 1) M Q = Q (.int s.2) M := by simp [dP]
/-- pairs of such -/
abbrev Pt : Type := Int × Int
abbrev Sh : Type := Pt × Pt
def dH (h : Sh) : D := .tup [dP h.1, dP h.2]
@[simp] theorem pur_dH {p : Sh} : pur (dH p) = true := by simp [dH, pur, purs]
@[simp] theorem dep_dH {p : Sh} : dep (dH p) = 2 := by simp [dH, dep, deps]
@[simp] theorem fit_dH {p : Sh} : fitD (dH p) := ⟨by simp, by simp⟩
theorem dH_inj {p q : Sh} : dH p = dH q ↔ p = q := by simp [dH, dP_inj, Prod.ext_iff]
@[simp] theorem eqD_dH {p q : Sh} : eqD (dH p) (dH q) = decide (p = q) := by
  simp [dH]
  rw [← Bool.decide_and, decide_eq_decide]
  exact ⟨fun h => Prod.ext h.1 h.2, fun h => by subst h; exact ⟨rfl, rfl⟩⟩
@[simp] theorem oEqF_dH {f : Bool → Bool} {r s : Sh} {M : MH} {Q : MQ} : oEqF f (dH r) (dH s) M Q = Q (.bl (f (decide (r = s)))) M := by
  rw [oEqF_fit fit_dH fit_dH (by simp [dH]), eqD_dH]
@[simp] theorem ixH0 {s : Sh} {M : MH} {Q : MQ} : oIx (dH s) (.int 0) M Q = Q (dP s.1) M := by simp [dH]
@[simp] theorem ixH1 {s : Sh} {M : MH} {Q : MQ} : oIx (dH s) (.int 1) M Q = Q (dP s.2) M := by simp [dH]
/-! ### min(x, y), max(x, y) of data -/
section
variable {prog : Program} {w : World} {A : Around} {E : Value → Shared → Prop} {s : Shared}
theorem two_walk {a b : Value} {d e : PyData} {as bs : List Addr} {Q : Value → Shared → Prop} {op : CmpOp} {bt : Bool} {f : PyData → PyData → Bool} (hh : A.handled = none) (r1 : Reads s.heap a d as) (r2 : Reads s.heap b e bs)
    (hc : ∀ {s1 : Shared} {vs : Array Value} {xs : List PyData} {cs : List Addr}, ReadsAll s1.heap vs.toList xs cs → PySem.W.AlikeAll xs → A.in1.units + PyData.depthAll xs < cLine → CmpIn prog w A.in1 op s1.heap (fun i v => vs[i]? = some v) (fun i j => f (xs.getD i .none) (xs.getD j .none)))
    (al : PySem.W.AlikeAll [d, e]) (hd : d.depth ≤ 60) (he : e.depth ≤ 60) (hu : A.units + 64 < cLine)
    (q : ∀ h' tk, (∀ c o, s.heap.get? c = some o → h'.get? c = some o) → Q (if f e d = true then b else a) { s with heap := h', toks := tk }) :
    wpAny (model prog w) A.in1 (pyIter (.ref s.heap.objs.size)) (fun it s₂ => ∃ I fp wr G n P St H bt, it = .ref I ∧ WalksS prog w A.in1 I fp wr G n P St ∧ St 0 s₂ ∧ (∀ b ∈ fp, b < s₂.heap.objs.size) ∧ 0 < n ∧
      (∀ b o, H.get? b = some o → b ∉ wr) ∧ (∀ b o, H.get? b = some o → s₂.heap.get? b = some o) ∧ CmpIn prog w A.in1 op H P bt ∧ ∀ v s', P (argBest bt (n - 1)) v → Moved wr G s₂ s' → Q v s') E
      { s with heap := s.heap.push { cls := .type "tuple", data := .seq #[a, b] } } := by
  have hT : (s.heap.push { cls := .type "tuple", data := .seq #[a, b] }).IsTuple s.heap.objs.size #[a, b] := ⟨_, Heap.get?_push_size _ rfl, rfl, 0, rfl⟩
  have up : ∀ c o, s.heap.get? c = some o → (s.heap.push { cls := .type "tuple", data := .seq #[a, b] }).get? c = some o := fun c o z => Heap.get?_push_of_some _ z
  have hr : ReadsAll (s.heap.push { cls := .type "tuple", data := .seq #[a, b] }) (#[a, b] : Array Value).toList [d, e] _ := .cons (PySem.W.reads_keeps up r1) (.cons (PySem.W.reads_keeps up r2) .nil)
  have hdep : PyData.depthAll [d, e] ≤ 60 := by simp [PyData.depthAll]; omega
  refine PySem.W.iter_tupleW (A := A.in1) (s := { s with heap := s.heap.push { cls := .type "tuple", data := .seq #[a, b] } }) hh hT fun s₂ e2 W st hfp hw hk => ?_
  refine ⟨_, _, _, _, _, _, _, (s.heap.push { cls := .type "tuple", data := .seq #[a, b] }), _, rfl, W, st, hfp, by simp, hw, hk, hc (s1 := { s with heap := s.heap.push { cls := .type "tuple", data := .seq #[a, b] } }) hr al (by show A.units + 1 + _ < _; omega), fun v s' hP m => ?_⟩
  obtain ⟨h', tk, rfl, hk'⟩ := PySem.W.moved_old (s := { s with heap := s.heap.push { cls := .type "tuple", data := .seq #[a, b] } }) e2 rfl m
  have hv : v = if f e d = true then b else a := by
    cases hb : f e d
    · have e1 : argBest (fun i j => f ([d, e].getD i .none) ([d, e].getD j .none)) 1 = 0 := by simp [argBest, hb]
      have hP' : (#[a, b] : Array Value)[argBest (fun i j => f ([d, e].getD i .none) ([d, e].getD j .none)) 1]? = some v := hP
      rw [e1] at hP'
      simpa using hP'.symm
    · have e1 : argBest (fun i j => f ([d, e].getD i .none) ([d, e].getD j .none)) 1 = 1 := by simp [argBest, hb]
      have hP' : (#[a, b] : Array Value)[argBest (fun i j => f ([d, e].getD i .none) ([d, e].getD j .none)) 1]? = some v := hP
      rw [e1] at hP'
      simpa using hP'.symm
  rw [hv]
  exact q h' tk fun c o z => hk' c o (up c o z)
theorem min_twoH {a b : Value} {Q : Value → Shared → Prop}
    (h : wpAny (model prog w) A.in1 (pyIter (.ref s.heap.objs.size)) (fun it s₂ => ∃ I fp wr G n P St H bt, it = .ref I ∧ WalksS prog w A.in1 I fp wr G n P St ∧ St 0 s₂ ∧ (∀ b ∈ fp, b < s₂.heap.objs.size) ∧ 0 < n ∧
      (∀ b o, H.get? b = some o → b ∉ wr) ∧ (∀ b o, H.get? b = some o → s₂.heap.get? b = some o) ∧ CmpIn prog w A.in1 .Lt H P bt ∧ ∀ v s', P (argBest bt (n - 1)) v → Moved wr G s₂ s' → Q v s') E
      { s with heap := s.heap.push { cls := .type "tuple", data := .seq #[a, b] } }) : wpAny (model prog w) A (call (.builtin "min") [a, b]) Q E s := by
  have nm : (toString "min" ++ toString ".loop" : String) = "min.loop" := by decide
  refine call_function_tree F.kind_min F.plain_min F.entry_min (F.args_min2 _ _) ?_
  show wpAny _ A.in1 (Builtin.Builtins.bindParams "min" ["key", "default"] 0 ⟨[], []⟩ >>= _) _ _ s
  refine wpAny_bind (wpAny_of_eq (show Builtin.Builtins.bindParams "min" ["key", "default"] 0 ⟨[], []⟩ = pure [none, none] from rfl) ?_)
  show wpAny _ A.in1 (newTuple [a, b] >>= _) _ _ s
  refine wpAny_bind (wpAny_newObj_type ?_)
  refine wpAny_bind (wpAny_mono h (fun it s₂ h₂ => ?_) fun _ _ e => e)
  obtain ⟨I, fp, wr, G, n, P, St, H, bt, rfl, W, hst, hfp, hn, hw, hkp, hcmp, hQ⟩ := h₂
  refine wpAny_bind (wpAny_newObj_type ?_)
  have off : s₂.heap.objs.size ∉ fp := fun z => Nat.lt_irrefl _ (hfp _ z)
  rw [nm]
  refine wpAny_pure ⟨plainId_quiet F.plain_min_loop _, codeAny_min_loop_firstH W H hw bt hcmp s₂.heap.objs.size off (fresh_in hkp) _ hn (fun c o z => Heap.get?_push_of_some _ (hkp c o z)) (W.frame 0 s₂ _ s₂.toks hst (Nat.le_refl _) fun c _ o z => Heap.get?_push_of_some _ z) (Heap.get?_push_size _ rfl) fun v s' hP hm => ?_⟩
  exact hQ v s' hP (Moved.drop_new (tk := s₂.toks) hm (Nat.le_refl _))
theorem max_twoH {a b : Value} {Q : Value → Shared → Prop}
    (h : wpAny (model prog w) A.in1 (pyIter (.ref s.heap.objs.size)) (fun it s₂ => ∃ I fp wr G n P St H bt, it = .ref I ∧ WalksS prog w A.in1 I fp wr G n P St ∧ St 0 s₂ ∧ (∀ b ∈ fp, b < s₂.heap.objs.size) ∧ 0 < n ∧
      (∀ b o, H.get? b = some o → b ∉ wr) ∧ (∀ b o, H.get? b = some o → s₂.heap.get? b = some o) ∧ CmpIn prog w A.in1 .Gt H P bt ∧ ∀ v s', P (argBest bt (n - 1)) v → Moved wr G s₂ s' → Q v s') E
      { s with heap := s.heap.push { cls := .type "tuple", data := .seq #[a, b] } }) : wpAny (model prog w) A (call (.builtin "max") [a, b]) Q E s := by
  have nm : (toString "max" ++ toString ".loop" : String) = "max.loop" := by decide
  refine call_function_tree F.kind_max F.plain_max F.entry_max (F.args_max2 _ _) ?_
  show wpAny _ A.in1 (Builtin.Builtins.bindParams "max" ["key", "default"] 0 ⟨[], []⟩ >>= _) _ _ s
  refine wpAny_bind (wpAny_of_eq (show Builtin.Builtins.bindParams "max" ["key", "default"] 0 ⟨[], []⟩ = pure [none, none] from rfl) ?_)
  show wpAny _ A.in1 (newTuple [a, b] >>= _) _ _ s
  refine wpAny_bind (wpAny_newObj_type ?_)
  refine wpAny_bind (wpAny_mono h (fun it s₂ h₂ => ?_) fun _ _ e => e)
  obtain ⟨I, fp, wr, G, n, P, St, H, bt, rfl, W, hst, hfp, hn, hw, hkp, hcmp, hQ⟩ := h₂
  refine wpAny_bind (wpAny_newObj_type ?_)
  have off : s₂.heap.objs.size ∉ fp := fun z => Nat.lt_irrefl _ (hfp _ z)
  rw [nm]
  refine wpAny_pure ⟨plainId_quiet F.plain_max_loop _, codeAny_max_loop_firstH W H hw bt hcmp s₂.heap.objs.size off (fresh_in hkp) _ hn (fun c o z => Heap.get?_push_of_some _ (hkp c o z)) (W.frame 0 s₂ _ s₂.toks hst (Nat.le_refl _) fun c _ o z => Heap.get?_push_of_some _ z) (Heap.get?_push_size _ rfl) fun v s' hP hm => ?_⟩
  exact hQ v s' hP (Moved.drop_new (tk := s₂.toks) hm (Nat.le_refl _))
end
section
variable {X : Cx}
def rPick (K : PySem.W.Frag) (f : PyData → PyData → Bool) : List V → Hp → VK → Prop := fun xs H Q => ∃ x y d e, xs = [x, y] ∧ Dp K H x d ∧ Dp K H y e ∧ PySem.W.AlikeAll [d, e] ∧ d.depth ≤ 60 ∧ e.depth ≤ 60 ∧ Q (if f e d = true then y else x) H
theorem call_min2D (hc : X.calm = true) (hu : X.A.units + 64 < cLine) : CallR X (.builtin "min") (rPick X.K fun a b => PySem.W.dataLt a b) := by
  intro pins s σ H xs us Q I r h
  obtain ⟨x, y, d, e, rfl, hd, he, al, d1, d2, q⟩ := h
  obtain ⟨u, w', rfl, r1, r2⟩ := vals2 r
  obtain ⟨as, p1⟩ := Dp.reads I d x u hd r1
  obtain ⟨bs, p2⟩ := Dp.reads I e y w' he r2
  refine min_twoH (two_walk (op := .Lt) (bt := true) (f := fun a b => PySem.W.dataLt a b) (I.ok.hd hc) p1 p2 (fun hr ha hu => PySem.W.cmpIn_lt hr ha hu) al d1 d2 hu fun h' tk k => ⟨_, H, I.kept k, ?_, q⟩)
  show RelV (if PySem.W.dataLt e d = true then y else x) (if PySem.W.dataLt e d = true then w' else u)
  split
  · exact r2
  · exact r1
theorem call_max2D (hc : X.calm = true) (hu : X.A.units + 64 < cLine) : CallR X (.builtin "max") (rPick X.K fun a b => PySem.W.dataLt b a) := by
  intro pins s σ H xs us Q I r h
  obtain ⟨x, y, d, e, rfl, hd, he, al, d1, d2, q⟩ := h
  obtain ⟨u, w', rfl, r1, r2⟩ := vals2 r
  obtain ⟨as, p1⟩ := Dp.reads I d x u hd r1
  obtain ⟨bs, p2⟩ := Dp.reads I e y w' he r2
  refine max_twoH (two_walk (op := .Gt) (bt := true) (f := fun a b => PySem.W.dataLt b a) (I.ok.hd hc) p1 p2 (fun hr ha hu => PySem.W.cmpIn_gt hr ha hu) al d1 d2 hu fun h' tk k => ⟨_, H, I.kept k, ?_, q⟩)
  show RelV (if PySem.W.dataLt d e = true then y else x) (if PySem.W.dataLt d e = true then w' else u)
  split
  · exact r2
  · exact r1
def bPick (f : D → D → Bool) : MR0 := fun ds M Q => ∃ x y, ds = [x, y] ∧ pur x = true ∧ pur y = true ∧ dep x ≤ 60 ∧ dep y ≤ 60 ∧ PySem.W.AlikeAll [toP x, toP y] ∧ Q (if f y x = true then y else x) M
abbrev bMinD : MR0 := bPick fun a b => ltD a b
abbrev bMaxD : MR0 := bPick fun a b => ltD b a
theorem jpick {f : PyData → PyData → Bool} {v : Value} (o : CallR X v (rPick X.K f)) : JC X v (bPick fun a b => f (toP a) (toP b)) := ⟨_, o, fun xs ds H M Q R m rs ⟨x, y, e, p1, p2, d1, d2, al, q⟩ k => by
  subst e
  obtain ⟨v, v', rfl, rv, rv'⟩ := rpl2 rs
  refine ⟨v, v', _, _, rfl, dp_of p1 rv, dp_of p2 rv', al, dep_toP d1, dep_toP d2, ?_⟩
  cases hb : f (toP y) (toP x)
  · simp only [hb, Bool.false_eq_true, if_false] at q ⊢
    exact k _ _ H M rv m (.refl H) q
  · simp only [hb, if_true] at q ⊢
    exact k _ _ H M rv' m (.refl H) q⟩
theorem jminD (hu : X.A.units + 64 < cLine) (hc : X.calm = true) : JC X (.builtin "min") bMinD := jpick (call_min2D hc hu)
theorem jmaxD (hu : X.A.units + 64 < cLine) (hc : X.calm = true) : JC X (.builtin "max") bMaxD := jpick (call_max2D hc hu)
end
theorem alike2_dP (p q : Pt) : PySem.W.AlikeAll [toP (dP p), toP (dP q)] := by
  rw [toP_dP, toP_dP]
  exact PySem.W.alikeAll_datum [p, q]
@[simp] theorem bPick_dP {f : D → D → Bool} {p q : Pt} {M : MH} {Q : MQ} : bPick f [dP p, dP q] M Q = Q (dP (if f (dP q) (dP p) = true then q else p)) M := by
  refine propext ⟨fun ⟨x, y, e, _, _, _, _, _, h⟩ => ?_, fun h => ⟨_, _, rfl, by simp, by simp, by simp, by simp, alike2_dP p q, ?_⟩⟩
  · cases e
    split at h <;> simp_all
  · split <;> simp_all
/-! ### items of lists -/
section
variable {M : MH} {Q : MQ} {p : Addr} {x y z w : D} {l : List D}
theorem oIxL0 (h : LstAt p (x :: l) M) (q : Q x M) : oIx (.ref p) (.int 0) M Q := oIx_ref (n := 0) h rfl q
theorem oIxL1 (h : LstAt p (x :: y :: l) M) (q : Q y M) : oIx (.ref p) (.int 1) M Q := oIx_ref (n := 1) h rfl q
theorem oIxL2 (h : LstAt p (x :: y :: z :: l) M) (q : Q z M) : oIx (.ref p) (.int 2) M Q := oIx_ref (n := 2) h rfl q
theorem bLenL {ds : List D} (h : LstAt p ds M) (q : Q (.int ds.length) M) : bLen [.ref p] M Q := ⟨ds, h, q⟩
end
theorem fmod_lt {a b : Int} (h : 0 < b) : 0 ≤ a.fmod b ∧ a.fmod b < b := ⟨Int.fmod_nonneg_of_pos _ h, Int.fmod_lt_of_pos _ h⟩
theorem log2_monoA {a b : Nat} (h : a ≤ b) : a.log2 ≤ b.log2 := by
  rcases Nat.eq_zero_or_pos a with rfl | ha
  · simp
  · rcases Nat.lt_or_ge b.log2 a.log2 with z | z
    · have h1 := Nat.log2_self_le (n := a) (by omega)
      have h2 := Nat.lt_log2_self (n := b)
      have h3 : 2 ^ (b.log2 + 1) ≤ 2 ^ a.log2 := Nat.pow_le_pow_right (by decide) z
      omega
    · exact z
theorem log2_ltA {a k : Nat} (h : a < 2 ^ k) (hk : 0 < k) : a.log2 < k := by
  rcases Nat.eq_zero_or_pos a with rfl | ha
  · simpa using hk
  · exact (Nat.log2_lt (by omega)).mpr h
theorem LstAt.inj {p : Addr} {ds es : List D} {M : MH} (h : LstAt p ds M) (k : LstAt p es M) : ds = es := by
  rcases h with h | h <;> rcases k with k | k <;> (rw [h] at k; cases k; try rfl)
theorem oIxE {p : Addr} {ds : List D} {n : Nat} {d : D} {M : MH} {Q : MQ} (h : LstAt p ds M) (hd : ds[n]? = some d) : oIx (.ref p) (.int n) M Q = Q d M := by
  refine propext ⟨fun q => ?_, fun q => oIx_ref h hd q⟩
  obtain ⟨es, i, d', hl, ei, ea, q⟩ := (show ∃ ds i d, (M p = some (.lst ds) ∨ M p = some (.rol ds)) ∧ D.int n = .int i ∧ atI ds i = some d ∧ Q d M from q)
  cases ei
  obtain rfl := h.inj hl
  rw [atI_nat hd] at ea
  cases ea
  exact q
theorem oIxE0 {p : Addr} {x : D} {l : List D} {M : MH} {Q : MQ} (h : LstAt p (x :: l) M) : oIx (.ref p) (.int 0) M Q = Q x M := oIxE (n := 0) h rfl
theorem oIxE1 {p : Addr} {x y : D} {l : List D} {M : MH} {Q : MQ} (h : LstAt p (x :: y :: l) M) : oIx (.ref p) (.int 1) M Q = Q y M := oIxE (n := 1) h rfl
theorem oIxE2 {p : Addr} {x y z : D} {l : List D} {M : MH} {Q : MQ} (h : LstAt p (x :: y :: z :: l) M) : oIx (.ref p) (.int 2) M Q = Q z M := oIxE (n := 2) h rfl
theorem bLenE {p : Addr} {ds : List D} {M : MH} {Q : MQ} (h : LstAt p ds M) : bLen [.ref p] M Q = Q (.int ds.length) M := by
  refine propext ⟨fun q => ?_, fun q => ⟨ds, h, q⟩⟩
  obtain ⟨es, hl, q⟩ := (show ∃ ds, (M p = some (.lst ds) ∨ M p = some (.rol ds)) ∧ Q (.int ds.length) M from q)
  obtain rfl := h.inj hl
  exact q
theorem cmu_nat {i j : Int} (h : i.natAbs.log2 ≤ 40000000) (k : j.natAbs.log2 ≤ 40000000) : CMu i j := by unfold CMu; omega
theorem log2_small {a : Nat} (h : a < 2 ^ 1000) : a.log2 ≤ 40000000 := by
  have := log2_ltA h (by decide); omega
theorem lc_map {α : Type} {f : α → D} {l : List α} {mi : MI} {g : MG} {mt : MT} {me : ME} {vs : List Nat} {δ : Fr} {M : MH} {Q : MQ} {Kp : MH → Prop} (h : α → Option D) (hmi : ∀ R : List D → (MH → Prop) → MH → Prop, R (l.map f) Kp M → mi δ M R) (hK : ∀ L o, M L = none → Kp (ud M L o))
    (ht : ∀ L acc a, a ∈ l → M L = none → ∀ (R1 : MQ) (R0 : MH → Prop), (∀ y, h a = some y → R1 y (ud M L (.lst acc))) → (h a = none → R0 (ud M L (.lst acc))) → g (f a) (wipeM δ vs) (ud M L (.lst acc)) fun δ2 M2 => mt δ2 M2 fun b M3 => if b = true then me δ2 M3 R1 else R0 M3)
    (hq : ∀ L, M L = none → Q (.ref L) (ud M L (.lst (l.filterMap h)))) : mLc mi g mt me vs δ M Q := by
  refine hmi _ fun L hL => ⟨fun i acc M' => acc = (l.take i).filterMap h ∧ M' = ud M L (.lst acc), ⟨by simp, rfl⟩, ?_, ?_, ?_⟩
  · rintro i acc M' _ ⟨rfl, rfl⟩
    exact hK L _ hL
  · rintro i d acc M' hd _ ⟨rfl, rfl⟩
    obtain ⟨a, ha, rfl⟩ := map_get hd
    have e : l.take (i + 1) = l.take i ++ [a] := by rw [List.take_add_one, ha]; rfl
    refine ht L _ a (List.mem_of_getElem? ha) hL _ _ (fun y hy => ?_) (fun hn => ?_)
    · refine ⟨ud_same, ?_, ?_⟩
      · rw [e, List.filterMap_append]; simp [hy]
      · rw [ud_ud]
    · refine ⟨?_, rfl⟩
      rw [e, List.filterMap_append]; simp [hn]
  · rintro acc M' _ ⟨rfl, rfl⟩
    rw [List.length_map, List.take_length]
    exact hq L hL
/-- a row of all -/
theorem lc_all {α : Type} {f : α → D} {l : List α} {mi : MI} {g : MG} {me : ME} {vs : List Nat} {δ : Fr} {M : MH} {Q : MQ} {Kp : MH → Prop} (h : α → D) (hmi : ∀ R : List D → (MH → Prop) → MH → Prop, R (l.map f) Kp M → mi δ M R) (hK : ∀ L o, M L = none → Kp (ud M L o))
    (ht : ∀ L acc a, a ∈ l → M L = none → ∀ (R1 : MQ), R1 (h a) (ud M L (.lst acc)) → g (f a) (wipeM δ vs) (ud M L (.lst acc)) fun δ2 M2 => me δ2 M2 R1)
    (hq : ∀ L, M L = none → Q (.ref L) (ud M L (.lst (l.map h)))) : mLc mi g mYes me vs δ M Q := by
  refine lc_map (fun a => some (h a)) hmi hK (fun L acc a ha hL R1 R0 h1 _ => ?_) fun L hL => ?_
  · have := ht L acc a ha hL R1 (h1 _ rfl)
    simpa [mYes] using this
  · rw [List.filterMap_eq_map']; exact hq L hL
theorem seq_cut {t u : MS} {E : MEnds} {δ : Fr} {M : MH} (C : Fr → MH → Prop) (h2 : ∀ δ' M', C δ' M' → u E δ' M') (h1 : ∀ nx : Fr → MH → Prop, (∀ δ' M', C δ' M' → nx δ' M') → t { E with nx := nx } δ M) : mSeq t u E δ M := h1 (u E) h2
theorem cut {s : MS} {E : MEnds} {δ : Fr} {M : MH} (C : Fr → MH → Prop) (h2 : ∀ δ' M', C δ' M' → E.nx δ' M') (h1 : ∀ nx : Fr → MH → Prop, (∀ δ' M', C δ' M' → nx δ' M') → s { E with nx := nx } δ M) : s E δ M := h1 E.nx h2
/-- x == [] of a list -/
theorem eq_nil {f : Bool → Bool} {r : Addr} {α : Type} [DecidableEq α] {g : α → D} {l : List α} {n : Nat} {M : MH} {Q : MQ} (hg : ∀ a, fitD (g a)) (hd : ∀ a, dep (g a) ≤ n) (hn : n ≤ 63) (he : ∀ a b, eqD (g a) (g b) = decide (a = b)) (h : LstAt r (l.map g) M)
    (q : ∀ u, M u = none → Q (.bl (f (decide (l = [])))) (ud M u (.lst []))) : ∀ p, M p = none → oEqF f (.ref r) (.ref p) (ud M p (.lst [])) Q := fun u hu => by
  have e := eqL_map he l []
  refine oEqF_lst (h.ud hu) (.inl ud_same) (fitL_map hg n hn hd l) (fitL_map hg n hn hd []) ?_
  rw [show ([] : List D) = ([] : List α).map g from rfl, e]
  exact q u hu
/-! ### the script, and the like: a row of which one asks its length and its items -/
abbrev dIs (ns : List Int) : List D := ns.map D.int
def RowD (x : D) (ds : List D) (M : MH) : Prop := x = .tup ds ∨ x = .kl ds ∨ ∃ p, x = .ref p ∧ LstAt p ds M
theorem RowD.ext {x : D} {ds : List D} {M M' : MH} (h : RowD x ds M) (e : Ext M M') : RowD x ds M' := h.imp id fun h => h.imp id fun ⟨p, a, b⟩ => ⟨p, a, b.ext e⟩
theorem RowD.len {x : D} {ds : List D} {M : MH} {Q : MQ} (h : RowD x ds M) (q : Q (.int ds.length) M) : bLen [x] M Q := by
  rcases h with rfl | rfl | ⟨p, rfl, h⟩
  · exact q
  · exact q
  · exact ⟨ds, h, q⟩
theorem RowD.ix {x : D} {ds : List D} {n : Nat} {d : D} {M : MH} {Q : MQ} (h : RowD x ds M) (hd : ds[n]? = some d) (q : Q d M) : oIx x (.int n) M Q := by
  rcases h with rfl | rfl | ⟨p, rfl, h⟩
  · exact oIx_nat hd q
  · exact ⟨n, d, rfl, atI_nat hd, q⟩
  · exact oIx_ref h hd q
/-- the way in: a law of one script, its def as it stands behind the facts -/
theorem walk_ofM {l : PySem.W.OpenLaw} {n k : Nat} {q : Program} {loose : List Str} {XP : (Str → Option Value) → Heap → Prop} {YP : World → Heap → Prop} {d : DefRec} {x : Str}
    (hn : l.most = some n) (hn2 : n ≤ sizeLine) (hdf : d.params.defaults = []) (hr : Room k callerA)
    (F : ∀ (w : World) (mg : Str → Option Value) (fa : Addr) (h : Heap), YP w h → h.Ns mainGlobals mg → mg d.name = some (.ref fa) →
      ∃ (K : PySem.W.Frag) (fd : FuncData) (sp : MSp), K.In h ∧ (∀ (s : Shared) (u : Value), BindsTo s fd ⟨[u], []⟩ [(x, u)]) ∧
        (∀ (z : D) (M : MH) (ns : List Int), ns.length ≤ n → (∀ i ∈ ns, i.natAbs.log2 ≤ 1048576) → RowD z (dIs ns) M → sp [z] M (fun v _ => v = .bl true) mx0) ∧
        ∀ base : Heap, K.In base → base.Ns mainGlobals mg → FnOk l.prog w K mg base CX0 k fa fd [x] (lift ⟨K, l.prog, w⟩ 1 sp)) :
    PySem.W.WalkO q loose XP YP l.row.toRowW d [] (fun f vs => PySem.call f vs) := by
  refine Att.attach_callB hn hdf fun w s₀ s₁ mg mb fa o pm cd doc a vs ns G Y ho hd hcd hmg hobj hints hlen hbits hg => ?_
  obtain ⟨K, fd, sp, KX, hb, hsp, hF⟩ := F w mg fa _ Y G.T.g hmg
  refine law_call KX G.T.g G.T.b G.T.builtins G.T.nolimit hg hobj hints (Nat.le_trans hlen hn2) hr hF hb (fun H hO hS => ?_) fun H e s' z => z
  have hbb : ∀ i ∈ ns, i.natAbs.log2 ≤ 1048576 := fun i hi => by
    have h := hbits i hi
    unfold Builtin.Int.intBits at h
    split at h
    · rename_i e
      have e' : i = 0 := by simpa using e
      subst e'; simp
    · omega
  have fin : ∀ (z : D) (M : MH), RpL ⟨K, l.prog, w⟩ H [z] [.ref a] → MR ⟨K, l.prog, w⟩ M H → RowD z (dIs ns) M → lift ⟨K, l.prog, w⟩ 1 sp [.ref a] H (fun v _ => v = .bl true) fun _ _ _ => False := fun z M h1 h2 h3 =>
    ⟨rfl, [z], M, fun v _ => v = .bl true, mx0, h1, h2, hsp z M ns hlen hbb h3, fun v d H' M' rv _ _ e => by subst e; exact rp_bl.mp rv, fun _ _ _ _ _ _ _ _ y => y.elim⟩
  rcases hS with hS | hS
  · refine fin (.ref a) (fun b => if b = a then some (.rol (dIs ns)) else none) (.cons (rp_ref.mpr rfl) .nil) (fun b u e => ?_) (.inr (.inr ⟨a, rfl, .inr (by simp)⟩))
    by_cases z : b = a
    · subst z
      have e' : (some (MO.rol (dIs ns)) : Option MO) = some u := by simpa using e
      cases e'
      exact ⟨_, hS, .ofInts⟩
    · simp [z] at e
  · exact fin (.kl (dIs ns)) (fun _ => none) (.cons (rp_kl.mpr ⟨a, _, rfl, hS, .ofInts⟩) .nil) (fun b u e => by cases e) (.inr (.inl rfl))
end MM

namespace MM
open PySem PySem.Spec PyProof.Rows L2
/-! ### fractions as data -/
def fr (r : Rat) : D := .tup [.int r.num, .int (r.den : Int)]
/-- bits that hold the top and the bottom -/
def nb (r : Rat) : Nat := max r.num.natAbs.log2 r.den.log2 + 1
theorem nb_num (r : Rat) : r.num.natAbs < 2 ^ nb r := by
  have h : r.num.natAbs.log2 + 1 ≤ nb r := by unfold nb; omega
  exact Nat.lt_of_lt_of_le Nat.lt_log2_self (Nat.pow_le_pow_right (by decide) h)
theorem nb_den (r : Rat) : r.den < 2 ^ nb r := by
  have h : r.den.log2 + 1 ≤ nb r := by unfold nb; omega
  exact Nat.lt_of_lt_of_le Nat.lt_log2_self (Nat.pow_le_pow_right (by decide) h)
theorem log2_lt_of {n k : Nat} (h : n < 2 ^ k) (hk : 0 < k) : n.log2 < k := by
  by_cases e : n = 0
  · subst e; simpa using hk
  · exact (Nat.log2_lt e).mpr h
theorem log2_le_of {n k : Nat} (h : n < 2 ^ (k + 1)) : n.log2 ≤ k := by
  have := log2_lt_of h (Nat.succ_pos k); omega
theorem log2_mono {n m : Nat} (h : n ≤ m) : n.log2 ≤ m.log2 := by
  by_cases e : n = 0
  · subst e; simp
  · have := (Nat.log2_lt e (k := m.log2 + 1)).mpr (Nat.lt_of_le_of_lt h Nat.lt_log2_self); omega
theorem nb_le {r : Rat} {k : Nat} (h1 : r.num.natAbs < 2 ^ k) (h2 : r.den < 2 ^ k) : nb r ≤ k := by
  have hk : 0 < k := by
    rcases Nat.eq_zero_or_pos k with e | e
    · subst e; have := r.den_nz; simp at h2; omega
    · exact e
  have a := log2_lt_of h1 hk
  have b := log2_lt_of h2 hk
  unfold nb; omega
theorem nb_pos (r : Rat) : 0 < nb r := by unfold nb; omega
theorem cmu_of {i j : Int} {a b : Nat} (h1 : i.natAbs < 2 ^ a) (h2 : j.natAbs < 2 ^ b) (h : a + b ≤ 1000000) : CMu i j := by
  have x : i.natAbs.log2 ≤ a := by
    by_cases e : i.natAbs = 0
    · rw [e]; simp
    · have := (Nat.log2_lt e).mpr h1; omega
  have y : j.natAbs.log2 ≤ b := by
    by_cases e : j.natAbs = 0
    · rw [e]; simp
    · have := (Nat.log2_lt e).mpr h2; omega
  unfold CMu
  by_cases e1 : i.natAbs = 0
  · rw [e1]; simp
    by_cases e2 : j.natAbs = 0
    · rw [e2]; simp
    · have := (Nat.log2_lt e2).mpr h2; omega
  · have := (Nat.log2_lt e1).mpr h1; omega
theorem divInt_bits {t b : Int} {k : Nat} (hb : b ≠ 0) (h1 : t.natAbs < 2 ^ k) (h2 : b.natAbs < 2 ^ k) : nb (Rat.divInt t b) ≤ k := by
  have g1 : 0 < b.gcd t := Int.gcd_pos_of_ne_zero_left _ hb
  refine nb_le ?_ ?_
  · rw [Rat.num_divInt]
    refine Nat.lt_of_le_of_lt ?_ h1
    have e : (b.sign * t / ((b.gcd t : Nat) : Int)).natAbs ≤ (b.sign * t).natAbs := by
      rw [Int.natAbs_ediv_of_dvd]
      · exact Nat.div_le_self _ _
      · exact Int.dvd_trans (Int.gcd_dvd_right ..) (Int.dvd_mul_left ..)
    refine Nat.le_trans e ?_
    rw [Int.natAbs_mul]
    rcases Int.lt_trichotomy b 0 with h | h | h
    · rw [Int.sign_eq_neg_one_of_neg h]; simp
    · exact absurd h hb
    · rw [Int.sign_eq_one_of_pos h]; simp
  · rw [Rat.den_divInt, if_neg hb]
    exact Nat.lt_of_le_of_lt (Nat.div_le_self _ _) h2
theorem rat_div (r : Rat) : r = Rat.divInt r.num r.den := (Rat.num_divInt_den r).symm
theorem pow_add_lt {x y a b : Nat} (h1 : x < 2 ^ a) (h2 : y < 2 ^ b) : x * y < 2 ^ (a + b) := by
  rw [Nat.pow_add]; exact Nat.mul_lt_mul'' h1 h2
theorem den_pos (r : Rat) : (0 : Int) < (r.den : Int) := by have := r.den_nz; omega
theorem den_ne (r : Rat) : (r.den : Int) ≠ 0 := by have := r.den_nz; omega
theorem add_divInt (r s : Rat) : r + s = Rat.divInt (r.num * s.den + s.num * r.den) (r.den * s.den) := by
  conv => lhs; rw [rat_div r, rat_div s]
  rw [Rat.divInt_add_divInt _ _ (den_ne r) (den_ne s)]
theorem sub_divInt (r s : Rat) : r - s = Rat.divInt (r.num * s.den - s.num * r.den) (r.den * s.den) := by
  conv => lhs; rw [rat_div r, rat_div s]
  rw [Rat.divInt_sub_divInt _ _ (den_ne r) (den_ne s)]
theorem mul_divInt (r s : Rat) : r * s = Rat.divInt (r.num * s.num) (r.den * s.den) := by
  conv => lhs; rw [rat_div r, rat_div s]
  rw [Rat.divInt_mul_divInt]
theorem div_divInt (r s : Rat) (h : s ≠ 0) : r / s = Rat.divInt (r.num * s.den) (r.den * s.num) := by
  have e : s⁻¹ = Rat.divInt s.den s.num := by
    conv => lhs; rw [rat_div s]
    rw [Rat.inv_divInt]
  rw [Rat.div_def, e]
  conv => lhs; rw [rat_div r]
  rw [Rat.divInt_mul_divInt]
theorem bits_top {r s : Rat} : (r.num * s.den).natAbs < 2 ^ (nb r + nb s) := by
  rw [Int.natAbs_mul]; exact pow_add_lt (nb_num r) (by simpa using nb_den s)
theorem bits_bot {r s : Rat} : ((r.den : Int) * s.den).natAbs < 2 ^ (nb r + nb s) := by
  rw [Int.natAbs_mul]; exact pow_add_lt (by simpa using nb_den r) (by simpa using nb_den s)
theorem bits_nn {r s : Rat} : (r.num * s.num).natAbs < 2 ^ (nb r + nb s) := by
  rw [Int.natAbs_mul]; exact pow_add_lt (nb_num r) (nb_num s)
theorem bits_dn {r s : Rat} : ((r.den : Int) * s.num).natAbs < 2 ^ (nb r + nb s) := by
  rw [Int.natAbs_mul]; exact pow_add_lt (by simpa using nb_den r) (nb_num s)
theorem lt_add_one {x n : Nat} (h : x < 2 ^ n) : x < 2 ^ (n + 1) := Nat.lt_of_lt_of_le h (Nat.pow_le_pow_right (by decide) (Nat.le_succ _))
theorem abs_add_lt {x y : Int} {n : Nat} (h1 : x.natAbs < 2 ^ n) (h2 : y.natAbs < 2 ^ n) : (x + y).natAbs < 2 ^ (n + 1) := by
  have := Int.natAbs_add_le x y
  rw [Nat.pow_succ]; omega
theorem abs_sub_lt {x y : Int} {n : Nat} (h1 : x.natAbs < 2 ^ n) (h2 : y.natAbs < 2 ^ n) : (x - y).natAbs < 2 ^ (n + 1) := by
  have e : x - y = x + (-y) := by omega
  rw [e]
  exact abs_add_lt h1 (by rw [Int.natAbs_neg]; exact h2)
theorem nb_add (r s : Rat) : nb (r + s) ≤ nb r + nb s + 1 := by
  rw [add_divInt]
  refine divInt_bits (Int.mul_ne_zero (den_ne r) (den_ne s)) (abs_add_lt bits_top ?_) (lt_add_one bits_bot)
  rw [Nat.add_comm]; exact bits_top
theorem nb_sub (r s : Rat) : nb (r - s) ≤ nb r + nb s + 1 := by
  rw [sub_divInt]
  refine divInt_bits (Int.mul_ne_zero (den_ne r) (den_ne s)) (abs_sub_lt bits_top ?_) (lt_add_one bits_bot)
  rw [Nat.add_comm]; exact bits_top
theorem nb_mul (r s : Rat) : nb (r * s) ≤ nb r + nb s := by
  rw [mul_divInt]
  exact divInt_bits (Int.mul_ne_zero (den_ne r) (den_ne s)) bits_nn bits_bot
theorem nb_div (r s : Rat) (h : s ≠ 0) : nb (r / s) ≤ nb r + nb s := by
  rw [div_divInt r s h]
  have hs : s.num ≠ 0 := fun z => h (Rat.num_eq_zero.mp z)
  exact divInt_bits (Int.mul_ne_zero (den_ne r) hs) bits_top bits_dn
/-! ### spotlook/fractions -/
def sp_divisor : MSp := fun ds M Q _ => ∃ a b : Int, ds = [.int a, .int b] ∧ 0 ≤ a ∧ 0 ≤ b ∧ Q (.int ((Int.gcd a b : Nat) : Int)) M
/-! divisor: 0 one 1 other -/
def ms_divisor : MS := (mSeq (mWhile (mTs (m2 (oNe) (mV 1) (mC (.int 0)))) (mPar 0 1 (maC (mV 1) (maC (m2 oMod (mV 0) (mV 1)) maN))))
  (mRet (mV 0)))
def N_divisor : List Str := ["one", "other"]
theorem rd_divisor (ds : List D) (M : MH) (Q : MQ) (h : sp_divisor ds M Q mx0) : ms_divisor (ends Q) (startD N_divisor ds) M := by
  obtain ⟨a, b, rfl, ha, hb, q⟩ := h
  show ∃ W : Nat → Fr → MH → Prop, _
  refine ⟨fun m δ M' => M' = M ∧ ∃ x y : Int, 0 ≤ x ∧ 0 ≤ y ∧ m = y.toNat ∧ δ = [some (.int x), some (.int y)] ∧ Int.gcd x y = Int.gcd a b, ⟨_, rfl, a, b, ha, hb, rfl, rfl, rfl⟩, ?_⟩
  rintro m δ M' ⟨rfl, x, y, hx, hy, rfl, rfl, e⟩
  simp only [mTs_eq, m2_eq, mV_eq, mC_eq]
  refine ⟨_, rfl, ?_⟩
  simp only [oEqF_int]
  refine ⟨_, rfl, ?_⟩
  by_cases h0 : y = 0
  · subst h0
    simp
    rw [show x = ((Int.gcd a b : Nat) : Int) from by rw [← e]; simp; omega]
    exact q
  · simp [h0]
    obtain ⟨u, rfl⟩ := Int.eq_ofNat_of_zero_le hx
    obtain ⟨v, rfl⟩ := Int.eq_ofNat_of_zero_le hy
    have hv : v ≠ 0 := by omega
    have em : Int.fmod (u : Int) (v : Int) = ((u % v : Nat) : Int) := by rw [Int.fmod_eq_emod_of_nonneg _ (by omega)]; rfl
    rw [em]
    refine ⟨u % v, ?_, v, by omega, (u % v : Nat), by omega, (Int.toNat_natCast _).symm, ⟨rfl, rfl⟩, ?_⟩
    · have := Nat.mod_lt u (show 0 < v by omega)
      omega
    · rw [← e]
      show Nat.gcd v (u % v) = Nat.gcd u v
      rw [Nat.gcd_comm u v, Nat.gcd_rec v u, Nat.gcd_comm]
/-- a fraction in lowest terms: t over b -/
def sp_fraction : MSp := fun ds M Q _ => ∃ t b : Int, ds = [.int t, .int b] ∧ b ≠ 0 ∧ b.natAbs.log2 < 9000 ∧ Q (fr (Rat.divInt t b)) M
/-! fraction: 0 top 1 bottom 2 by -/
def ms_fraction : MS := (mSeq (mIte (mTs (m2 (oEq) (mV 1) (mC (.int 0)))) mNever mNext)
  (mSeq (mAsg (mCall 2 sp_divisor (maC (mB bAbs (maC (mV 0) maN)) (maC (mB bAbs (maC (mV 1) maN)) maN))) (gN 2))
  (mSeq (mIte (mTs (m2 (oLt) (mV 1) (mC (.int 0)))) (mAsg (m1 oNeg (mV 2)) (gN 2)) mNext)
  (mRet (mTup (maC (m2 oDiv (mV 0) (mV 2)) (maC (m2 oDiv (mV 1) (mV 2)) maN)))))))
def N_fraction : List Str := ["top", "bottom", "by"]
theorem frac_num {t b g : Int} (hb : b ≠ 0) (hg : g = ((Int.gcd b t : Nat) : Int)) : t.fdiv (if b < 0 then -g else g) = (Rat.divInt t b).num ∧ b.fdiv (if b < 0 then -g else g) = ((Rat.divInt t b).den : Int) := by
  have g1 : 0 < Int.gcd b t := Int.gcd_pos_of_ne_zero_left _ hb
  have gp : 0 < g := by omega
  have dt : g ∣ t := by rw [hg]; exact Int.gcd_dvd_right ..
  have db : g ∣ b := by rw [hg]; exact Int.gcd_dvd_left ..
  obtain ⟨u, eu⟩ := dt
  obtain ⟨v, ev⟩ := db
  rw [Rat.num_divInt, Rat.den_divInt, if_neg hb, ← hg]
  have ed : ((b.natAbs / Int.gcd b t : Nat) : Int) = (b.natAbs : Int) / g := by rw [hg]; rfl
  rw [ed]
  by_cases h : b < 0
  · rw [if_pos h, Int.sign_eq_neg_one_of_neg h]
    have en : (b.natAbs : Int) = g * (-v) := by
      rw [show (b.natAbs : Int) = -b by omega, ev, Int.mul_neg]
    have et : -1 * t = g * (-u) := by rw [eu, Int.mul_neg]; omega
    rw [en, et, Int.mul_ediv_cancel_left _ (by omega), Int.mul_ediv_cancel_left _ (by omega)]
    constructor
    · rw [show t = (-g) * (-u) by rw [eu, Int.neg_mul_neg], Int.mul_fdiv_cancel_left _ (by omega)]
    · rw [show b = (-g) * (-v) by rw [ev, Int.neg_mul_neg], Int.mul_fdiv_cancel_left _ (by omega)]
  · have hp : 0 < b := by omega
    rw [if_neg h, Int.sign_eq_one_of_pos hp]
    have en : (b.natAbs : Int) = g * v := by rw [show (b.natAbs : Int) = b by omega, ev]
    rw [en, Int.one_mul, Int.mul_ediv_cancel_left _ (by omega)]
    constructor
    · rw [eu, Int.mul_fdiv_cancel_left _ (by omega), Int.mul_ediv_cancel_left _ (by omega)]
    · rw [ev, Int.mul_fdiv_cancel_left _ (by omega)]
theorem abs_if (t : Int) : (if t < 0 then -t else t) = (t.natAbs : Int) := by split <;> omega
theorem rd_fraction (ds : List D) (M : MH) (Q : MQ) (h : sp_fraction ds M Q mx0) : ms_fraction (ends Q) (startD N_fraction ds) M := by
  obtain ⟨t, b, rfl, hb, hs, q⟩ := h
  have e0 : (Int.gcd (t.natAbs : Int) b : Nat) = Int.gcd b t := by rw [Int.gcd_comm]; simp [Int.gcd]
  have hg0 : 0 < Int.gcd b t := Int.gcd_pos_of_ne_zero_left _ hb
  have hg1 : Int.gcd b t ≤ b.natAbs := Nat.le_of_dvd (by omega) (by simpa [Int.gcd] using Nat.gcd_dvd_left b.natAbs t.natAbs)
  have ei := frac_num (t := t) hb rfl
  have hl : (Int.gcd b t).log2 < 9000 := Nat.lt_of_le_of_lt (log2_mono hg1) hs
  by_cases hn : b < 0
  · rw [if_pos hn] at ei
    simp [ms_fraction, startD, N_fraction, hb, sp_divisor, abs_if, hn, e0]
    refine ⟨by omega, ⟨by omega, by simpa using hl⟩, ⟨by omega, by simpa using hl⟩, ?_⟩
    rw [ei.1, ei.2]; exact q
  · rw [if_neg hn] at ei
    simp [ms_fraction, startD, N_fraction, hb, sp_divisor, abs_if, hn, e0]
    refine ⟨by omega, ⟨by omega, by simpa using hl⟩, ⟨by omega, by simpa using hl⟩, ?_⟩
    rw [ei.1, ei.2]; exact q
/-- what a sum, a difference, a product, a quotient asks -/
def sp_plus : MSp := fun ds M Q _ => ∃ r s : Rat, ds = [fr r, fr s] ∧ nb r + nb s ≤ 8998 ∧ Q (fr (r + s)) M
def sp_less : MSp := fun ds M Q _ => ∃ r s : Rat, ds = [fr r, fr s] ∧ nb r + nb s ≤ 8998 ∧ Q (fr (r - s)) M
def sp_times : MSp := fun ds M Q _ => ∃ r s : Rat, ds = [fr r, fr s] ∧ nb r + nb s ≤ 8998 ∧ Q (fr (r * s)) M
def sp_over : MSp := fun ds M Q _ => ∃ r s : Rat, ds = [fr r, fr s] ∧ nb r + nb s ≤ 8998 ∧ s ≠ 0 ∧ Q (fr (r / s)) M
def sp_is_less : MSp := fun ds M Q _ => ∃ r s : Rat, ds = [fr r, fr s] ∧ nb r + nb s ≤ 1000000 ∧ Q (.bl (decide (r < s))) M
/-! plus: 0 one 1 other -/
def ms_plus : MS := (mRet (mCall 2 sp_fraction (maC (m2 oAdd (m2 oMul (m2 oIx (mV 0) (mC (.int 0))) (m2 oIx (mV 1) (mC (.int 1)))) (m2 oMul (m2 oIx (mV 1) (mC (.int 0))) (m2 oIx (mV 0) (mC (.int 1))))) (maC (m2 oMul (m2 oIx (mV 0) (mC (.int 1))) (m2 oIx (mV 1) (mC (.int 1)))) maN))))
def N_plus : List Str := ["one", "other"]
/-! less: 0 one 1 other -/
def ms_less : MS := (mRet (mCall 2 sp_fraction (maC (m2 oSub (m2 oMul (m2 oIx (mV 0) (mC (.int 0))) (m2 oIx (mV 1) (mC (.int 1)))) (m2 oMul (m2 oIx (mV 1) (mC (.int 0))) (m2 oIx (mV 0) (mC (.int 1))))) (maC (m2 oMul (m2 oIx (mV 0) (mC (.int 1))) (m2 oIx (mV 1) (mC (.int 1)))) maN))))
def N_less : List Str := ["one", "other"]
/-! times: 0 one 1 other -/
def ms_times : MS := (mRet (mCall 2 sp_fraction (maC (m2 oMul (m2 oIx (mV 0) (mC (.int 0))) (m2 oIx (mV 1) (mC (.int 0)))) (maC (m2 oMul (m2 oIx (mV 0) (mC (.int 1))) (m2 oIx (mV 1) (mC (.int 1)))) maN))))
def N_times : List Str := ["one", "other"]
/-! over: 0 one 1 other -/
def ms_over : MS := (mRet (mCall 2 sp_fraction (maC (m2 oMul (m2 oIx (mV 0) (mC (.int 0))) (m2 oIx (mV 1) (mC (.int 1)))) (maC (m2 oMul (m2 oIx (mV 0) (mC (.int 1))) (m2 oIx (mV 1) (mC (.int 0)))) maN))))
def N_over : List Str := ["one", "other"]
/-! is_less: 0 one 1 other -/
def ms_is_less : MS := (mRet (m2 (oLt) (m2 oMul (m2 oIx (mV 0) (mC (.int 0))) (m2 oIx (mV 1) (mC (.int 1)))) (m2 oMul (m2 oIx (mV 1) (mC (.int 0))) (m2 oIx (mV 0) (mC (.int 1))))))
def N_is_less : List Str := ["one", "other"]
theorem lg {x k : Nat} (h : x < 2 ^ k) (hk : k ≤ 8999) : x.log2 < 9000 := by
  have := log2_le_of (lt_add_one h); omega
theorem rd_plus (ds : List D) (M : MH) (Q : MQ) (h : sp_plus ds M Q mx0) : ms_plus (ends Q) (startD N_plus ds) M := by
  obtain ⟨r, s, rfl, hs, q⟩ := h
  rw [add_divInt] at q
  simp [ms_plus, startD, N_plus, fr, sp_fraction]
  refine ⟨cmu_of (nb_num r) (by simpa using nb_den s) (by omega), cmu_of (nb_num s) (by simpa using nb_den r) (by omega), cmu_of (by simpa using nb_den r) (by simpa using nb_den s) (by omega), ⟨r.den_nz, s.den_nz⟩, lg bits_bot (by omega), q⟩
theorem rd_less (ds : List D) (M : MH) (Q : MQ) (h : sp_less ds M Q mx0) : ms_less (ends Q) (startD N_less ds) M := by
  obtain ⟨r, s, rfl, hs, q⟩ := h
  rw [sub_divInt] at q
  simp [ms_less, startD, N_less, fr, sp_fraction]
  refine ⟨cmu_of (nb_num r) (by simpa using nb_den s) (by omega), cmu_of (nb_num s) (by simpa using nb_den r) (by omega), cmu_of (by simpa using nb_den r) (by simpa using nb_den s) (by omega), ⟨r.den_nz, s.den_nz⟩, lg bits_bot (by omega), q⟩
theorem rd_times (ds : List D) (M : MH) (Q : MQ) (h : sp_times ds M Q mx0) : ms_times (ends Q) (startD N_times ds) M := by
  obtain ⟨r, s, rfl, hs, q⟩ := h
  rw [mul_divInt] at q
  simp [ms_times, startD, N_times, fr, sp_fraction]
  refine ⟨cmu_of (nb_num r) (nb_num s) (by omega), cmu_of (by simpa using nb_den r) (by simpa using nb_den s) (by omega), ⟨r.den_nz, s.den_nz⟩, lg bits_bot (by omega), q⟩
theorem rd_over (ds : List D) (M : MH) (Q : MQ) (h : sp_over ds M Q mx0) : ms_over (ends Q) (startD N_over ds) M := by
  obtain ⟨r, s, rfl, hs, h0, q⟩ := h
  rw [div_divInt r s h0] at q
  have hn : s.num ≠ 0 := fun z => h0 (Rat.num_eq_zero.mp z)
  simp [ms_over, startD, N_over, fr, sp_fraction]
  refine ⟨cmu_of (nb_num r) (by simpa using nb_den s) (by omega), cmu_of (by simpa using nb_den r) (nb_num s) (by omega), ⟨r.den_nz, h0⟩, lg bits_dn (by omega), q⟩
theorem rd_is_less (ds : List D) (M : MH) (Q : MQ) (h : sp_is_less ds M Q mx0) : ms_is_less (ends Q) (startD N_is_less ds) M := by
  obtain ⟨r, s, rfl, hs, q⟩ := h
  simp [ms_is_less, startD, N_is_less, fr]
  refine ⟨cmu_of (nb_num r) (by simpa using nb_den s) (by omega), cmu_of (nb_num s) (by simpa using nb_den r) (by omega), ?_⟩
  have e : decide (r.num * (s.den : Int) < s.num * (r.den : Int)) = decide (r < s) := by rw [decide_eq_decide, Rat.lt_iff]
  rw [e]; exact q
end MM

namespace MM
open PySem PySem.Spec PyProof.Rows L2
/-! ### spotlook/spots: spots and walls as data -/
theorem fr_inj {r s : Rat} : fr r = fr s ↔ r = s := by
  refine ⟨fun h => ?_, fun h => by rw [h]⟩
  simp [fr] at h
  exact Rat.ext h.1 (by omega)
@[simp] theorem eqD_fr {r s : Rat} : eqD (fr r) (fr s) = decide (r = s) := by
  simp [fr]
  rw [← Bool.decide_and, decide_eq_decide]
  exact ⟨fun h => Rat.ext h.1 (by omega), fun h => by subst h; exact ⟨rfl, rfl⟩⟩
@[simp] theorem pur_fr {r : Rat} : pur (fr r) = true := by simp [fr, pur, purs]
@[simp] theorem dep_fr {r : Rat} : dep (fr r) = 1 := by simp [fr, dep, deps]
@[simp] theorem fit_fr {r : Rat} : fitD (fr r) := ⟨by simp, by simp⟩
theorem fr_nr {r : Rat} : ∀ a, fr r ≠ .ref a := by simp [fr]
@[simp] theorem oEqF_fr {f : Bool → Bool} {r s : Rat} {M : MH} {Q : MQ} : oEqF f (fr r) (fr s) M Q = Q (.bl (f (decide (r = s)))) M := by
  rw [oEqF_fit fit_fr fit_fr fr_nr, eqD_fr]
abbrev Spo := Rat × Rat
abbrev Wal := Spo × Spo
def dS (s : Spo) : D := .tup [fr s.1, fr s.2]
def dW (w : Wal) : D := .tup [dS w.1, dS w.2]
@[simp] theorem pur_dS {s : Spo} : pur (dS s) = true := by simp [dS, pur, purs]
@[simp] theorem dep_dS {s : Spo} : dep (dS s) = 2 := by simp [dS, dep, deps]
@[simp] theorem fit_dS {s : Spo} : fitD (dS s) := ⟨by simp, by simp⟩
@[simp] theorem pur_dW {w : Wal} : pur (dW w) = true := by simp [dW, pur, purs]
@[simp] theorem dep_dW {w : Wal} : dep (dW w) = 3 := by simp [dW, dep, deps]
@[simp] theorem fit_dW {w : Wal} : fitD (dW w) := ⟨by simp, by simp⟩
@[simp] theorem eqD_dS {s t : Spo} : eqD (dS s) (dS t) = decide (s = t) := by
  simp [dS]
  rw [← Bool.decide_and, decide_eq_decide]
  exact ⟨fun h => Prod.ext h.1 h.2, fun h => by subst h; exact ⟨rfl, rfl⟩⟩
@[simp] theorem eqD_dW {s t : Wal} : eqD (dW s) (dW t) = decide (s = t) := by
  simp [dW]
  rw [← Bool.decide_and, decide_eq_decide]
  exact ⟨fun h => Prod.ext h.1 h.2, fun h => by subst h; exact ⟨rfl, rfl⟩⟩
theorem dS_inj {s t : Spo} : dS s = dS t ↔ s = t := by
  simp [dS, fr_inj, Prod.ext_iff]
theorem dW_inj {s t : Wal} : dW s = dW t ↔ s = t := by
  simp [dW, dS_inj, Prod.ext_iff]
@[simp] theorem oEqF_dS {f : Bool → Bool} {r s : Spo} {M : MH} {Q : MQ} : oEqF f (dS r) (dS s) M Q = Q (.bl (f (decide (r = s)))) M := by
  rw [oEqF_fit fit_dS fit_dS (by simp [dS]), eqD_dS]
@[simp] theorem oEqF_dW {f : Bool → Bool} {r s : Wal} {M : MH} {Q : MQ} : oEqF f (dW r) (dW s) M Q = Q (.bl (f (decide (r = s)))) M := by
  rw [oEqF_fit fit_dW fit_dW (by simp [dW]), eqD_dW]
@[simp] theorem ixS0 {s : Spo} {M : MH} {Q : MQ} : oIx (dS s) (.int 0) M Q = Q (fr s.1) M := by simp [dS]
@[simp] theorem ixS1 {s : Spo} {M : MH} {Q : MQ} : oIx (dS s) (.int 1) M Q = Q (fr s.2) M := by simp [dS]
@[simp] theorem ixW0 {s : Wal} {M : MH} {Q : MQ} : oIx (dW s) (.int 0) M Q = Q (dS s.1) M := by simp [dW]
@[simp] theorem ixW1 {s : Wal} {M : MH} {Q : MQ} : oIx (dW s) (.int 1) M Q = Q (dS s.2) M := by simp [dW]
@[simp] theorem ixF0 {s : Rat} {M : MH} {Q : MQ} : oIx (fr s) (.int 0) M Q = Q (.int s.num) M := by simp [fr]
@[simp high] theorem gT_dW {g g' : MG} {w : Wal} {δ : Fr} {M : MH} {Q : Fr → MH → Prop} : gT 2 (gsC g (gsC g' gsN)) (dW w) δ M Q = g (dS w.1) δ M fun δ1 M1 => g' (dS w.2) δ1 M1 Q := gT2
@[simp high] theorem gT_dS {g g' : MG} {w : Spo} {δ : Fr} {M : MH} {Q : Fr → MH → Prop} : gT 2 (gsC g (gsC g' gsN)) (dS w) δ M Q = g (fr w.1) δ M fun δ1 M1 => g' (fr w.2) δ1 M1 Q := gT2
theorem isN_dS {s : Spo} : isN (dS s) = false := rfl
theorem isN_dW {s : Wal} : isN (dW s) = false := rfl
/-! what they are -/
def ahead (s t : Spo) : Bool := decide (s.1 < t.1 ∨ s.1 = t.1 ∧ s.2 < t.2)
def way (w : Wal) : Spo := (w.2.1 - w.1.1, w.2.2 - w.1.2)
def cr (u v : Spo) : Rat := u.1 * v.2 - u.2 * v.1
def sgn (r : Rat) : Int := if 0 < r then 1 else if r < 0 then -1 else 0
def side (w : Wal) (s : Spo) : Int := sgn (cr (way w) (way (w.1, s)))
def on (w : Wal) (s : Spo) : Bool := !ahead s w.1 && !ahead w.2 s && decide (side w s = 0)
def nbS (s : Spo) : Nat := max (nb s.1) (nb s.2)
theorem nbS1 (s : Spo) : nb s.1 ≤ nbS s := by unfold nbS; omega
theorem nbS2 (s : Spo) : nb s.2 ≤ nbS s := by unfold nbS; omega
theorem nbS_way (w : Wal) : nbS (way w) ≤ nbS w.1 + nbS w.2 + 1 := by
  have a := nb_sub w.2.1 w.1.1
  have b := nb_sub w.2.2 w.1.2
  have := nbS1 w.1; have := nbS2 w.1; have := nbS1 w.2; have := nbS2 w.2
  unfold way
  show max _ _ ≤ _
  simp only; omega
theorem nb_cr (u v : Spo) : nb (cr u v) ≤ 2 * (nbS u + nbS v) + 1 := by
  have a := nb_sub (u.1 * v.2) (u.2 * v.1)
  have b := nb_mul u.1 v.2
  have c := nb_mul u.2 v.1
  have := nbS1 u; have := nbS2 u; have := nbS1 v; have := nbS2 v
  unfold cr; omega
theorem num_sgn (r : Rat) : (if 0 < r.num then (1 : Int) else 0) - (if r.num < 0 then (1 : Int) else 0) = sgn r := by
  have e1 : 0 < r.num ↔ 0 < r := by rw [Rat.lt_iff]; simp
  have e2 : r.num < 0 ↔ r < 0 := by rw [Rat.lt_iff]; simp
  unfold sgn
  by_cases h1 : 0 < r
  · have h2 : ¬ r < 0 := by grind
    rw [if_pos h1, if_pos (e1.mpr h1), if_neg (fun z => h2 (e2.mp z))]; rfl
  · rw [if_neg h1, if_neg (fun z => h1 (e1.mp z))]
    by_cases h2 : r < 0
    · rw [if_pos h2, if_pos (e2.mpr h2)]; rfl
    · rw [if_neg h2, if_neg (fun z => h2 (e2.mp z))]; rfl
/-! what they promise -/
section
variable {r s : Rat} {M : MH} {Q : MQ} {E : MX} {u v : Spo} {a b : Wal}
@[simp] theorem sp_plus_eq : sp_plus [fr r, fr s] M Q E ↔ nb r + nb s ≤ 8998 ∧ Q (fr (r + s)) M := by simp [sp_plus, fr_inj]
@[simp] theorem sp_less_eq : sp_less [fr r, fr s] M Q E ↔ nb r + nb s ≤ 8998 ∧ Q (fr (r - s)) M := by simp [sp_less, fr_inj]
@[simp] theorem sp_times_eq : sp_times [fr r, fr s] M Q E ↔ nb r + nb s ≤ 8998 ∧ Q (fr (r * s)) M := by simp [sp_times, fr_inj]
@[simp] theorem sp_over_eq : sp_over [fr r, fr s] M Q E ↔ nb r + nb s ≤ 8998 ∧ s ≠ 0 ∧ Q (fr (r / s)) M := by simp [sp_over, fr_inj]
@[simp] theorem sp_is_less_eq : sp_is_less [fr r, fr s] M Q E ↔ nb r + nb s ≤ 1000000 ∧ Q (.bl (decide (r < s))) M := by simp [sp_is_less, fr_inj]
end
def sp_is_ahead : MSp := fun ds M Q _ => ∃ s t : Spo, ds = [dS s, dS t] ∧ nbS s + nbS t ≤ 1000000 ∧ Q (.bl (ahead s t)) M
def sp_along : MSp := fun ds M Q _ => ∃ w : Wal, ds = [dW w] ∧ nbS w.1 + nbS w.2 ≤ 8998 ∧ Q (dS (way w)) M
def sp_crossed : MSp := fun ds M Q _ => ∃ u v : Spo, ds = [dS u, dS v] ∧ nbS u + nbS v ≤ 4499 ∧ Q (fr (cr u v)) M
def sp_leaning : MSp := fun ds M Q _ => ∃ u v : Spo, ds = [dS u, dS v] ∧ nbS u + nbS v ≤ 4499 ∧ Q (.int (sgn (cr u v))) M
def sp_side_of : MSp := fun ds M Q _ => ∃ (w : Wal) (s : Spo), ds = [dW w, dS s] ∧ 2 * nbS w.1 + nbS w.2 + nbS s ≤ 4497 ∧ Q (.int (side w s)) M
def sp_lies_on : MSp := fun ds M Q _ => ∃ (w : Wal) (s : Spo), ds = [dW w, dS s] ∧ 2 * nbS w.1 + nbS w.2 + nbS s ≤ 4497 ∧ Q (.bl (on w s)) M
section
variable {M : MH} {Q : MQ} {E : MX} {u v : Spo} {a b : Wal}
@[simp] theorem sp_is_ahead_eq : sp_is_ahead [dS u, dS v] M Q E ↔ nbS u + nbS v ≤ 1000000 ∧ Q (.bl (ahead u v)) M := by simp [sp_is_ahead, dS_inj, -Prod.exists]
@[simp] theorem sp_along_eq : sp_along [dW a] M Q E ↔ nbS a.1 + nbS a.2 ≤ 8998 ∧ Q (dS (way a)) M := by simp [sp_along, dW_inj, -Prod.exists]
@[simp] theorem sp_crossed_eq : sp_crossed [dS u, dS v] M Q E ↔ nbS u + nbS v ≤ 4499 ∧ Q (fr (cr u v)) M := by simp [sp_crossed, dS_inj, -Prod.exists]
@[simp] theorem sp_leaning_eq : sp_leaning [dS u, dS v] M Q E ↔ nbS u + nbS v ≤ 4499 ∧ Q (.int (sgn (cr u v))) M := by simp [sp_leaning, dS_inj, -Prod.exists]
@[simp] theorem sp_side_of_eq : sp_side_of [dW a, dS v] M Q E ↔ 2 * nbS a.1 + nbS a.2 + nbS v ≤ 4497 ∧ Q (.int (side a v)) M := by simp [sp_side_of, dS_inj, dW_inj, -Prod.exists]
@[simp] theorem sp_lies_on_eq : sp_lies_on [dW a, dS v] M Q E ↔ 2 * nbS a.1 + nbS a.2 + nbS v ≤ 4497 ∧ Q (.bl (on a v)) M := by simp [sp_lies_on, dS_inj, dW_inj, -Prod.exists]
end
/-! is_ahead: 0 one 1 other -/
def ms_is_ahead : MS := (mSeq (mIte (mTs (m2 (oNe) (m2 oIx (mV 0) (mC (.int 0))) (m2 oIx (mV 1) (mC (.int 0))))) (mRet (mCall 2 sp_is_less (maC (m2 oIx (mV 0) (mC (.int 0))) (maC (m2 oIx (mV 1) (mC (.int 0))) maN)))) mNext)
  (mRet (mCall 2 sp_is_less (maC (m2 oIx (mV 0) (mC (.int 1))) (maC (m2 oIx (mV 1) (mC (.int 1))) maN)))))
def N_is_ahead : List Str := ["one", "other"]
/-! along: 0 wall 1 first 2 second -/
def ms_along : MS := (mSeq (mAsg (mV 0) (gT 2 (gsC (gN 1) (gsC (gN 2) gsN))))
  (mRet (mTup (maC (mCall 2 sp_less (maC (m2 oIx (mV 2) (mC (.int 0))) (maC (m2 oIx (mV 1) (mC (.int 0))) maN))) (maC (mCall 2 sp_less (maC (m2 oIx (mV 2) (mC (.int 1))) (maC (m2 oIx (mV 1) (mC (.int 1))) maN))) maN)))))
def N_along : List Str := ["wall", "first", "second"]
/-! crossed: 0 one 1 other -/
def ms_crossed : MS := (mRet (mCall 2 sp_less (maC (mCall 2 sp_times (maC (m2 oIx (mV 0) (mC (.int 0))) (maC (m2 oIx (mV 1) (mC (.int 1))) maN))) (maC (mCall 2 sp_times (maC (m2 oIx (mV 0) (mC (.int 1))) (maC (m2 oIx (mV 1) (mC (.int 0))) maN))) maN))))
def N_crossed : List Str := ["one", "other"]
/-! leaning: 0 one 1 other 2 found -/
def ms_leaning : MS := (mSeq (mAsg (mCall 2 sp_crossed (maC (mV 0) (maC (mV 1) maN))) (gN 2))
  (mRet (m2 oSub (mB bInt (maC (m2 (oGt) (m2 oIx (mV 2) (mC (.int 0))) (mC (.int 0))) maN)) (mB bInt (maC (m2 (oLt) (m2 oIx (mV 2) (mC (.int 0))) (mC (.int 0))) maN)))))
def N_leaning : List Str := ["one", "other", "found"]
/-! side_of: 0 wall 1 spot -/
def ms_side_of : MS := (mRet (mCall 2 sp_leaning (maC (mCall 1 sp_along (maC (mV 0) maN)) (maC (mCall 1 sp_along (maC (mTup (maC (m2 oIx (mV 0) (mC (.int 0))) (maC (mV 1) maN))) maN)) maN))))
def N_side_of : List Str := ["wall", "spot"]
/-! lies_on: 0 wall 1 spot 2 first 3 second -/
def ms_lies_on : MS := (mSeq (mAsg (mV 0) (gT 2 (gsC (gN 2) (gsC (gN 3) gsN))))
  (mSeq (mIte (mOr (mTs (mCall 2 sp_is_ahead (maC (mV 1) (maC (mV 2) maN)))) (mTs (mCall 2 sp_is_ahead (maC (mV 3) (maC (mV 1) maN))))) (mRet (mC (.bl false))) mNext)
  (mRet (m2 (oEq) (mCall 2 sp_side_of (maC (mV 0) (maC (mV 1) maN))) (mC (.int 0))))))
def N_lies_on : List Str := ["wall", "spot", "first", "second"]
theorem rd_is_ahead (ds : List D) (M : MH) (Q : MQ) (h : sp_is_ahead ds M Q mx0) : ms_is_ahead (ends Q) (startD N_is_ahead ds) M := by
  obtain ⟨s, t, rfl, hs, q⟩ := h
  have := nbS1 s; have := nbS2 s; have := nbS1 t; have := nbS2 t
  simp [ms_is_ahead, startD, N_is_ahead]
  by_cases h : s.1 = t.1
  · have e : ahead s t = decide (s.2 < t.2) := by unfold ahead; rw [decide_eq_decide]; grind
    rw [e] at q
    simp [h]
    exact ⟨by omega, q⟩
  · have e : ahead s t = decide (s.1 < t.1) := by unfold ahead; rw [decide_eq_decide]; grind
    rw [e] at q
    simp [h]
    exact ⟨by omega, q⟩
theorem rd_along (ds : List D) (M : MH) (Q : MQ) (h : sp_along ds M Q mx0) : ms_along (ends Q) (startD N_along ds) M := by
  obtain ⟨w, rfl, hs, q⟩ := h
  have := nbS1 w.1; have := nbS2 w.1; have := nbS1 w.2; have := nbS2 w.2
  simp [ms_along, startD, N_along]
  exact ⟨by omega, by omega, q⟩
theorem rd_crossed (ds : List D) (M : MH) (Q : MQ) (h : sp_crossed ds M Q mx0) : ms_crossed (ends Q) (startD N_crossed ds) M := by
  obtain ⟨u, v, rfl, hs, q⟩ := h
  have := nbS1 u; have := nbS2 u; have := nbS1 v; have := nbS2 v
  have b := nb_mul u.1 v.2
  have c := nb_mul u.2 v.1
  simp [ms_crossed, startD, N_crossed]
  exact ⟨by omega, by omega, by omega, q⟩
theorem rd_leaning (ds : List D) (M : MH) (Q : MQ) (h : sp_leaning ds M Q mx0) : ms_leaning (ends Q) (startD N_leaning ds) M := by
  obtain ⟨u, v, rfl, hs, q⟩ := h
  simp [ms_leaning, startD, N_leaning]
  refine ⟨hs, ?_⟩
  rw [num_sgn]; exact q
theorem rd_side_of (ds : List D) (M : MH) (Q : MQ) (h : sp_side_of ds M Q mx0) : ms_side_of (ends Q) (startD N_side_of ds) M := by
  obtain ⟨w, s, rfl, hs, q⟩ := h
  have a := nbS_way w
  have b := nbS_way (w.1, s)
  simp only at a b
  simp [ms_side_of, startD, N_side_of]
  refine ⟨by omega, ?_⟩
  show sp_along [dW (w.1, s)] _ _ _
  simp
  exact ⟨by omega, by omega, q⟩
theorem rd_lies_on (ds : List D) (M : MH) (Q : MQ) (h : sp_lies_on ds M Q mx0) : ms_lies_on (ends Q) (startD N_lies_on ds) M := by
  obtain ⟨w, s, rfl, hs, q⟩ := h
  simp [ms_lies_on, startD, N_lies_on]
  refine ⟨by omega, ?_⟩
  unfold on at q
  cases h1 : ahead s w.1 with
  | true => rw [h1] at q; simpa using q
  | false =>
    rw [h1] at q
    simp
    refine ⟨by omega, ?_⟩
    cases h2 : ahead w.2 s with
    | true => rw [h2] at q; simpa using q
    | false =>
      rw [h2] at q
      simp
      exact ⟨by omega, by simpa using q⟩
end MM

namespace MM
open PySem PySem.Spec PyProof.Rows L2
/-! ### rising rows of spots -/
theorem ahead_iff {s t : Spo} : ahead s t = true ↔ s.1 < t.1 ∨ s.1 = t.1 ∧ s.2 < t.2 := by unfold ahead; simp
theorem ahead_irr (s : Spo) : ahead s s = false := by
  cases h : ahead s s with
  | false => rfl
  | true => rw [ahead_iff] at h; grind
theorem ahead_trans {s t u : Spo} (h : ahead s t = true) (k : ahead t u = true) : ahead s u = true := by
  rw [ahead_iff] at *; grind
theorem ahead_asym {s t : Spo} (h : ahead s t = true) : ahead t s = false := by
  cases k : ahead t s with
  | false => rfl
  | true => have := ahead_trans h k; rw [ahead_irr] at this; cases this
theorem ahead_tri (s t : Spo) : ahead s t = true ∨ s = t ∨ ahead t s = true := by
  rw [ahead_iff, ahead_iff, Prod.ext_iff]; grind
theorem not_ahead_trans {s t u : Spo} (h : ahead s t = false) (k : ahead t u = false) : ahead s u = false := by
  cases q : ahead s u with
  | false => rfl
  | true =>
    rcases ahead_tri t u with z | z | z
    · rw [z] at k; cases k
    · subst z; rw [q] at h; cases h
    · rw [ahead_trans q z] at h; cases h
abbrev Rising (ss : List Spo) : Prop := ss.Pairwise fun s t => ahead s t = true
theorem Rising.get {l : List Spo} (h : Rising l) {i j : Nat} {a b : Spo} (z : i < j) (ha : l[i]? = some a) (hb : l[j]? = some b) : ahead a b = true := by
  obtain ⟨hi, rfl⟩ := List.getElem?_eq_some_iff.mp ha
  obtain ⟨hj, rfl⟩ := List.getElem?_eq_some_iff.mp hb
  exact List.pairwise_iff_getElem.mp h i j hi hj z
def insS (s : Spo) : List Spo → List Spo
  | [] => [s]
  | t :: r => if ahead t s then t :: insS s r else if t = s then t :: r else s :: t :: r
theorem mem_insS {s x : Spo} : ∀ {l : List Spo}, x ∈ insS s l ↔ x = s ∨ x ∈ l
  | [] => by simp [insS]
  | t :: r => by
    unfold insS
    split
    · simp only [List.mem_cons, mem_insS (l := r)]
      constructor
      · rintro (h | h | h) <;> simp [h]
      · rintro (h | h | h) <;> simp [h]
    · split
      · rename_i e; subst e; simp
      · simp
theorem rising_insS {s : Spo} : ∀ {l : List Spo}, Rising l → Rising (insS s l)
  | [], _ => by simp [insS, Rising]
  | t :: r, h => by
    have h1 := List.pairwise_cons.mp h
    unfold insS
    split
    · rename_i e
      refine List.pairwise_cons.mpr ⟨fun x hx => ?_, rising_insS h1.2⟩
      rcases mem_insS.mp hx with rfl | hx
      · exact e
      · exact h1.1 x hx
    · rename_i e
      split
      · exact h
      · rename_i e2
        have h2 : ahead s t = true := by
          rcases ahead_tri s t with z | z | z
          · exact z
          · exact absurd z.symm e2
          · exact absurd z e
        refine List.pairwise_cons.mpr ⟨fun x hx => ?_, h⟩
        rcases List.mem_cons.mp hx with rfl | hx
        · exact h2
        · exact ahead_trans h2 (h1.1 x hx)
theorem len_insS {s : Spo} : ∀ {l : List Spo}, (insS s l).length ≤ l.length + 1
  | [] => by simp [insS]
  | t :: r => by
    have := len_insS (s := s) (l := r)
    unfold insS
    split
    · simp; omega
    · split <;> simp
/-- how many of a rising row are ahead -/
theorem insS_split {s : Spo} : ∀ {l : List Spo} {k : Nat}, Rising l → k ≤ l.length → (∀ i t, i < k → l[i]? = some t → ahead t s = true) → (∀ i t, k ≤ i → l[i]? = some t → ahead t s = false) →
    insS s l = if l[k]? = some s then l else l.take k ++ [s] ++ l.drop k
  | [], k, _, hk, _, _ => by simp [insS]
  | t :: r, 0, h, hk, _, h2 => by
    have e := h2 0 t (by omega) rfl
    unfold insS
    rw [if_neg (by rw [e]; simp)]
    by_cases z : t = s
    · subst z; simp
    · simp [z]
  | t :: r, k + 1, h, hk, h1, h2 => by
    have e := h1 0 t (by omega) rfl
    unfold insS
    rw [if_pos e, insS_split (List.pairwise_cons.mp h).2 (by simpa using hk) (fun i u hi hu => h1 (i + 1) u (by omega) (by simpa using hu)) (fun i u hi hu => h2 (i + 1) u (by omega) (by simpa using hu))]
    simp
    split <;> simp
def dSs (ss : List Spo) : List D := ss.map dS
/-- the spots of a row are of at most so many bits -/
def SB (n : Nat) (ss : List Spo) : Prop := ∀ s ∈ ss, nbS s ≤ n
def sp_passed : MSp := fun ds M Q _ => ∃ (p : Addr) (ss : List Spo) (s : Spo), ds = [.ref p, dS s] ∧ LstAt p (dSs ss) M ∧ Rising ss ∧ SB 400000 ss ∧ nbS s ≤ 400000 ∧ ∀ k : Nat, k ≤ ss.length → (∀ i t, i < k → ss[i]? = some t → ahead t s = true) → (∀ i t, k ≤ i → ss[i]? = some t → ahead t s = false) → Q (.int (k : Nat)) M
def sp_put_in_row : MSp := fun ds M Q _ => ∃ (p : Addr) (ss : List Spo) (s : Spo), ds = [.ref p, dS s] ∧ M p = some (.lst (dSs ss)) ∧ Rising ss ∧ SB 400000 ss ∧ nbS s ≤ 400000 ∧ ss.length ≤ 100000 ∧ ∀ M', M' p = some (.lst (dSs (insS s ss))) → ExtB p M M' → Q .non M'
/-! passed: 0 spots 1 spot 2 low 3 high 4 middle -/
def ms_passed : MS := (mSeq (mAsg (mC (.int 0)) (gN 2))
  (mSeq (mAsg (mB bLen (maC (mV 0) maN)) (gN 3))
  (mSeq (mWhile (mTs (m2 (oLt) (mV 2) (mV 3))) (mSeq (mAsg (m2 oDiv (m2 oAdd (mV 2) (mV 3)) (mC (.int 2))) (gN 4))
  (mIte (mTs (mCall 2 sp_is_ahead (maC (m2 oIx (mV 0) (mV 4)) (maC (mV 1) maN)))) (mAsg (m2 oAdd (mV 4) (mC (.int 1))) (gN 2)) (mAsg (mV 4) (gN 3)))))
  (mRet (mV 2)))))
def N_passed : List Str := ["spots", "spot", "low", "high", "middle"]
/-! put_in_row: 0 spots 1 spot 2 at -/
def ms_put_in_row : MS := (mSeq (mAsg (mCall 2 sp_passed (maC (mV 0) (maC (mV 1) maN))) (gN 2))
  (mIte (mTs (m2 (oNe) (mSl (mV 0) (mpS (mV 2)) (mpS (m2 oAdd (mV 2) (mC (.int 1))))) (mLst (maC (mV 1) maN)))) (mDrop (mML lIns (mV 0) (maC (mV 2) (maC (mV 1) maN)))) mNext))
def N_put_in_row : List Str := ["spots", "spot", "at"]
theorem rd_passed (ds : List D) (M : MH) (Q : MQ) (h : sp_passed ds M Q mx0) : ms_passed (ends Q) (startD N_passed ds) M := by
  obtain ⟨p, ss, s, rfl, hl, hr, hb, hs, q⟩ := h
  have hlen : bLen [.ref p] M (fun x M1 => x = .int ss.length ∧ M1 = M) := ⟨dSs ss, hl, by simp [dSs], rfl⟩
  simp only [ms_passed, mSeq_eq, mAsg_eq, mC_eq, gN_eq, mB_eq, maC_eq, maN_eq, mV_eq]
  refine ⟨_, rfl, dSs ss, hl, ?_⟩
  simp only [dSs, List.length_map]
  show ∃ W : Nat → Fr → MH → Prop, _
  refine ⟨fun m δ M' => M' = M ∧ ∃ lo hi : Nat, ∃ md, lo ≤ hi ∧ hi ≤ ss.length ∧ m = hi - lo ∧ δ = [some (.ref p), some (dS s), some (.int lo), some (.int hi), md] ∧ (∀ i t, i < lo → ss[i]? = some t → ahead t s = true) ∧ (∀ i t, hi ≤ i → ss[i]? = some t → ahead t s = false),
    ⟨ss.length, rfl, 0, ss.length, none, by omega, by omega, by omega, rfl, fun i t hi => by omega, fun i t hi ht => ?_⟩, ?_⟩
  · rw [List.getElem?_eq_none hi] at ht; cases ht
  rintro m δ M' ⟨rfl, lo, hi, md, h1, h2, rfl, rfl, ha, hb'⟩
  simp only [mTs_eq, m2_eq, mV_eq]
  refine ⟨_, rfl, _, rfl, ?_⟩
  simp only [rInt0_eq]
  refine ⟨_, rfl, ?_⟩
  by_cases hlt : lo < hi
  · have hd : ((lo : Int) < (hi : Int)) := by omega
    simp only [hd, decide_true, if_true]
    simp only [mSeq_eq, mAsg_eq, m2_eq, mV_eq, mC_eq, gN_eq]
    refine ⟨_, rfl, _, rfl, ?_⟩
    simp only [rInt0_eq, rInt_eq]
    have hmid : ((lo : Int) + (hi : Int)).fdiv 2 = (((lo + hi) / 2 : Nat) : Int) := by
      rw [Int.fdiv_eq_ediv_of_nonneg _ (by decide)]; omega
    rw [hmid]
    refine ⟨⟨by decide, by decide⟩, ?_⟩
    have hm : (lo + hi) / 2 < ss.length := by omega
    obtain ⟨t, et⟩ : ∃ t, ss[(lo + hi) / 2]? = some t := ⟨_, List.getElem?_eq_getElem hm⟩
    simp only [mIte_eq, mTs_eq, mCall_eq, maC_eq, maN_eq, m2_eq, mV_eq]
    refine ⟨_, rfl, _, rfl, ?_⟩
    refine oIx_ref (ds := dSs ss) hl (n := (lo + hi) / 2) (d := dS t) (by simp [dSs, et]) ?_
    refine ⟨_, rfl, rfl, ?_⟩
    rw [sp_is_ahead_eq]
    refine ⟨by have := hb t (List.mem_of_getElem? et); omega, _, rfl, ?_⟩
    have mono1 : ∀ i u, i ≤ (lo + hi) / 2 → ss[i]? = some u → ahead t s = true → ahead u s = true := fun i u hi' hu e => by
      rcases Nat.lt_or_ge i ((lo + hi) / 2) with z | z
      · exact ahead_trans (Rising.get hr z hu et) e
      · have : i = (lo + hi) / 2 := by omega
        subst this; rw [et] at hu; cases hu; exact e
    have mono2 : ∀ i u, (lo + hi) / 2 ≤ i → ss[i]? = some u → ahead t s = false → ahead u s = false := fun i u hi' hu e => by
      rcases Nat.lt_or_ge ((lo + hi) / 2) i with z | z
      · exact not_ahead_trans (ahead_asym (Rising.get hr z et hu)) e
      · have : i = (lo + hi) / 2 := by omega
        subst this; rw [et] at hu; cases hu; exact e
    cases e : ahead t s with
    | true =>
      simp only [if_true, mAsg_eq, m2_eq, mV_eq, mC_eq, gN_eq]
      refine ⟨_, rfl, ?_⟩
      simp only [rInt0_eq]
      refine ⟨hi - ((lo + hi) / 2 + 1), by omega, trivial, (lo + hi) / 2 + 1, hi, some (.int (((lo + hi) / 2 : Nat) : Int)), by omega, h2, rfl, rfl, fun i u hi' hu => mono1 i u (by omega) hu e, hb'⟩
    | false =>
      simp only [Bool.false_eq_true, if_false, mAsg_eq, mV_eq, gN_eq]
      refine ⟨_, rfl, ?_⟩
      refine ⟨(lo + hi) / 2 - lo, by omega, trivial, lo, (lo + hi) / 2, some (.int (((lo + hi) / 2 : Nat) : Int)), by omega, by omega, rfl, rfl, ha, fun i u hi' hu => mono2 i u hi' hu e⟩
  · have hd : ¬ ((lo : Int) < (hi : Int)) := by omega
    simp only [hd, decide_false, Bool.false_eq_true, if_false, mRet_eq, mV_eq]
    refine ⟨_, rfl, ?_⟩
    have e : lo = hi := by omega
    subst e
    exact q lo h2 ha hb'
theorem rd_put_in_row (ds : List D) (M : MH) (Q : MQ) (h : sp_put_in_row ds M Q mx0) : ms_put_in_row (ends Q) (startD N_put_in_row ds) M := by
  obtain ⟨p, ss, s, rfl, hl, hr, hb, hs, hz, q⟩ := h
  simp only [ms_put_in_row, mSeq_eq, mAsg_eq, mCall_eq, maC_eq, maN_eq, mV_eq, gN_eq]
  refine ⟨_, rfl, _, rfl, rfl, p, ss, s, rfl, .inl hl, hr, hb, hs, fun k hk h1 h2 => ?_⟩
  have hsp := insS_split hr hk h1 h2
  simp [startD, N_put_in_row]
  refine oSl_ref (ds := dSs ss) (.inl hl) fun t ht u hu => ?_
  have hu' : M u = none := by
    cases e : M u with
    | none => rfl
    | some o => rw [ud_keep e ht] at hu; cases hu
  have hpt : p ≠ t := fun z => by subst z; rw [hl] at ht; cases ht
  have hpu : p ≠ u := fun z => by subst z; rw [hl] at hu'; cases hu'
  have htu : t ≠ u := fun z => by subst z; rw [ud_same] at hu; cases hu
  have hE : Ext M (ud (ud M t (.lst (cutD (dSs ss) (some (k : Int)) (some ((k : Int) + 1))))) u (.lst [dS s])) := .ud _ (.new _ ht) hu
  generalize hM2 : ud (ud M t (.lst (cutD (dSs ss) (some (k : Int)) (some ((k : Int) + 1))))) u (.lst [dS s]) = M2 at hE ⊢
  have hl2 := hE _ _ hl
  have ht2 : M2 t = some (.lst (cutD (dSs ss) (some (k : Int)) (some ((k : Int) + 1)))) := by rw [← hM2, ud_ne htu, ud_same]
  have hu2 : M2 u = some (.lst [dS s]) := by rw [← hM2, ud_same]
  rw [cutD_one, dSs, List.getElem?_map] at ht2
  have e1 : ((ss[k]?).map dS).toList = (ss[k]?).toList.map dS := by cases ss[k]? <;> rfl
  rw [e1] at ht2
  refine oEqF_lst (.inl ht2) (.inl hu2) (fitL_map (fun _ => fit_dS) 2 (by decide) (fun _ => by simp) _) (fitL_map (fun _ => fit_dS) 2 (by decide) (fun _ => by simp) [s]) ?_
  rw [show [dS s] = [s].map dS from rfl, eqL_map (fun _ _ => eqD_dS)]
  have hcase : ((ss[k]?).toList = [s]) ↔ ss[k]? = some s := by cases ss[k]? <;> simp
  simp only [hcase]
  by_cases hc : ss[k]? = some s
  · rw [if_pos hc] at hsp
    simp [hc]
    exact q _ (by rw [hsp]; exact hl2) (hE.B p)
  · rw [if_neg hc] at hsp
    simp [hc]
    refine ⟨isLst_of hl2, lIns_of hl2 (by simp [dSs]; omega) (by omega) ?_⟩
    refine q _ ?_ ((hE.B p).set _)
    rw [ud_same, hsp]
    simp [dSs]
end MM

namespace MM
open PySem PySem.Spec PyProof.Rows L2
/-! ### how walls meet, plots, parting -/
def nbW (w : Wal) : Nat := max (nbS w.1) (nbS w.2)
theorem nbW1 (w : Wal) : nbS w.1 ≤ nbW w := by unfold nbW; omega
theorem nbW2 (w : Wal) : nbS w.2 ≤ nbW w := by unfold nbW; omega
def mixT (a b : Wal) : Rat := cr (way (a.1, b.1)) (way b) / cr (way a) (way b)
def mix (a b : Wal) : Spo := (a.1.1 + mixT a b * (way a).1, a.1.2 + mixT a b * (way a).2)
theorem nbS_mix {a b : Wal} {n : Nat} (ha : nbW a ≤ n) (hb : nbW b ≤ n) (h : cr (way a) (way b) ≠ 0) : nb (mixT a b) ≤ 16 * n + 10 ∧ nbS (mix a b) ≤ 19 * n + 12 := by
  have := nbW1 a; have := nbW2 a; have := nbW1 b; have := nbW2 b
  have wa := nbS_way a
  have wb := nbS_way b
  have wc := nbS_way (a.1, b.1)
  simp only at wc
  have c1 := nb_cr (way (a.1, b.1)) (way b)
  have c2 := nb_cr (way a) (way b)
  have d := nb_div (cr (way (a.1, b.1)) (way b)) (cr (way a) (way b)) h
  have t : nb (mixT a b) ≤ 16 * n + 10 := by unfold mixT; omega
  refine ⟨t, ?_⟩
  have e1 := nb_mul (mixT a b) (way a).1
  have e2 := nb_mul (mixT a b) (way a).2
  have f1 := nb_add a.1.1 (mixT a b * (way a).1)
  have f2 := nb_add a.1.2 (mixT a b * (way a).2)
  have := nbS1 (way a); have := nbS2 (way a); have := nbS1 a.1; have := nbS2 a.1
  show max _ _ ≤ _
  simp only [mix]; omega
def meetL (a b : Wal) : Option (Spo ⊕ Wal) :=
  if side a b.1 = 0 then
    let f := if ahead a.1 b.1 = true then b.1 else a.1
    let s := if ahead b.2 a.2 = true then b.2 else a.2
    if f = s then some (.inl f) else if ahead f s = true then some (.inr (f, s)) else none
  else none
def meet (a b : Wal) : Option (Spo ⊕ Wal) :=
  if sgn (cr (way a) (way b)) = 0 then meetL a b else if (on a (mix a b) && on b (mix a b)) = true then some (.inl (mix a b)) else none
def dMt : Option (Spo ⊕ Wal) → D
  | none => .non
  | some (.inl s) => .tup [.str "spot", dS s]
  | some (.inr w) => .tup [.str "stretch", dW w]
def fair (a b : Wal) : Bool := match meet a b with
  | none => true
  | some (.inl s) => decide ((s = a.1 ∨ s = a.2) ∧ (s = b.1 ∨ s = b.2))
  | some (.inr _) => false
def sp_spot_of_lines : MSp := fun ds M Q _ => ∃ a b : Wal, ds = [dW a, dW b] ∧ nbW a ≤ 200 ∧ nbW b ≤ 200 ∧ cr (way a) (way b) ≠ 0 ∧ Q (dS (mix a b)) M
def sp_meeting_in_line : MSp := fun ds M Q _ => ∃ a b : Wal, ds = [dW a, dW b] ∧ nbW a ≤ 200 ∧ nbW b ≤ 200 ∧ Q (dMt (meetL a b)) M
def sp_meeting : MSp := fun ds M Q _ => ∃ a b : Wal, ds = [dW a, dW b] ∧ nbW a ≤ 200 ∧ nbW b ≤ 200 ∧ Q (dMt (meet a b)) M
def sp_is_fair : MSp := fun ds M Q _ => ∃ a b : Wal, ds = [dW a, dW b] ∧ nbW a ≤ 200 ∧ nbW b ≤ 200 ∧ Q (.bl (fair a b)) M
def sooner (a b : Wal) : Bool := if a.1 = b.1 then ahead a.2 b.2 else ahead a.1 b.1
def sp_is_sooner : MSp := fun ds M Q _ => ∃ a b : Wal, ds = [dW a, dW b] ∧ nbW a ≤ 400000 ∧ nbW b ≤ 400000 ∧ Q (.bl (sooner a b)) M
section
variable {M : MH} {Q : MQ} {E : MX} {a b : Wal}
@[simp] theorem sp_spot_of_lines_eq : sp_spot_of_lines [dW a, dW b] M Q E ↔ nbW a ≤ 200 ∧ nbW b ≤ 200 ∧ cr (way a) (way b) ≠ 0 ∧ Q (dS (mix a b)) M := by simp [sp_spot_of_lines, dW_inj, -Prod.exists]
@[simp] theorem sp_meeting_in_line_eq : sp_meeting_in_line [dW a, dW b] M Q E ↔ nbW a ≤ 200 ∧ nbW b ≤ 200 ∧ Q (dMt (meetL a b)) M := by simp [sp_meeting_in_line, dW_inj, -Prod.exists]
@[simp] theorem sp_meeting_eq : sp_meeting [dW a, dW b] M Q E ↔ nbW a ≤ 200 ∧ nbW b ≤ 200 ∧ Q (dMt (meet a b)) M := by simp [sp_meeting, dW_inj, -Prod.exists]
@[simp] theorem sp_is_fair_eq : sp_is_fair [dW a, dW b] M Q E ↔ nbW a ≤ 200 ∧ nbW b ≤ 200 ∧ Q (.bl (fair a b)) M := by simp [sp_is_fair, dW_inj, -Prod.exists]
@[simp] theorem sp_is_sooner_eq : sp_is_sooner [dW a, dW b] M Q E ↔ nbW a ≤ 400000 ∧ nbW b ≤ 400000 ∧ Q (.bl (sooner a b)) M := by simp [sp_is_sooner, dW_inj, -Prod.exists]
end
theorem sgn_zero {r : Rat} : sgn r = 0 ↔ r = 0 := by
  unfold sgn
  by_cases h : 0 < r
  · rw [if_pos h]; constructor
    · intro z; cases z
    · intro z; subst z; exact absurd h (by decide)
  · rw [if_neg h]
    by_cases k : r < 0
    · rw [if_pos k]; constructor
      · intro z; cases z
      · intro z; subst z; exact absurd k (by decide)
    · rw [if_neg k]; simp; grind
/-! spot_of_lines: 0 one 1 other 2 far 3 part -/
def ms_spot_of_lines : MS := (mSeq (mAsg (mCall 1 sp_along (maC (mV 0) maN)) (gN 2))
  (mSeq (mAsg (mCall 2 sp_over (maC (mCall 2 sp_crossed (maC (mCall 1 sp_along (maC (mTup (maC (m2 oIx (mV 0) (mC (.int 0))) (maC (m2 oIx (mV 1) (mC (.int 0))) maN))) maN)) (maC (mCall 1 sp_along (maC (mV 1) maN)) maN))) (maC (mCall 2 sp_crossed (maC (mV 2) (maC (mCall 1 sp_along (maC (mV 1) maN)) maN))) maN))) (gN 3))
  (mRet (mTup (maC (mCall 2 sp_plus (maC (m2 oIx (m2 oIx (mV 0) (mC (.int 0))) (mC (.int 0))) (maC (mCall 2 sp_times (maC (mV 3) (maC (m2 oIx (mV 2) (mC (.int 0))) maN))) maN))) (maC (mCall 2 sp_plus (maC (m2 oIx (m2 oIx (mV 0) (mC (.int 0))) (mC (.int 1))) (maC (mCall 2 sp_times (maC (mV 3) (maC (m2 oIx (mV 2) (mC (.int 1))) maN))) maN))) maN))))))
def N_spot_of_lines : List Str := ["one", "other", "far", "part"]
/-! meeting_in_line: 0 one 1 other 2 first 3 second -/
def ms_meeting_in_line : MS := (mSeq (mIte (mTs (m2 (oNe) (mCall 2 sp_side_of (maC (mV 0) (maC (m2 oIx (mV 1) (mC (.int 0))) maN))) (mC (.int 0)))) (mRet (mC .non)) mNext)
  (mSeq (mAsg (m2 oIx (mV 0) (mC (.int 0))) (gN 2))
  (mSeq (mIte (mTs (mCall 2 sp_is_ahead (maC (mV 2) (maC (m2 oIx (mV 1) (mC (.int 0))) maN)))) (mAsg (m2 oIx (mV 1) (mC (.int 0))) (gN 2)) mNext)
  (mSeq (mAsg (m2 oIx (mV 0) (mC (.int 1))) (gN 3))
  (mSeq (mIte (mTs (mCall 2 sp_is_ahead (maC (m2 oIx (mV 1) (mC (.int 1))) (maC (mV 3) maN)))) (mAsg (m2 oIx (mV 1) (mC (.int 1))) (gN 3)) mNext)
  (mSeq (mIte (mTs (m2 (oEq) (mV 2) (mV 3))) (mRet (mTup (maC (mC (.str "spot")) (maC (mV 2) maN)))) mNext)
  (mSeq (mIte (mTs (mCall 2 sp_is_ahead (maC (mV 2) (maC (mV 3) maN)))) (mRet (mTup (maC (mC (.str "stretch")) (maC (mTup (maC (mV 2) (maC (mV 3) maN))) maN)))) mNext)
  (mRet (mC .non)))))))))
def N_meeting_in_line : List Str := ["one", "other", "first", "second"]
/-! meeting: 0 one 1 other 2 spot -/
def ms_meeting : MS := (mSeq (mIte (mTs (m2 (oEq) (mCall 2 sp_leaning (maC (mCall 1 sp_along (maC (mV 0) maN)) (maC (mCall 1 sp_along (maC (mV 1) maN)) maN))) (mC (.int 0)))) (mRet (mCall 2 sp_meeting_in_line (maC (mV 0) (maC (mV 1) maN)))) mNext)
  (mSeq (mAsg (mCall 2 sp_spot_of_lines (maC (mV 0) (maC (mV 1) maN))) (gN 2))
  (mSeq (mIte (mAnd (mTs (mCall 2 sp_lies_on (maC (mV 0) (maC (mV 2) maN)))) (mTs (mCall 2 sp_lies_on (maC (mV 1) (maC (mV 2) maN))))) (mRet (mTup (maC (mC (.str "spot")) (maC (mV 2) maN)))) mNext)
  (mRet (mC .non)))))
def N_meeting : List Str := ["one", "other", "spot"]
/-! is_fair: 0 one 1 other 2 found -/
def ms_is_fair : MS := (mSeq (mAsg (mCall 2 sp_meeting (maC (mV 0) (maC (mV 1) maN))) (gN 2))
  (mSeq (mIte (mTs (m2 (oIsF id) (mV 2) (mC .non))) (mRet (mC (.bl true))) mNext)
  (mRet (mAndV (m2 (oEq) (m2 oIx (mV 2) (mC (.int 0))) (mC (.str "spot"))) (mAndV (m2 (oInF id) (m2 oIx (mV 2) (mC (.int 1))) (mV 0)) (m2 (oInF id) (m2 oIx (mV 2) (mC (.int 1))) (mV 1)))))))
def N_is_fair : List Str := ["one", "other", "found"]
/-! is_sooner: 0 one 1 other -/
def ms_is_sooner : MS := (mSeq (mIte (mTs (m2 (oNe) (m2 oIx (mV 0) (mC (.int 0))) (m2 oIx (mV 1) (mC (.int 0))))) (mRet (mCall 2 sp_is_ahead (maC (m2 oIx (mV 0) (mC (.int 0))) (maC (m2 oIx (mV 1) (mC (.int 0))) maN)))) mNext)
  (mRet (mCall 2 sp_is_ahead (maC (m2 oIx (mV 0) (mC (.int 1))) (maC (m2 oIx (mV 1) (mC (.int 1))) maN)))))
def N_is_sooner : List Str := ["one", "other"]
theorem rd_spot_of_lines (ds : List D) (M : MH) (Q : MQ) (h : sp_spot_of_lines ds M Q mx0) : ms_spot_of_lines (ends Q) (startD N_spot_of_lines ds) M := by
  obtain ⟨a, b, rfl, ha, hb, hc, q⟩ := h
  have n := (nbS_mix ha hb hc).1
  have := nbW1 a; have := nbW2 a; have := nbW1 b; have := nbW2 b
  have wa := nbS_way a
  have wb := nbS_way b
  have wc := nbS_way (a.1, b.1)
  simp only at wc
  have c1 := nb_cr (way (a.1, b.1)) (way b)
  have c2 := nb_cr (way a) (way b)
  have := nbS1 (way a); have := nbS2 (way a); have := nbS1 a.1; have := nbS2 a.1
  have e1 := nb_mul (mixT a b) (way a).1
  have e2 := nb_mul (mixT a b) (way a).2
  simp [ms_spot_of_lines, startD, N_spot_of_lines]
  refine ⟨by omega, ?_⟩
  show sp_along [dW (a.1, b.1)] _ _ _
  simp
  refine ⟨by omega, by omega, by omega, by omega, by omega, by omega, hc, ?_⟩
  rw [show cr (way (a.1, b.1)) (way b) / cr (way a) (way b) = mixT a b from rfl]
  exact ⟨by omega, by omega, by omega, by omega, q⟩
theorem rd_meeting_in_line (ds : List D) (M : MH) (Q : MQ) (h : sp_meeting_in_line ds M Q mx0) : ms_meeting_in_line (ends Q) (startD N_meeting_in_line ds) M := by
  obtain ⟨a, b, rfl, ha, hb, q⟩ := h
  have := nbW1 a; have := nbW2 a; have := nbW1 b; have := nbW2 b
  simp [ms_meeting_in_line, startD, N_meeting_in_line]
  refine ⟨by omega, ?_⟩
  unfold meetL at q
  by_cases h0 : side a b.1 = 0
  · rw [if_pos h0] at q
    simp [h0]
    refine ⟨by omega, ?_⟩
    have key : ∀ f s : Spo, nbS f ≤ 200 → nbS s ≤ 200 → Q (dMt (if f = s then some (.inl f) else if ahead f s = true then some (.inr (f, s)) else none)) M →
      (¬ f = s ∧ nbS f + nbS s ≤ 1000000 ∧ (ahead f s = false ∧ Q .non M ∨ ahead f s = true ∧ Q (.tup [.str "stretch", .tup [dS f, dS s]]) M) ∨ f = s ∧ Q (.tup [.str "spot", dS f]) M) := fun f s hf hs q => by
      by_cases e : f = s
      · rw [if_pos e] at q; exact .inr ⟨e, q⟩
      · rw [if_neg e] at q
        refine .inl ⟨e, by omega, ?_⟩
        cases e2 : ahead f s with
        | true => rw [e2] at q; exact .inr ⟨rfl, q⟩
        | false => rw [e2] at q; exact .inl ⟨rfl, q⟩
    cases h1 : ahead a.1 b.1 with
    | false =>
      refine .inl ⟨rfl, by omega, ?_⟩
      cases h2 : ahead b.2 a.2 with
      | false => exact .inl ⟨rfl, key _ _ (by omega) (by omega) (by simpa [h1, h2] using q)⟩
      | true => exact .inr ⟨rfl, key _ _ (by omega) (by omega) (by simpa [h1, h2] using q)⟩
    | true =>
      refine .inr ⟨rfl, by omega, ?_⟩
      cases h2 : ahead b.2 a.2 with
      | false => exact .inl ⟨rfl, key _ _ (by omega) (by omega) (by simpa [h1, h2] using q)⟩
      | true => exact .inr ⟨rfl, key _ _ (by omega) (by omega) (by simpa [h1, h2] using q)⟩
  · rw [if_neg h0] at q
    simp [h0]
    exact q
theorem rd_meeting (ds : List D) (M : MH) (Q : MQ) (h : sp_meeting ds M Q mx0) : ms_meeting (ends Q) (startD N_meeting ds) M := by
  obtain ⟨a, b, rfl, ha, hb, q⟩ := h
  have := nbW1 a; have := nbW2 a; have := nbW1 b; have := nbW2 b
  have wa := nbS_way a
  have wb := nbS_way b
  simp [ms_meeting, startD, N_meeting]
  refine ⟨by omega, by omega, by omega, ?_⟩
  unfold meet at q
  by_cases h0 : sgn (cr (way a) (way b)) = 0
  · rw [if_pos h0] at q
    simp [h0]
    exact ⟨ha, hb, q⟩
  · rw [if_neg h0] at q
    have hc : cr (way a) (way b) ≠ 0 := fun z => h0 (sgn_zero.mpr z)
    have n := (nbS_mix ha hb hc).2
    simp [h0]
    refine ⟨ha, hb, hc, by omega, ?_⟩
    cases h1 : on a (mix a b) with
    | false => rw [h1] at q; simpa [dMt] using q
    | true =>
      rw [h1] at q
      simp
      refine ⟨by omega, ?_⟩
      cases h2 : on b (mix a b) with
      | false => rw [h2] at q; simpa [dMt] using q
      | true => rw [h2] at q; simpa [dMt] using q
@[simp] theorem eq_spot {M : MH} {Q : MQ} : oEq (.str (Str.ofString "spot")) (.str (Str.ofString "spot")) M Q = Q (.bl true) M := by show oEqF id _ _ M Q = _; rw [oEqF_str, show (Str.ofString "spot" == Str.ofString "spot") = true by decide +kernel]; rfl
@[simp] theorem eq_stretch {M : MH} {Q : MQ} : oEq (.str (Str.ofString "stretch")) (.str (Str.ofString "spot")) M Q = Q (.bl false) M := by show oEqF id _ _ M Q = _; rw [oEqF_str, show (Str.ofString "stretch" == Str.ofString "spot") = false by decide +kernel]; rfl
theorem two_fit {s t : Spo} : fitL [dS s, dS t] := fitL_map (fun _ => fit_dS) 2 (by decide) (fun _ => by simp) [s, t]
theorem two_any {s t u : Spo} : ([dS s, dS t].any fun z => eqD z (dS u)) = decide (u = s ∨ u = t) := by
  simp only [List.any_cons, List.any_nil, eqD_dS, Bool.or_false]
  rw [← Bool.decide_or, decide_eq_decide]
  exact ⟨fun h => h.imp Eq.symm Eq.symm, fun h => h.imp Eq.symm Eq.symm⟩
theorem rd_is_fair (ds : List D) (M : MH) (Q : MQ) (h : sp_is_fair ds M Q mx0) : ms_is_fair (ends Q) (startD N_is_fair ds) M := by
  obtain ⟨a, b, rfl, ha, hb, q⟩ := h
  simp [ms_is_fair, startD, N_is_fair]
  refine ⟨ha, hb, ?_⟩
  unfold fair at q
  cases e : meet a b with
  | none => rw [e] at q; simpa [dMt] using q
  | some z =>
    rw [e] at q
    cases z with
    | inr w =>
      simp [dMt]
      exact q
    | inl s =>
      simp [dMt]
      refine ⟨_, rfl, fit_dS, two_fit, ?_⟩
      rw [two_any]
      simp only [id] at q ⊢
      by_cases h1 : s = a.1 ∨ s = a.2
      · refine .inr ⟨by simp [h1], _, rfl, fit_dS, two_fit, ?_⟩
        rw [two_any]
        simpa [h1] using q
      · exact .inl ⟨by simp [h1], by simpa [h1] using q⟩
theorem rd_is_sooner (ds : List D) (M : MH) (Q : MQ) (h : sp_is_sooner ds M Q mx0) : ms_is_sooner (ends Q) (startD N_is_sooner ds) M := by
  obtain ⟨a, b, rfl, ha, hb, q⟩ := h
  have := nbW1 a; have := nbW2 a; have := nbW1 b; have := nbW2 b
  unfold sooner at q
  by_cases e : a.1 = b.1
  · simp [ms_is_sooner, startD, N_is_sooner, e]
    simp [e] at q
    exact ⟨by omega, q⟩
  · simp [ms_is_sooner, startD, N_is_sooner, e]
    simp [e] at q
    exact ⟨by omega, q⟩
/-! ### unfair walls, plots, cuts, parting -/
abbrev dWs (ws : List Wal) : List D := ws.map dW
def unfair (ws : List Wal) (w : Wal) : Option Nat := ws.findIdx? fun o => !fair w o
def dOpt : Option Nat → D
  | none => .non
  | some i => .int i
def WB (n : Nat) (ws : List Wal) : Prop := ∀ w ∈ ws, nbW w ≤ n
def sp_unfair_with : MSp := fun ds M Q _ => ∃ (p : Addr) (ws : List Wal) (w : Wal), ds = [.ref p, dW w] ∧ LstAt p (dWs ws) M ∧ WB 200 ws ∧ nbW w ≤ 200 ∧ Q (dOpt (unfair ws w)) M
def stepS (w : Wal) (acc : List Spo) (s : Spo) : List Spo := if on w s = true then insS s acc else acc
def stepC (w : Wal) (acc : List Spo) (o : Wal) : List Spo := match meet w o with
  | some (.inl s) => insS s ([o.1, o.2].foldl (stepS w) acc)
  | _ => [o.1, o.2].foldl (stepS w) acc
def cutsOf (ws : List Wal) (w : Wal) : List Spo := ws.foldl (stepC w) []
def sp_cuts_of : MSp := fun ds M Q _ => ∃ (p : Addr) (ws : List Wal) (w : Wal), ds = [.ref p, dW w] ∧ LstAt p (dWs ws) M ∧ WB 200 ws ∧ nbW w ≤ 200 ∧ ws.length ≤ 1000 ∧ ∀ q M', M q = none → M' q = some (.lst (dSs (cutsOf ws w))) → Ext M M' → Q (.ref q) M'
def insW (w : Wal) : List Wal → List Wal
  | [] => [w]
  | t :: r => if sooner t w = true then t :: insW w r else if t = w then t :: r else w :: t :: r
def sp_put_wall : MSp := fun ds M Q _ => ∃ (p : Addr) (ws : List Wal) (w : Wal), ds = [.ref p, dW w] ∧ M p = some (.lst (dWs ws)) ∧ WB 400000 ws ∧ nbW w ≤ 400000 ∧ ws.length ≤ 100000 ∧ ∀ M', M' p = some (.lst (dWs (insW w ws))) → ExtB p M M' → Q .non M'
def pieces (cs : List Spo) : List Wal := cs.zip cs.tail
def partM (ws : List Wal) : List Wal := ws.foldl (fun acc w => (pieces (cutsOf ws w)).foldl (fun acc p => insW p acc) acc) []
def sp_parted : MSp := fun ds M Q _ => ∃ (p : Addr) (ws : List Wal), ds = [.ref p] ∧ LstAt p (dWs ws) M ∧ WB 200 ws ∧ ws.length ≤ 100 ∧ (partM ws).length ≤ 40 ∧ ∀ M', Ext M M' → Q (.tup (dWs (partM ws))) M'
def isPlot (ws : List Wal) : Prop := ∀ i w, ws[i]? = some w → unfair (ws.take i) w = none
def sp_plot_of : MSp := fun ds M Q _ => ∃ (p : Addr) (ws : List Wal), ds = [.ref p] ∧ LstAt p (dWs ws) M ∧ WB 200 ws ∧ ws.length ≤ 40 ∧ isPlot ws ∧ ∀ M', Ext M M' → Q (.tup (dWs ws)) M'
/-! unfair_with: 0 walls 1 wall 2 number 3 other -/
def ms_unfair_with : MS := (mSeq (mFor (iEn (maC (mV 0) maN)) (gT 2 (gsC (gN 2) (gsC (gN 3) gsN))) (mIte (mNot (mTs (mCall 2 sp_is_fair (maC (mV 1) (maC (mV 3) maN))))) (mRet (mV 2)) mNext))
  (mRet (mC .non)))
def N_unfair_with : List Str := ["walls", "wall", "number", "other"]
/-! cuts_of: 0 walls 1 wall 2 found 3 other 4 spot 5 how -/
def ms_cuts_of : MS := (mSeq (mAsg (mLst maN) (gN 2))
  (mSeq (mFor (iL (mV 0)) (gN 3) (mSeq (mFor (iT (mV 3)) (gN 4) (mIte (mTs (mCall 2 sp_lies_on (maC (mV 1) (maC (mV 4) maN)))) (mDrop (mCall 2 sp_put_in_row (maC (mV 2) (maC (mV 4) maN)))) mNext))
  (mSeq (mAsg (mCall 2 sp_meeting (maC (mV 1) (maC (mV 3) maN))) (gN 5))
  (mIte (mAnd (mTs (m2 (oIsF not) (mV 5) (mC .non))) (mTs (m2 (oEq) (m2 oIx (mV 5) (mC (.int 0))) (mC (.str "spot"))))) (mDrop (mCall 2 sp_put_in_row (maC (mV 2) (maC (m2 oIx (mV 5) (mC (.int 1))) maN)))) mNext))))
  (mRet (mV 2))))
def N_cuts_of : List Str := ["walls", "wall", "found", "other", "spot", "how"]
/-! put_wall: 0 walls 1 wall 2 at -/
def ms_put_wall : MS := (mSeq (mAsg (mC (.int 0)) (gN 2))
  (mSeq (mWhile (mAnd (mTs (m2 (oLt) (mV 2) (mB bLen (maC (mV 0) maN)))) (mTs (mCall 2 sp_is_sooner (maC (m2 oIx (mV 0) (mV 2)) (maC (mV 1) maN))))) (mAsg (m2 oAdd (mV 2) (mC (.int 1))) (gN 2)))
  (mIte (mTs (m2 (oNe) (mSl (mV 0) (mpS (mV 2)) (mpS (m2 oAdd (mV 2) (mC (.int 1))))) (mLst (maC (mV 1) maN)))) (mDrop (mML lIns (mV 0) (maC (mV 2) (maC (mV 1) maN)))) mNext)))
def N_put_wall : List Str := ["walls", "wall", "at"]
/-! parted: 0 walls 1 found 2 wall 3 cuts 4 piece -/
def ms_parted : MS := (mSeq (mAsg (mLst maN) (gN 1))
  (mSeq (mFor (iL (mV 0)) (gN 2) (mSeq (mAsg (mCall 2 sp_cuts_of (maC (mV 0) (maC (mV 2) maN))) (gN 3))
  (mFor (iZp (maC (mV 3) (maC (mSl (mV 3) (mpS (mC (.int 1))) mpN) maN))) (gN 4) (mDrop (mCall 2 sp_put_wall (maC (mV 1) (maC (mV 4) maN)))))))
  (mSeq (mIte (mTs (m2 (oGt) (mB bLen (maC (mV 1) maN)) (mC (.int 40)))) mNever mNext)
  (mRet (mB bTup (maC (mV 1) maN))))))
def N_parted : List Str := ["walls", "found", "wall", "cuts", "piece"]
/-! plot_of: 0 walls 1 number 2 wall 3 other -/
def ms_plot_of : MS := (mSeq (mIte (mTs (m2 (oGt) (mB bLen (maC (mV 0) maN)) (mC (.int 40)))) mNever mNext)
  (mSeq (mFor (iEn (maC (mV 0) maN)) (gT 2 (gsC (gN 1) (gsC (gN 2) gsN))) (mSeq (mAsg (mCall 2 sp_unfair_with (maC (mSl (mV 0) mpN (mpS (mV 1))) (maC (mV 2) maN))) (gN 3))
  (mIte (mTs (m2 (oIsF not) (mV 3) (mC .non))) mNever mNext)))
  (mRet (mB bTup (maC (mV 0) maN)))))
def N_plot_of : List Str := ["walls", "number", "wall", "other"]
theorem enum_get {ds : List D} {i : Nat} {d : D} (h : (enumD ds)[i]? = some d) : ∃ e, ds[i]? = some e ∧ d = .tup [.int i, e] := by
  simp only [enumD, List.getElem?_mapIdx] at h
  cases e : ds[i]? with
  | none => rw [e] at h; cases h
  | some x => rw [e] at h; cases h; exact ⟨x, rfl, rfl⟩
@[simp] theorem len_enum {ds : List D} : (enumD ds).length = ds.length := by simp [enumD]
theorem rd_unfair_with (ds : List D) (M : MH) (Q : MQ) (h : sp_unfair_with ds M Q mx0) : ms_unfair_with (ends Q) (startD N_unfair_with ds) M := by
  obtain ⟨p, ws, w, rfl, hl, hb, hw, q⟩ := h
  rw [ms_unfair_with, mSeq_eq]
  refine for_st (ds := enumD (dWs ws)) (Kp := LstAt p (dWs ws)) (fun i δ' M' => M' = M ∧ (∃ a b, δ' = [some (.ref p), some (dW w), a, b]) ∧ ∀ j o, j < i → ws[j]? = some o → fair w o = true) (fun R h => mi_En rfl hl h) ⟨rfl, ⟨none, none, rfl⟩, fun j o hj => absurd hj (by omega)⟩ ?_ ?_ ?_
  · rintro i δ' M' _ ⟨rfl, _⟩; exact hl
  · rintro i d δ' M' hd ⟨rfl, ⟨a, b, rfl⟩, hp⟩
    obtain ⟨e, he, rfl⟩ := enum_get hd
    obtain ⟨o, ho, rfl⟩ := map_get he
    simp [-Prod.exists, -Prod.forall]
    refine ⟨hw, hb o (List.mem_of_getElem? ho), ?_⟩
    cases hf : fair w o with
    | true =>
      refine .inr ⟨rfl, fun j o' hj ho' => ?_⟩
      rcases Nat.lt_or_ge j i with z | z
      · exact hp j o' z ho'
      · have : j = i := by omega
        subst this; rw [ho] at ho'; cases ho'; exact hf
    | false =>
      have e : unfair ws w = some i := by
        unfold unfair
        rw [List.findIdx?_eq_some_iff_getElem]
        obtain ⟨hi, rfl⟩ := List.getElem?_eq_some_iff.mp ho
        refine ⟨hi, by simp [hf], fun j hj => ?_⟩
        simp [hp j _ hj (List.getElem?_eq_getElem (by omega))]
      rw [e] at q
      exact .inl ⟨rfl, q⟩
  · rintro δ' M' ⟨rfl, ⟨a, b, rfl⟩, hp⟩
    have e : unfair ws w = none := by
      unfold unfair
      rw [List.findIdx?_eq_none_iff]
      intro o ho
      obtain ⟨j, hj⟩ := List.getElem?_of_mem ho
      have := (List.getElem?_eq_some_iff.mp hj).1
      simp [hp j o (by simpa using this) hj]
    rw [e] at q
    simp
    exact q
theorem SB_ins {n : Nat} {s : Spo} {l : List Spo} (h : SB n l) (hs : nbS s ≤ n) : SB n (insS s l) := fun x hx => by
  rcases mem_insS.mp hx with rfl | hx
  · exact hs
  · exact h x hx
/-- a row of spots that is fit to be walked -/
structure RowOk (acc : List Spo) (k : Nat) : Prop where
  ris : Rising acc
  bits : SB 4000 acc
  len : acc.length ≤ k
theorem RowOk.ins {acc : List Spo} {k : Nat} {s : Spo} (h : RowOk acc k) (hs : nbS s ≤ 4000) : RowOk (insS s acc) (k + 1) :=
  ⟨rising_insS h.ris, SB_ins h.bits hs, by have := len_insS (s := s) (l := acc); have := h.len; omega⟩
theorem RowOk.mono {acc : List Spo} {k j : Nat} (h : RowOk acc k) (hk : k ≤ j) : RowOk acc j := ⟨h.ris, h.bits, by have := h.len; omega⟩
theorem put_row {p : Addr} {acc : List Spo} {s : Spo} {k : Nat} {M : MH} {Q : MQ} {E : MX} (hm : M p = some (.lst (dSs acc))) (h : RowOk acc k) (hk : k ≤ 100000) (hs : nbS s ≤ 4000) (q : ∀ M', M' p = some (.lst (dSs (insS s acc))) → ExtB p M M' → Q .non M') : sp_put_in_row [.ref p, dS s] M Q E :=
  ⟨p, acc, s, rfl, hm, h.ris, fun x hx => by have := h.bits x hx; omega, by omega, by have := h.len; omega, q⟩
theorem meet_bits {a b : Wal} {s : Spo} (ha : nbW a ≤ 200) (hb : nbW b ≤ 200) (h : meet a b = some (.inl s)) : nbS s ≤ 3812 := by
  have := nbW1 a; have := nbW2 a; have := nbW1 b; have := nbW2 b
  unfold meet at h
  by_cases hc : sgn (cr (way a) (way b)) = 0
  · rw [if_pos hc] at h
    unfold meetL at h
    by_cases h0 : side a b.1 = 0
    · rw [if_pos h0] at h
      have fb : nbS (if ahead a.1 b.1 = true then b.1 else a.1) ≤ 200 := by split <;> omega
      simp only at h
      generalize (if ahead a.1 b.1 = true then b.1 else a.1) = f at h fb
      generalize (if ahead b.2 a.2 = true then b.2 else a.2) = g at h
      by_cases e : f = g
      · rw [if_pos e] at h
        have e2 : f = s := by simpa using h
        subst e2; omega
      · rw [if_neg e] at h
        split at h <;> simp at h
    · rw [if_neg h0] at h; cases h
  · rw [if_neg hc] at h
    split at h
    · have e2 : mix a b = s := by simpa using h
      subst e2
      have := (nbS_mix ha hb (fun z => hc (sgn_zero.mpr z))).2
      omega
    · cases h
/-- row[k:k+1] and [x] are told apart; x is put in at k where they are unlike -/
theorem put_at {α : Type} [DecidableEq α] {f : α → D} {n : Nat} (hf : ∀ a, fitD (f a)) (hd : ∀ a, dep (f a) ≤ n) (hn : n ≤ 63) (he : ∀ a b, eqD (f a) (f b) = decide (a = b)) {p : Addr} {x : α} {l : List α} {k : Nat} {M : MH} {E : MEnds} (hl : M p = some (.lst (l.map f))) (hk : k ≤ l.length) (hz : l.length ≤ 100000)
    (q : ∀ M', M' p = some (.lst ((if l[k]? = some x then l else l.take k ++ [x] ++ l.drop k).map f)) → ExtB p M M' → E.nx [some (.ref p), some (f x), some (.int k)] M') :
    mIte (mTs (m2 (oNe) (mSl (mV 0) (mpS (mV 2)) (mpS (m2 oAdd (mV 2) (mC (.int 1))))) (mLst (maC (mV 1) maN)))) (mDrop (mML lIns (mV 0) (maC (mV 2) (maC (mV 1) maN)))) mNext E [some (.ref p), some (f x), some (.int k)] M := by
  simp
  refine oSl_ref (ds := l.map f) (.inl hl) fun t ht u hu => ?_
  have hu' : M u = none := by
    cases e : M u with
    | none => rfl
    | some o => rw [ud_keep e ht] at hu; cases hu
  have htu : t ≠ u := fun z => by subst z; rw [ud_same] at hu; cases hu
  have hE : Ext M (ud (ud M t (.lst (cutD (l.map f) (some (k : Int)) (some ((k : Int) + 1))))) u (.lst [f x])) := .ud _ (.new _ ht) hu
  generalize hM2 : ud (ud M t (.lst (cutD (l.map f) (some (k : Int)) (some ((k : Int) + 1))))) u (.lst [f x]) = M2 at hE ⊢
  have hl2 := hE _ _ hl
  have ht2 : M2 t = some (.lst (cutD (l.map f) (some (k : Int)) (some ((k : Int) + 1)))) := by rw [← hM2, ud_ne htu, ud_same]
  have hu2 : M2 u = some (.lst [f x]) := by rw [← hM2, ud_same]
  rw [cutD_one, List.getElem?_map] at ht2
  have e1 : ((l[k]?).map f).toList = (l[k]?).toList.map f := by cases l[k]? <;> rfl
  rw [e1] at ht2
  refine oEqF_lst (.inl ht2) (.inl hu2) (fitL_map hf n hn hd _) (fitL_map hf n hn hd [x]) ?_
  rw [show [f x] = [x].map f from rfl, eqL_map he]
  have hcase : ((l[k]?).toList = [x]) ↔ l[k]? = some x := by cases l[k]? <;> simp
  simp only [hcase]
  by_cases hc : l[k]? = some x
  · rw [if_pos hc] at q
    simp [hc]
    exact q _ hl2 (hE.B p)
  · rw [if_neg hc] at q
    simp [hc]
    refine ⟨isLst_of hl2, lIns_of hl2 (by simp; omega) (by omega) ?_⟩
    refine q _ ?_ ((hE.B p).set _)
    rw [ud_same]
    simp
theorem insW_split {w : Wal} : ∀ {l : List Wal} {k : Nat}, k ≤ l.length → (∀ j t, j < k → l[j]? = some t → sooner t w = true) → (∀ t, l[k]? = some t → sooner t w = false) → insW w l = if l[k]? = some w then l else l.take k ++ [w] ++ l.drop k
  | [], k, hk, _, _ => by simp [insW]
  | t :: r, 0, hk, _, h2 => by
    have e := h2 t rfl
    unfold insW
    rw [if_neg (by rw [e]; simp)]
    by_cases z : t = w
    · subst z; simp
    · simp [z]
  | t :: r, k + 1, hk, h1, h2 => by
    have e := h1 0 t (by omega) rfl
    unfold insW
    rw [if_pos e, insW_split (by simpa using hk) (fun j u hj hu => h1 (j + 1) u (by omega) (by simpa using hu)) (fun u hu => h2 u (by simpa using hu))]
    simp
    split <;> simp
theorem rd_put_wall (ds : List D) (M : MH) (Q : MQ) (h : sp_put_wall ds M Q mx0) : ms_put_wall (ends Q) (startD N_put_wall ds) M := by
  obtain ⟨p, ws, w, rfl, hl, hb, hw, hn, q⟩ := h
  simp only [ms_put_wall, mSeq_eq, mAsg_eq, mC_eq, gN_eq]
  refine ⟨fun m δ M' => M' = M ∧ ∃ k : Nat, k ≤ ws.length ∧ m = ws.length - k ∧ δ = [some (.ref p), some (dW w), some (.int k)] ∧ ∀ j t, j < k → ws[j]? = some t → sooner t w = true, ⟨ws.length, rfl, 0, by omega, by omega, rfl, fun j t hj => absurd hj (by omega)⟩, ?_⟩
  rintro m δ M' ⟨rfl, k, hk, rfl, rfl, hs⟩
  have hlen : ∀ R : MQ, R (.int ws.length) M' → bLen [.ref p] M' R := fun R h => ⟨dWs ws, .inl hl, by simpa [dWs] using h⟩
  have stop : (∀ t, ws[k]? = some t → sooner t w = false) → (mIte (mTs (m2 (oNe) (mSl (mV 0) (mpS (mV 2)) (mpS (m2 oAdd (mV 2) (mC (.int 1))))) (mLst (maC (mV 1) maN)))) (mDrop (mML lIns (mV 0) (maC (mV 2) (maC (mV 1) maN)))) mNext) (ends Q) [some (.ref p), some (dW w), some (.int k)] M' := fun h2 =>
    put_at (f := dW) (fun _ => fit_dW) (n := 3) (fun _ => by simp) (by decide) (fun _ _ => eqD_dW) hl hk hn fun M2 h e => q M2 (by rw [insW_split hk hs h2]; exact h) e
  simp only [mAnd_eq, mTs_eq, m2_eq, mV_eq, mB_eq, maC_eq, maN_eq, mCall_eq]
  refine ⟨_, rfl, _, rfl, hlen _ ?_⟩
  simp only [rInt0_eq]
  refine ⟨_, rfl, ?_⟩
  by_cases hlt : k < ws.length
  · have hd : ((k : Int) < (ws.length : Int)) := by omega
    simp only [hd, decide_true, if_true]
    obtain ⟨t, et⟩ : ∃ t, ws[k]? = some t := ⟨_, List.getElem?_eq_getElem hlt⟩
    refine ⟨_, rfl, _, rfl, ?_⟩
    refine oIx_ref (ds := dWs ws) (.inl hl) (n := k) (d := dW t) (by simp [dWs, et]) ?_
    refine ⟨_, rfl, rfl, ?_⟩
    rw [sp_is_sooner_eq]
    refine ⟨hb t (List.mem_of_getElem? et), hw, _, rfl, ?_⟩
    cases e : sooner t w with
    | true =>
      simp only [if_true, mAsg_eq, m2_eq, mV_eq, mC_eq, gN_eq]
      refine ⟨_, rfl, ?_⟩
      simp only [rInt0_eq]
      refine ⟨ws.length - (k + 1), by omega, trivial, k + 1, hlt, rfl, rfl, fun j u hj hu => ?_⟩
      rcases Nat.lt_or_ge j k with z | z
      · exact hs j u z hu
      · have : j = k := by omega
        subst this; rw [et] at hu; cases hu; exact e
    | false =>
      simp only [Bool.false_eq_true, if_false]
      exact stop fun u hu => by rw [et] at hu; cases hu; exact e
  · have hd : ¬ ((k : Int) < (ws.length : Int)) := by omega
    simp only [hd, decide_false, Bool.false_eq_true, if_false]
    exact stop fun u hu => absurd (List.getElem?_eq_some_iff.mp hu).1 hlt
theorem rd_cuts_of (ds : List D) (M : MH) (Q : MQ) (h : sp_cuts_of ds M Q mx0) : ms_cuts_of (ends Q) (startD N_cuts_of ds) M := by
  obtain ⟨p, ws, w, rfl, hl, hb, hw, hn, q⟩ := h
  simp only [ms_cuts_of, mSeq_eq, mAsg_eq, mLst_eq, maN_eq, gN_eq]
  refine ⟨sz0, fun r hr => ?_⟩
  refine for_st (ds := dWs ws) (Kp := LstAt p (dWs ws)) (fun i δ' M' => ∃ a b c, δ' = [some (.ref p), some (dW w), some (.ref r), a, b, c] ∧ M' r = some (.lst (dSs ((ws.take i).foldl (stepC w) []))) ∧ Ext M M' ∧ RowOk ((ws.take i).foldl (stepC w) []) (3 * i)) (fun R h => mi_L rfl (hl.ext (.new _ hr)) h)
    ⟨none, none, none, rfl, by simp [dSs], .new _ hr, by simp [Rising], fun x hx => by simp at hx, by simp⟩ ?_ ?_ ?_
  · rintro i δ' M' _ ⟨_, _, _, _, _, e, _⟩; exact hl.ext e
  · rintro i d δ' M' hd ⟨a, b, c, rfl, hm, e, ok⟩
    obtain ⟨o, ho, rfl⟩ := map_get hd
    have hi : i < ws.length := (List.getElem?_eq_some_iff.mp ho).1
    rw [gN_eq, mSeq_eq]
    have ho2 := hb o (List.mem_of_getElem? ho)
    have b1 := nbW1 o; have b2 := nbW2 o; have b3 := nbW1 w; have b4 := nbW2 w
    generalize hacc : (ws.take i).foldl (stepC w) [] = acc at hm ok
    have hstep : (ws.take (i + 1)).foldl (stepC w) [] = stepC w acc o := by rw [foldl_take ho, hacc]
    rw [hstep]
    refine for_st (ds := [o.1, o.2].map dS) (Kp := fun _ => True) (fun j δ' M' => ∃ b, δ' = [some (.ref p), some (dW w), some (.ref r), some (dW o), b, c] ∧ M' r = some (.lst (dSs (([o.1, o.2].take j).foldl (stepS w) acc))) ∧ Ext M M' ∧ RowOk (([o.1, o.2].take j).foldl (stepS w) acc) (3 * i + j)) (fun R h => mi_T rfl h)
      ⟨b, rfl, by simpa using hm, e, by simpa using ok⟩ (fun _ _ _ _ _ => trivial) ?_ ?_
    · rintro j d δ' M' hd ⟨b, rfl, hm, e, ok⟩
      obtain ⟨s, hs, rfl⟩ := map_get hd
      have hj : j < 2 := (List.getElem?_eq_some_iff.mp hs).1
      have hsb : nbS s ≤ 200 := by
        have := List.mem_of_getElem? hs
        simp at this
        rcases this with rfl | rfl <;> omega
      rw [foldl_take hs]
      generalize ([o.1, o.2].take j).foldl (stepS w) acc = acc2 at hm ok
      simp [-Prod.exists, -Prod.forall]
      refine ⟨by omega, ?_⟩
      unfold stepS
      cases h1 : on w s with
      | false => exact .inl ⟨rfl, hm, e, ok.mono (by omega)⟩
      | true =>
        refine .inr ⟨rfl, put_row hm ok (by omega) (by omega) fun M2 h2 e2 => ⟨h2, ExtB.of e e2 hr, ?_⟩⟩
        exact ok.ins (by omega)
    · rintro δ' M' ⟨b, rfl, hm, e, ok⟩
      simp at hm ok
      have hst : stepC w acc o = match meet w o with
        | some (.inl s) => insS s (stepS w (stepS w acc o.1) o.2)
        | _ => stepS w (stepS w acc o.1) o.2 := rfl
      rw [hst]
      generalize stepS w (stepS w acc o.1) o.2 = acc2 at hm ok
      simp [-Prod.exists, -Prod.forall]
      refine ⟨hw, ho2, ?_⟩
      have hmb : ∀ s, meet w o = some (.inl s) → nbS s ≤ 4000 := fun s hs => by
        have := meet_bits hw ho2 hs; omega
      cases hmt : meet w o with
      | none =>
        simp [dMt]
        exact ⟨hm, e, ok.mono (by omega)⟩
      | some z =>
        cases z with
        | inr v =>
          simp [dMt]
          exact ⟨hm, e, ok.mono (by omega)⟩
        | inl s =>
          simp [dMt]
          refine put_row hm ok (by omega) (hmb s hmt) fun M2 h2 e2 => ⟨h2, ExtB.of e e2 hr, ?_⟩
          exact (ok.ins (hmb s hmt)).mono (by omega)
  · rintro δ' M' ⟨a, b, c, rfl, hm, e, ok⟩
    simp [-Prod.exists, -Prod.forall] at hm ⊢
    exact q r M' hr hm e
theorem len_insW {w : Wal} : ∀ {l : List Wal}, (insW w l).length ≤ l.length + 1
  | [] => by simp [insW]
  | t :: r => by
    have := len_insW (w := w) (l := r)
    unfold insW
    split
    · simp; omega
    · split <;> simp
theorem mem_insW {w x : Wal} : ∀ {l : List Wal}, x ∈ insW w l ↔ x = w ∨ x ∈ l
  | [] => by simp [insW]
  | t :: r => by
    unfold insW
    split
    · simp only [List.mem_cons, mem_insW (l := r)]
      constructor
      · rintro (h | h | h) <;> simp [h]
      · rintro (h | h | h) <;> simp [h]
    · split
      · rename_i e; subst e; simp
      · simp
theorem cutsOf_ok {ws : List Wal} {w : Wal} (hb : WB 200 ws) (hw : nbW w ≤ 200) : RowOk (cutsOf ws w) (3 * ws.length) := by
  have go : ∀ (l : List Wal) (acc : List Spo) (k : Nat), WB 200 l → RowOk acc k → RowOk (l.foldl (stepC w) acc) (k + 3 * l.length) := fun l => by
    induction l with
    | nil => exact fun acc k _ h => h.mono (by simp)
    | cons o l ih =>
      intro acc k hl h
      have ho := hl o (by simp)
      have b1 := nbW1 o; have b2 := nbW2 o
      have st : ∀ {acc k s}, RowOk acc k → nbS s ≤ 200 → RowOk (stepS w acc s) (k + 1) := fun {acc k s} h hs => by
        unfold stepS; split
        · exact h.ins (by omega)
        · exact h.mono (by omega)
      have h2 : RowOk (stepS w (stepS w acc o.1) o.2) (k + 1 + 1) := st (st h (by omega)) (by omega)
      have h3 : RowOk (stepC w acc o) (k + 3) := by
        show RowOk (match meet w o with
          | some (.inl s) => insS s (stepS w (stepS w acc o.1) o.2)
          | _ => stepS w (stepS w acc o.1) o.2) (k + 3)
        split
        · rename_i s e
          exact h2.ins (by have := meet_bits hw ho e; omega)
        · exact h2.mono (by omega)
      have := ih (stepC w acc o) (k + 3) (fun x hx => hl x (by simp [hx])) h3
      rw [List.foldl_cons]
      exact this.mono (by simp; omega)
  have := go ws [] 0 hb ⟨by simp [Rising], fun x hx => by simp at hx, by simp⟩
  exact this.mono (by omega)
/-- pieces that are fit to be put in -/
structure PcsOk (acc : List Wal) (k : Nat) : Prop where
  bits : WB 4000 acc
  len : acc.length ≤ k
theorem PcsOk.mono {acc : List Wal} {k j : Nat} (h : PcsOk acc k) (hk : k ≤ j) : PcsOk acc j := ⟨h.bits, by have := h.len; omega⟩
theorem PcsOk.ins {acc : List Wal} {k : Nat} {w : Wal} (h : PcsOk acc k) (hw : nbW w ≤ 4000) : PcsOk (insW w acc) (k + 1) :=
  ⟨fun x hx => by
    rcases mem_insW.mp hx with rfl | hx
    · exact hw
    · exact h.bits x hx, by have := len_insW (w := w) (l := acc); have := h.len; omega⟩
theorem pieces_bits {cs : List Spo} (h : SB 4000 cs) : WB 4000 (pieces cs) := fun x hx => by
  unfold pieces at hx
  have h1 := h x.1 (List.of_mem_zip hx).1
  have h2 := h x.2 (List.mem_of_mem_tail (List.of_mem_zip hx).2)
  unfold nbW; omega
theorem zip_walls (l m : List Spo) : zipD (l.map dS) (m.map dS) = (l.zip m).map dW := by
  unfold zipD
  rw [List.zip_map, List.map_map]
  rfl
theorem rd_parted (ds : List D) (M : MH) (Q : MQ) (h : sp_parted ds M Q mx0) : ms_parted (ends Q) (startD N_parted ds) M := by
  obtain ⟨p, ws, rfl, hl, hb, hn, h40, q⟩ := h
  simp only [ms_parted, mSeq_eq, mAsg_eq, mLst_eq, maN_eq, gN_eq]
  refine ⟨sz0, fun r hr => ?_⟩
  refine for_st (ds := dWs ws) (Kp := LstAt p (dWs ws)) (fun i δ' M' => ∃ a b c, δ' = [some (.ref p), some (.ref r), a, b, c] ∧ M' r = some (.lst (dWs ((ws.take i).foldl (fun acc w => (pieces (cutsOf ws w)).foldl (fun acc p => insW p acc) acc) []))) ∧ Ext M M' ∧ PcsOk ((ws.take i).foldl (fun acc w => (pieces (cutsOf ws w)).foldl (fun acc p => insW p acc) acc) []) (400 * i)) (fun R h => mi_L rfl (hl.ext (.new _ hr)) h)
    ⟨none, none, none, rfl, by simp, .new _ hr, fun x hx => by simp at hx, by simp⟩ ?_ ?_ ?_
  · rintro i δ' M' _ ⟨_, _, _, _, _, e, _⟩; exact hl.ext e
  · rintro i d δ' M' hd ⟨a, b, c, rfl, hm, e, ok⟩
    obtain ⟨w, ho, rfl⟩ := map_get hd
    have hi : i < ws.length := (List.getElem?_eq_some_iff.mp ho).1
    have hw := hb w (List.mem_of_getElem? ho)
    rw [foldl_take ho]
    generalize (ws.take i).foldl (fun acc w => (pieces (cutsOf ws w)).foldl (fun acc p => insW p acc) acc) [] = acc at hm ok
    have cok := cutsOf_ok hb hw
    simp only [gN_eq, mSeq_eq, mAsg_eq, mCall_eq, maC_eq, maN_eq, mV_eq]
    refine ⟨_, rfl, _, rfl, rfl, p, ws, w, rfl, hl.ext e, hb, hw, by omega, fun t M2 ht h2 e2 => ?_⟩
    have e' := e.trans e2
    have hm2 := e2 _ _ hm
    show iZp _ _ _ _
    simp only [iZp, maC_eq, mV_eq, mSl_eq, mpS_eq, mpN_eq, mC_eq, maN_eq]
    refine ⟨_, rfl, _, rfl, _, rfl, oSl_ref (ds := dSs (cutsOf ws w)) (.inl h2) fun u hu => ?_⟩
    rw [show cutD (dSs (cutsOf ws w)) (some 1) none = dSs (cutsOf ws w).tail by rw [show (1 : Int) = ((1 : Nat) : Int) from rfl, cutD_from]; simp [dSs]]
    have e3 : Ext M (ud M2 u (.lst (dSs (cutsOf ws w).tail))) := e'.ud _ hu
    have tu : t ≠ u := fun z => by subst z; rw [h2] at hu; cases hu
    have ru : r ≠ u := fun z => by subst z; rw [hm2] at hu; cases hu
    have hne : r ≠ t := fun z => by subst z; rw [hm] at ht; cases ht
    have hr3 : (ud M2 u (.lst (dSs (cutsOf ws w).tail))) r = some (.lst (dWs acc)) := by rw [ud_ne ru]; exact hm2
    have ht3 : (ud M2 u (.lst (dSs (cutsOf ws w).tail))) t = some (.lst (dSs (cutsOf ws w))) := by rw [ud_ne tu]; exact h2
    have hu3 : (ud M2 u (.lst (dSs (cutsOf ws w).tail))) u = some (.lst (dSs (cutsOf ws w).tail)) := ud_same
    generalize ud M2 u (.lst (dSs (cutsOf ws w).tail)) = M3 at e3 hr3 ht3 hu3 ⊢
    refine ⟨t, u, dSs (cutsOf ws w), dSs (cutsOf ws w).tail, rfl, .inl ht3, .inl hu3, ?_⟩
    have hz : zipD (dSs (cutsOf ws w)) (dSs (cutsOf ws w).tail) = dWs (pieces (cutsOf ws w)) := by
      rw [show dSs (cutsOf ws w).tail = (cutsOf ws w).tail.map dS from rfl, dSs, zip_walls]; rfl
    rw [hz]
    refine ⟨fun j δ' M' => ∃ c, δ' = [some (.ref p), some (.ref r), some (dW w), some (.ref t), c] ∧ M' r = some (.lst (dWs (((pieces (cutsOf ws w)).take j).foldl (fun acc p => insW p acc) acc))) ∧ M' t = some (.lst (dSs (cutsOf ws w))) ∧ M' u = some (.lst (dSs (cutsOf ws w).tail)) ∧ Ext M M' ∧ PcsOk (((pieces (cutsOf ws w)).take j).foldl (fun acc p => insW p acc) acc) (400 * i + j),
      ⟨c, rfl, by simpa using hr3, ht3, hu3, e3, by simpa using ok⟩, ?_, ?_, ?_⟩
    · rintro j δ' M' _ ⟨_, _, _, q1, q2, _⟩; exact ⟨.inl q1, .inl q2⟩
    · rintro j d δ' M' hd ⟨c, rfl, k1, k2, k3, k4, k5⟩
      obtain ⟨x, hx, rfl⟩ := map_get hd
      have hj : j < (pieces (cutsOf ws w)).length := (List.getElem?_eq_some_iff.mp hx).1
      have hj2 : j < 300 := by
        have := cok.len
        unfold pieces at hj
        simp at hj
        omega
      have hstep := foldl_take (f := fun acc p => insW p acc) hx acc
      generalize ((pieces (cutsOf ws w)).take j).foldl (fun acc p => insW p acc) acc = acc2 at k1 k5 hstep
      have hxb := pieces_bits cok.bits x (List.mem_of_getElem? hx)
      have hwb : WB 400000 acc2 := fun y hy => by have := k5.bits y hy; omega
      simp only [gN_eq, mDrop_eq, mCall_eq, maC_eq, maN_eq, mV_eq]
      refine ⟨_, rfl, _, rfl, rfl, r, acc2, x, rfl, k1, hwb, by omega, by have := k5.len; omega, fun M4 h4 e4 => ?_⟩
      refine ⟨_, rfl, by rw [hstep]; exact h4, ?_, ?_, ExtB.of k4 e4 hr, by rw [hstep]; exact k5.ins hxb⟩
      · exact e4 _ _ hne.symm k2
      · exact e4 _ _ ru.symm k3
    · rintro δ' M' ⟨c, rfl, k1, k2, k3, k4, k5⟩
      simp only [dWs, List.length_map, List.take_length] at k1 k5
      have hj : (pieces (cutsOf ws w)).length ≤ 300 := by
        have := cok.len
        unfold pieces
        simp
        omega
      exact ⟨_, _, _, rfl, k1, k4, k5.mono (by omega)⟩
  · rintro δ' M' ⟨a, b, c, rfl, hm, e, ok⟩
    simp only [dWs, List.length_map, List.take_length] at hm
    have hpm : ws.foldl (fun acc w => (pieces (cutsOf ws w)).foldl (fun acc p => insW p acc) acc) [] = partM ws := rfl
    rw [hpm] at hm
    have hlen : ∀ R : MQ, R (.int (partM ws).length) M' → bLen [.ref r] M' R := fun R h => ⟨dWs (partM ws), .inl hm, by simpa [dWs] using h⟩
    simp [-Prod.exists, -Prod.forall]
    refine hlen _ ?_
    simp [-Prod.exists, -Prod.forall]
    exact ⟨by omega, dWs (partM ws), .inl hm, q M' e⟩
theorem rd_plot_of (ds : List D) (M : MH) (Q : MQ) (h : sp_plot_of ds M Q mx0) : ms_plot_of (ends Q) (startD N_plot_of ds) M := by
  obtain ⟨p, ws, rfl, hl, hb, hn, hp, q⟩ := h
  have hlen : ∀ R : MQ, R (.int ws.length) M → bLen [.ref p] M R := fun R h => ⟨dWs ws, hl, by simpa [dWs] using h⟩
  rw [ms_plot_of, mSeq_eq]
  simp only [mIte_eq, mTs_eq, m2_eq, mB_eq]
  simp only [maC_eq, maN_eq, mV_eq]
  refine ⟨_, rfl, hlen _ ?_⟩
  simp only [mC_eq, rInt0_eq]
  refine ⟨_, rfl, ?_⟩
  have hd : ¬ ((ws.length : Int) > 40) := by omega
  simp only [hd, decide_false, Bool.false_eq_true, if_false, mNext_eq, mSeq_eq]
  refine for_st (ds := enumD (dWs ws)) (Kp := LstAt p (dWs ws)) (fun i δ' M' => Ext M M' ∧ ∃ a b c, δ' = [some (.ref p), a, b, c]) (fun R h => mi_En rfl hl h) ⟨.refl M, none, none, none, rfl⟩ ?_ ?_ ?_
  · rintro i δ' M' _ ⟨e, _⟩; exact hl.ext e
  · rintro i d δ' M' hd ⟨e, a, b, c, rfl⟩
    obtain ⟨o, ho, rfl⟩ := enum_get hd
    obtain ⟨w, hw, rfl⟩ := map_get ho
    rw [gT2]
    simp only [gN_eq, mSeq_eq, mAsg_eq, mCall_eq, maC_eq, maN_eq, mV_eq, mSl_eq, mpN_eq, mpS_eq]
    refine ⟨_, rfl, _, rfl, _, rfl, oSl_ref (ds := dWs ws) (hl.ext e) fun u hu => ?_⟩
    refine ⟨_, rfl, rfl, u, ws.take i, w, rfl, .inl (by rw [ud_same, cutD_to]; simp), fun x hx => hb x (List.mem_of_mem_take hx), hb w (List.mem_of_getElem? hw), ?_⟩
    rw [hp i w hw]
    simp [-Prod.exists, -Prod.forall, dOpt]
    exact e.ud _ hu
  · rintro δ' M' ⟨e, a, b, c, rfl⟩
    simp
    show ∃ ds, _
    exact ⟨dWs ws, hl.ext e, q M' e⟩
end MM

namespace MM
open PySem PySem.Spec PyProof.Rows L2
/-! ### the geometry of walls -/
abbrev proper (w : Wal) : Prop := ahead w.1 w.2 = true
abbrev par (a b : Wal) : Prop := cr (way a) (way b) = 0
abbrev col (w : Wal) (s : Spo) : Prop := cr (way w) (way (w.1, s)) = 0
def pt (w : Wal) (t : Rat) : Spo := (w.1.1 + t * (w.2.1 - w.1.1), w.1.2 + t * (w.2.2 - w.1.2))
theorem rmul_div {a b : Rat} (h : b ≠ 0) : a / b * b = a := by
  rw [Rat.div_def, Rat.mul_assoc, Rat.inv_mul_cancel b h, Rat.mul_one]
theorem way_mul {w : Wal} (h : proper w) {u : Spo} (k : cr (way w) u = 0) : ∃ t : Rat, u = (t * (w.2.1 - w.1.1), t * (w.2.2 - w.1.2)) := by
  rw [proper, ahead_iff] at h
  unfold cr way at k
  simp only at k
  rcases h with h | ⟨h1, h2⟩
  · have hd : w.2.1 - w.1.1 ≠ 0 := by grind
    refine ⟨u.1 / (w.2.1 - w.1.1), ?_⟩
    have e := rmul_div (a := u.1) hd
    generalize u.1 / (w.2.1 - w.1.1) = t at e ⊢
    refine Prod.ext e.symm ?_
    have : (w.2.1 - w.1.1) * (u.2 - t * (w.2.2 - w.1.2)) = 0 := by grind
    rcases Rat.mul_eq_zero.mp this with z | z
    · exact absurd z hd
    · simp only; grind
  · have hd : w.2.2 - w.1.2 ≠ 0 := by grind
    refine ⟨u.2 / (w.2.2 - w.1.2), ?_⟩
    have e := rmul_div (a := u.2) hd
    generalize u.2 / (w.2.2 - w.1.2) = t at e ⊢
    refine Prod.ext ?_ e.symm
    have hz : w.2.1 - w.1.1 = 0 := by grind
    have : (w.2.2 - w.1.2) * u.1 = 0 := by grind
    rcases Rat.mul_eq_zero.mp this with z | z
    · exact absurd z hd
    · simp only; grind
theorem col_iff {w : Wal} (h : proper w) {s : Spo} : col w s ↔ ∃ t, s = pt w t := by
  constructor
  · intro k
    obtain ⟨t, e⟩ := way_mul h k
    refine ⟨t, ?_⟩
    unfold way at e
    have e1 := congrArg Prod.fst e
    have e2 := congrArg Prod.snd e
    simp only at e1 e2
    unfold pt
    exact Prod.ext (by simp only; grind) (by simp only; grind)
  · rintro ⟨t, rfl⟩
    unfold col cr way pt
    simp only
    grind
theorem mul_lt_iff {t u d : Rat} (h : 0 < d) : t * d < u * d ↔ t < u := by
  constructor
  · intro k
    refine Classical.byContradiction fun z => ?_
    have z2 : u ≤ t := Rat.not_lt.mp z
    have := Rat.mul_le_mul_of_nonneg_right z2 (Rat.le_of_lt h)
    grind
  · intro k
    have := Rat.mul_lt_mul_of_pos_right k h
    exact this
theorem ahead_pt {w : Wal} (h : proper w) {t u : Rat} : ahead (pt w t) (pt w u) = true ↔ t < u := by
  rw [proper, ahead_iff] at h
  rw [ahead_iff]
  unfold pt
  simp only
  rcases h with h | ⟨h1, h2⟩
  · have hd : 0 < w.2.1 - w.1.1 := by grind
    have e := mul_lt_iff (t := t) (u := u) hd
    constructor
    · rintro (k | ⟨k1, k2⟩)
      · exact e.mp (by grind)
      · have hm : (t - u) * (w.2.1 - w.1.1) = 0 := by grind
        rcases Rat.mul_eq_zero.mp hm with z | z
        · have : t = u := by grind
          subst this; grind
        · grind
    · intro k
      exact .inl (by have := e.mpr k; grind)
  · have hd : 0 < w.2.2 - w.1.2 := by grind
    have e := mul_lt_iff (t := t) (u := u) hd
    constructor
    · rintro (k | ⟨k1, k2⟩)
      · exfalso; rw [← h1] at k; grind
      · exact e.mp (by grind)
    · intro k
      exact .inr ⟨by rw [← h1]; grind, by have := e.mpr k; grind⟩
theorem pt0 (w : Wal) : pt w 0 = w.1 := by unfold pt; exact Prod.ext (by simp only; grind) (by simp only; grind)
theorem pt1 (w : Wal) : pt w 1 = w.2 := by unfold pt; exact Prod.ext (by simp only; grind) (by simp only; grind)
theorem on_iff' {w : Wal} {s : Spo} : on w s = true ↔ ahead s w.1 = false ∧ ahead w.2 s = false ∧ col w s := by
  unfold on side
  rw [Bool.and_eq_true, Bool.and_eq_true, decide_eq_true_eq, sgn_zero]
  simp [and_assoc]
theorem not_ahead_pt {w : Wal} (h : proper w) {t u : Rat} : ahead (pt w t) (pt w u) = false ↔ u ≤ t := by
  rw [← Bool.not_eq_true, ahead_pt h]; grind
theorem on_iff {w : Wal} (h : proper w) {s : Spo} : on w s = true ↔ ∃ t, 0 ≤ t ∧ t ≤ 1 ∧ s = pt w t := by
  rw [on_iff', col_iff h]
  constructor
  · rintro ⟨a, b, t, rfl⟩
    rw [← pt0 w, not_ahead_pt h] at a
    rw [← pt1 w, not_ahead_pt h] at b
    exact ⟨t, a, b, rfl⟩
  · rintro ⟨t, a, b, rfl⟩
    refine ⟨?_, ?_, t, rfl⟩
    · rw [← pt0 w, not_ahead_pt h]; exact a
    · rw [← pt1 w, not_ahead_pt h]; exact b
theorem pt_inj {w : Wal} (h : proper w) {t u : Rat} (e : pt w t = pt w u) : t = u := by
  have a : ¬ t < u := fun z => by rw [← ahead_pt h, e, ahead_irr] at z; cases z
  have b : ¬ u < t := fun z => by rw [← ahead_pt h, e, ahead_irr] at z; cases z
  grind
/-- a stretch of a wall -/
theorem pt_pt {w : Wal} {a b t : Rat} : pt (pt w a, pt w b) t = pt w (a + t * (b - a)) := by
  unfold pt; exact Prod.ext (by simp only; grind) (by simp only; grind)
theorem proper_pt {w : Wal} (h : proper w) {a b : Rat} : proper (pt w a, pt w b) ↔ a < b := ahead_pt h
theorem col_pt {w : Wal} (h : proper w) {a b : Rat} (hab : a < b) {s : Spo} : col (pt w a, pt w b) s ↔ col w s := by
  rw [col_iff ((proper_pt h).mpr hab), col_iff h]
  constructor
  · rintro ⟨t, rfl⟩; exact ⟨_, pt_pt⟩
  · rintro ⟨t, rfl⟩
    have hd : b - a ≠ 0 := by grind
    refine ⟨(t - a) / (b - a), ?_⟩
    rw [pt_pt]
    have := rmul_div (a := t - a) hd
    congr 1
    grind
/-- of two spots of a wall: what is between them is on the wall -/
theorem on_sub {w : Wal} (h : proper w) {a b s : Spo} (ha : on w a = true) (hb : on w b = true) (hab : ahead a b = true) : on (a, b) s = true ↔ ahead s a = false ∧ ahead b s = false ∧ on w s = true := by
  obtain ⟨ta, a0, a1, rfl⟩ := (on_iff h).mp ha
  obtain ⟨tb, b0, b1, rfl⟩ := (on_iff h).mp hb
  have hlt := (ahead_pt h).mp hab
  rw [on_iff', col_pt h hlt]
  constructor
  · rintro ⟨p, q, r⟩
    obtain ⟨t, rfl⟩ := (col_iff h).mp r
    simp only [not_ahead_pt h] at p q
    refine ⟨(not_ahead_pt h).mpr p, (not_ahead_pt h).mpr q, (on_iff h).mpr ⟨t, by grind, by grind, rfl⟩⟩
  · rintro ⟨p, q, r⟩
    exact ⟨p, q, (on_iff'.mp r).2.2⟩
theorem par_sub {w v : Wal} (hw : proper w) {a b : Rat} (hab : a < b) : par (pt w a, pt w b) v ↔ par w v := by
  have e : cr (way (pt w a, pt w b)) (way v) = (b - a) * cr (way w) (way v) := by
    unfold cr way pt; simp only; grind
  unfold par
  rw [e]
  constructor
  · intro k
    rcases Rat.mul_eq_zero.mp k with z | z
    · grind
    · exact z
  · intro k; rw [k]; grind
theorem par_symm {a b : Wal} (h : par a b) : par b a := by
  unfold par cr at *; grind
theorem par_trans {a b c : Wal} (hb : proper b) (h : par a b) (k : par b c) : par a c := by
  obtain ⟨t, e⟩ := way_mul hb k
  obtain ⟨u, e2⟩ := way_mul hb (par_symm h)
  unfold par
  rw [e, e2]
  unfold cr; simp only; grind
theorem col_self1 (w : Wal) : col w w.1 := by unfold col cr way; simp only; grind
theorem col_self2 (w : Wal) : col w w.2 := by unfold col cr way; simp only; grind
/-- of parallel walls with a common spot of their lines the lines are one -/
theorem col_par {a b : Wal} (ha : proper a) (hb : proper b) (hp : par a b) {s t : Spo} (h1 : col a s) (h2 : col b s) (h3 : col b t) : col a t := by
  obtain ⟨u, rfl⟩ := (col_iff hb).mp h2
  obtain ⟨v, rfl⟩ := (col_iff hb).mp h3
  obtain ⟨x, e⟩ := (col_iff ha).mp h1
  obtain ⟨k, e2⟩ := way_mul ha hp
  rw [col_iff ha]
  refine ⟨x + (v - u) * k, ?_⟩
  unfold way at e2
  have p1 := congrArg Prod.fst e2
  have p2 := congrArg Prod.snd e2
  have q1 := congrArg Prod.fst e
  have q2 := congrArg Prod.snd e
  unfold pt at q1 q2 ⊢
  simp only at p1 p2 q1 q2
  exact Prod.ext (by simp only; grind) (by simp only; grind)
/-- the lines of two walls that aren't parallel meet in mix alone -/
theorem mix_of {a b : Wal} (hp : ¬ par a b) {s : Spo} (ha : proper a) (hb : proper b) (h1 : col a s) (h2 : col b s) : mix a b = s := by
  obtain ⟨t, rfl⟩ := (col_iff ha).mp h1
  obtain ⟨u, e⟩ := (col_iff hb).mp h2
  have q1 := congrArg Prod.fst e
  have q2 := congrArg Prod.snd e
  unfold pt at q1 q2
  simp only at q1 q2
  have key : cr (way (a.1, b.1)) (way b) = t * cr (way a) (way b) := by
    unfold cr way; simp only; grind
  have ht : mixT a b = t := by
    unfold mixT
    rw [key, Rat.div_def, Rat.mul_assoc, Rat.mul_inv_cancel _ hp, Rat.mul_one]
  unfold mix
  rw [ht]
  unfold way pt
  exact Prod.ext (by simp only) (by simp only)
theorem on1 {w : Wal} (h : proper w) : on w w.1 = true := on_iff'.mpr ⟨ahead_irr _, ahead_asym h, col_self1 w⟩
theorem on2 {w : Wal} (h : proper w) : on w w.2 = true := on_iff'.mpr ⟨ahead_asym h, ahead_irr _, col_self2 w⟩
end MM

namespace MM
open PySem PySem.Spec PyProof.Rows L2
/-! ### parting: what the pieces are -/
theorem sorted_ext {α : Type} {r : α → α → Prop} (ir : ∀ a, ¬ r a a) (tr : ∀ a b c, r a b → r b c → r a c) : ∀ {l m : List α}, l.Pairwise r → m.Pairwise r → (∀ x, x ∈ l ↔ x ∈ m) → l = m
  | [], [], _, _, _ => rfl
  | [], b :: m, _, _, h => by have := (h b).mpr (by simp); simp at this
  | a :: l, [], _, _, h => by have := (h a).mp (by simp); simp at this
  | a :: l, b :: m, hl, hm, h => by
    have h1 := List.pairwise_cons.mp hl
    have h2 := List.pairwise_cons.mp hm
    have e : a = b := by
      have p := (h a).mp (by simp)
      have q := (h b).mpr (by simp)
      rcases List.mem_cons.mp p with z | z
      · exact z
      · rcases List.mem_cons.mp q with y | y
        · exact y.symm
        · exact absurd (tr _ _ _ (h1.1 b y) (h2.1 a z)) (ir a)
    subst e
    have := sorted_ext ir tr h1.2 h2.2 fun x => by
      constructor
      · intro hx
        rcases List.mem_cons.mp ((h x).mp (by simp [hx])) with z | z
        · subst z; exact absurd (h1.1 x hx) (ir x)
        · exact z
      · intro hx
        rcases List.mem_cons.mp ((h x).mpr (by simp [hx])) with z | z
        · subst z; exact absurd (h2.1 x hx) (ir x)
        · exact z
    rw [this]
theorem mem_stepS {w : Wal} {acc : List Spo} {s x : Spo} : x ∈ stepS w acc s ↔ x ∈ acc ∨ on w s = true ∧ x = s := by
  unfold stepS
  split
  · rename_i h; rw [mem_insS]; constructor
    · rintro (k | k)
      · exact .inr ⟨h, k⟩
      · exact .inl k
    · rintro (k | k)
      · exact .inr k
      · exact .inl k.2
  · rename_i h; constructor
    · exact .inl
    · rintro (k | k)
      · exact k
      · exact absurd k.1 h
theorem mem_stepC {w o : Wal} {acc : List Spo} {x : Spo} : x ∈ stepC w acc o ↔ x ∈ acc ∨ (on w o.1 = true ∧ x = o.1) ∨ (on w o.2 = true ∧ x = o.2) ∨ meet w o = some (.inl x) := by
  have e : x ∈ ([o.1, o.2].foldl (stepS w) acc) ↔ x ∈ acc ∨ (on w o.1 = true ∧ x = o.1) ∨ (on w o.2 = true ∧ x = o.2) := by
    show x ∈ stepS w (stepS w acc o.1) o.2 ↔ _
    rw [mem_stepS, mem_stepS, or_assoc]
  unfold stepC
  split
  · rename_i s h
    rw [mem_insS, e, h]
    constructor
    · rintro (k | k | k | k)
      · subst k; exact .inr (.inr (.inr rfl))
      · exact .inl k
      · exact .inr (.inl k)
      · exact .inr (.inr (.inl k))
    · rintro (k | k | k | k)
      · exact .inr (.inl k)
      · exact .inr (.inr (.inl k))
      · exact .inr (.inr (.inr k))
      · cases k; exact .inl rfl
  · rename_i h
    rw [e]
    constructor
    · rintro (k | k | k)
      · exact .inl k
      · exact .inr (.inl k)
      · exact .inr (.inr (.inl k))
    · rintro (k | k | k | k)
      · exact .inl k
      · exact .inr (.inl k)
      · exact .inr (.inr k)
      · exact absurd k (h x)
theorem mem_cutsOf {ws : List Wal} {w : Wal} {x : Spo} : x ∈ cutsOf ws w ↔ ∃ o ∈ ws, (on w o.1 = true ∧ x = o.1) ∨ (on w o.2 = true ∧ x = o.2) ∨ meet w o = some (.inl x) := by
  have go : ∀ (l : List Wal) (acc : List Spo), x ∈ l.foldl (stepC w) acc ↔ x ∈ acc ∨ ∃ o ∈ l, (on w o.1 = true ∧ x = o.1) ∨ (on w o.2 = true ∧ x = o.2) ∨ meet w o = some (.inl x) := fun l => by
    induction l with
    | nil => intro acc; simp
    | cons o l ih =>
      intro acc
      rw [List.foldl_cons, ih, mem_stepC]
      constructor
      · rintro ((k | k) | ⟨p, hp, k⟩)
        · exact .inl k
        · exact .inr ⟨o, by simp, k⟩
        · exact .inr ⟨p, by simp [hp], k⟩
      · rintro (k | ⟨p, hp, k⟩)
        · exact .inl (.inl k)
        · rcases List.mem_cons.mp hp with z | z
          · subst z; exact .inl (.inr k)
          · exact .inr ⟨p, z, k⟩
  unfold cutsOf
  rw [go]; simp
theorem rising_stepS {w : Wal} {acc : List Spo} {s : Spo} (h : Rising acc) : Rising (stepS w acc s) := by
  unfold stepS; split
  · exact rising_insS h
  · exact h
theorem rising_cutsOf (ws : List Wal) (w : Wal) : Rising (cutsOf ws w) := by
  have go : ∀ (l : List Wal) (acc : List Spo), Rising acc → Rising (l.foldl (stepC w) acc) := fun l => by
    induction l with
    | nil => intro acc h; exact h
    | cons o l ih =>
      intro acc h
      rw [List.foldl_cons]
      refine ih _ ?_
      have h2 : Rising ([o.1, o.2].foldl (stepS w) acc) := rising_stepS (rising_stepS h)
      unfold stepC
      split
      · exact rising_insS h2
      · exact h2
  exact go ws [] List.Pairwise.nil
def inK (ws : List Wal) (s : Spo) : Prop := (∃ o ∈ ws, s = o.1 ∨ s = o.2) ∨ ∃ o ∈ ws, ∃ o' ∈ ws, ¬ par o o' ∧ on o s = true ∧ on o' s = true
abbrev Props (ws : List Wal) : Prop := ∀ w ∈ ws, proper w
theorem sgn_par {a b : Wal} : sgn (cr (way a) (way b)) = 0 ↔ par a b := sgn_zero
theorem meetL_inl {a b : Wal} {x : Spo} (h : meetL a b = some (.inl x)) : col a b.1 ∧ (x = a.1 ∨ x = b.1) ∧ (x = a.2 ∨ x = b.2) := by
  unfold meetL at h
  by_cases h0 : side a b.1 = 0
  · rw [if_pos h0] at h
    have c0 : col a b.1 := sgn_zero.mp h0
    refine ⟨c0, ?_⟩
    have hf : (if ahead a.1 b.1 = true then b.1 else a.1) = a.1 ∨ (if ahead a.1 b.1 = true then b.1 else a.1) = b.1 := by split <;> simp
    have hs : (if ahead b.2 a.2 = true then b.2 else a.2) = a.2 ∨ (if ahead b.2 a.2 = true then b.2 else a.2) = b.2 := by split <;> simp
    simp only at h
    generalize (if ahead a.1 b.1 = true then b.1 else a.1) = f at h hf
    generalize (if ahead b.2 a.2 = true then b.2 else a.2) = g at h hs
    by_cases e : f = g
    · rw [if_pos e] at h
      have e2 : f = x := by simpa using h
      subst e2
      exact ⟨hf, by rw [e]; exact hs⟩
    · rw [if_neg e] at h
      split at h <;> simp at h
  · rw [if_neg h0] at h; cases h
theorem meet_on {w o : Wal} (hw : proper w) (ho : proper o) {x : Spo} (h : meet w o = some (.inl x)) : on w x = true ∧ ((x = w.1 ∨ x = w.2 ∨ x = o.1 ∨ x = o.2) ∧ par w o ∨ ¬ par w o ∧ on o x = true) := by
  unfold meet at h
  by_cases hp : sgn (cr (way w) (way o)) = 0
  · rw [if_pos hp] at h
    obtain ⟨c0, h1, h2⟩ := meetL_inl h
    have pp := sgn_par.mp hp
    refine ⟨?_, .inl ⟨?_, pp⟩⟩
    · rcases h1 with e | e
      · rw [e]; exact on1 hw
      · rcases h2 with e2 | e2
        · rw [e2]; exact on2 hw
        · exfalso
          rw [proper, ← e, ← e2, ahead_irr] at ho; cases ho
    · rcases h1 with e | e
      · exact .inl e
      · exact .inr (.inr (.inl e))
  · rw [if_neg hp] at h
    split at h
    · rename_i k
      rw [Bool.and_eq_true] at k
      have e : mix w o = x := by simpa using h
      subst e
      exact ⟨k.1, .inr ⟨fun z => hp (sgn_par.mpr z), k.2⟩⟩
    · cases h
theorem meet_mix {w o : Wal} (hw : proper w) (ho : proper o) (hp : ¬ par w o) {x : Spo} (h1 : on w x = true) (h2 : on o x = true) : meet w o = some (.inl x) := by
  have e := mix_of hp hw ho (on_iff'.mp h1).2.2 (on_iff'.mp h2).2.2
  unfold meet
  rw [if_neg (fun z => hp (sgn_par.mp z)), e, h1, h2]
  rfl
theorem cut_iff {ws : List Wal} (hP : Props ws) {w : Wal} (hw : w ∈ ws) {x : Spo} : x ∈ cutsOf ws w ↔ on w x = true ∧ inK ws x := by
  rw [mem_cutsOf]
  have pw := hP w hw
  constructor
  · rintro ⟨o, ho, (⟨k, rfl⟩ | ⟨k, rfl⟩ | k)⟩
    · exact ⟨k, .inl ⟨o, ho, .inl rfl⟩⟩
    · exact ⟨k, .inl ⟨o, ho, .inr rfl⟩⟩
    · obtain ⟨a, b⟩ := meet_on pw (hP o ho) k
      refine ⟨a, ?_⟩
      rcases b with ⟨b, _⟩ | ⟨b, c⟩
      · rcases b with b | b | b | b
        · exact .inl ⟨w, hw, .inl b⟩
        · exact .inl ⟨w, hw, .inr b⟩
        · exact .inl ⟨o, ho, .inl b⟩
        · exact .inl ⟨o, ho, .inr b⟩
      · exact .inr ⟨w, hw, o, ho, b, a, c⟩
  · rintro ⟨a, (⟨o, ho, (rfl | rfl)⟩ | ⟨o, ho, o', ho', np, h1, h2⟩)⟩
    · exact ⟨o, ho, .inl ⟨a, rfl⟩⟩
    · exact ⟨o, ho, .inr (.inl ⟨a, rfl⟩)⟩
    · by_cases hp : par w o
      · have hp' : ¬ par w o' := fun z => np (par_trans pw (par_symm hp) z)
        exact ⟨o', ho', .inr (.inr (meet_mix pw (hP o' ho') hp' a h2))⟩
      · exact ⟨o, ho, .inr (.inr (meet_mix pw (hP o ho) hp a h1))⟩
/-! pieces of a rising row -/
theorem pieces_cons (a b : Spo) (r : List Spo) : pieces (a :: b :: r) = (a, b) :: pieces (b :: r) := rfl
theorem pieces_mem : ∀ {cs : List Spo} {p : Wal}, Rising cs → p ∈ pieces cs → p.1 ∈ cs ∧ p.2 ∈ cs ∧ ahead p.1 p.2 = true ∧ ∀ c ∈ cs, ahead p.1 c = true → ahead p.2 c = true ∨ c = p.2
  | [], p, _, h => by simp [pieces] at h
  | [a], p, _, h => by simp [pieces] at h
  | a :: b :: r, p, hr, h => by
    have h1 := List.pairwise_cons.mp hr
    have h2 := List.pairwise_cons.mp h1.2
    rw [pieces_cons] at h
    rcases List.mem_cons.mp h with rfl | h
    · refine ⟨by simp, by simp, h1.1 b (by simp), fun c hc ha => ?_⟩
      rcases List.mem_cons.mp hc with rfl | hc
      · rw [ahead_irr] at ha; cases ha
      · rcases List.mem_cons.mp hc with rfl | hc
        · exact .inr rfl
        · exact .inl (h2.1 c hc)
    · obtain ⟨i1, i2, i3, i4⟩ := pieces_mem h1.2 h
      refine ⟨by simp [i1], by simp [i2], i3, fun c hc ha => ?_⟩
      rcases List.mem_cons.mp hc with rfl | hc
      · have := h1.1 _ i1
        rw [ahead_asym this] at ha; cases ha
      · exact i4 c hc ha
theorem pieces_cover {s : Spo} : ∀ {cs : List Spo} {a : Spo}, ahead s a = false → (∃ z ∈ cs, ahead z s = false) → ∃ p ∈ pieces (a :: cs), ahead s p.1 = false ∧ ahead p.2 s = false
  | [], a, _, ⟨z, hz, _⟩ => by simp at hz
  | b :: r, a, h, ⟨z, hz, k⟩ => by
    rw [pieces_cons]
    cases hb : ahead b s with
    | false => exact ⟨(a, b), by simp, h, hb⟩
    | true =>
      rcases List.mem_cons.mp hz with rfl | hz
      · rw [hb] at k; cases k
      · obtain ⟨p, hp, q⟩ := pieces_cover (cs := r) (ahead_asym hb) ⟨z, hz, k⟩
        exact ⟨p, by simp [hp], q⟩
/-! the row of pieces -/
theorem sooner_irr (a : Wal) : ¬ sooner a a = true := by unfold sooner; simp [ahead_irr]
theorem sooner_trans (a b c : Wal) (h : sooner a b = true) (k : sooner b c = true) : sooner a c = true := by
  unfold sooner at *
  by_cases e1 : a.1 = b.1
  · rw [if_pos e1] at h
    by_cases e2 : b.1 = c.1
    · rw [if_pos e2] at k
      rw [if_pos (e1.trans e2)]; exact ahead_trans h k
    · rw [if_neg e2] at k
      rw [if_neg (by rw [e1]; exact e2), e1]; exact k
  · rw [if_neg e1] at h
    by_cases e2 : b.1 = c.1
    · rw [if_neg (by rw [← e2]; exact e1), ← e2]; exact h
    · rw [if_neg e2] at k
      have := ahead_trans h k
      rw [if_neg (fun z => by rw [z, ahead_irr] at this; cases this)]; exact this
theorem sooner_tri (a b : Wal) : sooner a b = true ∨ a = b ∨ sooner b a = true := by
  unfold sooner
  by_cases e : a.1 = b.1
  · rw [if_pos e, if_pos e.symm]
    rcases ahead_tri a.2 b.2 with z | z | z
    · exact .inl z
    · exact .inr (.inl (Prod.ext e z))
    · exact .inr (.inr z)
  · rw [if_neg e, if_neg (fun z => e z.symm)]
    rcases ahead_tri a.1 b.1 with z | z | z
    · exact .inl z
    · exact absurd z e
    · exact .inr (.inr z)
abbrev SortW (l : List Wal) : Prop := l.Pairwise fun a b => sooner a b = true
theorem sort_insW {w : Wal} : ∀ {l : List Wal}, SortW l → SortW (insW w l)
  | [], _ => by simp [insW]
  | t :: r, h => by
    have h1 := List.pairwise_cons.mp h
    unfold insW
    split
    · rename_i e
      refine List.pairwise_cons.mpr ⟨fun x hx => ?_, sort_insW h1.2⟩
      rcases mem_insW.mp hx with rfl | hx
      · exact e
      · exact h1.1 x hx
    · rename_i e
      split
      · exact h
      · rename_i e2
        have h2 : sooner w t = true := by
          rcases sooner_tri w t with z | z | z
          · exact z
          · exact absurd z.symm e2
          · exact absurd z e
        refine List.pairwise_cons.mpr ⟨fun x hx => ?_, h⟩
        rcases List.mem_cons.mp hx with rfl | hx
        · exact h2
        · exact sooner_trans _ _ _ h2 (h1.1 x hx)
theorem foldl_insW {ps : List Wal} : ∀ {acc : List Wal}, SortW acc → SortW (ps.foldl (fun acc p => insW p acc) acc) ∧ ∀ x, x ∈ ps.foldl (fun acc p => insW p acc) acc ↔ x ∈ ps ∨ x ∈ acc := by
  induction ps with
  | nil => intro acc h; exact ⟨h, fun x => by simp⟩
  | cons p ps ih =>
    intro acc h
    obtain ⟨a, b⟩ := ih (sort_insW (w := p) h)
    refine ⟨a, fun x => ?_⟩
    rw [List.foldl_cons, b, mem_insW]
    constructor
    · rintro (k | k | k) <;> simp [k]
    · intro k
      rcases k with k | k
      · rcases List.mem_cons.mp k with k | k <;> simp [k]
      · simp [k]
theorem partM_all (ws : List Wal) : SortW (partM ws) ∧ ∀ x, x ∈ partM ws ↔ ∃ w ∈ ws, x ∈ pieces (cutsOf ws w) := by
  have go : ∀ (l : List Wal) (acc : List Wal), SortW acc → SortW (l.foldl (fun acc w => (pieces (cutsOf ws w)).foldl (fun acc p => insW p acc) acc) acc) ∧ ∀ x, x ∈ l.foldl (fun acc w => (pieces (cutsOf ws w)).foldl (fun acc p => insW p acc) acc) acc ↔ (∃ w ∈ l, x ∈ pieces (cutsOf ws w)) ∨ x ∈ acc := fun l => by
    induction l with
    | nil => intro acc h; exact ⟨h, fun x => by simp⟩
    | cons w l ih =>
      intro acc h
      obtain ⟨a, b⟩ := foldl_insW (ps := pieces (cutsOf ws w)) h
      obtain ⟨c, d⟩ := ih _ a
      refine ⟨c, fun x => ?_⟩
      rw [List.foldl_cons, d, b]
      constructor
      · rintro (⟨v, hv, k⟩ | k | k)
        · exact .inl ⟨v, by simp [hv], k⟩
        · exact .inl ⟨w, by simp, k⟩
        · exact .inr k
      · rintro (⟨v, hv, k⟩ | k)
        · rcases List.mem_cons.mp hv with rfl | hv
          · exact .inr (.inl k)
          · exact .inl ⟨v, hv, k⟩
        · exact .inr (.inr k)
  obtain ⟨a, b⟩ := go ws [] List.Pairwise.nil
  exact ⟨a, fun x => by rw [partM, b]; simp⟩
/-- a piece: of which wall, its ends are cuts, between them is none -/
structure Piece (ws : List Wal) (x : Wal) (w : Wal) : Prop where
  mem : w ∈ ws
  pr : proper x
  o1 : on w x.1 = true
  o2 : on w x.2 = true
  k1 : inK ws x.1
  k2 : inK ws x.2
  sub : ∀ s, on x s = true → on w s = true
  cons : ∀ s, inK ws s → on x s = true → s = x.1 ∨ s = x.2
theorem piece_of {ws : List Wal} (hP : Props ws) {x : Wal} (h : x ∈ partM ws) : ∃ w, Piece ws x w := by
  obtain ⟨w, hw, hx⟩ := (partM_all ws).2 x |>.mp h
  obtain ⟨i1, i2, i3, i4⟩ := pieces_mem (rising_cutsOf ws w) hx
  have c1 := (cut_iff hP hw).mp i1
  have c2 := (cut_iff hP hw).mp i2
  have sub : ∀ s, on x s = true → on w s = true := fun s hs => ((on_sub (hP w hw) c1.1 c2.1 i3).mp hs).2.2
  refine ⟨w, hw, i3, c1.1, c2.1, c1.2, c2.2, sub, fun s hk hs => ?_⟩
  obtain ⟨a, b, c⟩ := (on_sub (hP w hw) c1.1 c2.1 i3).mp hs
  have hc := (cut_iff hP hw).mpr ⟨c, hk⟩
  rcases ahead_tri x.1 s with z | z | z
  · rcases i4 s hc z with y | y
    · rw [b] at y; cases y
    · exact .inr y
  · exact .inl z.symm
  · rw [a] at z; cases z
theorem Piece.par {ws : List Wal} (hP : Props ws) {x w v : Wal} (h : Piece ws x w) : par x v ↔ par w v := by
  have pw := hP w h.mem
  obtain ⟨ta, _, _, e1⟩ := (on_iff pw).mp h.o1
  obtain ⟨tb, _, _, e2⟩ := (on_iff pw).mp h.o2
  have px := h.pr
  have ex : x = (pt w ta, pt w tb) := Prod.ext e1 e2
  rw [ex] at px ⊢
  exact par_sub pw ((proper_pt pw).mp px)
theorem Piece.par2 {ws : List Wal} (hP : Props ws) {x y w v : Wal} (h : Piece ws x w) (k : Piece ws y v) : MM.par x y ↔ MM.par w v := by
  rw [h.par hP]
  constructor
  · intro z; exact par_symm ((k.par hP).mp (par_symm z))
  · intro z; exact par_symm ((k.par hP).mpr (par_symm z))
theorem inK_pieces {ws : List Wal} (hP : Props ws) {s : Spo} (h : inK (partM ws) s) : inK ws s := by
  rcases h with ⟨o, ho, k⟩ | ⟨o, ho, o', ho', np, a, b⟩
  · obtain ⟨w, p⟩ := piece_of hP ho
    rcases k with rfl | rfl
    · exact p.k1
    · exact p.k2
  · obtain ⟨w, p⟩ := piece_of hP ho
    obtain ⟨v, q⟩ := piece_of hP ho'
    exact .inr ⟨w, p.mem, v, q.mem, fun z => np ((p.par2 hP q).mpr z), p.sub s a, q.sub s b⟩
theorem pieces_props {ws : List Wal} (hP : Props ws) : Props (partM ws) := fun x hx => let ⟨_, p⟩ := piece_of hP hx; p.pr
theorem cuts_piece {ws : List Wal} (hP : Props ws) {x : Wal} (hx : x ∈ partM ws) : cutsOf (partM ws) x = [x.1, x.2] := by
  obtain ⟨w, p⟩ := piece_of hP hx
  refine sorted_ext (r := fun a b => ahead a b = true) (fun a h => by rw [ahead_irr] at h; cases h) (fun a b c => ahead_trans) (rising_cutsOf _ _) ?_ fun s => ?_
  · simp [List.pairwise_cons]; exact p.pr
  · rw [cut_iff (pieces_props hP) hx]
    constructor
    · rintro ⟨a, b⟩
      have := p.cons s (inK_pieces hP b) a
      simp; exact this
    · intro h
      simp at h
      rcases h with rfl | rfl
      · exact ⟨on1 p.pr, .inl ⟨x, hx, .inl rfl⟩⟩
      · exact ⟨on2 p.pr, .inl ⟨x, hx, .inr rfl⟩⟩
theorem part_again {ws : List Wal} (hP : Props ws) : partM (partM ws) = partM ws := by
  refine sorted_ext (r := fun a b => sooner a b = true) (fun a => sooner_irr a) sooner_trans (partM_all _).1 (partM_all _).1 fun x => ?_
  rw [(partM_all (partM ws)).2]
  constructor
  · rintro ⟨w, hw, hx⟩
    rw [cuts_piece hP hw] at hx
    have : x = w := by simpa [pieces] using hx
    subst this; exact hw
  · intro hx
    exact ⟨x, hx, by rw [cuts_piece hP hx]; simp [pieces]⟩
theorem part_cover {ws : List Wal} (hP : Props ws) (s : Spo) : (ws.any fun w => on w s) = (partM ws).any fun w => on w s := by
  rw [Bool.eq_iff_iff, List.any_eq_true, List.any_eq_true]
  constructor
  · rintro ⟨w, hw, hs⟩
    have pw := hP w hw
    have c1 := (cut_iff hP hw).mpr ⟨on1 pw, .inl ⟨w, hw, .inl rfl⟩⟩
    have c2 := (cut_iff hP hw).mpr ⟨on2 pw, .inl ⟨w, hw, .inr rfl⟩⟩
    have hr := rising_cutsOf ws w
    have hs' := on_iff'.mp hs
    have mm : ∀ p, p ∈ pieces (cutsOf ws w) → p ∈ partM ws := fun p hp => ((partM_all ws).2 p).mpr ⟨w, hw, hp⟩
    have ci : ∀ x, x ∈ cutsOf ws w → on w x = true := fun x hx => ((cut_iff hP hw).mp hx).1
    generalize cutsOf ws w = cs at c1 c2 hr mm ci
    cases cs with
    | nil => simp at c1
    | cons a cs =>
      have h1 := List.pairwise_cons.mp hr
      have ha : ahead s a = false := by
        rcases List.mem_cons.mp c1 with e | e
        · rw [← e]; exact hs'.1
        · have := h1.1 _ e
          cases z : ahead s a with
          | false => rfl
          | true => have := ahead_trans z this; rw [hs'.1] at this; cases this
      have hz : ∃ z ∈ cs, ahead z s = false := by
        rcases List.mem_cons.mp c2 with e | e
        · exfalso
          rcases List.mem_cons.mp c1 with e1 | e1
          · rw [proper, e, e1, ahead_irr] at pw; cases pw
          · have := h1.1 _ e1
            rw [← e] at this
            have := ahead_trans this pw
            rw [ahead_irr] at this; cases this
        · exact ⟨w.2, e, hs'.2.1⟩
      obtain ⟨p, hp, q1, q2⟩ := pieces_cover ha hz
      obtain ⟨i1, i2, i3, _⟩ := pieces_mem hr hp
      exact ⟨p, mm p hp, (on_sub pw (ci _ i1) (ci _ i2) i3).mpr ⟨q1, q2, hs⟩⟩
  · rintro ⟨x, hx, hs⟩
    obtain ⟨w, p⟩ := piece_of hP hx
    exact ⟨w, p.mem, p.sub s hs⟩
theorem fair_pieces {ws : List Wal} (hP : Props ws) {x y : Wal} (hx : x ∈ partM ws) (hy : y ∈ partM ws) (ne : x ≠ y) : fair x y = true := by
  obtain ⟨w, p⟩ := piece_of hP hx
  obtain ⟨v, q⟩ := piece_of hP hy
  unfold fair
  cases h : meet x y with
  | none => rfl
  | some z =>
    cases z with
    | inl s =>
      simp only [decide_eq_true_eq]
      by_cases hp : par x y
      · unfold meet at h
        rw [if_pos (sgn_par.mpr hp)] at h
        obtain ⟨_, a, b⟩ := meetL_inl h
        have px := p.pr
        have py := q.pr
        rcases a with a | a <;> rcases b with b | b
        · rw [proper, ← a, ← b, ahead_irr] at px; cases px
        · exact ⟨.inl a, .inr b⟩
        · exact ⟨.inr b, .inl a⟩
        · rw [proper, ← a, ← b, ahead_irr] at py; cases py
      · obtain ⟨a, b⟩ := meet_on p.pr q.pr h
        rcases b with ⟨_, b⟩ | ⟨_, b⟩
        · exact absurd b hp
        · have hk : inK ws s := .inr ⟨w, p.mem, v, q.mem, fun z => hp ((p.par2 hP q).mpr z), p.sub s a, q.sub s b⟩
          exact ⟨p.cons s hk a, q.cons s hk b⟩
    | inr u =>
      exfalso
      unfold meet at h
      by_cases hp : sgn (cr (way x) (way y)) = 0
      · rw [if_pos hp] at h
        have pp : par x y := sgn_par.mp hp
        unfold meetL at h
        by_cases h0 : side x y.1 = 0
        · rw [if_pos h0] at h
          have c0 : col x y.1 := sgn_zero.mp h0
          have lin : ∀ s, col y s → col x s := fun s hs => col_par p.pr q.pr pp c0 (col_self1 y) hs
          have lin2 : ∀ s, col x s → col y s := fun s hs => col_par q.pr p.pr (par_symm pp) (col_self1 y) c0 hs
          have px := p.pr
          have py := q.pr
          have ov : ahead (if ahead x.1 y.1 = true then y.1 else x.1) (if ahead y.2 x.2 = true then y.2 else x.2) = true := by
            simp only at h
            generalize (if ahead x.1 y.1 = true then y.1 else x.1) = f at h ⊢
            generalize (if ahead y.2 x.2 = true then y.2 else x.2) = g at h ⊢
            by_cases e : f = g
            · rw [if_pos e] at h; simp at h
            · rw [if_neg e] at h
              by_cases e2 : ahead f g = true
              · exact e2
              · rw [if_neg e2] at h; cases h
          -- all four overlaps
          have o12 : ahead x.1 y.2 = true ∧ ahead y.1 x.2 = true := by
            by_cases z1 : ahead x.1 y.1 = true
            · rw [if_pos z1] at ov
              refine ⟨ahead_trans z1 py, ?_⟩
              by_cases z2 : ahead y.2 x.2 = true
              · exact ahead_trans py z2
              · rw [if_neg z2] at ov; exact ov
            · rw [if_neg z1] at ov
              by_cases z2 : ahead y.2 x.2 = true
              · rw [if_pos z2] at ov
                refine ⟨ov, ahead_trans py z2⟩
              · rw [if_neg z2] at ov
                rcases ahead_tri x.1 y.1 with e | e | e
                · exact absurd e z1
                · refine ⟨by rw [e]; exact py, by rw [← e]; exact px⟩
                · refine ⟨?_, ahead_trans e ov⟩
                  rcases ahead_tri x.2 y.2 with d | d | d
                  · exact ahead_trans ov d
                  · rw [← d]; exact ov
                  · exact absurd d z2
          have e1 : x.1 = y.1 := by
            rcases ahead_tri x.1 y.1 with z | z | z
            · have on' : on x y.1 = true := on_iff'.mpr ⟨ahead_asym z, ahead_asym o12.2, c0⟩
              rcases p.cons _ q.k1 on' with e | e
              · exact e.symm
              · have := o12.2; rw [e, ahead_irr] at this; cases this
            · exact z
            · have on' : on y x.1 = true := on_iff'.mpr ⟨ahead_asym z, ahead_asym o12.1, lin2 _ (col_self1 x)⟩
              rcases q.cons _ p.k1 on' with e | e
              · exact e
              · have := o12.1; rw [e, ahead_irr] at this; cases this
          have e2 : x.2 = y.2 := by
            rcases ahead_tri x.2 y.2 with z | z | z
            · have on' : on y x.2 = true := on_iff'.mpr ⟨by rw [← e1]; exact ahead_asym px, ahead_asym z, lin2 _ (col_self2 x)⟩
              rcases q.cons _ p.k2 on' with e | e
              · rw [← e1] at e; rw [proper, e, ahead_irr] at px; cases px
              · exact e
            · exact z
            · have on' : on x y.2 = true := on_iff'.mpr ⟨by rw [e1]; exact ahead_asym py, ahead_asym z, lin _ (col_self2 y)⟩
              rcases p.cons _ q.k2 on' with e | e
              · rw [e1] at e; rw [proper, e, ahead_irr] at py; cases py
              · exact e.symm
          exact ne (Prod.ext e1 e2)
        · rw [if_neg h0] at h; cases h
      · rw [if_neg hp] at h
        split at h <;> simp at h
theorem plot_pieces {ws : List Wal} (hP : Props ws) : isPlot (partM ws) := fun i w hi => by
  unfold unfair
  rw [List.findIdx?_eq_none_iff]
  intro o ho
  obtain ⟨j, hj, rfl⟩ := List.mem_take_iff_getElem.mp ho
  obtain ⟨hi', rfl⟩ := List.getElem?_eq_some_iff.mp hi
  have hs := List.pairwise_iff_getElem.mp (partM_all ws).1 j i (by omega) hi' (by omega)
  have ne : (partM ws)[i] ≠ (partM ws)[j] := fun z => by rw [z] at hs; exact sooner_irr _ hs
  rw [fair_pieces hP (List.getElem_mem _) (List.getElem_mem _) ne]; rfl
end MM

namespace MM
open PySem PySem.Spec PyProof.Rows L2
/-! ### the law's own functions -/
def sp_lw_cell_at : MSp := fun ds M Q _ => ∃ (x : D) (ns : List Int) (k : Nat), ds = [x, .int k] ∧ RowD x (dIs ns) M ∧ Q (.int (ns.getD k 0)) M
/-- the pot: a number, how often it was asked -/
def RowAt (p : Addr) (K : Nat) (M : MH) : Prop := ∃ (a : Int) (c : Nat), M p = some (.lst [.int a, .int c]) ∧ c ≤ K ∧ a.natAbs.log2 ≤ 2000000
def sp_lw_take : MSp := fun ds M Q _ => ∃ (p : Addr) (b : Int) (K : Nat), ds = [.ref p, .int b] ∧ RowAt p K M ∧ K ≤ 1000000 ∧ 0 < b ∧ b < 2 ^ 64 ∧ ∀ v M', 0 ≤ v → v < b → RowAt p (K + 1) M' → ExtB p M M' → Q (.int v) M'
def sp_lw_low : MSp := fun ds M Q _ => ∃ t b : Int, ds = [.int t, .int b] ∧ b ≠ 0 ∧ b.natAbs.log2 < 9000 ∧ Q (fr (Rat.divInt t b)) M
/-! lw_cell_at: 0 _law_script 1 _law_k -/
def ms_lw_cell_at : MS := (mSeq (mIte (mTs (m2 (oLt) (mV 1) (mB bLen (maC (mV 0) maN)))) (mRet (m2 oIx (mV 0) (mV 1))) mNext)
  (mRet (mC (.int 0))))
def N_lw_cell_at : List Str := ["_law_script", "_law_k"]
/-! lw_take: 0 _law_row 1 _law_base 2 _law_rest 3 _law_number -/
def ms_lw_take : MS := (mSeq (mSubL (m2 oAdd (m2 oIx (mV 0) (mC (.int 1))) (mC (.int 1))) (mV 0) (mC (.int 1)))
  (mSeq (mIte (mTs (m2 (oGe) (m2 oIx (mV 0) (mC (.int 0))) (m2 oPow (mC (.int 10)) (mC (.int 18))))) (mSeq (mAsg (m2 oSub (m2 oIx (mV 0) (mC (.int 0))) (m2 oPow (mC (.int 10)) (mC (.int 18)))) (gN 2))
  (mSeq (mSubL (m2 oAdd (m2 oPow (mC (.int 10)) (mC (.int 18))) (m2 oDiv (mV 2) (mV 1))) (mV 0) (mC (.int 0)))
  (mRet (m2 oMod (mV 2) (mV 1))))) mNext)
  (mSeq (mAsg (m2 oMod (m2 oAdd (m2 oAdd (m2 oAdd (m2 oMul (m2 oIx (mV 0) (mC (.int 0))) (mC (.int 40692))) (m2 oMul (m2 oMul (mC (.int 104729)) (m2 oIx (mV 0) (mC (.int 1)))) (m2 oIx (mV 0) (mC (.int 1))))) (m2 oMul (mC (.int 31)) (m2 oIx (mV 0) (mC (.int 1))))) (mC (.int 5))) (mC (.int 2147483399))) (gN 3))
  (mSeq (mAsg (m2 oMod (m2 oAdd (m2 oAdd (m2 oMul (mV 3) (mV 3)) (m2 oMul (mC (.int 48271)) (mV 3))) (m2 oIx (mV 0) (mC (.int 1)))) (mC (.int 2147483647))) (gN 3))
  (mRet (m2 oMod (m2 oDiv (mV 3) (mC (.int 7))) (mV 1)))))))
def N_lw_take : List Str := ["_law_row", "_law_base", "_law_rest", "_law_number"]
/-! lw_low: 0 _law_top 1 _law_bottom 2 _law_one 3 _law_other -/
def ms_lw_low : MS := (mSeq (mAsg (mB bAbs (maC (mV 0) maN)) (gN 2))
  (mSeq (mAsg (mB bAbs (maC (mV 1) maN)) (gN 3))
  (mSeq (mWhile (mTs (m2 (oNe) (mV 3) (mC (.int 0)))) (mPar 2 3 (maC (mV 3) (maC (m2 oMod (mV 2) (mV 3)) maN))))
  (mSeq (mIte (mTs (m2 (oLt) (mV 1) (mC (.int 0)))) (mAsg (m1 oNeg (mV 2)) (gN 2)) mNext)
  (mRet (mTup (maC (m2 oDiv (mV 0) (mV 2)) (maC (m2 oDiv (mV 1) (mV 2)) maN))))))))
def N_lw_low : List Str := ["_law_top", "_law_bottom", "_law_one", "_law_other"]
theorem rd_lw_cell_at (ds : List D) (M : MH) (Q : MQ) (h : sp_lw_cell_at ds M Q mx0) : ms_lw_cell_at (ends Q) (startD N_lw_cell_at ds) M := by
  obtain ⟨p, ns, k, rfl, hl, q⟩ := h
  simp [ms_lw_cell_at, startD, N_lw_cell_at]
  refine hl.len ?_
  by_cases h : k < ns.length
  · simp [h]
    refine hl.ix (n := k) (d := .int (ns.getD k 0)) (by simp [h]) q
  · simp [h] at q ⊢
    exact q
theorem rd_lw_take (ds : List D) (M : MH) (Q : MQ) (h : sp_lw_take ds M Q mx0) : ms_lw_take (ends Q) (startD N_lw_take ds) M := by
  obtain ⟨p, b, K, rfl, ⟨a, c, hm, hc, ha⟩, hK, hb, hb2, q⟩ := h
  simp [ms_lw_take, startD, N_lw_take]
  refine oIxL1 (.inl hm) ?_
  simp
  refine oSetL_nat (n := 1) hm (by simp) ?_
  simp
  have e1 : ud M p (.lst [.int a, .int (c + 1)]) p = some (.lst [.int a, .int (c + 1)]) := ud_same
  generalize hM1 : ud M p (.lst [.int a, .int (c + 1)]) = M1 at e1
  have x1 : ExtB p M M1 := by rw [← hM1]; exact (ExtB.refl p M).set _
  have i0 : ∀ Q : MQ, oIx (.ref p) (.int 0) M1 Q = Q (.int a) M1 := fun Q => oIxE0 (.inl e1)
  have i1 : ∀ Q : MQ, oIx (.ref p) (.int 1) M1 Q = Q (.int (c + 1)) M1 := fun Q => oIxE1 (.inl e1)
  have pw : CPow 10 18 := ⟨by decide, by decide, by decide⟩
  have m := fmod_lt (a := (0 : Int)) hb
  have lb : b.natAbs.log2 < 9000 := by
    have : b.natAbs < 2 ^ 64 := by omega
    have := log2_ltA this (by decide)
    omega
  simp only [i0, i1, pw, true_and, rInt0_eq]
  by_cases hge : (1000000000000000000 : Int) ≤ a
  · refine .inr ⟨by simp [hge], ?_⟩
    simp only [rInt_eq]
    refine ⟨⟨by omega, lb⟩, ?_⟩
    simp only [rInt0_eq]
    refine oSetL_nat (n := 0) e1 (by simp) ?_
    simp
    have m2 := fmod_lt (a := a - 1000000000000000000) hb
    refine ⟨by omega, q _ _ m2.1 m2.2 ⟨_, c + 1, ud_same, by omega, ?_⟩ (x1.set _)⟩
    refine Nat.le_trans (log2_mono ?_) ha
    have hd : (a - 1000000000000000000).fdiv b ≤ a - 1000000000000000000 := by
      rw [Int.fdiv_eq_ediv_of_nonneg _ (by omega)]
      exact Int.ediv_le_self _ (by omega)
    have hd0 : 0 ≤ (a - 1000000000000000000).fdiv b := by
      rw [Int.fdiv_eq_ediv_of_nonneg _ (by omega)]
      exact Int.ediv_nonneg (by omega) (by omega)
    omega
  · refine .inl ⟨by simp [hge], ?_⟩
    simp only [rInt_eq, i1, rInt0_eq]
    have n1 := fmod_lt (a := a * 40692 + 104729 * (↑c + 1) * (↑c + 1) + 31 * (↑c + 1) + 5) (b := 2147483399) (by decide)
    generalize (a * 40692 + 104729 * (↑c + 1) * (↑c + 1) + 31 * (↑c + 1) + 5 : Int).fmod 2147483399 = n at n1 ⊢
    generalize ((n * n + 48271 * n + (↑c + 1) : Int).fmod 2147483647) = n2
    have m3 := fmod_lt (a := n2.fdiv 7) hb
    have sm : ∀ x : Int, x.natAbs < 2 ^ 64 → x.natAbs.log2 ≤ 40000000 := fun x hx => log2_small (Nat.lt_of_lt_of_le hx (Nat.pow_le_pow_right (by decide) (by decide)))
    refine ⟨cmu_nat (by omega) (sm _ (by decide)), cmu_nat (sm _ (by decide)) (sm _ (by omega)), cmu_nat (sm _ (by omega)) (sm _ (by omega)), cmu_nat (sm _ (by decide)) (sm _ (by omega)), by decide, cmu_nat (sm _ (by omega)) (sm _ (by omega)), cmu_nat (sm _ (by decide)) (sm _ (by omega)), by decide, ⟨by decide, by decide⟩, by omega, ?_⟩
    exact q _ _ m3.1 m3.2 ⟨a, c + 1, e1, by omega, ha⟩ x1
theorem rd_lw_low (ds : List D) (M : MH) (Q : MQ) (h : sp_lw_low ds M Q mx0) : ms_lw_low (ends Q) (startD N_lw_low ds) M := by
  obtain ⟨t, b, rfl, hb, hs, q⟩ := h
  simp only [ms_lw_low, mSeq_eq, mAsg_eq, mB_eq, maC_eq, maN_eq, mV_eq, gN_eq]
  refine ⟨_, rfl, ?_⟩
  rw [bAbs_eq]
  refine ⟨_, rfl, ?_⟩
  rw [bAbs_eq]
  refine ⟨fun m δ M' => M' = M ∧ ∃ x y : Int, 0 ≤ x ∧ 0 ≤ y ∧ m = y.toNat ∧ δ = [some (.int t), some (.int b), some (.int x), some (.int y)] ∧ Int.gcd x y = Int.gcd t b, ⟨_, rfl, t.natAbs, b.natAbs, by omega, by omega, rfl, ?_, ?_⟩, ?_⟩
  · simp [startD, N_lw_low]
    constructor <;> (split <;> omega)
  · simp [Int.gcd]
  rintro m δ M' ⟨rfl, x, y, hx, hy, rfl, rfl, e⟩
  simp only [mTs_eq, m2_eq, mV_eq, mC_eq]
  refine ⟨_, rfl, ?_⟩
  simp only [oEqF_int]
  refine ⟨_, rfl, ?_⟩
  by_cases h0 : y = 0
  · subst h0
    have ex : x = ((Int.gcd b t : Nat) : Int) := by rw [Int.gcd_comm, ← e]; simp; omega
    have ei := frac_num (t := t) hb ex
    have gp : 0 < Int.gcd b t := Int.gcd_pos_of_ne_zero_left _ hb
    have hl : x.natAbs.log2 < 9000 := by
      refine Nat.lt_of_le_of_lt (log2_mono ?_) hs
      rw [ex]
      simp only [Int.natAbs_natCast]
      exact Nat.le_of_dvd (by omega) (by simpa [Int.gcd] using Nat.gcd_dvd_left b.natAbs t.natAbs)
    have hx0 : x ≠ 0 := by omega
    by_cases hn : b < 0
    · rw [if_pos hn] at ei
      simp [hn, CDi, hx0, hl]
      rw [ei.1, ei.2]; exact q
    · rw [if_neg hn] at ei
      simp [hn, CDi, hx0, hl]
      rw [ei.1, ei.2]; exact q
  · simp [h0]
    obtain ⟨u, rfl⟩ := Int.eq_ofNat_of_zero_le hx
    obtain ⟨v, rfl⟩ := Int.eq_ofNat_of_zero_le hy
    have hv : v ≠ 0 := by omega
    have em : Int.fmod (u : Int) (v : Int) = ((u % v : Nat) : Int) := by rw [Int.fmod_eq_emod_of_nonneg _ (by omega)]; rfl
    rw [em]
    refine ⟨u % v, ?_, v, by omega, (u % v : Nat), by omega, (Int.toNat_natCast _).symm, ⟨rfl, rfl⟩, ?_⟩
    · have := Nat.mod_lt u (show 0 < v by omega)
      omega
    · rw [← e]
      show Nat.gcd v (u % v) = Nat.gcd u v
      rw [Nat.gcd_comm u v, Nat.gcd_rec v u, Nat.gcd_comm]
theorem RowAt.mono {p : Addr} {K L : Nat} {M : MH} (h : RowAt p K M) (k : K ≤ L) : RowAt p L M := let ⟨a, c, x, y, z⟩ := h; ⟨a, c, x, by omega, z⟩
theorem take_of {p : Addr} {b : Int} {K : Nat} {M : MH} {Q : MQ} {E : MX} (h : RowAt p K M) (hK : K ≤ 1000000) (h0 : 0 < b) (h1 : b < 2 ^ 64) (q : ∀ v M', 0 ≤ v → v < b → RowAt p (K + 1) M' → ExtB p M M' → Q (.int v) M') : sp_lw_take [.ref p, .int b] M Q E :=
  ⟨p, b, K, rfl, h, hK, h0, h1, q⟩
/-- a length, a bottom, where it begins -/
structure Sca where
  t : Int
  b : Int
  x : Int
  y : Int
structure Sca.Ok (c : Sca) : Prop where
  t0 : 1 ≤ c.t
  t1 : c.t ≤ 10 ^ 9
  b0 : 1 ≤ c.b
  b1 : c.b ≤ 10 ^ 9
  x0 : -(20 * 10 ^ 15) ≤ c.x
  x1 : c.x ≤ 20 * 10 ^ 15
  y0 : -(20 * 10 ^ 15) ≤ c.y
  y1 : c.y ≤ 20 * 10 ^ 15
def dSc (c : Sca) : D := .tup [.int c.t, .int c.b, .int c.x, .int c.y]
def sp_lw_scale : MSp := fun ds M Q _ => ∃ (p : Addr) (K : Nat), ds = [.ref p] ∧ RowAt p K M ∧ K ≤ 900000 ∧ ∀ c M', c.Ok → RowAt p (K + 8) M' → ExtB p M M' → Q (dSc c) M'
def spotOf (c : Sca) (u : Pt) : Spo := (Rat.divInt (u.1 * c.t + c.x) c.b, Rat.divInt (u.2 * c.t + c.y) c.b)
def wallOf (c : Sca) (h : Sh) : Wal := (spotOf c h.1, spotOf c h.2)
def okP (u : Pt) : Prop := 0 ≤ u.1 ∧ u.1 ≤ 10 ∧ 0 ≤ u.2 ∧ u.2 ≤ 10
def sp_lw_spot : MSp := fun ds M Q _ => ∃ (c : Sca) (u : Pt), ds = [dSc c, dP u] ∧ c.Ok ∧ okP u ∧ Q (dS (spotOf c u)) M
def sp_lw_made : MSp := fun ds M Q _ => ∃ (c : Sca) (q : Addr) (hs : List Sh), ds = [dSc c, .ref q] ∧ c.Ok ∧ LstAt q (hs.map dH) M ∧ hs.length ≤ 1000 ∧ (∀ h ∈ hs, okP h.1 ∧ okP h.2) ∧ ∀ M', Ext M M' → Q (.tup (dWs (hs.map (wallOf c)))) M'
/-! lw_scale: 0 _law_row 1 _law_top 2 _law_bottom 3 _law_far -/
def ms_lw_scale : MS := (mSeq (mPar 1 2 (maC (m2 oAdd (mC (.int 1)) (mCall 2 sp_lw_take (maC (mV 0) (maC (mC (.int 6)) maN)))) (maC (m2 oAdd (mC (.int 1)) (mCall 2 sp_lw_take (maC (mV 0) (maC (mC (.int 6)) maN)))) maN)))
  (mSeq (mIte (mTs (m2 (oEq) (mCall 2 sp_lw_take (maC (mV 0) (maC (mC (.int 4)) maN))) (mC (.int 0)))) (mPar 1 2 (maC (m2 oAdd (mC (.int 1)) (mCall 2 sp_lw_take (maC (mV 0) (maC (m2 oPow (mC (.int 10)) (mC (.int 9))) maN)))) (maC (m2 oAdd (mC (.int 1)) (mCall 2 sp_lw_take (maC (mV 0) (maC (m2 oPow (mC (.int 10)) (mC (.int 9))) maN)))) maN))) mNext)
  (mSeq (mAsg (m2 oIx (mLst (maC (mC (.int 1)) (maC (m2 oPow (mC (.int 10)) (mC (.int 15))) maN))) (mB bInt (maC (m2 (oEq) (mCall 2 sp_lw_take (maC (mV 0) (maC (mC (.int 6)) maN))) (mC (.int 0))) maN))) (gN 3))
  (mRet (mTup (maC (mV 1) (maC (mV 2) (maC (m2 oMul (mV 3) (m2 oSub (mCall 2 sp_lw_take (maC (mV 0) (maC (mC (.int 41)) maN))) (mC (.int 20)))) (maC (m2 oMul (mV 3) (m2 oSub (mCall 2 sp_lw_take (maC (mV 0) (maC (mC (.int 41)) maN))) (mC (.int 20)))) maN)))))))))
def N_lw_scale : List Str := ["_law_row", "_law_top", "_law_bottom", "_law_far"]
/-! lw_spot: 0 _law_scale_here 1 _law_unit 2 _law_top 3 _law_bottom 4 _law_x 5 _law_y -/
def ms_lw_spot : MS := (mSeq (mAsg (mV 0) (gT 4 (gsC (gN 2) (gsC (gN 3) (gsC (gN 4) (gsC (gN 5) gsN))))))
  (mRet (mTup (maC (mCall 2 sp_lw_low (maC (m2 oAdd (m2 oMul (m2 oIx (mV 1) (mC (.int 0))) (mV 2)) (mV 4)) (maC (mV 3) maN))) (maC (mCall 2 sp_lw_low (maC (m2 oAdd (m2 oMul (m2 oIx (mV 1) (mC (.int 1))) (mV 2)) (mV 5)) (maC (mV 3) maN))) maN)))))
def N_lw_spot : List Str := ["_law_scale_here", "_law_unit", "_law_top", "_law_bottom", "_law_x", "_law_y"]
/-! lw_made: 0 _law_scale_here 1 _law_shuts 2 _law_first 3 _law_second -/
def ms_lw_made : MS := (mRet (mB bTup (maC (mLc (iL (mV 1)) (gT 2 (gsC (gN 2) (gsC (gN 3) gsN))) mYes (mTup (maC (mCall 2 sp_lw_spot (maC (mV 0) (maC (mV 2) maN))) (maC (mCall 2 sp_lw_spot (maC (mV 0) (maC (mV 3) maN))) maN))) [2, 3]) maN)))
def N_lw_made : List Str := ["_law_scale_here", "_law_shuts", "_law_first", "_law_second"]
theorem RowAt.new {p p1 : Addr} {K : Nat} {M : MH} {o : MO} (h : RowAt p K M) (hp : M p1 = none) : RowAt p K (ud M p1 o) := let ⟨a, c, x, y, z⟩ := h; ⟨a, c, ud_keep x hp, y, z⟩
theorem ExtB.new {p p1 : Addr} {M0 M : MH} {o : MO} (e : ExtB p M0 M) (hp : M p1 = none) : ExtB p M0 (ud M p1 o) := fun b u n h => ud_keep (e b u n h) hp
theorem RowAt.keep {p r : Addr} {K : Nat} {M M' : MH} (h : RowAt p K M) (e : ExtB r M M') (n : p ≠ r) : RowAt p K M' := let ⟨a, c, x, y, z⟩ := h; ⟨a, c, e p _ n x, y, z⟩
theorem RowAt.ext {p : Addr} {K : Nat} {M M' : MH} (h : RowAt p K M) (e : Ext M M') : RowAt p K M' := let ⟨a, c, x, y, z⟩ := h; ⟨a, c, e p _ x, y, z⟩
theorem RowAt.ne {p r : Addr} {K : Nat} {M : MH} (h : RowAt p K M) (e : M r = none) : r ≠ p := fun z => by
  obtain ⟨a, c, x, _⟩ := h
  subst z; rw [e] at x; cases x
theorem small64 (x : Int) (hx : x.natAbs < 2 ^ 64) : x.natAbs.log2 ≤ 40000000 := log2_small (Nat.lt_of_lt_of_le hx (Nat.pow_le_pow_right (by decide) (by decide)))
theorem scale_tail {p p1 : Addr} {K : Nat} {t b : Int} {M0 M : MH} {Q : MQ} (t0 : 1 ≤ t) (t1 : t ≤ 10 ^ 9) (b0 : 1 ≤ b) (b1 : b ≤ 10 ^ 9) (hr : RowAt p K M) (hK : K ≤ 990000) (e : ExtB p M0 M) (hp1 : M p1 = none)
    (q : ∀ c M', c.Ok → RowAt p (K + 3) M' → ExtB p M0 M' → Q (dSc c) M') :
    sp_lw_take [.ref p, .int 6] (ud M p1 (.lst [.int 1, .int 1000000000000000])) (fun x M1 => oEq x (.int 0) M1 fun x M1 => bInt [x] M1 fun y M2 => oIx (.ref p1) y M2 fun d M1 => sp_lw_take [.ref p, .int 41] M1 (fun x M1 => oSub x (.int 20) M1 fun y M2 => oMul d y M2 fun x M1 => sp_lw_take [.ref p, .int 41] M1 (fun x_1 M1 => oSub x_1 (.int 20) M1 fun y M2 => oMul d y M2 fun x_2 M1 => Q (.tup [.int t, .int b, x, x_2]) M1) mx0) mx0) mx0 := by
  have n1 := hr.ne hp1
  refine take_of (hr.new hp1) (by omega) (by decide) (by decide) fun v1 M1 a1 c1 r1 e1 => ?_
  have hl : M1 p1 = some (.lst [.int 1, .int 1000000000000000]) := e1 p1 _ n1 ud_same
  have e' := (e.new (o := .lst [.int 1, .int 1000000000000000]) hp1).trans e1
  have fin : ∀ d : Int, 0 ≤ d → d ≤ 10 ^ 15 → sp_lw_take [.ref p, .int 41] M1 (fun x M1 => oSub x (.int 20) M1 fun y M2 => oMul (.int d) y M2 fun x M1 => sp_lw_take [.ref p, .int 41] M1 (fun x_1 M1 => oSub x_1 (.int 20) M1 fun y M2 => oMul (.int d) y M2 fun x_2 M1 => Q (.tup [.int t, .int b, x, x_2]) M1) mx0) mx0 := fun d d0 d1 => by
    have mul : ∀ v : Int, 0 ≤ v → v < 41 → -(20 * 10 ^ 15) ≤ d * (v - 20) ∧ d * (v - 20) ≤ 20 * 10 ^ 15 := fun v h0 h1 => by
      have hb : -(20 : Int) ≤ v - 20 ∧ v - 20 ≤ 20 := by omega
      constructor
      · have := Int.mul_le_mul_of_nonneg_left hb.1 d0; omega
      · have := Int.mul_le_mul_of_nonneg_left hb.2 d0; omega
    refine take_of r1 (by omega) (by decide) (by decide) fun v2 M2 a2 c2 r2 e2 => ?_
    simp only [rInt0_eq, rInt_eq]
    refine ⟨cmu_nat (small64 _ (by omega)) (small64 _ (by omega)), ?_⟩
    refine take_of r2 (by omega) (by decide) (by decide) fun v3 M3 a3 c3 r3 e3 => ?_
    simp only [rInt0_eq, rInt_eq]
    refine ⟨cmu_nat (small64 _ (by omega)) (small64 _ (by omega)), ?_⟩
    exact q ⟨t, b, d * (v2 - 20), d * (v3 - 20)⟩ M3 ⟨t0, t1, b0, b1, (mul v2 a2 c2).1, (mul v2 a2 c2).2, (mul v3 a3 c3).1, (mul v3 a3 c3).2⟩ r3 ((e'.trans e2).trans e3)
  simp only [oEqF_int, id, bInt_bl]
  by_cases h : v1 = 0
  · simp only [h, decide_true, if_true]
    rw [oIxE1 (.inl hl)]
    exact fin _ (by decide) (by decide)
  · simp only [h, decide_false, Bool.false_eq_true, if_false]
    rw [oIxE0 (.inl hl)]
    exact fin _ (by decide) (by decide)
theorem rd_lw_scale (ds : List D) (M : MH) (Q : MQ) (h : sp_lw_scale ds M Q mx0) : ms_lw_scale (ends Q) (startD N_lw_scale ds) M := by
  obtain ⟨p, K, rfl, hr, hK, q⟩ := h
  have pw : CPow 10 15 := ⟨by decide, by decide, by decide⟩
  have pw9 : CPow 10 9 := ⟨by decide, by decide, by decide⟩
  simp [ms_lw_scale, startD, N_lw_scale, pw, pw9]
  refine take_of hr (by omega) (by decide) (by decide) fun v1 M1 a1 b1 r1 e1 => ?_
  simp
  refine take_of r1 (by omega) (by decide) (by decide) fun v2 M2 a2 b2 r2 e2 => ?_
  simp
  refine take_of r2 (by omega) (by decide) (by decide) fun v3 M3 a3 b3 r3 e3 => ?_
  have e := (e1.trans e2).trans e3
  simp
  by_cases h : v3 = 0
  · refine .inr ⟨h, ?_⟩
    refine take_of r3 (by omega) (by decide) (by decide) fun v4 M4 a4 b4 r4 e4 => ?_
    simp
    refine take_of r4 (by omega) (by decide) (by decide) fun v5 M5 a5 b5 r5 e5 => ?_
    simp
    intro p1 hp1
    exact scale_tail (by omega) (by omega) (by omega) (by omega) (r5.mono (L := K + 5) (by omega)) (by omega) ((e.trans e4).trans e5) hp1 fun c M' ok r x => q c M' ok (r.mono (by omega)) x
  · refine .inl ⟨h, ?_⟩
    intro p1 hp1
    exact scale_tail (by omega) (by omega) (by omega) (by omega) r3 (by omega) e hp1 fun c M' ok r x => q c M' ok (r.mono (by omega)) x
theorem bits64 {x : Int} (h : x.natAbs < 2 ^ 64) : x.natAbs.log2 < 9000 := by have := log2_ltA h (by decide); omega
theorem mul_le10 {u t : Int} (h0 : 0 ≤ u) (h1 : u ≤ 10) (t0 : 1 ≤ t) (t1 : t ≤ 10 ^ 9) : 0 ≤ u * t ∧ u * t ≤ 10 ^ 10 := by
  constructor
  · exact Int.mul_nonneg h0 (by omega)
  · have := Int.mul_le_mul h1 t1 (by omega) (by decide : (0 : Int) ≤ 10); omega
@[simp high] theorem gT_dSc {g g' g'' g3 : MG} {c : Sca} {δ : Fr} {M : MH} {Q : Fr → MH → Prop} : gT 4 (gsC g (gsC g' (gsC g'' (gsC g3 gsN)))) (dSc c) δ M Q = g (.int c.t) δ M fun δ1 M1 => g' (.int c.b) δ1 M1 fun δ2 M2 => g'' (.int c.x) δ2 M2 fun δ3 M3 => g3 (.int c.y) δ3 M3 Q := gT4
@[simp high] theorem gT_dH {g g' : MG} {w : Sh} {δ : Fr} {M : MH} {Q : Fr → MH → Prop} : gT 2 (gsC g (gsC g' gsN)) (dH w) δ M Q = g (dP w.1) δ M fun δ1 M1 => g' (dP w.2) δ1 M1 Q := gT2
theorem rd_lw_spot (ds : List D) (M : MH) (Q : MQ) (h : sp_lw_spot ds M Q mx0) : ms_lw_spot (ends Q) (startD N_lw_spot ds) M := by
  obtain ⟨c, u, rfl, ok, ⟨u0, u1, u2, u3⟩, q⟩ := h
  have m1 := mul_le10 u0 u1 ok.t0 ok.t1
  have m2 := mul_le10 u2 u3 ok.t0 ok.t1
  have := ok.t0; have := ok.t1; have := ok.b0; have := ok.b1; have := ok.x0; have := ok.x1; have := ok.y0; have := ok.y1
  simp [ms_lw_spot, startD, N_lw_spot]
  refine ⟨cmu_nat (small64 _ (by omega)) (small64 _ (by omega)), ?_⟩
  refine ⟨_, _, rfl, by omega, bits64 (by omega), ?_⟩
  simp
  refine ⟨cmu_nat (small64 _ (by omega)) (small64 _ (by omega)), ?_⟩
  exact ⟨_, _, rfl, by omega, bits64 (by omega), q⟩
theorem rd_lw_made (ds : List D) (M : MH) (Q : MQ) (h : sp_lw_made ds M Q mx0) : ms_lw_made (ends Q) (startD N_lw_made ds) M := by
  obtain ⟨c, r, hs, rfl, ok, hl, hn, hp, q⟩ := h
  simp only [ms_lw_made, mRet_eq, mB_eq, maC_eq]
  refine lc_all (f := dH) (l := hs) (Kp := LstAt r (hs.map dH)) (fun h => dW (wallOf c h)) (fun R h => mi_L rfl hl h) (fun L o hL => hl.ud hL) ?_ ?_
  · intro L acc h hh hL R1 h1
    obtain ⟨o1, o2⟩ := hp h hh
    simp [startD, N_lw_made, wipeM]
    exact ⟨c, h.1, rfl, ok, o1, c, h.2, rfl, ok, o2, h1⟩
  · intro L hL
    simp only [maN_eq]
    refine ⟨_, .inl ud_same, ?_⟩
    have := q _ (.new (.lst (hs.map fun h => dW (wallOf c h))) hL)
    rw [dWs, List.map_map] at this
    exact this
def okS (u : Pt) : Prop := 0 ≤ u.1 ∧ u.1 ≤ 6 ∧ 0 ≤ u.2 ∧ u.2 ≤ 4
def okH (h : Sh) : Prop := okS h.1 ∧ okS h.2 ∧ ltP h.1 h.2 = true
def Shuts (hs : List Sh) : Prop := (∀ h ∈ hs, okH h) ∧ ∃ base : List Sh, base.length ≤ 5 ∧ (hs = base ∨ ∃ d ∈ base, hs = base ++ [d])
def sp_lw_any : MSp := fun ds M Q _ => ∃ (p : Addr) (K : Nat), ds = [.ref p, .int 5, .int 5] ∧ RowAt p K M ∧ K ≤ 900000 ∧ ∀ hs r M', M r = none → M' r = some (.lst (hs.map dH)) → Shuts hs → RowAt p (K + 100) M' → ExtB p M M' → Q (.ref r) M'
/-! lw_any: 0 _law_row 1 _law_most 2 _law_size 3 _law_shuts 4 _law_turn 5 _law_one 6 _law_other -/
def ms_lw_any : MS := (mSeq (mAsg (mLst maN) (gN 3))
  (mSeq (mFor (iR1 (maC (mCall 2 sp_lw_take (maC (mV 0) (maC (m2 oAdd (mV 1) (mC (.int 1))) maN))) maN)) (gN 4) (mSeq (mAsg (mTup (maC (mCall 2 sp_lw_take (maC (mV 0) (maC (mV 2) maN))) (maC (mCall 2 sp_lw_take (maC (mV 0) (maC (mV 2) maN))) maN))) (gN 5))
  (mSeq (mAsg (mTup (maC (mCall 2 sp_lw_take (maC (mV 0) (maC (mV 2) maN))) (maC (mCall 2 sp_lw_take (maC (mV 0) (maC (mV 2) maN))) maN))) (gN 6))
  (mSeq (mIte (mAnd (mTs (m2 (oNe) (mV 3) (mLst maN))) (mTs (m2 (oEq) (mCall 2 sp_lw_take (maC (mV 0) (maC (mC (.int 4)) maN))) (mC (.int 0))))) (mAsg (m2 oIx (m2 oIx (mV 3) (mCall 2 sp_lw_take (maC (mV 0) (maC (mB bLen (maC (mV 3) maN)) maN)))) (mCall 2 sp_lw_take (maC (mV 0) (maC (mC (.int 2)) maN)))) (gN 5)) mNext)
  (mSeq (mIte (mTs (m2 (oEq) (mV 5) (mV 6))) (mAsg (mTup (maC (m2 oAdd (m2 oAdd (m2 oIx (mV 5) (mC (.int 0))) (mC (.int 1))) (mCall 2 sp_lw_take (maC (mV 0) (maC (mC (.int 2)) maN)))) (maC (m2 oIx (mV 5) (mC (.int 1))) maN))) (gN 6)) mNext)
  (mDrop (mML lApp (mV 3) (maC (mTup (maC (mB bMinD (maC (mV 5) (maC (mV 6) maN))) (maC (mB bMaxD (maC (mV 5) (maC (mV 6) maN))) maN))) maN))))))))
  (mSeq (mIte (mAnd (mTs (m2 (oNe) (mV 3) (mLst maN))) (mTs (m2 (oEq) (mCall 2 sp_lw_take (maC (mV 0) (maC (mC (.int 6)) maN))) (mC (.int 0))))) (mDrop (mML lApp (mV 3) (maC (m2 oIx (mV 3) (mCall 2 sp_lw_take (maC (mV 0) (maC (mB bLen (maC (mV 3) maN)) maN)))) maN))) mNext)
  (mRet (mV 3)))))
def N_lw_any : List Str := ["_law_row", "_law_most", "_law_size", "_law_shuts", "_law_turn", "_law_one", "_law_other"]
theorem ltP_tri {p q : Pt} (h : p ≠ q) (h2 : ltP p q = false) : ltP q p = true := by
  unfold ltP at h2 ⊢
  by_cases e : p.1 = q.1
  · rw [if_pos e] at h2
    rw [if_pos e.symm]
    have : p.2 ≠ q.2 := fun z => h (Prod.ext e z)
    simp at h2 ⊢; omega
  · rw [if_neg e] at h2
    rw [if_neg (fun z => e z.symm)]
    simp at h2 ⊢; omega
theorem rd_lw_any (ds : List D) (M : MH) (Q : MQ) (h : sp_lw_any ds M Q mx0) : ms_lw_any (ends Q) (startD N_lw_any ds) M := by
  obtain ⟨p, K, rfl, hr, hK, q⟩ := h
  simp only [ms_lw_any, mSeq_eq, mAsg_eq, mLst_eq, maN_eq, gN_eq]
  refine ⟨sz0, fun r hrn => ?_⟩
  have npr : r ≠ p := hr.ne hrn
  show iR1 _ _ _ _
  simp only [iR1, maC_eq, maN_eq, mCall_eq, mV_eq, m2_eq, mC_eq]
  refine ⟨_, rfl, _, rfl, ?_⟩
  simp only [rInt0_eq]
  refine ⟨rfl, take_of (hr.new hrn) (by omega) (by decide) (by decide) fun v M1 v0 v1 r1 e1 => ?_⟩
  refine ⟨v, rfl, by omega, by omega, ?_⟩
  have hl1 : M1 r = some (.lst (([] : List Sh).map dH)) := e1 r _ npr ud_same
  refine ⟨fun i δ' M' => ∃ a b c, ∃ hs : List Sh, δ' = [some (.ref p), some (.int 5), some (.int 5), some (.ref r), a, b, c] ∧ M' r = some (.lst (hs.map dH)) ∧ hs.length = i ∧ (∀ h ∈ hs, okH h) ∧ RowAt p (K + 1 + 12 * i) M' ∧ ExtB p M M',
    ⟨none, none, none, [], rfl, hl1, rfl, fun h hh => by simp at hh, r1, ((ExtB.refl p M).new hrn).trans e1⟩, fun _ _ _ _ _ => trivial, ?_, ?_⟩
  · rintro i d δ' M' hd ⟨a, b, c, hs, rfl, hl, hn, ok, hrow, he⟩
    have hi : i < 5 := by
      have := (List.getElem?_eq_some_iff.mp hd).1
      simp [rngD] at this; omega
    simp only [gN_eq, mSeq_eq, mAsg_eq, mTup_eq, maC_eq, maN_eq, mCall_eq, mV_eq]
    refine ⟨_, rfl, _, rfl, rfl, take_of hrow (by omega) (by decide) (by decide) fun x1 M2 a2 b2 r2 e2 => ?_⟩
    refine ⟨_, rfl, _, rfl, rfl, take_of r2 (by omega) (by decide) (by decide) fun x2 M3 a3 b3 r3 e3 => ?_⟩
    refine ⟨sz2, _, rfl, _, rfl, rfl, take_of r3 (by omega) (by decide) (by decide) fun x3 M4 a4 b4 r4 e4 => ?_⟩
    refine ⟨_, rfl, _, rfl, rfl, take_of r4 (by omega) (by decide) (by decide) fun x4 M5 a5 b5 r5 e5 => ?_⟩
    refine ⟨sz2, ?_⟩
    have e' := (((e2.trans e3).trans e4).trans e5)
    have hl5 := e' r _ npr hl
    have he5 := he.trans e'
    refine cut (fun δ' M' => ∃ o : Pt, okS o ∧ (o = (x3, x4) → o.1 ≤ 4) ∧ δ' = [some (.ref p), some (.int 5), some (.int 5), some (.ref r), some d, some (dP o), some (dP (x3, x4))] ∧ M' r = some (.lst (hs.map dH)) ∧ RowAt p (K + 1 + 12 * i + 8) M' ∧ ExtB p M M') ?_ ?_
    · rintro δ' M' ⟨o, oo, o4, rfl, hl, hrow, he⟩
      dsimp only
      rw [mSeq_eq]
      refine cut (fun δ' M' => ∃ t : Pt, okS t ∧ o ≠ t ∧ δ' = [some (.ref p), some (.int 5), some (.int 5), some (.ref r), some d, some (dP o), some (dP t)] ∧ M' r = some (.lst (hs.map dH)) ∧ RowAt p (K + 1 + 12 * i + 10) M' ∧ ExtB p M M') ?_ ?_
      · rintro δ' M' ⟨t, tt, ot, rfl, hl, hrow, he⟩
        simp
        refine ⟨isLst_of hl, lApp_of hl (by simp; omega) ?_⟩
        have ne : p ≠ r := fun z => npr z.symm
        have key : ∀ h : Sh, okH h → ud M' r (.lst (hs.map dH ++ [dH h])) r = some (.lst ((hs ++ [h]).map dH)) ∧ (hs ++ [h]).length = i + 1 ∧ (∀ x ∈ hs ++ [h], okH x) ∧ RowAt p (K + 1 + 12 * (i + 1)) (ud M' r (.lst (hs.map dH ++ [dH h]))) ∧ ExtB p M (ud M' r (.lst (hs.map dH ++ [dH h]))) := fun h hh => by
          refine ⟨by rw [ud_same]; simp, by simp [hn], ?_, ?_, ?_⟩
          · intro x hx
            rcases List.mem_append.mp hx with hx | hx
            · exact ok x hx
            · rw [List.mem_singleton.mp hx]; exact hh
          · obtain ⟨u, w, z1, z2, z3⟩ := hrow
            exact ⟨u, w, by rw [ud_ne ne]; exact z1, by omega, z3⟩
          · intro b o n h
            have nb : b ≠ r := fun z => by subst z; rw [hrn] at h; cases h
            rw [ud_ne nb]; exact he b o n h
        have lt2 : ltD (dP t) (dP o) = ltP t o := ltD_dP _ _
        have lt3 : ltD (dP o) (dP t) = ltP o t := ltD_dP _ _
        rw [lt2, lt3]
        cases hc : ltP t o with
        | true =>
          have hc2 : ltP o t = false := by
            cases z : ltP o t with
            | false => rfl
            | true => exfalso; revert hc z; unfold ltP; intro hc z; split at hc <;> split at z <;> simp at hc z <;> omega
          simp only [hc2, if_true, Bool.false_eq_true, if_false]
          have k := key (t, o) ⟨tt, oo, hc⟩
          exact ⟨hs ++ [(t, o)], k.1, k.2.1, fun _ _ _ _ h => k.2.2.1 _ h, k.2.2.2⟩
        | false =>
          have hc2 : ltP o t = true := ltP_tri (fun z => ot z.symm) hc
          simp only [hc2, if_true, Bool.false_eq_true, if_false]
          have k := key (o, t) ⟨oo, tt, hc2⟩
          exact ⟨hs ++ [(o, t)], k.1, k.2.1, fun _ _ _ _ h => k.2.2.1 _ h, k.2.2.2⟩
      · intro nx hnx
        simp
        by_cases hot : o = (x3, x4)
        · refine .inr ⟨hot, take_of hrow (by omega) (by decide) (by decide) fun y1 M6 a6 b6 r6 e6 => ?_⟩
          simp
          have o4' := o4 hot
          refine hnx _ _ ⟨(o.1 + 1 + y1, o.2), ⟨by have := oo.1; simp only; omega, by have := oo.2.1; simp only; omega, oo.2.2⟩, fun z => ?_, rfl, e6 r _ npr hl, r6.mono (by omega), he.trans e6⟩
          have := congrArg Prod.fst z
          simp only at this; omega
        · refine .inl ⟨hot, ?_⟩
          exact hnx _ _ ⟨(x3, x4), ⟨by simp only; omega, by simp only; omega, by simp only; omega, by simp only; omega⟩, hot, rfl, hl, hrow.mono (by omega), he⟩
    · intro nx hnx
      have hx : okS (x1, x2) := ⟨by simp only; omega, by simp only; omega, by simp only; omega, by simp only; omega⟩
      have stay : ∀ M6, M6 r = some (.lst (hs.map dH)) → RowAt p (K + 1 + 12 * i + 8) M6 → ExtB p M M6 → nx [some (.ref p), some (.int 5), some (.int 5), some (.ref r), some d, some (.tup [.int x1, .int x2]), some (.tup [.int x3, .int x4])] M6 := fun M6 h1 h2 h3 => hnx _ _ ⟨(x1, x2), hx, fun _ => by simp only; omega, rfl, h1, h2, h3⟩
      simp
      refine eq_nil (fun _ => fit_dH) (n := 2) (fun _ => by simp) (by decide) (fun _ _ => eqD_dH) (.inl hl5) fun u hu => ?_
      have hl6 : (ud M5 u (.lst [])) r = some (.lst (hs.map dH)) := ud_keep hl5 hu
      have r6 : RowAt p (K + 1 + 12 * i + 1 + 1 + 1 + 1) (ud M5 u (.lst [])) := r5.new hu
      have he6 : ExtB p M (ud M5 u (.lst [])) := he5.new hu
      generalize ud M5 u (.lst []) = M6 at hl6 r6 he6 ⊢
      by_cases hnil : hs = []
      · refine .inl ⟨by simp [hnil], stay _ hl6 (r6.mono (by omega)) he6⟩
      · refine .inr ⟨by simp [hnil], take_of r6 (by omega) (by decide) (by decide) fun y1 M7 a7 b7 r7 e7 => ?_⟩
        have hl7 := e7 r _ npr hl6
        simp
        by_cases hy : y1 = 0
        · refine .inr ⟨hy, ?_⟩
          rw [bLenE (.inl hl7)]
          have pos : 0 < hs.length := by cases hs with | nil => exact absurd rfl hnil | cons _ _ => simp
          refine take_of r7 (by omega) (by simp; omega) (by simp; omega) fun y2 M8 a8 b8 r8 e8 => ?_
          have hl8 := e8 r _ npr hl7
          obtain ⟨k, rfl⟩ : ∃ k : Nat, y2 = (k : Int) := ⟨y2.toNat, by omega⟩
          have hk : k < hs.length := by simpa using b8
          rw [oIxE (.inl hl8) (n := k) (d := dH hs[k]) (by simp [hk])]
          refine take_of r8 (by omega) (by decide) (by decide) fun y3 M9 a9 b9 r9 e9 => ?_
          have okk := ok hs[k] (List.getElem_mem hk)
          have he9 := ((he6.trans e7).trans e8).trans e9
          have hl9 := e9 r _ npr hl8
          have hd : y3 = 0 ∨ y3 = 1 := by omega
          rcases hd with rfl | rfl
          · rw [ixH0]
            exact hnx _ _ ⟨hs[k].1, okk.1, fun z => by rw [z]; simp only; omega, rfl, hl9, r9.mono (by omega), he9⟩
          · rw [ixH1]
            exact hnx _ _ ⟨hs[k].2, okk.2.1, fun z => by rw [z]; simp only; omega, rfl, hl9, r9.mono (by omega), he9⟩
        · exact .inl ⟨hy, stay _ hl7 (r7.mono (by omega)) (he6.trans e7)⟩
  · rintro δ' M' ⟨a, b, c, hs, rfl, hl, hn, ok, hrow, he⟩
    have hi : hs.length ≤ 5 := by simp [rngD] at hn; omega
    have hn' : (rngD 0 v.toNat).length ≤ 5 := by simp [rngD]; omega
    have done : ∀ M6, M6 r = some (.lst (hs.map dH)) → RowAt p (K + 100) M6 → ExtB p M M6 → Q (.ref r) M6 := fun M6 h1 h2 h3 => q hs r M6 hrn h1 ⟨ok, hs, hi, .inl rfl⟩ h2 h3
    simp
    refine eq_nil (fun _ => fit_dH) (n := 2) (fun _ => by simp) (by decide) (fun _ _ => eqD_dH) (.inl hl) fun u hu => ?_
    have hl6 : (ud M' u (.lst [])) r = some (.lst (hs.map dH)) := ud_keep hl hu
    have r6 : RowAt p (K + 1 + 12 * 5) (ud M' u (.lst [])) := (hrow.new hu).mono (by omega)
    have he6 : ExtB p M (ud M' u (.lst [])) := he.new hu
    generalize ud M' u (.lst []) = M6 at hl6 r6 he6 ⊢
    by_cases hnil : hs = []
    · refine .inl ⟨by simp [hnil], done _ hl6 (r6.mono (by omega)) he6⟩
    · refine .inr ⟨by simp [hnil], take_of r6 (by omega) (by decide) (by decide) fun y1 M7 a7 b7 r7 e7 => ?_⟩
      have hl7 := e7 r _ npr hl6
      simp
      by_cases hy : y1 = 0
      · refine .inr ⟨hy, isLst_of hl7, ?_⟩
        rw [bLenE (.inl hl7)]
        have pos : 0 < hs.length := by cases hs with | nil => exact absurd rfl hnil | cons _ _ => simp
        refine take_of r7 (by omega) (by simp; omega) (by simp; omega) fun y2 M8 a8 b8 r8 e8 => ?_
        have hl8 := e8 r _ npr hl7
        obtain ⟨k, rfl⟩ : ∃ k : Nat, y2 = (k : Int) := ⟨y2.toNat, by omega⟩
        have hk : k < hs.length := by simpa using b8
        rw [oIxE (.inl hl8) (n := k) (d := dH hs[k]) (by simp [hk])]
        refine lApp_of hl8 (by simp; omega) ?_
        have he8 := (he6.trans e7).trans e8
        have ne : p ≠ r := fun z => npr z.symm
        refine q (hs ++ [hs[k]]) r _ hrn (by rw [ud_same]; simp) ⟨fun x hx => ?_, hs, hi, .inr ⟨hs[k], List.getElem_mem hk, rfl⟩⟩ ?_ ?_
        · rcases List.mem_append.mp hx with hx | hx
          · exact ok x hx
          · rw [List.mem_singleton.mp hx]; exact ok _ (List.getElem_mem hk)
        · obtain ⟨u, w, z1, z2, z3⟩ := r8
          exact ⟨u, w, by rw [ud_ne ne]; exact z1, by omega, z3⟩
        · intro b o n h
          have nb : b ≠ r := fun z => by subst z; rw [hrn] at h; cases h
          rw [ud_ne nb]; exact he8 b o n h
      · exact .inl ⟨hy, done _ hl7 (r7.mono (by omega)) (he6.trans e7)⟩
def okT (t : Int × Int × Int) : Prop := 1 ≤ t.2.2 ∧ t.2.2 ≤ 4 ∧ t.1.natAbs ≤ 1000 ∧ t.2.1.natAbs ≤ 1000
def dT (t : Int × Int × Int) : D := .tup [.int t.1, .int t.2.1, .int t.2.2]
@[simp high] theorem gT_dT {g g' g'' : MG} {t : Int × Int × Int} {δ : Fr} {M : MH} {Q : Fr → MH → Prop} : gT 3 (gsC g (gsC g' (gsC g'' gsN))) (dT t) δ M Q = g (.int t.1) δ M fun δ1 M1 => g' (.int t.2.1) δ1 M1 fun δ2 M2 => g'' (.int t.2.2) δ2 M2 Q := gT3
def sp_lw_spots : MSp := fun ds M Q _ => ∃ (p q : Addr) (K : Nat) (c : Sca) (hs : List Sh), ds = [.ref p, dSc c, .ref q] ∧ RowAt p K M ∧ K ≤ 900000 ∧ c.Ok ∧ M q = some (.lst (hs.map dH)) ∧ hs.length ≤ 100 ∧ (∀ h ∈ hs, okH h) ∧ ∀ r ss M', M r = none → M' r = some (.lst (dSs ss)) → SB 200 ss → RowAt p (K + 1000) M' → ExtB p M M' → Q (.ref r) M'
/-! lw_spots: 0 _law_row 1 _law_scale_here 2 _law_shuts 3 _law_told 4 _law_turn 5 _law_first 6 _law_second 7 _law_below 8 _law_part 9 _law_x 10 _law_y 11 _law_top 12 _law_bottom 13 _law_far 14 _law_up 15 _law_n -/
def ms_lw_spots : MS := (mSeq (mAsg (mLc (iR1 (maC (mC (.int 4)) maN)) (gN 4) mYes (mTup (maC (mCall 2 sp_lw_take (maC (mV 0) (maC (mC (.int 7)) maN))) (maC (mCall 2 sp_lw_take (maC (mV 0) (maC (mC (.int 7)) maN))) (maC (mC (.int 1)) maN)))) [4]) (gN 3))
  (mSeq (mFor (iL (mV 2)) (gT 2 (gsC (gN 5) (gsC (gN 6) gsN))) (mSeq (mAsg (m2 oAdd (mC (.int 1)) (mCall 2 sp_lw_take (maC (mV 0) (maC (mC (.int 4)) maN)))) (gN 7))
  (mSeq (mAsg (mCall 2 sp_lw_take (maC (mV 0) (maC (m2 oAdd (mV 7) (mC (.int 2))) maN))) (gN 8))
  (mSeq (mAsg (m2 oAdd (m2 oMul (m2 oIx (mV 5) (mC (.int 0))) (m2 oSub (mV 7) (mV 8))) (m2 oMul (m2 oIx (mV 6) (mC (.int 0))) (mV 8))) (gN 9))
  (mSeq (mAsg (m2 oAdd (m2 oMul (m2 oIx (mV 5) (mC (.int 1))) (m2 oSub (mV 7) (mV 8))) (m2 oMul (m2 oIx (mV 6) (mC (.int 1))) (mV 8))) (gN 10))
  (mDrop (mML lApp (mV 3) (maC (mTup (maC (mV 9) (maC (m2 oAdd (mV 10) (mB bInt (maC (m2 (oEq) (mCall 2 sp_lw_take (maC (mV 0) (maC (mC (.int 5)) maN))) (mC (.int 0))) maN))) (maC (mV 7) maN)))) maN))))))))
  (mSeq (mAsg (mV 1) (gT 4 (gsC (gN 11) (gsC (gN 12) (gsC (gN 13) (gsC (gN 14) gsN))))))
  (mRet (mLc (iL (mV 3)) (gT 3 (gsC (gN 9) (gsC (gN 10) (gsC (gN 15) gsN)))) mYes (mTup (maC (mCall 2 sp_lw_low (maC (m2 oAdd (m2 oMul (mV 9) (mV 11)) (m2 oMul (mV 13) (mV 15))) (maC (m2 oMul (mV 12) (mV 15)) maN))) (maC (mCall 2 sp_lw_low (maC (m2 oAdd (m2 oMul (mV 10) (mV 11)) (m2 oMul (mV 14) (mV 15))) (maC (m2 oMul (mV 12) (mV 15)) maN))) maN))) [9, 10, 15])))))
def N_lw_spots : List Str := ["_law_row", "_law_scale_here", "_law_shuts", "_law_told", "_law_turn", "_law_first", "_law_second", "_law_below", "_law_part", "_law_x", "_law_y", "_law_top", "_law_bottom", "_law_far", "_law_up", "_law_n"]
theorem nb_given {t b : Int} {k : Nat} (hb : b ≠ 0) (h1 : t.natAbs < 2 ^ k) (h2 : b.natAbs < 2 ^ k) : nb (Rat.divInt t b) ≤ k := divInt_bits hb h1 h2
theorem RowAt.lst {p r : Addr} {K : Nat} {M : MH} {o : MO} (h : RowAt p K M) (n : r ≠ p) : RowAt p K (ud M r o) := let ⟨a, c, x, y, z⟩ := h; ⟨a, c, by rw [ud_ne n.symm]; exact x, y, z⟩
theorem ExtB.lst {p r : Addr} {M0 M : MH} {o : MO} (e : ExtB p M0 M) (hr : M0 r = none) : ExtB p M0 (ud M r o) := fun b u n h => by
  have nb : b ≠ r := fun z => by subst z; rw [hr] at h; cases h
  rw [ud_ne nb]; exact e b u n h
theorem prod_le {a b : Int} {A B : Nat} (ha : a.natAbs ≤ A) (hb : b.natAbs ≤ B) : (a * b).natAbs ≤ A * B := by
  rw [Int.natAbs_mul]; exact Nat.mul_le_mul ha hb
def spotT (c : Sca) (t : Int × Int × Int) : Spo := (Rat.divInt (t.1 * c.t + c.x * t.2.2) (c.b * t.2.2), Rat.divInt (t.2.1 * c.t + c.y * t.2.2) (c.b * t.2.2))
theorem rd_lw_spots (ds : List D) (M : MH) (Q : MQ) (h : sp_lw_spots ds M Q mx0) : ms_lw_spots (ends Q) (startD N_lw_spots ds) M := by
  obtain ⟨p, q0, K, c, hs, rfl, hr, hK, ok, hq, hn, hh, q⟩ := h
  have hqp : q0 ≠ p := fun z => by
    obtain ⟨a, b, x, _⟩ := hr
    subst z; rw [hq] at x
    have := congrArg (fun o => match o with | some (MO.lst l) => l | _ => []) x
    simp only at this
    cases hs with
    | nil => simp at this
    | cons h t => simp [dH] at this
  simp only [ms_lw_spots, mSeq_eq, mAsg_eq, gN_eq]
  show iR1 _ _ _ _
  simp only [iR1, maC_eq, maN_eq, mC_eq]
  refine ⟨4, rfl, by omega, by omega, fun L hL => ?_⟩
  have npL : L ≠ p := hr.ne hL
  refine ⟨fun i acc M' => ∃ ts : List (Int × Int × Int), acc = ts.map dT ∧ ts.length = i ∧ (∀ t ∈ ts, okT t) ∧ M' L = some (.lst (ts.map dT)) ∧ RowAt p (K + 2 * i) M' ∧ ExtB p M M',
    ⟨[], rfl, rfl, fun t ht => by simp at ht, ud_same, hr.new hL, (ExtB.refl p M).new hL⟩, fun _ _ _ _ _ => trivial, ?_, ?_⟩
  · rintro i d acc M' hd _ ⟨ts, rfl, hlen, hok, hl, hrow, he⟩
    have hi : i < 4 := by
      have := (List.getElem?_eq_some_iff.mp hd).1
      simpa [rngD] using this
    simp [mYes, startD, N_lw_spots, wipeM, -Prod.exists, -Prod.forall]
    refine take_of hrow (by omega) (by decide) (by decide) fun v1 M1 a1 b1 r1 e1 => ?_
    refine take_of r1 (by omega) (by decide) (by decide) fun v2 M2 a2 b2 r2 e2 => ?_
    have hl2 := e2 L _ npL (e1 L _ npL hl)
    have he2 := (he.trans e1).trans e2
    refine ⟨hl2, ts ++ [(v1, v2, 1)], by simp [dT], by simp [hlen], fun t ht => ?_, by simp [dT], (r2.lst npL).mono (by omega), he2.lst hL⟩
    rcases List.mem_append.mp ht with ht | ht
    · exact hok t ht
    · rw [List.mem_singleton.mp ht]; exact ⟨by simp, by simp, by simp only; omega, by simp only; omega⟩
  rintro acc M1 _ ⟨ts, rfl, hlen, hok, hl, hrow, he⟩
  have hlen4 : ts.length = 4 := by simpa [rngD] using hlen
  have hlen5 : (rngD 0 (Int.toNat 4)).length = 4 := by simp [rngD]
  simp [startD, N_lw_spots, -Prod.exists, -Prod.forall]
  refine for_st (ds := hs.map dH) (Kp := LstAt q0 (hs.map dH)) (fun i δ' M' => ∃ a4 a5 a6 a7 a8 a9 a10 a11 a12 a13 a14 a15, ∃ ts : List (Int × Int × Int), δ' = [some (.ref p), some (dSc c), some (.ref q0), some (.ref L), a4, a5, a6, a7, a8, a9, a10, a11, a12, a13, a14, a15] ∧ ts.length ≤ 4 + i ∧ (∀ t ∈ ts, okT t) ∧ M' L = some (.lst (ts.map dT)) ∧ RowAt p (K + 8 + 3 * i) M' ∧ ExtB p M M')
    (fun R h => mi_L rfl (.inl (he q0 _ hqp hq)) h) ⟨_, _, _, _, _, _, _, _, _, _, _, _, ts, rfl, by omega, hok, hl, hrow.mono (by omega), he⟩ ?_ ?_ ?_
  · rintro i δ' M' _ ⟨a4, a5, a6, a7, a8, a9, a10, a11, a12, a13, a14, a15, ts, rfl, _, _, _, _, he⟩
    exact .inl (he q0 _ hqp hq)
  · rintro i d δ' M' hd ⟨a4, a5, a6, a7, a8, a9, a10, a11, a12, a13, a14, a15, ts, rfl, hlen, hok, hl, hrow, he⟩
    obtain ⟨h, hg, rfl⟩ := map_get hd
    have hi : i < hs.length := (List.getElem?_eq_some_iff.mp hg).1
    obtain ⟨⟨f0, f1, f2, f3⟩, ⟨s0, s1, s2, s3⟩, _⟩ := hh h (List.mem_of_getElem? hg)
    simp [-Prod.exists, -Prod.forall]
    refine take_of hrow (by omega) (by decide) (by decide) fun v1 M1 a1 b1 r1 e1 => ?_
    simp [-Prod.exists, -Prod.forall]
    refine take_of r1 (by omega) (by omega) (by omega) fun v2 M2 a2 b2 r2 e2 => ?_
    have p1 := prod_le (a := h.1.1) (b := 1 + v1 - v2) (A := 6) (B := 6) (by omega) (by omega)
    have p2 := prod_le (a := h.2.1) (b := v2) (A := 6) (B := 6) (by omega) (by omega)
    have p3 := prod_le (a := h.1.2) (b := 1 + v1 - v2) (A := 6) (B := 6) (by omega) (by omega)
    have p4 := prod_le (a := h.2.2) (b := v2) (A := 6) (B := 6) (by omega) (by omega)
    simp [-Prod.exists, -Prod.forall]
    refine ⟨cmu_nat (small64 _ (by omega)) (small64 _ (by omega)), cmu_nat (small64 _ (by omega)) (small64 _ (by omega)), cmu_nat (small64 _ (by omega)) (small64 _ (by omega)), cmu_nat (small64 _ (by omega)) (small64 _ (by omega)), ?_⟩
    have hl2 := e2 L _ npL (e1 L _ npL hl)
    have he2 := (he.trans e1).trans e2
    refine ⟨isLst_of hl2, take_of r2 (by omega) (by decide) (by decide) fun v3 M3 a3 b3 r3 e3 => ?_⟩
    have hl3 := e3 L _ npL hl2
    simp [-Prod.exists, -Prod.forall]
    refine lApp_of hl3 (by simp; omega) ?_
    have fin : ∀ (z : Int) (o : D), o = .tup [.int (h.1.1 * (1 + v1 - v2) + h.2.1 * v2), .int (h.1.2 * (1 + v1 - v2) + h.2.2 * v2 + z), .int (1 + v1)] → 0 ≤ z → z ≤ 1 → ∃ ts' : List (Int × Int × Int), ts'.length ≤ 4 + (i + 1) ∧ (∀ t ∈ ts', okT t) ∧ (ud M3 L (.lst (ts.map dT ++ [o]))) L = some (.lst (ts'.map dT)) ∧ RowAt p (K + 8 + 3 * (i + 1)) (ud M3 L (.lst (ts.map dT ++ [o]))) ∧ ExtB p M (ud M3 L (.lst (ts.map dT ++ [o]))) := by
      intro z o ho z0 z1
      subst ho
      have okn : okT (h.1.1 * (1 + v1 - v2) + h.2.1 * v2, h.1.2 * (1 + v1 - v2) + h.2.2 * v2 + z, 1 + v1) := by
        refine ⟨by simp only; omega, by simp only; omega, ?_, ?_⟩
        · show (h.1.1 * (1 + v1 - v2) + h.2.1 * v2).natAbs ≤ 1000
          generalize h.1.1 * (1 + v1 - v2) = u1 at p1 ⊢
          generalize h.2.1 * v2 = u2 at p2 ⊢
          omega
        · show (h.1.2 * (1 + v1 - v2) + h.2.2 * v2 + z).natAbs ≤ 1000
          generalize h.1.2 * (1 + v1 - v2) = u1 at p3 ⊢
          generalize h.2.2 * v2 = u2 at p4 ⊢
          omega
      generalize hT : ((h.1.1 * (1 + v1 - v2) + h.2.1 * v2, h.1.2 * (1 + v1 - v2) + h.2.2 * v2 + z, 1 + v1) : Int × Int × Int) = T at okn
      have eT : D.tup [.int (h.1.1 * (1 + v1 - v2) + h.2.1 * v2), .int (h.1.2 * (1 + v1 - v2) + h.2.2 * v2 + z), .int (1 + v1)] = dT T := by rw [← hT]; rfl
      rw [eT]
      refine ⟨ts ++ [T], by simp; omega, fun t ht => ?_, by rw [ud_same]; simp, (r3.lst npL).mono (by omega), (he2.trans e3).lst hL⟩
      rcases List.mem_append.mp ht with ht | ht
      · exact hok t ht
      · rw [List.mem_singleton.mp ht]; exact okn
    exact fin _ _ rfl (by split <;> omega) (by split <;> omega)
  · rintro δ' M' ⟨a4, a5, a6, a7, a8, a9, a10, a11, a12, a13, a14, a15, ts, rfl, hlen, hok, hl, hrow, he⟩
    have hlen' : (hs.map dH).length ≤ 100 := by simpa using hn
    simp [-Prod.exists, -Prod.forall]
    refine lc_all (f := dT) (l := ts) (Kp := LstAt L (ts.map dT)) (fun t => dS (spotT c t)) (fun R h => mi_L rfl (.inl hl) h) (fun L2 o hL2 => LstAt.ud (.inl hl) hL2) ?_ ?_
    · intro L2 acc t ht hL2 R1 h1
      obtain ⟨t1, t2, t3, t4⟩ := hok t ht
      have := ok.t0; have := ok.t1; have := ok.b0; have := ok.b1; have := ok.x0; have := ok.x1; have := ok.y0; have := ok.y1
      have q1 := prod_le (a := t.1) (b := c.t) (A := 1000) (B := 10 ^ 9) t3 (by omega)
      have q2 := prod_le (a := t.2.1) (b := c.t) (A := 1000) (B := 10 ^ 9) t4 (by omega)
      have q3 := prod_le (a := c.x) (b := t.2.2) (A := 20 * 10 ^ 15) (B := 4) (by omega) (by omega)
      have q4 := prod_le (a := c.y) (b := t.2.2) (A := 20 * 10 ^ 15) (B := 4) (by omega) (by omega)
      have q5 := prod_le (a := c.b) (b := t.2.2) (A := 10 ^ 9) (B := 4) (by omega) (by omega)
      have q6 : c.b * t.2.2 ≠ 0 := Int.mul_ne_zero (by omega) (by omega)
      simp [wipeM, -Prod.exists, -Prod.forall]
      refine ⟨cmu_nat (small64 _ (by omega)) (small64 _ (by omega)), cmu_nat (small64 _ (by omega)) (small64 _ (by omega)), cmu_nat (small64 _ (by omega)) (small64 _ (by omega)), ?_⟩
      refine ⟨_, _, rfl, q6, bits64 (by omega), ?_⟩
      simp [-Prod.exists, -Prod.forall]
      refine ⟨cmu_nat (small64 _ (by omega)) (small64 _ (by omega)), cmu_nat (small64 _ (by omega)) (small64 _ (by omega)), cmu_nat (small64 _ (by omega)) (small64 _ (by omega)), ?_⟩
      exact ⟨_, _, rfl, q6, bits64 (by omega), h1⟩
    · intro L2 hL2
      have hML : M L2 = none := by
        cases e : M L2 with
        | none => rfl
        | some o =>
          have n : L2 ≠ p := fun z => by
            obtain ⟨a, b, x, _⟩ := hrow
            subst z; rw [hL2] at x; cases x
          rw [he L2 o n e] at hL2; cases hL2
      refine q L2 (ts.map (spotT c)) _ hML (by rw [ud_same]; simp [dSs]) ?_ ((hrow.new hL2).mono (by omega)) (he.new hL2)
      intro s hs
      obtain ⟨t, ht, rfl⟩ := List.mem_map.mp hs
      obtain ⟨t1, t2, t3, t4⟩ := hok t ht
      have := ok.t0; have := ok.t1; have := ok.b0; have := ok.b1; have := ok.x0; have := ok.x1; have := ok.y0; have := ok.y1
      have q1 := prod_le (a := t.1) (b := c.t) (A := 1000) (B := 10 ^ 9) t3 (by omega)
      have q2 := prod_le (a := t.2.1) (b := c.t) (A := 1000) (B := 10 ^ 9) t4 (by omega)
      have q3 := prod_le (a := c.x) (b := t.2.2) (A := 20 * 10 ^ 15) (B := 4) (by omega) (by omega)
      have q4 := prod_le (a := c.y) (b := t.2.2) (A := 20 * 10 ^ 15) (B := 4) (by omega) (by omega)
      have q5 := prod_le (a := c.b) (b := t.2.2) (A := 10 ^ 9) (B := 4) (by omega) (by omega)
      have q6 : c.b * t.2.2 ≠ 0 := Int.mul_ne_zero (by omega) (by omega)
      have n1 := nb_given (k := 64) (t := t.1 * c.t + c.x * t.2.2) q6 (by omega) (by omega)
      have n2 := nb_given (k := 64) (t := t.2.1 * c.t + c.y * t.2.2) q6 (by omega) (by omega)
      show max (nb (Rat.divInt _ _)) (nb (Rat.divInt _ _)) ≤ 200
      omega
/-- a list or a tuple of these -/
def SeqAt (x : D) (ds : List D) (M : MH) : Prop := x = .tup ds ∨ ∃ p, x = .ref p ∧ LstAt p ds M
theorem SeqAt.ext {x : D} {ds : List D} {M M' : MH} (h : SeqAt x ds M) (e : Ext M M') : SeqAt x ds M' := h.imp id fun ⟨p, a, b⟩ => ⟨p, a, b.ext e⟩
theorem mi_S {δ : Fr} {M : MH} {k : Nat} {x : D} {ds : List D} {R : List D → (MH → Prop) → MH → Prop} (h : δ[k]? = some (some x)) (hx : SeqAt x ds M) (q : ∀ Kp : MH → Prop, (∀ M', Ext M M' → Kp M') → R ds Kp M) : iS (mV k) δ M R := by
  refine ⟨_, h, ?_⟩
  rcases hx with rfl | ⟨p, rfl, hl⟩
  · exact .inr ⟨ds, rfl, q _ fun _ _ => trivial⟩
  · exact .inl ⟨p, ds, rfl, hl, q _ fun M' e => hl.ext e⟩
theorem lc_allS {α : Type} {f : α → D} {l : List α} {mi : MI} {g : MG} {me : ME} {vs : List Nat} {δ : Fr} {M : MH} {Q : MQ} (h : α → D) (hmi : ∀ R : List D → (MH → Prop) → MH → Prop, (∀ Kp : MH → Prop, (∀ M', Ext M M' → Kp M') → R (l.map f) Kp M) → mi δ M R)
    (ht : ∀ L acc a, a ∈ l → M L = none → ∀ (R1 : MQ), R1 (h a) (ud M L (.lst acc)) → g (f a) (wipeM δ vs) (ud M L (.lst acc)) fun δ2 M2 => me δ2 M2 R1)
    (hq : ∀ L, M L = none → Q (.ref L) (ud M L (.lst (l.map h)))) : mLc mi g mYes me vs δ M Q :=
  hmi _ fun Kp hK => lc_all (f := f) (l := l) (mi := fun _ _ R => R (l.map f) Kp M) (δ := δ) (M := M) (Q := Q) (vs := vs) (g := g) (me := me) h (fun R h => h) (fun L o hL => hK _ (.new o hL)) ht hq
def sp_lw_covered : MSp := fun ds M Q _ => ∃ (x : D) (ws : List Wal) (s : Spo), ds = [x, dS s] ∧ SeqAt x (dWs ws) M ∧ WB 200 ws ∧ nbS s ≤ 200 ∧ ∀ M', Ext M M' → Q (.bl (ws.any fun w => on w s)) M'
structure Good (ws : List Wal) : Prop where
  bits : WB 200 ws
  len : ws.length ≤ 6
  p40 : (partM ws).length ≤ 40
  pbits : WB 200 (partM ws)
  plot : isPlot (partM ws)
  again : partM (partM ws) = partM ws
  cover : ∀ s, (ws.any fun w => on w s) = (partM ws).any fun w => on w s
def sp_law : MSp := fun ds M Q _ => ∃ (x : D) (ns : List Int), ds = [x] ∧ RowD x (dIs ns) M ∧ (∀ n ∈ ns, n.natAbs.log2 ≤ 2000000) ∧ (∀ c hs, Sca.Ok c → Shuts hs → Good (hs.map (wallOf c))) ∧ ∀ M', Q (.bl true) M'
/-! lw_covered: 0 _law_shuts 1 _law_spot_here 2 _law_shut -/
def ms_lw_covered : MS := (mRet (m2 (oInF id) (mC (.bl true)) (mLc (iS (mV 0)) (gN 2) mYes (mCall 2 sp_lies_on (maC (mV 2) (maC (mV 1) maN))) [2])))
def N_lw_covered : List Str := ["_law_shuts", "_law_spot_here", "_law_shut"]
/-! law: 0 _law_script 1 _law_k 2 _law_row 3 _law_scale_here 4 _law_shuts 5 _law_made_here 6 _law_found 7 _law_spot_here -/
def ms_law : MS := (mSeq (mFor (iR1 (maC (mB bMax (maC (mC (.int 1)) (maC (mB bMin (maC (mC (.int 2)) (maC (mB bLen (maC (mV 0) maN)) maN))) maN))) maN)) (gN 1) (mSeq (mAsg (mLst (maC (mCall 2 sp_lw_cell_at (maC (mV 0) (maC (mV 1) maN))) (maC (mC (.int 0)) maN))) (gN 2))
  (mSeq (mAsg (mCall 1 sp_lw_scale (maC (mV 2) maN)) (gN 3))
  (mSeq (mAsg (mCall 3 sp_lw_any (maC (mV 2) (maC (mC (.int 5)) (maC (mC (.int 5)) maN)))) (gN 4))
  (mSeq (mAsg (mB bList (maC (mCall 2 sp_lw_made (maC (mV 3) (maC (mV 4) maN))) maN)) (gN 5))
  (mSeq (mAsg (mCall 1 sp_parted (maC (mV 5) maN)) (gN 6))
  (mSeq (mIte (mOr (mTs (m2 (oNe) (mCall 1 sp_plot_of (maC (mB bList (maC (mV 6) maN)) maN)) (mV 6))) (mAnd (mTs (m2 (oLt) (mB bLen (maC (mV 6) maN)) (mC (.int 25)))) (mTs (m2 (oNe) (mCall 1 sp_parted (maC (mB bList (maC (mV 6) maN)) maN)) (mV 6))))) (mRet (mC (.bl false))) mNext)
  (mFor (iL (mCall 3 sp_lw_spots (maC (mV 2) (maC (mV 3) (maC (mV 4) maN))))) (gN 7) (mIte (mTs (m2 (oNe) (mCall 2 sp_lw_covered (maC (mV 5) (maC (mV 7) maN))) (mCall 2 sp_lw_covered (maC (mV 6) (maC (mV 7) maN))))) (mRet (mC (.bl false))) mNext)))))))))
  (mRet (mC (.bl true))))
def N_law : List Str := ["_law_script", "_law_k", "_law_row", "_law_scale_here", "_law_shuts", "_law_made_here", "_law_found", "_law_spot_here"]
theorem rd_lw_covered (ds : List D) (M : MH) (Q : MQ) (h : sp_lw_covered ds M Q mx0) : ms_lw_covered (ends Q) (startD N_lw_covered ds) M := by
  obtain ⟨x, ws, s, rfl, hx, hb, hs, q⟩ := h
  simp only [ms_lw_covered, mRet_eq, m2_eq, mC_eq]
  have step : ∀ (L : Addr) (acc : List D) (w : Wal), w ∈ ws → M L = none → ∀ R1 : MQ, R1 (.bl (on w s)) (ud M L (.lst acc)) → gN 2 (dW w) (wipeM (startD N_lw_covered [x, dS s]) [2]) (ud M L (.lst acc)) fun δ2 M2 => mCall 2 sp_lies_on (maC (mV 2) (maC (mV 1) maN)) δ2 M2 R1 := fun L acc w hw hL R1 h1 => by
    simp [startD, N_lw_covered, wipeM]
    have := hb w hw
    have := nbW1 w; have := nbW2 w
    exact ⟨by omega, h1⟩
  have fin : ∀ L, M L = none → oInF id (.bl true) (.ref L) (ud M L (.lst (ws.map fun w => .bl (on w s)))) Q := fun L hL => by
    have fb : ∀ b : Bool, fitD (.bl b) := fun b => fit_bl
    refine ⟨ws.map fun w => .bl (on w s), .inl ud_same, fit_bl, fitL_map (f := fun w : Wal => .bl (on w s)) (fun _ => fit_bl) 1 (by decide) (fun _ => by simp [dep]) ws, ?_⟩
    have e : ((ws.map fun w => D.bl (on w s)).any fun z => eqD z (.bl true)) = ws.any fun w => on w s := by
      rw [List.any_map]
      congr 1
      funext w
      simp
    rw [e]
    exact q _ (.new _ hL)
  exact lc_allS (f := dW) (l := ws) (fun w => .bl (on w s)) (fun R h => mi_S rfl hx h) step fin
theorem rd_law (ds : List D) (M : MH) (Q : MQ) (h : sp_law ds M Q mx0) : ms_law (ends Q) (startD N_law ds) M := by
  obtain ⟨x, ns, rfl, hl, hbits, hgood, q⟩ := h
  rw [ms_law, mSeq_eq]
  have hn : ∀ Q : MQ, (∀ n : Int, 0 ≤ n → n ≤ 2 → Q (.int n) M) → mB bMax (maC (mC (.int 1)) (maC (mB bMin (maC (mC (.int 2)) (maC (mB bLen (maC (mV 0) maN)) maN))) maN)) (startD N_law [x]) M Q := fun Q h => by
    simp [startD, N_law]
    refine hl.len ?_
    simp
    exact h _ (by omega) (by omega)
  show iR1 _ _ _ _
  simp only [iR1]
  rw [maC_eq]
  refine hn _ fun n n0 n2 => ?_
  refine ⟨n, rfl, by omega, by omega, ?_⟩
  refine ⟨fun i δ' M' => Ext M M' ∧ ∃ a1 a2 a3 a4 a5 a6 a7, δ' = [some x, a1, a2, a3, a4, a5, a6, a7], ⟨.refl M, none, none, none, none, none, none, none, rfl⟩, fun _ _ _ _ _ => trivial, ?_, ?_⟩
  · rintro i d δ' M1 hd ⟨e1, a1, a2, a3, a4, a5, a6, a7, rfl⟩
    have hd2 : d = .int i := by
      obtain ⟨k, hk, rfl⟩ := map_get hd
      obtain ⟨h1, rfl⟩ := List.getElem?_eq_some_iff.mp hk
      simp
    subst hd2
    simp only [gN_eq, mSeq_eq, mAsg_eq, mLst_eq, maC_eq, maN_eq, mCall_eq, mV_eq, mC_eq]
    refine ⟨_, rfl, _, rfl, rfl, x, ns, i, rfl, hl.ext e1, ?_⟩
    refine ⟨sz2, fun r hr => ?_⟩
    have hMr : ∀ {M2 : MH} {b : Addr}, Ext M M2 → M2 b = none → M b = none := fun {M2 b} e h => by
      cases z : M b with
      | none => rfl
      | some o => rw [e b o z] at h; cases h
    have hr0 := hMr e1 hr
    have row1 : RowAt r 0 (ud M1 r (.lst [.int (ns.getD i 0), .int 0])) := ⟨_, 0, ud_same, by omega, by
      by_cases h : i < ns.length
      · have : ns.getD i 0 ∈ ns := by simp [h]
        exact hbits _ this
      · simp [List.getD_eq_getElem?_getD, List.getElem?_eq_none (by omega : ns.length ≤ i)]⟩
    have e2 : ExtB r M (ud M1 r (.lst [.int (ns.getD i 0), .int 0])) := (e1.B r).set _
    generalize ud M1 r (.lst [.int (ns.getD i 0), .int 0]) = M2 at row1 e2 ⊢
    refine ⟨_, rfl, rfl, r, 0, rfl, row1, by omega, fun c M3 ok row3 e3 => ?_⟩
    have x3 := e2.trans e3
    refine ⟨_, rfl, rfl, r, _, rfl, row3, by omega, fun hs q4 M4 hq4 hl4 hsh row4 e4 => ?_⟩
    have x4 := x3.trans e4
    have good := hgood c hs ok hsh
    have n4 : q4 ≠ r := row3.ne hq4
    have hq0 : M q4 = none := by
      cases z : M q4 with
      | none => rfl
      | some o => rw [x3 q4 o n4 z] at hq4; cases hq4
    have hslen : hs.length ≤ 6 := by
      obtain ⟨_, base, hb, h⟩ := hsh
      rcases h with rfl | ⟨d, _, rfl⟩
      · omega
      · simp; omega
    have hsok : ∀ h ∈ hs, okP h.1 ∧ okP h.2 := fun h hh => by
      obtain ⟨⟨f0, f1, f2, f3⟩, ⟨s0, s1, s2, s3⟩, _⟩ := hsh.1 h hh
      exact ⟨⟨f0, by omega, f2, by omega⟩, ⟨s0, by omega, s2, by omega⟩⟩
    generalize hws : hs.map (wallOf c) = ws at good
    dsimp only
    simp only [mB_eq, maC_eq, mCall_eq, maN_eq, mV_eq]
    refine ⟨_, rfl, _, rfl, rfl, c, q4, hs, rfl, ok, .inl hl4, by omega, hsok, fun M5 e5 => ?_⟩
    rw [hws]
    have row5 := row4.ext e5
    have x5 : ExtB r M M5 := x4.trans (e5.B r)
    intro r5 hr5
    have n5 : r5 ≠ r := row5.ne hr5
    have hl5 : (ud M5 r5 (.lst (dWs ws))) r5 = some (.lst (dWs ws)) := ud_same
    have hs5 := ud_keep (o := .lst (dWs ws)) (e5 _ _ hl4) hr5
    have row6 : RowAt r (0 + 8 + 100) (ud M5 r5 (.lst (dWs ws))) := row5.new hr5
    have x6 : ExtB r M (ud M5 r5 (.lst (dWs ws))) := x5.new hr5
    generalize ud M5 r5 (.lst (dWs ws)) = M6 at hl5 hs5 row6 x6 ⊢
    refine ⟨_, rfl, rfl, r5, ws, rfl, .inl hl5, good.bits, by have := good.len; omega, good.p40, fun M7 e7 => ?_⟩
    have hl7 := e7 _ _ hl5
    have hs7 := e7 _ _ hs5
    have row7 := row6.ext e7
    have x7 := x6.trans (e7.B r)
    have P := partM ws
    dsimp only
    refine cut (fun δ' M' => δ' = [some x, some (.int i), some (.ref r), some (dSc c), some (.ref q4), some (.ref r5), some (.tup (dWs (partM ws))), a7] ∧ Ext M7 M') ?_ ?_
    · rintro δ' M8 ⟨rfl, e8⟩
      dsimp only
      have hl8 := e8 _ _ hl7
      have hs8 := e8 _ _ hs7
      have row8 := row7.ext e8
      have x8 := x7.trans (e8.B r)
      show iL _ _ _ _
      simp only [iL, mCall_eq, maC_eq, maN_eq, mV_eq]
      refine ⟨_, rfl, _, rfl, _, rfl, rfl, r, q4, _, c, hs, rfl, row8, by omega, ok, hs8, by omega, hsh.1, fun r9 ss M9 hr9 hl9 hb9 row9 e9 => ?_⟩
      have x9 := x8.trans e9
      have n85 : r5 ≠ r := n5
      have hl5' := e9 _ _ n5 hl8
      refine ⟨r9, dSs ss, rfl, .inl hl9, ?_⟩
      refine ⟨fun j δ' M' => Ext M9 M' ∧ ∃ a7, δ' = [some x, some (.int i), some (.ref r), some (dSc c), some (.ref q4), some (.ref r5), some (.tup (dWs (partM ws))), a7], ⟨.refl M9, a7, rfl⟩, fun j δ' M' _ h => .inl (h.1 _ _ hl9), ?_, ?_⟩
      · rintro j d δ' M10 hd ⟨e10, a7, rfl⟩
        obtain ⟨s, hs, rfl⟩ := map_get hd
        have hsb := hb9 s (List.mem_of_getElem? hs)
        simp [-Prod.exists, -Prod.forall]
        refine ⟨.ref r5, ws, s, rfl, .inr ⟨r5, rfl, .inl (e10 _ _ hl5')⟩, good.bits, hsb, fun M11 e11 => ?_⟩
        refine ⟨.tup (dWs (partM ws)), partM ws, s, rfl, .inl rfl, good.pbits, hsb, fun M12 e12 => ?_⟩
        rw [good.cover s]
        dsimp only
        have neB : ∀ (b : Bool) (M : MH) (Q : MQ), oNe (.bl b) (.bl b) M Q = Q (.bl false) M := fun b M Q => by
          show oEqF not _ _ M Q = _
          rw [oEqF_fit fit_bl fit_bl (by simp), eqD_bl]; simp
        rw [neB]
        simp [-Prod.exists, -Prod.forall]
        exact (e10.trans e11).trans e12
      · rintro δ' M10 ⟨e10, a7, rfl⟩
        refine ⟨?_, _, _, _, _, _, _, _, rfl⟩
        exact ExtB.ext (x9.trans (e10.B r)) hr0
    · intro nx hnx
      have fitP : fitD (.tup (dWs (partM ws))) := by
        have := fitL_map (f := dW) (fun _ => fit_dW) 3 (by decide) (fun _ => by simp) (partM ws)
        exact ⟨by simpa [pur] using this.1, by simpa [dep] using Nat.succ_le_succ this.2⟩
      have eqP : eqD (.tup (dWs (partM ws))) (.tup (dWs (partM ws))) = true := by
        rw [eqD_tup, eqL_map (fun _ _ => eqD_dW)]; simp
      have neP : ∀ (M : MH) (Q : MQ), oNe (.tup (dWs (partM ws))) (.tup (dWs (partM ws))) M Q = Q (.bl false) M := fun M Q => by
        show oEqF not _ _ M Q = _
        rw [oEqF_fit fitP fitP (by simp), eqP]; rfl
      simp [-Prod.exists, -Prod.forall]
      intro t1 ht1
      refine ⟨t1, partM ws, rfl, .inl ud_same, good.pbits, good.p40, good.plot, fun M8 e8 => ?_⟩
      dsimp only
      rw [neP]
      simp [-Prod.exists, -Prod.forall]
      have e8' : Ext M7 M8 := (Ext.new _ ht1).trans e8
      by_cases h25 : (25 : Int) ≤ (partM ws).length
      · exact .inl ⟨h25, hnx _ _ ⟨rfl, e8'⟩⟩
      · refine .inr ⟨by omega, fun t2 ht2 => ?_⟩
        refine ⟨t2, partM ws, rfl, .inl ud_same, good.pbits, by omega, by rw [good.again]; omega, fun M9 e9 => ?_⟩
        rw [good.again]
        dsimp only
        rw [neP]
        simp [-Prod.exists, -Prod.forall]
        exact hnx _ _ ⟨rfl, (e8'.ud _ ht2).trans e9⟩
  · rintro δ' M1 ⟨e1, a1, a2, a3, a4, a5, a6, a7, rfl⟩
    simp
    exact q M1
end MM

namespace MM
open PySem PySem.Spec PyProof.Rows L2
/-! ### how many pieces -/
theorem nodup_len {α : Type} [DecidableEq α] : ∀ {l m : List α}, l.Nodup → (∀ x ∈ l, x ∈ m) → l.length ≤ m.length
  | [], m, _, _ => by simp
  | a :: l, m, h, s => by
    have h1 := List.nodup_cons.mp h
    have ha : a ∈ m := s a (by simp)
    have e := List.length_erase_of_mem ha
    have : l.length ≤ (m.erase a).length := nodup_len h1.2 fun x hx => by
      have hne : x ≠ a := fun z => h1.1 (z ▸ hx)
      exact (List.mem_erase_of_ne hne).mpr (s x (by simp [hx]))
    have pos : 0 < m.length := List.length_pos_of_mem ha
    simp; omega
theorem len_pieces (cs : List Spo) : (pieces cs).length = cs.length - 1 := by unfold pieces; simp
theorem nodup_rising {cs : List Spo} (h : Rising cs) : cs.Nodup := h.imp fun {a b} z e => by rw [e, ahead_irr] at z; cases z
theorem nodup_sort {l : List Wal} (h : SortW l) : l.Nodup := h.imp fun {a b} z e => by rw [e] at z; exact sooner_irr _ z
theorem len_flat {α β : Type} {f : α → List β} {n : Nat} : ∀ {l : List α}, (∀ a ∈ l, (f a).length ≤ n) → (l.flatMap f).length ≤ n * l.length
  | [], _ => by simp
  | a :: l, h => by
    have h1 := h a (by simp)
    have h2 := len_flat (l := l) (f := f) (n := n) fun b hb => h b (by simp [hb])
    rw [List.flatMap_cons, List.length_append, List.length_cons, Nat.mul_succ]; omega
theorem len_flat_one {α β : Type} {f : α → List β} {n : Nat} : ∀ {l : List α}, (∀ a ∈ l, (f a).length ≤ n + 1) → (∃ a ∈ l, (f a).length ≤ n) → (l.flatMap f).length + 1 ≤ (n + 1) * l.length
  | [], _, ⟨a, ha, _⟩ => by simp at ha
  | a :: l, h, ⟨b, hb, k⟩ => by
    have h1 := h a (by simp)
    rw [List.flatMap_cons, List.length_append, List.length_cons, Nat.mul_succ]
    rcases List.mem_cons.mp hb with z | hb
    · subst z
      have h2 := len_flat (l := l) (f := f) (n := n + 1) fun b hb => h b (by simp [hb])
      omega
    · have h2 := len_flat_one (l := l) (f := f) (n := n) (fun c hc => h c (by simp [hc])) ⟨b, hb, k⟩
      omega
instance (a b : Wal) : Decidable (par a b) := inferInstanceAs (Decidable (_ = _))
/-- ws are the walls of B, some of them told again -/
theorem cuts_few {ws B : List Wal} (hP : Props ws) (hB : ∀ x, x ∈ ws ↔ x ∈ B) {w : Wal} (hw : w ∈ B) :
    ∀ s ∈ cutsOf ws w, s ∈ [w.1, w.2] ++ (B.erase w).flatMap fun o => if par w o then [o.1, o.2] else [mix w o] := by
  intro s hs
  have hw' := (hB w).mpr hw
  have pw := hP w hw'
  obtain ⟨a, k⟩ := (cut_iff hP hw').mp hs
  have other : ∀ o ∈ ws, ¬ par w o → on o s = true → s ∈ [w.1, w.2] ++ (B.erase w).flatMap fun o => if par w o then [o.1, o.2] else [mix w o] := fun o ho np h => by
    have hne : o ≠ w := fun z => np (by subst z; unfold par cr; grind)
    refine List.mem_append.mpr (.inr (List.mem_flatMap.mpr ⟨o, (List.mem_erase_of_ne hne).mpr ((hB o).mp ho), ?_⟩))
    rw [if_neg np]
    simp
    exact (mix_of np pw (hP o ho) (on_iff'.mp a).2.2 (on_iff'.mp h).2.2).symm
  rcases k with ⟨o, ho, k⟩ | ⟨o, ho, o', ho', np, h1, h2⟩
  · by_cases e : o = w
    · subst e
      exact List.mem_append.mpr (.inl (by rcases k with k | k <;> simp [k]))
    · by_cases hp : par w o
      · refine List.mem_append.mpr (.inr (List.mem_flatMap.mpr ⟨o, (List.mem_erase_of_ne e).mpr ((hB o).mp ho), ?_⟩))
        rw [if_pos hp]
        rcases k with k | k <;> simp [k]
      · refine other o ho hp ?_
        rcases k with k | k
        · rw [k]; exact on1 (hP o ho)
        · rw [k]; exact on2 (hP o ho)
  · by_cases hp : par w o
    · exact other o' ho' (fun z => np (par_trans pw (par_symm hp) z)) h2
    · exact other o ho hp h1
theorem few_pieces {ws B : List Wal} (hP : Props ws) (hB : ∀ x, x ∈ ws ↔ x ∈ B) (h5 : B.length ≤ 5) : (partM ws).length ≤ 40 := by
  have hall := partM_all ws
  have nd := nodup_sort hall.1
  by_cases hpar : ∃ w ∈ B, ∀ o ∈ B, par w o
  · obtain ⟨w, hw, hpar⟩ := hpar
    have pw := hP w ((hB w).mpr hw)
    have allpar : ∀ a ∈ ws, ∀ b ∈ ws, par a b := fun a ha b hb => par_trans pw (par_symm (hpar a ((hB a).mp ha))) (hpar b ((hB b).mp hb))
    have ends : ∀ s, inK ws s → s ∈ B.flatMap fun o => [o.1, o.2] := fun s hs => by
      rcases hs with ⟨o, ho, k⟩ | ⟨o, ho, o', ho', np, _⟩
      · exact List.mem_flatMap.mpr ⟨o, (hB o).mp ho, by rcases k with k | k <;> simp [k]⟩
      · exact absurd (allpar o ho o' ho') np
    have nd1 : ((partM ws).map fun x => x.1).Nodup := by
      rw [List.nodup_iff_pairwise_ne, List.pairwise_map]
      refine List.Pairwise.imp_of_mem ?_ hall.1
      intro x y hx hy hs e
      have ne : x ≠ y := fun z => by rw [z] at hs; exact sooner_irr _ hs
      have hf := fair_pieces hP hx hy ne
      obtain ⟨w1, p⟩ := piece_of hP hx
      obtain ⟨w2, q⟩ := piece_of hP hy
      have pp : par x y := (p.par2 hP q).mpr (allpar w1 p.mem w2 q.mem)
      have c0 : side x y.1 = 0 := by rw [← e]; exact sgn_zero.mpr (col_self1 x)
      unfold fair meet meetL at hf
      rw [if_pos (sgn_par.mpr pp), if_pos c0, e, ahead_irr] at hf
      have px := p.pr
      have py := q.pr
      have lt : ahead y.1 (if ahead y.2 x.2 = true then y.2 else x.2) = true := by
        split
        · exact py
        · rw [← e]; exact px
      simp only [Bool.false_eq_true, if_false] at hf
      generalize (if ahead y.2 x.2 = true then y.2 else x.2) = g at hf lt
      have hne : y.1 ≠ g := fun z => by rw [z, ahead_irr] at lt; cases lt
      rw [if_neg hne, lt] at hf
      simp at hf
    have := nodup_len nd1 (m := B.flatMap fun o => [o.1, o.2]) fun s hs => by
      obtain ⟨x, hx, rfl⟩ := List.mem_map.mp hs
      obtain ⟨w, p⟩ := piece_of hP hx
      exact ends _ p.k1
    rw [List.length_map] at this
    have l2 := len_flat (l := B) (f := fun o : Wal => [o.1, o.2]) (n := 2) (fun _ _ => by simp)
    omega
  · have each : ∀ w ∈ B, (pieces (cutsOf ws w)).length ≤ 8 := fun w hw => by
      have hex : ∃ o ∈ B, ¬ par w o := by
        refine Classical.byContradiction fun z => hpar ⟨w, hw, fun o ho => Classical.byContradiction fun y => z ⟨o, ho, y⟩⟩
      obtain ⟨o, ho, np⟩ := hex
      have hne : o ≠ w := fun z => np (by subst z; unfold par cr; grind)
      have sub := cuts_few hP hB hw
      have l1 := nodup_len (nodup_rising (rising_cutsOf ws w)) sub
      have l2 := len_flat_one (l := B.erase w) (f := fun o => if par w o then [o.1, o.2] else [mix w o]) (n := 1) (fun a _ => by split <;> simp) ⟨o, (List.mem_erase_of_ne hne).mpr ho, by rw [if_neg np]; simp⟩
      have l3 := List.length_erase_of_mem hw
      rw [List.length_append, show [w.1, w.2].length = 2 from rfl] at l1
      rw [len_pieces]
      omega
    have sub : ∀ x ∈ partM ws, x ∈ B.flatMap fun w => pieces (cutsOf ws w) := fun x hx => by
      obtain ⟨w, hw, k⟩ := (hall.2 x).mp hx
      exact List.mem_flatMap.mpr ⟨w, (hB w).mp hw, k⟩
    have l1 := nodup_len nd sub
    have l2 := len_flat (l := B) (f := fun w => pieces (cutsOf ws w)) (n := 8) each
    omega
/-! ### the walls that the law draws -/
theorem div_as {a b : Int} (hb : b ≠ 0) : Rat.divInt a b * (b : Rat) = (a : Rat) := by
  rw [Rat.divInt_eq_div]
  exact rmul_div (by exact_mod_cast hb)
theorem div_lt {a b : Int} {c : Int} (hc : 0 < c) : Rat.divInt a c < Rat.divInt b c ↔ a < b := by
  have hc' : (0 : Rat) < (c : Rat) := by exact_mod_cast hc
  rw [← mul_lt_iff hc', div_as (by omega), div_as (by omega)]
  constructor
  · intro h; exact_mod_cast h
  · intro h; exact_mod_cast h
theorem proper_wall {c : Sca} (ok : c.Ok) {h : Sh} (hh : okH h) : proper (wallOf c h) := by
  obtain ⟨_, _, hl⟩ := hh
  have b0 : 0 < c.b := by have := ok.b0; omega
  have t0 : 0 < c.t := by have := ok.t0; omega
  have mono : ∀ {u v x : Int}, u < v → u * c.t + x < v * c.t + x := fun h => by have := Int.mul_lt_mul_of_pos_right h t0; omega
  rw [proper, ahead_iff]
  unfold ltP at hl
  show Rat.divInt _ _ < Rat.divInt _ _ ∨ Rat.divInt _ _ = Rat.divInt _ _ ∧ Rat.divInt _ _ < Rat.divInt _ _
  by_cases e : h.1.1 = h.2.1
  · rw [if_pos e] at hl
    have hl := of_decide_eq_true hl
    rw [e]
    exact .inr ⟨rfl, (div_lt b0).mpr (mono hl)⟩
  · rw [if_neg e] at hl
    have hl := of_decide_eq_true hl
    exact .inl ((div_lt b0).mpr (mono hl))
theorem wall_bits {c : Sca} (ok : c.Ok) {u : Pt} (hu : okS u) : nbS (spotOf c u) ≤ 64 := by
  have := ok.t0; have := ok.t1; have := ok.b0; have := ok.b1; have := ok.x0; have := ok.x1; have := ok.y0; have := ok.y1
  obtain ⟨u0, u1, u2, u3⟩ := hu
  have q1 := prod_le (a := u.1) (b := c.t) (A := 6) (B := 10 ^ 9) (by omega) (by omega)
  have q2 := prod_le (a := u.2) (b := c.t) (A := 6) (B := 10 ^ 9) (by omega) (by omega)
  have n1 := nb_given (k := 64) (t := u.1 * c.t + c.x) (b := c.b) (by omega) (by omega) (by omega)
  have n2 := nb_given (k := 64) (t := u.2 * c.t + c.y) (b := c.b) (by omega) (by omega) (by omega)
  show max (nb (Rat.divInt _ _)) (nb (Rat.divInt _ _)) ≤ 64
  omega
/-- where two lines cross, in units: over a whole number -/
theorem cross_units {B T X : Rat} (hB : B ≠ 0) (hT : T ≠ 0) {a1 w1 m A1 P1 Dn N : Rat} (h1 : a1 * B = A1 * T + X) (h2 : w1 * B = P1 * T) (h3 : m * Dn = N) : (a1 + m * w1) * (B * Dn) = (A1 * Dn + N * P1) * T + X * Dn := by
  have e : (a1 + m * w1) * (B * Dn) = (a1 * B) * Dn + (m * Dn) * (w1 * B) := by grind
  rw [e, h1, h2, h3]; grind
theorem cross_m {B T m d n Dn N : Rat} (hB : B ≠ 0) (hT : T ≠ 0) (h1 : d * (B * B) = Dn * (T * T)) (h2 : n * (B * B) = N * (T * T)) (h3 : m * d = n) : m * Dn = N := by
  have e : (m * Dn - N) * (T * T) = 0 := by
    have e1 : m * (d * (B * B)) = m * (Dn * (T * T)) := by rw [h1]
    have e2 : m * (d * (B * B)) = n * (B * B) := by rw [← h3]; grind
    rw [h2] at e2
    grind
  rcases Rat.mul_eq_zero.mp e with z | z
  · grind
  · rcases Rat.mul_eq_zero.mp z with y | y <;> exact absurd y hT
theorem as_div {r : Rat} {z d : Int} (hd : d ≠ 0) (h : r * (d : Rat) = (z : Rat)) : r = Rat.divInt z d := by
  have e := div_as (a := z) hd
  have hd' : (d : Rat) ≠ 0 := by exact_mod_cast hd
  have : (r - Rat.divInt z d) * (d : Rat) = 0 := by grind
  rcases Rat.mul_eq_zero.mp this with y | y
  · grind
  · exact absurd y hd'
theorem cross_bits {c : Sca} (ok : c.Ok) {h k : Sh} (hh : okH h) (hk : okH k) (np : ¬ par (wallOf c h) (wallOf c k)) : nbS (mix (wallOf c h) (wallOf c k)) ≤ 64 := by
  have := ok.t0; have := ok.t1; have := ok.b0; have := ok.b1; have := ok.x0; have := ok.x1; have := ok.y0; have := ok.y1
  obtain ⟨⟨a0, a1, a2, a3⟩, ⟨p0, p1, p2, p3⟩, _⟩ := hh
  obtain ⟨⟨b0, b1, b2, b3⟩, ⟨r0, r1, r2, r3⟩, _⟩ := hk
  have hb : c.b ≠ 0 := by omega
  have hB : (c.b : Rat) ≠ 0 := by exact_mod_cast hb
  have hT : (c.t : Rat) ≠ 0 := by exact_mod_cast (by omega : c.t ≠ 0)
  have ex : ∀ u : Pt, (spotOf c u).1 * (c.b : Rat) = (u.1 : Rat) * c.t + c.x := fun u => by
    have := div_as (a := u.1 * c.t + c.x) hb
    show Rat.divInt _ _ * _ = _
    rw [this]; push_cast; rfl
  have ey : ∀ u : Pt, (spotOf c u).2 * (c.b : Rat) = (u.2 : Rat) * c.t + c.y := fun u => by
    have := div_as (a := u.2 * c.t + c.y) hb
    show Rat.divInt _ _ * _ = _
    rw [this]; push_cast; rfl
  have wx : ∀ u v : Pt, ((spotOf c v).1 - (spotOf c u).1) * (c.b : Rat) = ((v.1 - u.1 : Int) : Rat) * c.t := fun u v => by
    have := ex u; have := ex v; push_cast; grind
  have wy : ∀ u v : Pt, ((spotOf c v).2 - (spotOf c u).2) * (c.b : Rat) = ((v.2 - u.2 : Int) : Rat) * c.t := fun u v => by
    have := ey u; have := ey v; push_cast; grind
  have crs : ∀ u v x y : Pt, (((spotOf c v).1 - (spotOf c u).1) * ((spotOf c y).2 - (spotOf c x).2) - ((spotOf c v).2 - (spotOf c u).2) * ((spotOf c y).1 - (spotOf c x).1)) * ((c.b : Rat) * c.b) = (((v.1 - u.1) * (y.2 - x.2) - (v.2 - u.2) * (y.1 - x.1) : Int) : Rat) * ((c.t : Rat) * c.t) := fun u v x y => by
    have q1 := wx u v; have q2 := wy u v; have q3 := wx x y; have q4 := wy x y
    push_cast at q1 q2 q3 q4 ⊢
    generalize (spotOf c v).1 - (spotOf c u).1 = A at q1 ⊢
    generalize (spotOf c v).2 - (spotOf c u).2 = B at q2 ⊢
    generalize (spotOf c y).1 - (spotOf c x).1 = C at q3 ⊢
    generalize (spotOf c y).2 - (spotOf c x).2 = D at q4 ⊢
    have e : (A * D - B * C) * ((c.b : Rat) * c.b) = (A * c.b) * (D * c.b) - (B * c.b) * (C * c.b) := by grind
    rw [e, q1, q2, q3, q4]; grind
  -- the cross of both ways, and of the way from one to the other
  have c1 := crs h.1 h.2 k.1 k.2
  have c2 := crs h.1 k.1 k.1 k.2
  have np' : cr (way (wallOf c h)) (way (wallOf c k)) ≠ 0 := np
  have hm : mixT (wallOf c h) (wallOf c k) * cr (way (wallOf c h)) (way (wallOf c k)) = cr (way ((wallOf c h).1, (wallOf c k).1)) (way (wallOf c k)) := rmul_div np'
  have key := cross_m hB hT c1 c2 hm
  generalize hDn : ((h.2.1 - h.1.1) * (k.2.2 - k.1.2) - (h.2.2 - h.1.2) * (k.2.1 - k.1.1) : Int) = Dn at c1 key
  generalize hN : ((k.1.1 - h.1.1) * (k.2.2 - k.1.2) - (k.1.2 - h.1.2) * (k.2.1 - k.1.1) : Int) = N at c2 key
  have hD0 : Dn ≠ 0 := fun z => by
    rw [z] at c1
    have : cr (way (wallOf c h)) (way (wallOf c k)) * ((c.b : Rat) * c.b) = 0 := by
      show _ = (0 : Rat)
      have := c1
      unfold cr way wallOf
      simp only
      rw [this]; grind
    rcases Rat.mul_eq_zero.mp this with y | y
    · exact np' y
    · rcases Rat.mul_eq_zero.mp y with x | x <;> exact hB x
  have bD : Dn.natAbs ≤ 72 := by
    have t1 := prod_le (a := h.2.1 - h.1.1) (b := k.2.2 - k.1.2) (A := 6) (B := 6) (by omega) (by omega)
    have t2 := prod_le (a := h.2.2 - h.1.2) (b := k.2.1 - k.1.1) (A := 6) (B := 6) (by omega) (by omega)
    omega
  have bN : N.natAbs ≤ 72 := by
    have t1 := prod_le (a := k.1.1 - h.1.1) (b := k.2.2 - k.1.2) (A := 6) (B := 6) (by omega) (by omega)
    have t2 := prod_le (a := k.1.2 - h.1.2) (b := k.2.1 - k.1.1) (A := 6) (B := 6) (by omega) (by omega)
    omega
  have e1 := cross_units hB hT (ex h.1) (wx h.1 h.2) key
  have e2 := cross_units hB hT (ey h.1) (wy h.1 h.2) key
  have d0 : c.b * Dn ≠ 0 := Int.mul_ne_zero hb hD0
  have s1 : (mix (wallOf c h) (wallOf c k)).1 = Rat.divInt ((h.1.1 * Dn + N * (h.2.1 - h.1.1)) * c.t + c.x * Dn) (c.b * Dn) := as_div d0 (by push_cast at e1 ⊢; exact e1)
  have s2 : (mix (wallOf c h) (wallOf c k)).2 = Rat.divInt ((h.1.2 * Dn + N * (h.2.2 - h.1.2)) * c.t + c.y * Dn) (c.b * Dn) := as_div d0 (by push_cast at e2 ⊢; exact e2)
  have bb := prod_le (a := c.b) (b := Dn) (A := 10 ^ 9) (B := 72) (by omega) bD
  have x1 := prod_le (a := h.1.1) (b := Dn) (A := 6) (B := 72) (by omega) bD
  have x2 := prod_le (a := N) (b := h.2.1 - h.1.1) (A := 72) (B := 6) bN (by omega)
  have x3 := prod_le (a := h.1.1 * Dn + N * (h.2.1 - h.1.1)) (b := c.t) (A := 864) (B := 10 ^ 9) (by omega) (by omega)
  have x4 := prod_le (a := c.x) (b := Dn) (A := 20 * 10 ^ 15) (B := 72) (by omega) bD
  have y1 := prod_le (a := h.1.2) (b := Dn) (A := 6) (B := 72) (by omega) bD
  have y2 := prod_le (a := N) (b := h.2.2 - h.1.2) (A := 72) (B := 6) bN (by omega)
  have y3 := prod_le (a := h.1.2 * Dn + N * (h.2.2 - h.1.2)) (b := c.t) (A := 864) (B := 10 ^ 9) (by omega) (by omega)
  have y4 := prod_le (a := c.y) (b := Dn) (A := 20 * 10 ^ 15) (B := 72) (by omega) bD
  have n1 := nb_given (k := 64) (t := (h.1.1 * Dn + N * (h.2.1 - h.1.1)) * c.t + c.x * Dn) d0 (by omega) (by omega)
  have n2 := nb_given (k := 64) (t := (h.1.2 * Dn + N * (h.2.2 - h.1.2)) * c.t + c.y * Dn) d0 (by omega) (by omega)
  show max _ _ ≤ 64
  rw [s1, s2]; omega
theorem good_walls (c : Sca) (hs : List Sh) (ok : c.Ok) (h : Shuts hs) : Good (hs.map (wallOf c)) := by
  obtain ⟨hh, base, hb, hbase⟩ := h
  have hP : Props (hs.map (wallOf c)) := fun w hw => by
    obtain ⟨h, hm, rfl⟩ := List.mem_map.mp hw
    exact proper_wall ok (hh h hm)
  have hB : ∀ x, x ∈ hs.map (wallOf c) ↔ x ∈ base.map (wallOf c) := fun x => by
    rcases hbase with rfl | ⟨d, hd, rfl⟩
    · rfl
    · rw [List.map_append, List.mem_append]
      constructor
      · rintro (z | z)
        · exact z
        · simp at z; subst z; exact List.mem_map_of_mem hd
      · exact .inl
  have kb : ∀ s, inK (hs.map (wallOf c)) s → nbS s ≤ 64 := fun s hs' => by
    rcases hs' with ⟨o, ho, k⟩ | ⟨o, ho, o', ho', np, a, b⟩
    · obtain ⟨h, hm, rfl⟩ := List.mem_map.mp ho
      rcases k with rfl | rfl
      · exact wall_bits ok (hh h hm).1
      · exact wall_bits ok (hh h hm).2.1
    · obtain ⟨h, hm, rfl⟩ := List.mem_map.mp ho
      obtain ⟨h', hm', rfl⟩ := List.mem_map.mp ho'
      rw [← mix_of np (hP _ ho) (hP _ ho') (on_iff'.mp a).2.2 (on_iff'.mp b).2.2]
      exact cross_bits ok (hh h hm) (hh h' hm') np
  refine ⟨fun w hw => ?_, ?_, few_pieces hP hB (by simpa using hb), fun x hx => ?_, plot_pieces hP, part_again hP, part_cover hP⟩
  · have h1 := kb w.1 (.inl ⟨w, hw, .inl rfl⟩)
    have h2 := kb w.2 (.inl ⟨w, hw, .inr rfl⟩)
    unfold nbW; omega
  · rcases hbase with rfl | ⟨d, hd, rfl⟩
    · simp; omega
    · simp; omega
  · obtain ⟨w, p⟩ := piece_of hP hx
    have h1 := kb _ p.k1
    have h2 := kb _ p.k2
    unfold nbW; omega
theorem law_in (z : D) (M : MH) (ns : List Int) (_ : ns.length ≤ 63) (hb : ∀ i ∈ ns, i.natAbs.log2 ≤ 1048576) (h : RowD z (dIs ns) M) : sp_law [z] M (fun v _ => v = .bl true) mx0 :=
  ⟨z, ns, rfl, h, fun i hi => Nat.le_trans (hb i hi) (by decide), good_walls, fun _ => rfl⟩
end MM

namespace Sp
open PySem PySem.Spec PyProof.Rows L2 MM
def top (i : Nat) : Stmt := PySem.Challenge.pw_spotlook_k12_whole_parted_covers_the_sam.main.body.getD i (.Pass ⟨0, 0, 0, 0⟩)
abbrev s_TooMany___init__ : Stmt := inClass (top 3) 0
def d_TooMany___init__ : He.DefD := ⟨("TooMany", some "__init__"), "__init__", "TooMany.__init__", defArgs s_TooMany___init__, defBody s_TooMany___init__, defScope s_TooMany___init__, [], []⟩
abbrev s_Crossing___init__ : Stmt := inClass (top 4) 0
def d_Crossing___init__ : He.DefD := ⟨("Crossing", some "__init__"), "__init__", "Crossing.__init__", defArgs s_Crossing___init__, defBody s_Crossing___init__, defScope s_Crossing___init__, [], []⟩
abbrev s_divisor : Stmt := top 6
def d_divisor : He.DefD := ⟨("divisor", none), "divisor", "divisor", defArgs s_divisor, defBody s_divisor, defScope s_divisor, [], []⟩
abbrev s_fraction : Stmt := top 7
def d_fraction : He.DefD := ⟨("fraction", none), "fraction", "fraction", defArgs s_fraction, defBody s_fraction, defScope s_fraction, [], []⟩
abbrev s_plus : Stmt := top 8
def d_plus : He.DefD := ⟨("plus", none), "plus", "plus", defArgs s_plus, defBody s_plus, defScope s_plus, [], []⟩
abbrev s_less : Stmt := top 9
def d_less : He.DefD := ⟨("less", none), "less", "less", defArgs s_less, defBody s_less, defScope s_less, [], []⟩
abbrev s_times : Stmt := top 10
def d_times : He.DefD := ⟨("times", none), "times", "times", defArgs s_times, defBody s_times, defScope s_times, [], []⟩
abbrev s_over : Stmt := top 11
def d_over : He.DefD := ⟨("over", none), "over", "over", defArgs s_over, defBody s_over, defScope s_over, [], []⟩
abbrev s_is_less : Stmt := top 12
def d_is_less : He.DefD := ⟨("is_less", none), "is_less", "is_less", defArgs s_is_less, defBody s_is_less, defScope s_is_less, [], []⟩
abbrev s_is_ahead : Stmt := top 14
def d_is_ahead : He.DefD := ⟨("is_ahead", none), "is_ahead", "is_ahead", defArgs s_is_ahead, defBody s_is_ahead, defScope s_is_ahead, [], []⟩
abbrev s_along : Stmt := top 15
def d_along : He.DefD := ⟨("along", none), "along", "along", defArgs s_along, defBody s_along, defScope s_along, [], []⟩
abbrev s_crossed : Stmt := top 16
def d_crossed : He.DefD := ⟨("crossed", none), "crossed", "crossed", defArgs s_crossed, defBody s_crossed, defScope s_crossed, [], []⟩
abbrev s_leaning : Stmt := top 17
def d_leaning : He.DefD := ⟨("leaning", none), "leaning", "leaning", defArgs s_leaning, defBody s_leaning, defScope s_leaning, [], []⟩
abbrev s_side_of : Stmt := top 18
def d_side_of : He.DefD := ⟨("side_of", none), "side_of", "side_of", defArgs s_side_of, defBody s_side_of, defScope s_side_of, [], []⟩
abbrev s_lies_on : Stmt := top 19
def d_lies_on : He.DefD := ⟨("lies_on", none), "lies_on", "lies_on", defArgs s_lies_on, defBody s_lies_on, defScope s_lies_on, [], []⟩
abbrev s_passed : Stmt := top 20
def d_passed : He.DefD := ⟨("passed", none), "passed", "passed", defArgs s_passed, defBody s_passed, defScope s_passed, [], []⟩
abbrev s_put_in_row : Stmt := top 21
def d_put_in_row : He.DefD := ⟨("put_in_row", none), "put_in_row", "put_in_row", defArgs s_put_in_row, defBody s_put_in_row, defScope s_put_in_row, [], []⟩
abbrev s_spot_of_lines : Stmt := top 24
def d_spot_of_lines : He.DefD := ⟨("spot_of_lines", none), "spot_of_lines", "spot_of_lines", defArgs s_spot_of_lines, defBody s_spot_of_lines, defScope s_spot_of_lines, [], []⟩
abbrev s_meeting_in_line : Stmt := top 25
def d_meeting_in_line : He.DefD := ⟨("meeting_in_line", none), "meeting_in_line", "meeting_in_line", defArgs s_meeting_in_line, defBody s_meeting_in_line, defScope s_meeting_in_line, [], []⟩
abbrev s_meeting : Stmt := top 26
def d_meeting : He.DefD := ⟨("meeting", none), "meeting", "meeting", defArgs s_meeting, defBody s_meeting, defScope s_meeting, [], []⟩
abbrev s_is_fair : Stmt := top 27
def d_is_fair : He.DefD := ⟨("is_fair", none), "is_fair", "is_fair", defArgs s_is_fair, defBody s_is_fair, defScope s_is_fair, [], []⟩
abbrev s_unfair_with : Stmt := top 28
def d_unfair_with : He.DefD := ⟨("unfair_with", none), "unfair_with", "unfair_with", defArgs s_unfair_with, defBody s_unfair_with, defScope s_unfair_with, [], []⟩
abbrev s_plot_of : Stmt := top 29
def d_plot_of : He.DefD := ⟨("plot_of", none), "plot_of", "plot_of", defArgs s_plot_of, defBody s_plot_of, defScope s_plot_of, [], []⟩
abbrev s_cuts_of : Stmt := top 31
def d_cuts_of : He.DefD := ⟨("cuts_of", none), "cuts_of", "cuts_of", defArgs s_cuts_of, defBody s_cuts_of, defScope s_cuts_of, [], []⟩
abbrev s_is_sooner : Stmt := top 32
def d_is_sooner : He.DefD := ⟨("is_sooner", none), "is_sooner", "is_sooner", defArgs s_is_sooner, defBody s_is_sooner, defScope s_is_sooner, [], []⟩
abbrev s_put_wall : Stmt := top 33
def d_put_wall : He.DefD := ⟨("put_wall", none), "put_wall", "put_wall", defArgs s_put_wall, defBody s_put_wall, defScope s_put_wall, [], []⟩
abbrev s_parted : Stmt := top 34
def d_parted : He.DefD := ⟨("parted", none), "parted", "parted", defArgs s_parted, defBody s_parted, defScope s_parted, [], []⟩
abbrev s_lw_cell_at : Stmt := top 36
def d_lw_cell_at : He.DefD := ⟨("_law_cell_at", none), "_law_cell_at", "_law_cell_at", defArgs s_lw_cell_at, defBody s_lw_cell_at, defScope s_lw_cell_at, [], []⟩
abbrev s_lw_take : Stmt := top 37
def d_lw_take : He.DefD := ⟨("_law_take", none), "_law_take", "_law_take", defArgs s_lw_take, defBody s_lw_take, defScope s_lw_take, [], []⟩
abbrev s_lw_low : Stmt := top 38
def d_lw_low : He.DefD := ⟨("_law_low", none), "_law_low", "_law_low", defArgs s_lw_low, defBody s_lw_low, defScope s_lw_low, [], []⟩
abbrev s_lw_scale : Stmt := top 39
def d_lw_scale : He.DefD := ⟨("_law_scale", none), "_law_scale", "_law_scale", defArgs s_lw_scale, defBody s_lw_scale, defScope s_lw_scale, [], []⟩
abbrev s_lw_spot : Stmt := top 40
def d_lw_spot : He.DefD := ⟨("_law_spot", none), "_law_spot", "_law_spot", defArgs s_lw_spot, defBody s_lw_spot, defScope s_lw_spot, [], []⟩
abbrev s_lw_made : Stmt := top 41
def d_lw_made : He.DefD := ⟨("_law_made", none), "_law_made", "_law_made", defArgs s_lw_made, defBody s_lw_made, defScope s_lw_made, [], []⟩
abbrev s_lw_any : Stmt := top 42
def d_lw_any : He.DefD := ⟨("_law_any", none), "_law_any", "_law_any", defArgs s_lw_any, defBody s_lw_any, defScope s_lw_any, [], []⟩
abbrev s_lw_spots : Stmt := top 43
def d_lw_spots : He.DefD := ⟨("_law_spots", none), "_law_spots", "_law_spots", defArgs s_lw_spots, defBody s_lw_spots, defScope s_lw_spots, [], []⟩
abbrev s_lw_covered : Stmt := top 44
def d_lw_covered : He.DefD := ⟨("_law_covered", none), "_law_covered", "_law_covered", defArgs s_lw_covered, defBody s_lw_covered, defScope s_lw_covered, [], []⟩
abbrev s_law : Stmt := top 45
def d_law : He.DefD := ⟨("law", none), "law", "law", defArgs s_law, defBody s_law, defScope s_law, [], []⟩
def fnL : List He.DefD := ([d_TooMany___init__, d_Crossing___init__, d_divisor, d_fraction, d_plus, d_less, d_times, d_over, d_is_less, d_is_ahead, d_along, d_crossed, d_leaning, d_side_of, d_lies_on, d_passed, d_put_in_row, d_spot_of_lines, d_meeting_in_line, d_meeting, d_is_fair, d_unfair_with, d_plot_of, d_cuts_of, d_is_sooner] : List He.DefD) ++ ([d_put_wall, d_parted, d_lw_cell_at, d_lw_take, d_lw_low, d_lw_scale, d_lw_spot, d_lw_made, d_lw_any, d_lw_spots, d_lw_covered, d_law] : List He.DefD)
def faL : List He.Fa := ([.glo "divisor", .glo "fraction", .glo "plus", .glo "less", .glo "times", .glo "over", .glo "is_less", .glo "is_ahead", .glo "along", .glo "crossed", .glo "leaning", .glo "side_of", .glo "lies_on", .glo "passed", .glo "put_in_row", .glo "spot_of_lines", .glo "meeting_in_line", .glo "meeting", .glo "is_fair", .glo "unfair_with", .glo "plot_of", .glo "cuts_of", .glo "is_sooner", .glo "put_wall", .glo "parted"] : List He.Fa) ++ ([.glo "_law_cell_at", .glo "_law_take", .glo "_law_low", .glo "_law_scale", .glo "_law_spot", .glo "_law_made", .glo "_law_any", .glo "_law_spots", .glo "_law_covered", .glo "law", .free "len", .free "abs", .free "int", .free "range", .free "zip", .free "enumerate", .free "tuple", .free "list", .free "max", .free "min", .int "MOST_WALLS" 40] : List He.Fa)
structure Facts (K : PySem.W.Frag) (mg : Str → Option Value) : Prop where
  c : He.SaysD faL fnL K
  h : ∃ hp : Heap, K.In hp ∧ hp.Ns mainGlobals mg
variable {P : Program} {w : World} {K : PySem.W.Frag} {mg : Str → Option Value} {base : Heap}
theorem Facts.glo (Z : Facts K mg) (i : Nat) {x : Str} (h : faL[i]? = some (.glo x) := by rfl) : mg x = some (.ref (He.ga K x)) := let ⟨_, a, b⟩ := Z.h; He.glo_ok a b (Z.c.fact i h)
theorem Facts.free (Z : Facts K mg) (i : Nat) {x : Str} (h : faL[i]? = some (.free x) := by rfl) : mg x = none := let ⟨_, a, b⟩ := Z.h; He.free_ok a b (Z.c.fact i h)
theorem Facts.num (Z : Facts K mg) (i : Nat) {x : Str} {n : Int} (h : faL[i]? = some (.int x n) := by rfl) : ∃ u, mg x = some u ∧ RelV (.int n) u := let ⟨_, a, b⟩ := Z.h; let ⟨t, e⟩ := He.int_ok a b (Z.c.fact i h); ⟨_, e, t, rfl⟩
theorem Facts.free_len (Z : Facts K mg) : mg "len" = none := Z.free 35
theorem Facts.free_abs (Z : Facts K mg) : mg "abs" = none := Z.free 36
theorem Facts.free_int (Z : Facts K mg) : mg "int" = none := Z.free 37
theorem Facts.free_range (Z : Facts K mg) : mg "range" = none := Z.free 38
theorem Facts.free_zip (Z : Facts K mg) : mg "zip" = none := Z.free 39
theorem Facts.free_enumerate (Z : Facts K mg) : mg "enumerate" = none := Z.free 40
theorem Facts.free_tuple (Z : Facts K mg) : mg "tuple" = none := Z.free 41
theorem Facts.free_list (Z : Facts K mg) : mg "list" = none := Z.free 42
theorem Facts.free_max (Z : Facts K mg) : mg "max" = none := Z.free 43
theorem Facts.free_min (Z : Facts K mg) : mg "min" = none := Z.free 44
theorem Facts.c_MOST_WALLS (Z : Facts K mg) : ∃ u, mg "MOST_WALLS" = some u ∧ RelV (.int 40) u := Z.num 45
theorem sc_divisor : FnScope N_divisor ["one", "other"] d_divisor.scope := ⟨rfl, rfl, rfl, by decide +kernel, rfl, by decide +kernel, by decide +kernel⟩
theorem f_divisor (Z : Facts K mg) : Fn P w K mg base CX0 1 "divisor" 2 sp_divisor := by
  obtain ⟨fd, F⟩ := Z.c.def_ 2 (d := d_divisor) rfl
  have nd := sc_divisor.nd
  exact fn_by (ps := ["one", "other"]) F sc_divisor (Z.glo 0) (fun _ _ _ _ _ _ us hl => match us, hl with | [_, _], _ => rfl) (fun cdv A outer s H f E hr =>
    (jb_cons (js_while PassesOwn.never (jcmpT (jne (hu64 hr)) (jv 1) jint) (jb_one (js_par 0 1 nd (ja_cons (jv 1) (ja_cons (jop jmod (jv 0) (jv 1)) ja_nil)))))
    (jb_one (js_ret (jv 0)))))
    fun ds M Q el h => rd_divisor ds M Q h
theorem sc_fraction : FnScope N_fraction ["top", "bottom"] d_fraction.scope := ⟨rfl, rfl, rfl, by decide +kernel, rfl, by decide +kernel, by decide +kernel⟩
theorem f_fraction (Z : Facts K mg) : Fn P w K mg base CX0 2 "fraction" 2 sp_fraction := by
  obtain ⟨fd, F⟩ := Z.c.def_ 3 (d := d_fraction) rfl
  have nd := sc_fraction.nd
  exact fn_by (ps := ["top", "bottom"]) F sc_fraction (Z.glo 1) (fun _ _ _ _ _ _ us hl => match us, hl with | [_, _], _ => rfl) (fun cdv A outer s H f E hr =>
    (jb_cons (js_if (jcmpT (jeq (hu64 hr)) (jv 1) jint) (jb_one js_never) jb_nil)
    (jb_cons (js_set 2 (jcall (f_divisor Z) (hr.mono (by decide)) (ja_cons (jcb jabs PyProof.Rows.boot_abs Z.free_abs (ja_cons (jv 0) ja_nil)) (ja_cons (jcb jabs PyProof.Rows.boot_abs Z.free_abs (ja_cons (jv 1) ja_nil)) ja_nil))) nd)
    (jb_cons (js_if (jcmpT jlt (jv 1) jint) (jb_one (js_set 2 (jun jneg (jv 2)) nd)) jb_nil)
    (jb_one (js_ret (je_tup (ja_cons (jop jdiv (jv 0) (jv 2)) (ja_cons (jop jdiv (jv 1) (jv 2)) ja_nil)))))))))
    fun ds M Q el h => rd_fraction ds M Q h
theorem sc_plus : FnScope N_plus ["one", "other"] d_plus.scope := ⟨rfl, rfl, rfl, by decide +kernel, rfl, by decide +kernel, by decide +kernel⟩
theorem f_plus (Z : Facts K mg) : Fn P w K mg base CX0 3 "plus" 2 sp_plus := by
  obtain ⟨fd, F⟩ := Z.c.def_ 4 (d := d_plus) rfl
  have nd := sc_plus.nd
  exact fn_by (ps := ["one", "other"]) F sc_plus (Z.glo 2) (fun _ _ _ _ _ _ us hl => match us, hl with | [_, _], _ => rfl) (fun cdv A outer s H f E hr =>
    (jb_one (js_ret (jcall (f_fraction Z) (hr.mono (by decide)) (ja_cons (jop jadd (jop jmul (jix (jv 0) jint) (jix (jv 1) jint)) (jop jmul (jix (jv 1) jint) (jix (jv 0) jint))) (ja_cons (jop jmul (jix (jv 0) jint) (jix (jv 1) jint)) ja_nil))))))
    fun ds M Q el h => rd_plus ds M Q h
theorem sc_less : FnScope N_less ["one", "other"] d_less.scope := ⟨rfl, rfl, rfl, by decide +kernel, rfl, by decide +kernel, by decide +kernel⟩
theorem f_less (Z : Facts K mg) : Fn P w K mg base CX0 3 "less" 2 sp_less := by
  obtain ⟨fd, F⟩ := Z.c.def_ 5 (d := d_less) rfl
  have nd := sc_less.nd
  exact fn_by (ps := ["one", "other"]) F sc_less (Z.glo 3) (fun _ _ _ _ _ _ us hl => match us, hl with | [_, _], _ => rfl) (fun cdv A outer s H f E hr =>
    (jb_one (js_ret (jcall (f_fraction Z) (hr.mono (by decide)) (ja_cons (jop jsub (jop jmul (jix (jv 0) jint) (jix (jv 1) jint)) (jop jmul (jix (jv 1) jint) (jix (jv 0) jint))) (ja_cons (jop jmul (jix (jv 0) jint) (jix (jv 1) jint)) ja_nil))))))
    fun ds M Q el h => rd_less ds M Q h
theorem sc_times : FnScope N_times ["one", "other"] d_times.scope := ⟨rfl, rfl, rfl, by decide +kernel, rfl, by decide +kernel, by decide +kernel⟩
theorem f_times (Z : Facts K mg) : Fn P w K mg base CX0 3 "times" 2 sp_times := by
  obtain ⟨fd, F⟩ := Z.c.def_ 6 (d := d_times) rfl
  have nd := sc_times.nd
  exact fn_by (ps := ["one", "other"]) F sc_times (Z.glo 4) (fun _ _ _ _ _ _ us hl => match us, hl with | [_, _], _ => rfl) (fun cdv A outer s H f E hr =>
    (jb_one (js_ret (jcall (f_fraction Z) (hr.mono (by decide)) (ja_cons (jop jmul (jix (jv 0) jint) (jix (jv 1) jint)) (ja_cons (jop jmul (jix (jv 0) jint) (jix (jv 1) jint)) ja_nil))))))
    fun ds M Q el h => rd_times ds M Q h
theorem sc_over : FnScope N_over ["one", "other"] d_over.scope := ⟨rfl, rfl, rfl, by decide +kernel, rfl, by decide +kernel, by decide +kernel⟩
theorem f_over (Z : Facts K mg) : Fn P w K mg base CX0 3 "over" 2 sp_over := by
  obtain ⟨fd, F⟩ := Z.c.def_ 7 (d := d_over) rfl
  have nd := sc_over.nd
  exact fn_by (ps := ["one", "other"]) F sc_over (Z.glo 5) (fun _ _ _ _ _ _ us hl => match us, hl with | [_, _], _ => rfl) (fun cdv A outer s H f E hr =>
    (jb_one (js_ret (jcall (f_fraction Z) (hr.mono (by decide)) (ja_cons (jop jmul (jix (jv 0) jint) (jix (jv 1) jint)) (ja_cons (jop jmul (jix (jv 0) jint) (jix (jv 1) jint)) ja_nil))))))
    fun ds M Q el h => rd_over ds M Q h
theorem sc_is_less : FnScope N_is_less ["one", "other"] d_is_less.scope := ⟨rfl, rfl, rfl, by decide +kernel, rfl, by decide +kernel, by decide +kernel⟩
theorem f_is_less (Z : Facts K mg) : Fn P w K mg base CX0 1 "is_less" 2 sp_is_less := by
  obtain ⟨fd, F⟩ := Z.c.def_ 8 (d := d_is_less) rfl
  have nd := sc_is_less.nd
  exact fn_by (ps := ["one", "other"]) F sc_is_less (Z.glo 6) (fun _ _ _ _ _ _ us hl => match us, hl with | [_, _], _ => rfl) (fun cdv A outer s H f E hr =>
    (jb_one (js_ret (jcmp jlt (jop jmul (jix (jv 0) jint) (jix (jv 1) jint)) (jop jmul (jix (jv 1) jint) (jix (jv 0) jint))))))
    fun ds M Q el h => rd_is_less ds M Q h
theorem sc_is_ahead : FnScope N_is_ahead ["one", "other"] d_is_ahead.scope := ⟨rfl, rfl, rfl, by decide +kernel, rfl, by decide +kernel, by decide +kernel⟩
theorem f_is_ahead (Z : Facts K mg) : Fn P w K mg base CX0 2 "is_ahead" 2 sp_is_ahead := by
  obtain ⟨fd, F⟩ := Z.c.def_ 9 (d := d_is_ahead) rfl
  have nd := sc_is_ahead.nd
  exact fn_by (ps := ["one", "other"]) F sc_is_ahead (Z.glo 7) (fun _ _ _ _ _ _ us hl => match us, hl with | [_, _], _ => rfl) (fun cdv A outer s H f E hr =>
    (jb_cons (js_if (jcmpT (jne (hu64 hr)) (jix (jv 0) jint) (jix (jv 1) jint)) (jb_one (js_ret (jcall (f_is_less Z) (hr.mono (by decide)) (ja_cons (jix (jv 0) jint) (ja_cons (jix (jv 1) jint) ja_nil))))) jb_nil)
    (jb_one (js_ret (jcall (f_is_less Z) (hr.mono (by decide)) (ja_cons (jix (jv 0) jint) (ja_cons (jix (jv 1) jint) ja_nil)))))))
    fun ds M Q el h => rd_is_ahead ds M Q h
theorem sc_along : FnScope N_along ["wall"] d_along.scope := ⟨rfl, rfl, rfl, by decide +kernel, rfl, by decide +kernel, by decide +kernel⟩
theorem f_along (Z : Facts K mg) : Fn P w K mg base CX0 4 "along" 1 sp_along := by
  obtain ⟨fd, F⟩ := Z.c.def_ 10 (d := d_along) rfl
  have nd := sc_along.nd
  exact fn_by (ps := ["wall"]) F sc_along (Z.glo 8) (fun _ _ _ _ _ _ us hl => match us, hl with | [_], _ => rfl) (fun cdv A outer s H f E hr =>
    (jb_cons (js_asg (jv 0) (jgtu (n := 2) (jgs_cons (jgn 1 nd) (jgs_cons (jgn 2 nd) jgs_nil))))
    (jb_one (js_ret (je_tup (ja_cons (jcall (f_less Z) (hr.mono (by decide)) (ja_cons (jix (jv 2) jint) (ja_cons (jix (jv 1) jint) ja_nil))) (ja_cons (jcall (f_less Z) (hr.mono (by decide)) (ja_cons (jix (jv 2) jint) (ja_cons (jix (jv 1) jint) ja_nil))) ja_nil)))))))
    fun ds M Q el h => rd_along ds M Q h
theorem sc_crossed : FnScope N_crossed ["one", "other"] d_crossed.scope := ⟨rfl, rfl, rfl, by decide +kernel, rfl, by decide +kernel, by decide +kernel⟩
theorem f_crossed (Z : Facts K mg) : Fn P w K mg base CX0 4 "crossed" 2 sp_crossed := by
  obtain ⟨fd, F⟩ := Z.c.def_ 11 (d := d_crossed) rfl
  have nd := sc_crossed.nd
  exact fn_by (ps := ["one", "other"]) F sc_crossed (Z.glo 9) (fun _ _ _ _ _ _ us hl => match us, hl with | [_, _], _ => rfl) (fun cdv A outer s H f E hr =>
    (jb_one (js_ret (jcall (f_less Z) (hr.mono (by decide)) (ja_cons (jcall (f_times Z) (hr.mono (by decide)) (ja_cons (jix (jv 0) jint) (ja_cons (jix (jv 1) jint) ja_nil))) (ja_cons (jcall (f_times Z) (hr.mono (by decide)) (ja_cons (jix (jv 0) jint) (ja_cons (jix (jv 1) jint) ja_nil))) ja_nil))))))
    fun ds M Q el h => rd_crossed ds M Q h
theorem sc_leaning : FnScope N_leaning ["one", "other"] d_leaning.scope := ⟨rfl, rfl, rfl, by decide +kernel, rfl, by decide +kernel, by decide +kernel⟩
theorem f_leaning (Z : Facts K mg) : Fn P w K mg base CX0 5 "leaning" 2 sp_leaning := by
  obtain ⟨fd, F⟩ := Z.c.def_ 12 (d := d_leaning) rfl
  have nd := sc_leaning.nd
  exact fn_by (ps := ["one", "other"]) F sc_leaning (Z.glo 10) (fun _ _ _ _ _ _ us hl => match us, hl with | [_, _], _ => rfl) (fun cdv A outer s H f E hr =>
    (jb_cons (js_set 2 (jcall (f_crossed Z) (hr.mono (by decide)) (ja_cons (jv 0) (ja_cons (jv 1) ja_nil))) nd)
    (jb_one (js_ret (jop jsub (jct jintc PyProof.Rows.boot_int Z.free_int (ja_cons (jcmp jgt (jix (jv 2) jint) jint) ja_nil)) (jct jintc PyProof.Rows.boot_int Z.free_int (ja_cons (jcmp jlt (jix (jv 2) jint) jint) ja_nil)))))))
    fun ds M Q el h => rd_leaning ds M Q h
theorem sc_side_of : FnScope N_side_of ["wall", "spot"] d_side_of.scope := ⟨rfl, rfl, rfl, by decide +kernel, rfl, by decide +kernel, by decide +kernel⟩
theorem f_side_of (Z : Facts K mg) : Fn P w K mg base CX0 6 "side_of" 2 sp_side_of := by
  obtain ⟨fd, F⟩ := Z.c.def_ 13 (d := d_side_of) rfl
  have nd := sc_side_of.nd
  exact fn_by (ps := ["wall", "spot"]) F sc_side_of (Z.glo 11) (fun _ _ _ _ _ _ us hl => match us, hl with | [_, _], _ => rfl) (fun cdv A outer s H f E hr =>
    (jb_one (js_ret (jcall (f_leaning Z) (hr.mono (by decide)) (ja_cons (jcall (f_along Z) (hr.mono (by decide)) (ja_cons (jv 0) ja_nil)) (ja_cons (jcall (f_along Z) (hr.mono (by decide)) (ja_cons (je_tup (ja_cons (jix (jv 0) jint) (ja_cons (jv 1) ja_nil))) ja_nil)) ja_nil))))))
    fun ds M Q el h => rd_side_of ds M Q h
theorem sc_lies_on : FnScope N_lies_on ["wall", "spot"] d_lies_on.scope := ⟨rfl, rfl, rfl, by decide +kernel, rfl, by decide +kernel, by decide +kernel⟩
theorem f_lies_on (Z : Facts K mg) : Fn P w K mg base CX0 7 "lies_on" 2 sp_lies_on := by
  obtain ⟨fd, F⟩ := Z.c.def_ 14 (d := d_lies_on) rfl
  have nd := sc_lies_on.nd
  exact fn_by (ps := ["wall", "spot"]) F sc_lies_on (Z.glo 12) (fun _ _ _ _ _ _ us hl => match us, hl with | [_, _], _ => rfl) (fun cdv A outer s H f E hr =>
    (jb_cons (js_asg (jv 0) (jgtu (n := 2) (jgs_cons (jgn 2 nd) (jgs_cons (jgn 3 nd) jgs_nil))))
    (jb_cons (js_if (JW.t (jw_or (jtv (jcall (f_is_ahead Z) (hr.mono (by decide)) (ja_cons (jv 1) (ja_cons (jv 2) ja_nil)))) (jw_or1 (jtv (jcall (f_is_ahead Z) (hr.mono (by decide)) (ja_cons (jv 3) (ja_cons (jv 1) ja_nil))))))) (jb_one (js_ret jbl)) jb_nil)
    (jb_one (js_ret (jcmp (jeq (hu64 hr)) (jcall (f_side_of Z) (hr.mono (by decide)) (ja_cons (jv 0) (ja_cons (jv 1) ja_nil))) jint))))))
    fun ds M Q el h => rd_lies_on ds M Q h
theorem sc_passed : FnScope N_passed ["spots", "spot"] d_passed.scope := ⟨rfl, rfl, rfl, by decide +kernel, rfl, by decide +kernel, by decide +kernel⟩
theorem f_passed (Z : Facts K mg) : Fn P w K mg base CX0 3 "passed" 2 sp_passed := by
  obtain ⟨fd, F⟩ := Z.c.def_ 15 (d := d_passed) rfl
  have nd := sc_passed.nd
  exact fn_by (ps := ["spots", "spot"]) F sc_passed (Z.glo 13) (fun _ _ _ _ _ _ us hl => match us, hl with | [_, _], _ => rfl) (fun cdv A outer s H f E hr =>
    (jb_cons (js_set 2 jint nd)
    (jb_cons (js_set 3 (jcb jlen PySem.boot_len Z.free_len (ja_cons (jv 0) ja_nil)) nd)
    (jb_cons (js_while PassesOwn.never (jcmpT jlt (jv 2) (jv 3)) (jb_cons (js_set 4 (jop jdiv (jop jadd (jv 2) (jv 3)) jint) nd)
    (jb_one (js_if (jtv (jcall (f_is_ahead Z) (hr.mono (by decide)) (ja_cons (jix (jv 0) (jv 4)) (ja_cons (jv 1) ja_nil)))) (jb_one (js_set 2 (jop jadd (jv 4) jint) nd)) (jb_one (js_set 3 (jv 4) nd))))))
    (jb_one (js_ret (jv 2)))))))
    fun ds M Q el h => rd_passed ds M Q h
theorem sc_put_in_row : FnScope N_put_in_row ["spots", "spot"] d_put_in_row.scope := ⟨rfl, rfl, rfl, by decide +kernel, rfl, by decide +kernel, by decide +kernel⟩
theorem f_put_in_row (Z : Facts K mg) : Fn P w K mg base CX0 4 "put_in_row" 2 sp_put_in_row := by
  obtain ⟨fd, F⟩ := Z.c.def_ 16 (d := d_put_in_row) rfl
  have nd := sc_put_in_row.nd
  exact fn_by (ps := ["spots", "spot"]) F sc_put_in_row (Z.glo 14) (fun _ _ _ _ _ _ us hl => match us, hl with | [_, _], _ => rfl) (fun cdv A outer s H f E hr =>
    (jb_cons (js_set 2 (jcall (f_passed Z) (hr.mono (by decide)) (ja_cons (jv 0) (ja_cons (jv 1) ja_nil))) nd)
    (jb_one (js_if (jcmpT (jne (hu64 hr)) (jsl (jv 0) (jp_some (jv 2)) (jp_some (jop jadd (jv 2) jint))) (je_lst (ja_cons (jv 1) ja_nil))) (jb_one (js_expr (jml PySem.F.slot_list_insert PySem.F.type_list_insert jins (jv 0) (ja_cons (jv 2) (ja_cons (jv 1) ja_nil))))) jb_nil))))
    fun ds M Q el h => rd_put_in_row ds M Q h
theorem sc_spot_of_lines : FnScope N_spot_of_lines ["one", "other"] d_spot_of_lines.scope := ⟨rfl, rfl, rfl, by decide +kernel, rfl, by decide +kernel, by decide +kernel⟩
theorem f_spot_of_lines (Z : Facts K mg) : Fn P w K mg base CX0 5 "spot_of_lines" 2 sp_spot_of_lines := by
  obtain ⟨fd, F⟩ := Z.c.def_ 17 (d := d_spot_of_lines) rfl
  have nd := sc_spot_of_lines.nd
  exact fn_by (ps := ["one", "other"]) F sc_spot_of_lines (Z.glo 15) (fun _ _ _ _ _ _ us hl => match us, hl with | [_, _], _ => rfl) (fun cdv A outer s H f E hr =>
    (jb_cons (js_set 2 (jcall (f_along Z) (hr.mono (by decide)) (ja_cons (jv 0) ja_nil)) nd)
    (jb_cons (js_set 3 (jcall (f_over Z) (hr.mono (by decide)) (ja_cons (jcall (f_crossed Z) (hr.mono (by decide)) (ja_cons (jcall (f_along Z) (hr.mono (by decide)) (ja_cons (je_tup (ja_cons (jix (jv 0) jint) (ja_cons (jix (jv 1) jint) ja_nil))) ja_nil)) (ja_cons (jcall (f_along Z) (hr.mono (by decide)) (ja_cons (jv 1) ja_nil)) ja_nil))) (ja_cons (jcall (f_crossed Z) (hr.mono (by decide)) (ja_cons (jv 2) (ja_cons (jcall (f_along Z) (hr.mono (by decide)) (ja_cons (jv 1) ja_nil)) ja_nil))) ja_nil))) nd)
    (jb_one (js_ret (je_tup (ja_cons (jcall (f_plus Z) (hr.mono (by decide)) (ja_cons (jix (jix (jv 0) jint) jint) (ja_cons (jcall (f_times Z) (hr.mono (by decide)) (ja_cons (jv 3) (ja_cons (jix (jv 2) jint) ja_nil))) ja_nil))) (ja_cons (jcall (f_plus Z) (hr.mono (by decide)) (ja_cons (jix (jix (jv 0) jint) jint) (ja_cons (jcall (f_times Z) (hr.mono (by decide)) (ja_cons (jv 3) (ja_cons (jix (jv 2) jint) ja_nil))) ja_nil))) ja_nil))))))))
    fun ds M Q el h => rd_spot_of_lines ds M Q h
theorem sc_meeting_in_line : FnScope N_meeting_in_line ["one", "other"] d_meeting_in_line.scope := ⟨rfl, rfl, rfl, by decide +kernel, rfl, by decide +kernel, by decide +kernel⟩
theorem f_meeting_in_line (Z : Facts K mg) : Fn P w K mg base CX0 7 "meeting_in_line" 2 sp_meeting_in_line := by
  obtain ⟨fd, F⟩ := Z.c.def_ 18 (d := d_meeting_in_line) rfl
  have nd := sc_meeting_in_line.nd
  exact fn_by (ps := ["one", "other"]) F sc_meeting_in_line (Z.glo 16) (fun _ _ _ _ _ _ us hl => match us, hl with | [_, _], _ => rfl) (fun cdv A outer s H f E hr =>
    (jb_cons (js_if (jcmpT (jne (hu64 hr)) (jcall (f_side_of Z) (hr.mono (by decide)) (ja_cons (jv 0) (ja_cons (jix (jv 1) jint) ja_nil))) jint) (jb_one (js_ret jnon)) jb_nil)
    (jb_cons (js_set 2 (jix (jv 0) jint) nd)
    (jb_cons (js_if (jtv (jcall (f_is_ahead Z) (hr.mono (by decide)) (ja_cons (jv 2) (ja_cons (jix (jv 1) jint) ja_nil)))) (jb_one (js_set 2 (jix (jv 1) jint) nd)) jb_nil)
    (jb_cons (js_set 3 (jix (jv 0) jint) nd)
    (jb_cons (js_if (jtv (jcall (f_is_ahead Z) (hr.mono (by decide)) (ja_cons (jix (jv 1) jint) (ja_cons (jv 3) ja_nil)))) (jb_one (js_set 3 (jix (jv 1) jint) nd)) jb_nil)
    (jb_cons (js_if (jcmpT (jeq (hu64 hr)) (jv 2) (jv 3)) (jb_one (js_ret (je_tup (ja_cons jstr (ja_cons (jv 2) ja_nil))))) jb_nil)
    (jb_cons (js_if (jtv (jcall (f_is_ahead Z) (hr.mono (by decide)) (ja_cons (jv 2) (ja_cons (jv 3) ja_nil)))) (jb_one (js_ret (je_tup (ja_cons jstr (ja_cons (je_tup (ja_cons (jv 2) (ja_cons (jv 3) ja_nil))) ja_nil))))) jb_nil)
    (jb_one (js_ret jnon))))))))))
    fun ds M Q el h => rd_meeting_in_line ds M Q h
theorem sc_meeting : FnScope N_meeting ["one", "other"] d_meeting.scope := ⟨rfl, rfl, rfl, by decide +kernel, rfl, by decide +kernel, by decide +kernel⟩
theorem f_meeting (Z : Facts K mg) : Fn P w K mg base CX0 8 "meeting" 2 sp_meeting := by
  obtain ⟨fd, F⟩ := Z.c.def_ 19 (d := d_meeting) rfl
  have nd := sc_meeting.nd
  exact fn_by (ps := ["one", "other"]) F sc_meeting (Z.glo 17) (fun _ _ _ _ _ _ us hl => match us, hl with | [_, _], _ => rfl) (fun cdv A outer s H f E hr =>
    (jb_cons (js_if (jcmpT (jeq (hu64 hr)) (jcall (f_leaning Z) (hr.mono (by decide)) (ja_cons (jcall (f_along Z) (hr.mono (by decide)) (ja_cons (jv 0) ja_nil)) (ja_cons (jcall (f_along Z) (hr.mono (by decide)) (ja_cons (jv 1) ja_nil)) ja_nil))) jint) (jb_one (js_ret (jcall (f_meeting_in_line Z) (hr.mono (by decide)) (ja_cons (jv 0) (ja_cons (jv 1) ja_nil))))) jb_nil)
    (jb_cons (js_set 2 (jcall (f_spot_of_lines Z) (hr.mono (by decide)) (ja_cons (jv 0) (ja_cons (jv 1) ja_nil))) nd)
    (jb_cons (js_if (JW.t (jw_and (jtv (jcall (f_lies_on Z) (hr.mono (by decide)) (ja_cons (jv 0) (ja_cons (jv 2) ja_nil)))) (jw_and1 (jtv (jcall (f_lies_on Z) (hr.mono (by decide)) (ja_cons (jv 1) (ja_cons (jv 2) ja_nil))))))) (jb_one (js_ret (je_tup (ja_cons jstr (ja_cons (jv 2) ja_nil))))) jb_nil)
    (jb_one (js_ret jnon))))))
    fun ds M Q el h => rd_meeting ds M Q h
theorem sc_is_fair : FnScope N_is_fair ["one", "other"] d_is_fair.scope := ⟨rfl, rfl, rfl, by decide +kernel, rfl, by decide +kernel, by decide +kernel⟩
theorem f_is_fair (Z : Facts K mg) : Fn P w K mg base CX0 9 "is_fair" 2 sp_is_fair := by
  obtain ⟨fd, F⟩ := Z.c.def_ 20 (d := d_is_fair) rfl
  have nd := sc_is_fair.nd
  exact fn_by (ps := ["one", "other"]) F sc_is_fair (Z.glo 18) (fun _ _ _ _ _ _ us hl => match us, hl with | [_, _], _ => rfl) (fun cdv A outer s H f E hr =>
    (jb_cons (js_set 2 (jcall (f_meeting Z) (hr.mono (by decide)) (ja_cons (jv 0) (ja_cons (jv 1) ja_nil))) nd)
    (jb_cons (js_if (jcmpT jis (jv 2) jnon) (jb_one (js_ret jbl)) jb_nil)
    (jb_one (js_ret (je_and (jcmp (jeq (hu64 hr)) (jix (jv 2) jint) jstr) (je_and (jcmp (jin (hu65 hr)) (jix (jv 2) jint) (jv 0)) (je_one (jcmp (jin (hu65 hr)) (jix (jv 2) jint) (jv 1))))))))))
    fun ds M Q el h => rd_is_fair ds M Q h
theorem sc_unfair_with : FnScope N_unfair_with ["walls", "wall"] d_unfair_with.scope := ⟨rfl, rfl, rfl, by decide +kernel, rfl, by decide +kernel, by decide +kernel⟩
theorem f_unfair_with (Z : Facts K mg) : Fn P w K mg base CX0 10 "unfair_with" 2 sp_unfair_with := by
  obtain ⟨fd, F⟩ := Z.c.def_ 21 (d := d_unfair_with) rfl
  have nd := sc_unfair_with.nd
  exact fn_by (ps := ["walls", "wall"]) F sc_unfair_with (Z.glo 19) (fun _ _ _ _ _ _ us hl => match us, hl with | [_, _], _ => rfl) (fun cdv A outer s H f E hr =>
    (jb_cons (js_for PassesOwn.never (ji_enum Z.free_enumerate (ja_cons (jv 0) ja_nil)) (jgtu (n := 2) (jgs_cons (jgn 2 nd) (jgs_cons (jgn 3 nd) jgs_nil))) (jb_one (js_if (jt_not (jtv (jcall (f_is_fair Z) (hr.mono (by decide)) (ja_cons (jv 1) (ja_cons (jv 3) ja_nil))))) (jb_one (js_ret (jv 2))) jb_nil)))
    (jb_one (js_ret jnon))))
    fun ds M Q el h => rd_unfair_with ds M Q h
theorem sc_plot_of : FnScope N_plot_of ["walls"] d_plot_of.scope := ⟨rfl, rfl, rfl, by decide +kernel, rfl, by decide +kernel, by decide +kernel⟩
theorem f_plot_of (Z : Facts K mg) : Fn P w K mg base CX0 11 "plot_of" 1 sp_plot_of := by
  obtain ⟨fd, F⟩ := Z.c.def_ 22 (d := d_plot_of) rfl
  have nd := sc_plot_of.nd
  exact fn_by (ps := ["walls"]) F sc_plot_of (Z.glo 20) (fun _ _ _ _ _ _ us hl => match us, hl with | [_], _ => rfl) (fun cdv A outer s H f E hr =>
    (jb_cons (js_if (jcmpT jgt (jcb jlen PySem.boot_len Z.free_len (ja_cons (jv 0) ja_nil)) (jglob rfl Z.c_MOST_WALLS fun _ => rp_int.mpr rfl)) (jb_one js_never) jb_nil)
    (jb_cons (js_for PassesOwn.never (ji_enum Z.free_enumerate (ja_cons (jv 0) ja_nil)) (jgtu (n := 2) (jgs_cons (jgn 1 nd) (jgs_cons (jgn 2 nd) jgs_nil))) (jb_cons (js_set 3 (jcall (f_unfair_with Z) (hr.mono (by decide)) (ja_cons (jsl (jv 0) jp_none (jp_some (jv 1))) (ja_cons (jv 2) ja_nil))) nd)
    (jb_one (js_if (jcmpT jisnot (jv 3) jnon) (jb_one js_never) jb_nil))))
    (jb_one (js_ret (jct jtup PyProof.Rows.boot_tuple Z.free_tuple (ja_cons (jv 0) ja_nil)))))))
    fun ds M Q el h => rd_plot_of ds M Q h
theorem sc_cuts_of : FnScope N_cuts_of ["walls", "wall"] d_cuts_of.scope := ⟨rfl, rfl, rfl, by decide +kernel, rfl, by decide +kernel, by decide +kernel⟩
theorem f_cuts_of (Z : Facts K mg) : Fn P w K mg base CX0 9 "cuts_of" 2 sp_cuts_of := by
  obtain ⟨fd, F⟩ := Z.c.def_ 23 (d := d_cuts_of) rfl
  have nd := sc_cuts_of.nd
  exact fn_by (ps := ["walls", "wall"]) F sc_cuts_of (Z.glo 21) (fun _ _ _ _ _ _ us hl => match us, hl with | [_, _], _ => rfl) (fun cdv A outer s H f E hr =>
    (jb_cons (js_set 2 (je_lst ja_nil) nd)
    (jb_cons (js_for PassesOwn.never (ji_list (jv 0)) (jgn 3 nd) (jb_cons (js_for PassesOwn.never (ji_tup (jv 3)) (jgn 4 nd) (jb_one (js_if (jtv (jcall (f_lies_on Z) (hr.mono (by decide)) (ja_cons (jv 1) (ja_cons (jv 4) ja_nil)))) (jb_one (js_expr (jcall (f_put_in_row Z) (hr.mono (by decide)) (ja_cons (jv 2) (ja_cons (jv 4) ja_nil))))) jb_nil)))
    (jb_cons (js_set 5 (jcall (f_meeting Z) (hr.mono (by decide)) (ja_cons (jv 1) (ja_cons (jv 3) ja_nil))) nd)
    (jb_one (js_if (JW.t (jw_and (jcmpT jisnot (jv 5) jnon) (jw_and1 (jcmpT (jeq (hu64 hr)) (jix (jv 5) jint) jstr)))) (jb_one (js_expr (jcall (f_put_in_row Z) (hr.mono (by decide)) (ja_cons (jv 2) (ja_cons (jix (jv 5) jint) ja_nil))))) jb_nil)))))
    (jb_one (js_ret (jv 2))))))
    fun ds M Q el h => rd_cuts_of ds M Q h
theorem sc_is_sooner : FnScope N_is_sooner ["one", "other"] d_is_sooner.scope := ⟨rfl, rfl, rfl, by decide +kernel, rfl, by decide +kernel, by decide +kernel⟩
theorem f_is_sooner (Z : Facts K mg) : Fn P w K mg base CX0 3 "is_sooner" 2 sp_is_sooner := by
  obtain ⟨fd, F⟩ := Z.c.def_ 24 (d := d_is_sooner) rfl
  have nd := sc_is_sooner.nd
  exact fn_by (ps := ["one", "other"]) F sc_is_sooner (Z.glo 22) (fun _ _ _ _ _ _ us hl => match us, hl with | [_, _], _ => rfl) (fun cdv A outer s H f E hr =>
    (jb_cons (js_if (jcmpT (jne (hu64 hr)) (jix (jv 0) jint) (jix (jv 1) jint)) (jb_one (js_ret (jcall (f_is_ahead Z) (hr.mono (by decide)) (ja_cons (jix (jv 0) jint) (ja_cons (jix (jv 1) jint) ja_nil))))) jb_nil)
    (jb_one (js_ret (jcall (f_is_ahead Z) (hr.mono (by decide)) (ja_cons (jix (jv 0) jint) (ja_cons (jix (jv 1) jint) ja_nil)))))))
    fun ds M Q el h => rd_is_sooner ds M Q h
theorem sc_put_wall : FnScope N_put_wall ["walls", "wall"] d_put_wall.scope := ⟨rfl, rfl, rfl, by decide +kernel, rfl, by decide +kernel, by decide +kernel⟩
theorem f_put_wall (Z : Facts K mg) : Fn P w K mg base CX0 4 "put_wall" 2 sp_put_wall := by
  obtain ⟨fd, F⟩ := Z.c.def_ 25 (d := d_put_wall) rfl
  have nd := sc_put_wall.nd
  exact fn_by (ps := ["walls", "wall"]) F sc_put_wall (Z.glo 23) (fun _ _ _ _ _ _ us hl => match us, hl with | [_, _], _ => rfl) (fun cdv A outer s H f E hr =>
    (jb_cons (js_set 2 jint nd)
    (jb_cons (js_while PassesOwn.never (JW.t (jw_and (jcmpT jlt (jv 2) (jcb jlen PySem.boot_len Z.free_len (ja_cons (jv 0) ja_nil))) (jw_and1 (jtv (jcall (f_is_sooner Z) (hr.mono (by decide)) (ja_cons (jix (jv 0) (jv 2)) (ja_cons (jv 1) ja_nil))))))) (jb_one (js_set 2 (jop jadd (jv 2) jint) nd)))
    (jb_one (js_if (jcmpT (jne (hu64 hr)) (jsl (jv 0) (jp_some (jv 2)) (jp_some (jop jadd (jv 2) jint))) (je_lst (ja_cons (jv 1) ja_nil))) (jb_one (js_expr (jml PySem.F.slot_list_insert PySem.F.type_list_insert jins (jv 0) (ja_cons (jv 2) (ja_cons (jv 1) ja_nil))))) jb_nil)))))
    fun ds M Q el h => rd_put_wall ds M Q h
theorem sc_parted : FnScope N_parted ["walls"] d_parted.scope := ⟨rfl, rfl, rfl, by decide +kernel, rfl, by decide +kernel, by decide +kernel⟩
theorem f_parted (Z : Facts K mg) : Fn P w K mg base CX0 10 "parted" 1 sp_parted := by
  obtain ⟨fd, F⟩ := Z.c.def_ 26 (d := d_parted) rfl
  have nd := sc_parted.nd
  exact fn_by (ps := ["walls"]) F sc_parted (Z.glo 24) (fun _ _ _ _ _ _ us hl => match us, hl with | [_], _ => rfl) (fun cdv A outer s H f E hr =>
    (jb_cons (js_set 1 (je_lst ja_nil) nd)
    (jb_cons (js_for PassesOwn.never (ji_list (jv 0)) (jgn 2 nd) (jb_cons (js_set 3 (jcall (f_cuts_of Z) (hr.mono (by decide)) (ja_cons (jv 0) (ja_cons (jv 2) ja_nil))) nd)
    (jb_one (js_forZ PassesOwn.never Z.free_zip (ja_cons (jv 3) (ja_cons (jsl (jv 3) (jp_some jint) jp_none) ja_nil)) (jgn 4 nd) (jb_one (js_expr (jcall (f_put_wall Z) (hr.mono (by decide)) (ja_cons (jv 1) (ja_cons (jv 4) ja_nil)))))))))
    (jb_cons (js_if (jcmpT jgt (jcb jlen PySem.boot_len Z.free_len (ja_cons (jv 1) ja_nil)) (jglob rfl Z.c_MOST_WALLS fun _ => rp_int.mpr rfl)) (jb_one js_never) jb_nil)
    (jb_one (js_ret (jct jtup PyProof.Rows.boot_tuple Z.free_tuple (ja_cons (jv 1) ja_nil))))))))
    fun ds M Q el h => rd_parted ds M Q h
theorem sc_lw_cell_at : FnScope N_lw_cell_at ["_law_script", "_law_k"] d_lw_cell_at.scope := ⟨rfl, rfl, rfl, by decide +kernel, rfl, by decide +kernel, by decide +kernel⟩
theorem f_lw_cell_at (Z : Facts K mg) : Fn P w K mg base CX0 1 "_law_cell_at" 2 sp_lw_cell_at := by
  obtain ⟨fd, F⟩ := Z.c.def_ 27 (d := d_lw_cell_at) rfl
  have nd := sc_lw_cell_at.nd
  exact fn_by (ps := ["_law_script", "_law_k"]) F sc_lw_cell_at (Z.glo 25) (fun _ _ _ _ _ _ us hl => match us, hl with | [_, _], _ => rfl) (fun cdv A outer s H f E hr =>
    (jb_cons (js_if (jcmpT jlt (jv 1) (jcb jlen PySem.boot_len Z.free_len (ja_cons (jv 0) ja_nil))) (jb_one (js_ret (jix (jv 0) (jv 1)))) jb_nil)
    (jb_one (js_ret jint))))
    fun ds M Q el h => rd_lw_cell_at ds M Q h
theorem sc_lw_take : FnScope N_lw_take ["_law_row", "_law_base"] d_lw_take.scope := ⟨rfl, rfl, rfl, by decide +kernel, rfl, by decide +kernel, by decide +kernel⟩
theorem f_lw_take (Z : Facts K mg) : Fn P w K mg base CX0 1 "_law_take" 2 sp_lw_take := by
  obtain ⟨fd, F⟩ := Z.c.def_ 28 (d := d_lw_take) rfl
  have nd := sc_lw_take.nd
  exact fn_by (ps := ["_law_row", "_law_base"]) F sc_lw_take (Z.glo 26) (fun _ _ _ _ _ _ us hl => match us, hl with | [_, _], _ => rfl) (fun cdv A outer s H f E hr =>
    (jb_cons (js_subl (jop jadd (jix (jv 0) jint) jint) (jv 0) jint)
    (jb_cons (js_if (jcmpT jge (jix (jv 0) jint) (jop jpow jint jint)) (jb_cons (js_set 2 (jop jsub (jix (jv 0) jint) (jop jpow jint jint)) nd)
    (jb_cons (js_subl (jop jadd (jop jpow jint jint) (jop jdiv (jv 2) (jv 1))) (jv 0) jint)
    (jb_one (js_ret (jop jmod (jv 2) (jv 1)))))) jb_nil)
    (jb_cons (js_set 3 (jop jmod (jop jadd (jop jadd (jop jadd (jop jmul (jix (jv 0) jint) jint) (jop jmul (jop jmul jint (jix (jv 0) jint)) (jix (jv 0) jint))) (jop jmul jint (jix (jv 0) jint))) jint) jint) nd)
    (jb_cons (js_set 3 (jop jmod (jop jadd (jop jadd (jop jmul (jv 3) (jv 3)) (jop jmul jint (jv 3))) (jix (jv 0) jint)) jint) nd)
    (jb_one (js_ret (jop jmod (jop jdiv (jv 3) jint) (jv 1)))))))))
    fun ds M Q el h => rd_lw_take ds M Q h
theorem sc_lw_low : FnScope N_lw_low ["_law_top", "_law_bottom"] d_lw_low.scope := ⟨rfl, rfl, rfl, by decide +kernel, rfl, by decide +kernel, by decide +kernel⟩
theorem f_lw_low (Z : Facts K mg) : Fn P w K mg base CX0 1 "_law_low" 2 sp_lw_low := by
  obtain ⟨fd, F⟩ := Z.c.def_ 29 (d := d_lw_low) rfl
  have nd := sc_lw_low.nd
  exact fn_by (ps := ["_law_top", "_law_bottom"]) F sc_lw_low (Z.glo 27) (fun _ _ _ _ _ _ us hl => match us, hl with | [_, _], _ => rfl) (fun cdv A outer s H f E hr =>
    (jb_cons (js_set 2 (jcb jabs PyProof.Rows.boot_abs Z.free_abs (ja_cons (jv 0) ja_nil)) nd)
    (jb_cons (js_set 3 (jcb jabs PyProof.Rows.boot_abs Z.free_abs (ja_cons (jv 1) ja_nil)) nd)
    (jb_cons (js_while PassesOwn.never (jcmpT (jne (hu64 hr)) (jv 3) jint) (jb_one (js_par 2 3 nd (ja_cons (jv 3) (ja_cons (jop jmod (jv 2) (jv 3)) ja_nil)))))
    (jb_cons (js_if (jcmpT jlt (jv 1) jint) (jb_one (js_set 2 (jun jneg (jv 2)) nd)) jb_nil)
    (jb_one (js_ret (je_tup (ja_cons (jop jdiv (jv 0) (jv 2)) (ja_cons (jop jdiv (jv 1) (jv 2)) ja_nil))))))))))
    fun ds M Q el h => rd_lw_low ds M Q h
theorem sc_lw_scale : FnScope N_lw_scale ["_law_row"] d_lw_scale.scope := ⟨rfl, rfl, rfl, by decide +kernel, rfl, by decide +kernel, by decide +kernel⟩
theorem f_lw_scale (Z : Facts K mg) : Fn P w K mg base CX0 2 "_law_scale" 1 sp_lw_scale := by
  obtain ⟨fd, F⟩ := Z.c.def_ 30 (d := d_lw_scale) rfl
  have nd := sc_lw_scale.nd
  exact fn_by (ps := ["_law_row"]) F sc_lw_scale (Z.glo 28) (fun _ _ _ _ _ _ us hl => match us, hl with | [_], _ => rfl) (fun cdv A outer s H f E hr =>
    (jb_cons (js_par 1 2 nd (ja_cons (jop jadd jint (jcall (f_lw_take Z) (hr.mono (by decide)) (ja_cons (jv 0) (ja_cons jint ja_nil)))) (ja_cons (jop jadd jint (jcall (f_lw_take Z) (hr.mono (by decide)) (ja_cons (jv 0) (ja_cons jint ja_nil)))) ja_nil)))
    (jb_cons (js_if (jcmpT (jeq (hu64 hr)) (jcall (f_lw_take Z) (hr.mono (by decide)) (ja_cons (jv 0) (ja_cons jint ja_nil))) jint) (jb_one (js_par 1 2 nd (ja_cons (jop jadd jint (jcall (f_lw_take Z) (hr.mono (by decide)) (ja_cons (jv 0) (ja_cons (jop jpow jint jint) ja_nil)))) (ja_cons (jop jadd jint (jcall (f_lw_take Z) (hr.mono (by decide)) (ja_cons (jv 0) (ja_cons (jop jpow jint jint) ja_nil)))) ja_nil)))) jb_nil)
    (jb_cons (js_set 3 (jix (je_lst (ja_cons jint (ja_cons (jop jpow jint jint) ja_nil))) (jct jintc PyProof.Rows.boot_int Z.free_int (ja_cons (jcmp (jeq (hu64 hr)) (jcall (f_lw_take Z) (hr.mono (by decide)) (ja_cons (jv 0) (ja_cons jint ja_nil))) jint) ja_nil))) nd)
    (jb_one (js_ret (je_tup (ja_cons (jv 1) (ja_cons (jv 2) (ja_cons (jop jmul (jv 3) (jop jsub (jcall (f_lw_take Z) (hr.mono (by decide)) (ja_cons (jv 0) (ja_cons jint ja_nil))) jint)) (ja_cons (jop jmul (jv 3) (jop jsub (jcall (f_lw_take Z) (hr.mono (by decide)) (ja_cons (jv 0) (ja_cons jint ja_nil))) jint)) ja_nil)))))))))))
    fun ds M Q el h => rd_lw_scale ds M Q h
theorem sc_lw_spot : FnScope N_lw_spot ["_law_scale_here", "_law_unit"] d_lw_spot.scope := ⟨rfl, rfl, rfl, by decide +kernel, rfl, by decide +kernel, by decide +kernel⟩
theorem f_lw_spot (Z : Facts K mg) : Fn P w K mg base CX0 2 "_law_spot" 2 sp_lw_spot := by
  obtain ⟨fd, F⟩ := Z.c.def_ 31 (d := d_lw_spot) rfl
  have nd := sc_lw_spot.nd
  exact fn_by (ps := ["_law_scale_here", "_law_unit"]) F sc_lw_spot (Z.glo 29) (fun _ _ _ _ _ _ us hl => match us, hl with | [_, _], _ => rfl) (fun cdv A outer s H f E hr =>
    (jb_cons (js_asg (jv 0) (jgtu (n := 4) (jgs_cons (jgn 2 nd) (jgs_cons (jgn 3 nd) (jgs_cons (jgn 4 nd) (jgs_cons (jgn 5 nd) jgs_nil))))))
    (jb_one (js_ret (je_tup (ja_cons (jcall (f_lw_low Z) (hr.mono (by decide)) (ja_cons (jop jadd (jop jmul (jix (jv 1) jint) (jv 2)) (jv 4)) (ja_cons (jv 3) ja_nil))) (ja_cons (jcall (f_lw_low Z) (hr.mono (by decide)) (ja_cons (jop jadd (jop jmul (jix (jv 1) jint) (jv 2)) (jv 5)) (ja_cons (jv 3) ja_nil))) ja_nil)))))))
    fun ds M Q el h => rd_lw_spot ds M Q h
theorem sc_lw_made : FnScope N_lw_made ["_law_scale_here", "_law_shuts"] d_lw_made.scope := ⟨rfl, rfl, rfl, by decide +kernel, rfl, by decide +kernel, by decide +kernel⟩
theorem f_lw_made (Z : Facts K mg) : Fn P w K mg base CX0 3 "_law_made" 2 sp_lw_made := by
  obtain ⟨fd, F⟩ := Z.c.def_ 32 (d := d_lw_made) rfl
  have nd := sc_lw_made.nd
  exact fn_by (ps := ["_law_scale_here", "_law_shuts"]) F sc_lw_made (Z.glo 30) (fun _ _ _ _ _ _ us hl => match us, hl with | [_, _], _ => rfl) (fun cdv A outer s H f E hr =>
    (jb_one (js_ret (jct jtup PyProof.Rows.boot_tuple Z.free_tuple (ja_cons (jlc nd (blkOk_by (N := N_lw_made) (sc := d_lw_made.scope) (own := [("_law_first", 2), ("_law_second", 3)]) (by decide +kernel)) (ji_list (jv 1)) (by decide) (fun _ _ _ _ _ => (jgtu (n := 2) (jgs_cons (jgn 2 nd) (jgs_cons (jgn 3 nd) jgs_nil)))) (fun _ _ _ _ _ => jts_nil) (fun _ _ _ _ _ => (je_tup (ja_cons (jcall (f_lw_spot Z) (hr.mono (by decide)) (ja_cons (jv 0) (ja_cons (jv 2) ja_nil))) (ja_cons (jcall (f_lw_spot Z) (hr.mono (by decide)) (ja_cons (jv 0) (ja_cons (jv 3) ja_nil))) ja_nil))))) ja_nil)))))
    fun ds M Q el h => rd_lw_made ds M Q h
theorem sc_lw_any : FnScope N_lw_any ["_law_row", "_law_most", "_law_size"] d_lw_any.scope := ⟨rfl, rfl, rfl, by decide +kernel, rfl, by decide +kernel, by decide +kernel⟩
theorem f_lw_any (Z : Facts K mg) : Fn P w K mg base CX0 2 "_law_any" 3 sp_lw_any := by
  obtain ⟨fd, F⟩ := Z.c.def_ 33 (d := d_lw_any) rfl
  have nd := sc_lw_any.nd
  exact fn_by (ps := ["_law_row", "_law_most", "_law_size"]) F sc_lw_any (Z.glo 31) (fun _ _ _ _ _ _ us hl => match us, hl with | [_, _, _], _ => rfl) (fun cdv A outer s H f E hr =>
    (jb_cons (js_set 3 (je_lst ja_nil) nd)
    (jb_cons (js_for PassesOwn.never (ji_rng1 Z.free_range (ja_cons (jcall (f_lw_take Z) (hr.mono (by decide)) (ja_cons (jv 0) (ja_cons (jop jadd (jv 1) jint) ja_nil))) ja_nil)) (jgn 4 nd) (jb_cons (js_set 5 (je_tup (ja_cons (jcall (f_lw_take Z) (hr.mono (by decide)) (ja_cons (jv 0) (ja_cons (jv 2) ja_nil))) (ja_cons (jcall (f_lw_take Z) (hr.mono (by decide)) (ja_cons (jv 0) (ja_cons (jv 2) ja_nil))) ja_nil))) nd)
    (jb_cons (js_set 6 (je_tup (ja_cons (jcall (f_lw_take Z) (hr.mono (by decide)) (ja_cons (jv 0) (ja_cons (jv 2) ja_nil))) (ja_cons (jcall (f_lw_take Z) (hr.mono (by decide)) (ja_cons (jv 0) (ja_cons (jv 2) ja_nil))) ja_nil))) nd)
    (jb_cons (js_if (JW.t (jw_and (jcmpT (jne (hu64 hr)) (jv 3) (je_lst ja_nil)) (jw_and1 (jcmpT (jeq (hu64 hr)) (jcall (f_lw_take Z) (hr.mono (by decide)) (ja_cons (jv 0) (ja_cons jint ja_nil))) jint)))) (jb_one (js_set 5 (jix (jix (jv 3) (jcall (f_lw_take Z) (hr.mono (by decide)) (ja_cons (jv 0) (ja_cons (jcb jlen PySem.boot_len Z.free_len (ja_cons (jv 3) ja_nil)) ja_nil)))) (jcall (f_lw_take Z) (hr.mono (by decide)) (ja_cons (jv 0) (ja_cons jint ja_nil)))) nd)) jb_nil)
    (jb_cons (js_if (jcmpT (jeq (hu64 hr)) (jv 5) (jv 6)) (jb_one (js_set 6 (je_tup (ja_cons (jop jadd (jop jadd (jix (jv 5) jint) jint) (jcall (f_lw_take Z) (hr.mono (by decide)) (ja_cons (jv 0) (ja_cons jint ja_nil)))) (ja_cons (jix (jv 5) jint) ja_nil))) nd)) jb_nil)
    (jb_one (js_expr (jml PySem.F.slot_list_append PySem.F.type_list_append japp (jv 3) (ja_cons (je_tup (ja_cons (jcb (jminD (hu64 hr) rfl) PyProof.Rows.boot_min Z.free_min (ja_cons (jv 5) (ja_cons (jv 6) ja_nil))) (ja_cons (jcb (jmaxD (hu64 hr) rfl) PyProof.Rows.boot_max Z.free_max (ja_cons (jv 5) (ja_cons (jv 6) ja_nil))) ja_nil))) ja_nil)))))))))
    (jb_cons (js_if (JW.t (jw_and (jcmpT (jne (hu64 hr)) (jv 3) (je_lst ja_nil)) (jw_and1 (jcmpT (jeq (hu64 hr)) (jcall (f_lw_take Z) (hr.mono (by decide)) (ja_cons (jv 0) (ja_cons jint ja_nil))) jint)))) (jb_one (js_expr (jml PySem.F.slot_list_append PySem.F.type_list_append japp (jv 3) (ja_cons (jix (jv 3) (jcall (f_lw_take Z) (hr.mono (by decide)) (ja_cons (jv 0) (ja_cons (jcb jlen PySem.boot_len Z.free_len (ja_cons (jv 3) ja_nil)) ja_nil)))) ja_nil)))) jb_nil)
    (jb_one (js_ret (jv 3)))))))
    fun ds M Q el h => rd_lw_any ds M Q h
theorem sc_lw_spots : FnScope N_lw_spots ["_law_row", "_law_scale_here", "_law_shuts"] d_lw_spots.scope := ⟨rfl, rfl, rfl, by decide +kernel, rfl, by decide +kernel, by decide +kernel⟩
theorem f_lw_spots (Z : Facts K mg) : Fn P w K mg base CX0 2 "_law_spots" 3 sp_lw_spots := by
  obtain ⟨fd, F⟩ := Z.c.def_ 34 (d := d_lw_spots) rfl
  have nd := sc_lw_spots.nd
  exact fn_by (ps := ["_law_row", "_law_scale_here", "_law_shuts"]) F sc_lw_spots (Z.glo 32) (fun _ _ _ _ _ _ us hl => match us, hl with | [_, _, _], _ => rfl) (fun cdv A outer s H f E hr =>
    (jb_cons (js_setlc 3 nd (sw_true rfl rfl rfl (by decide +kernel)) (blkOk_by (N := N_lw_spots) (sc := d_lw_spots.scope) (own := [("_law_turn", 4)]) (by decide +kernel)) (ji_rng1 Z.free_range (ja_cons jint ja_nil)) (by decide) (fun _ _ _ _ _ => (jgn 4 nd)) (fun _ _ _ _ _ => jts_nil) (fun _ _ _ _ _ => (je_tup (ja_cons (jcall (f_lw_take Z) (hr.mono (by decide)) (ja_cons (jv 0) (ja_cons jint ja_nil))) (ja_cons (jcall (f_lw_take Z) (hr.mono (by decide)) (ja_cons (jv 0) (ja_cons jint ja_nil))) (ja_cons jint ja_nil))))))
    (jb_cons (js_for PassesOwn.never (ji_list (jv 2)) (jgtu (n := 2) (jgs_cons (jgn 5 nd) (jgs_cons (jgn 6 nd) jgs_nil))) (jb_cons (js_set 7 (jop jadd jint (jcall (f_lw_take Z) (hr.mono (by decide)) (ja_cons (jv 0) (ja_cons jint ja_nil)))) nd)
    (jb_cons (js_set 8 (jcall (f_lw_take Z) (hr.mono (by decide)) (ja_cons (jv 0) (ja_cons (jop jadd (jv 7) jint) ja_nil))) nd)
    (jb_cons (js_set 9 (jop jadd (jop jmul (jix (jv 5) jint) (jop jsub (jv 7) (jv 8))) (jop jmul (jix (jv 6) jint) (jv 8))) nd)
    (jb_cons (js_set 10 (jop jadd (jop jmul (jix (jv 5) jint) (jop jsub (jv 7) (jv 8))) (jop jmul (jix (jv 6) jint) (jv 8))) nd)
    (jb_one (js_expr (jml PySem.F.slot_list_append PySem.F.type_list_append japp (jv 3) (ja_cons (je_tup (ja_cons (jv 9) (ja_cons (jop jadd (jv 10) (jct jintc PyProof.Rows.boot_int Z.free_int (ja_cons (jcmp (jeq (hu64 hr)) (jcall (f_lw_take Z) (hr.mono (by decide)) (ja_cons (jv 0) (ja_cons jint ja_nil))) jint) ja_nil))) (ja_cons (jv 7) ja_nil)))) ja_nil)))))))))
    (jb_cons (js_asg (jv 1) (jgtu (n := 4) (jgs_cons (jgn 11 nd) (jgs_cons (jgn 12 nd) (jgs_cons (jgn 13 nd) (jgs_cons (jgn 14 nd) jgs_nil))))))
    (jb_one (js_ret (jlc nd (blkOk_by (N := N_lw_spots) (sc := d_lw_spots.scope) (own := [("_law_x", 9), ("_law_y", 10), ("_law_n", 15)]) (by decide +kernel)) (ji_list (jv 3)) (by decide) (fun _ _ _ _ _ => (jgtu (n := 3) (jgs_cons (jgn 9 nd) (jgs_cons (jgn 10 nd) (jgs_cons (jgn 15 nd) jgs_nil))))) (fun _ _ _ _ _ => jts_nil) (fun _ _ _ _ _ => (je_tup (ja_cons (jcall (f_lw_low Z) (hr.mono (by decide)) (ja_cons (jop jadd (jop jmul (jv 9) (jv 11)) (jop jmul (jv 13) (jv 15))) (ja_cons (jop jmul (jv 12) (jv 15)) ja_nil))) (ja_cons (jcall (f_lw_low Z) (hr.mono (by decide)) (ja_cons (jop jadd (jop jmul (jv 10) (jv 11)) (jop jmul (jv 14) (jv 15))) (ja_cons (jop jmul (jv 12) (jv 15)) ja_nil))) ja_nil)))))))))))
    fun ds M Q el h => rd_lw_spots ds M Q h
theorem sc_lw_covered : FnScope N_lw_covered ["_law_shuts", "_law_spot_here"] d_lw_covered.scope := ⟨rfl, rfl, rfl, by decide +kernel, rfl, by decide +kernel, by decide +kernel⟩
theorem f_lw_covered (Z : Facts K mg) : Fn P w K mg base CX0 8 "_law_covered" 2 sp_lw_covered := by
  obtain ⟨fd, F⟩ := Z.c.def_ 35 (d := d_lw_covered) rfl
  have nd := sc_lw_covered.nd
  exact fn_by (ps := ["_law_shuts", "_law_spot_here"]) F sc_lw_covered (Z.glo 33) (fun _ _ _ _ _ _ us hl => match us, hl with | [_, _], _ => rfl) (fun cdv A outer s H f E hr =>
    (jb_one (js_ret (jcmp (jin (hu65 hr)) jbl (jlc nd (blkOk_by (N := N_lw_covered) (sc := d_lw_covered.scope) (own := [("_law_shut", 2)]) (by decide +kernel)) (ji_seq (jv 0)) (by decide) (fun _ _ _ _ _ => (jgn 2 nd)) (fun _ _ _ _ _ => jts_nil) (fun _ _ _ _ _ => (jcall (f_lies_on Z) (hr.mono (by decide)) (ja_cons (jv 2) (ja_cons (jv 1) ja_nil)))))))))
    fun ds M Q el h => rd_lw_covered ds M Q h
theorem sc_law : FnScope N_law ["_law_script"] d_law.scope := ⟨rfl, rfl, rfl, by decide +kernel, rfl, by decide +kernel, by decide +kernel⟩
theorem facts {h : Heap} {f : Addr} (X : K.In h) (G : h.Ns mainGlobals mg) (hfa : mg ("law" : Str) = some (.ref f)) (c : He.SaysD faL fnL K) :
    ∃ fd : FuncData, (∀ (s : Shared) (v : Value), BindsTo s fd ⟨[v], []⟩ [("_law_script", v)]) ∧ ∀ base : Heap, K.In base → base.Ns mainGlobals mg → FnOk P w K mg base CX0 12 f fd ["_law_script"] (lift ⟨K, P, w⟩ 1 sp_law) := by
  have Z : Facts K mg := ⟨c, h, X, G⟩
  obtain ⟨fd, F⟩ := c.def_ 36 (d := d_law) rfl
  have nd := sc_law.nd
  have e := hfa.symm.trans (Z.glo 34)
  cases e
  have b := FunD.bindsA (ps := ["_law_script"]) F fun _ _ _ _ _ _ us hl => match us, hl with | [_], _ => rfl
  exact ⟨fd, fun s v => b s [v] rfl, fun base _ _ => fn_ok (ps := ["_law_script"]) F sc_law (fun cdv A outer s H f E hr =>
    (jb_cons (js_for PassesOwn.never (ji_rng1 Z.free_range (ja_cons (jcb (jmax rfl) PyProof.Rows.boot_max Z.free_max (ja_cons jint (ja_cons (jcb (jmin rfl) PyProof.Rows.boot_min Z.free_min (ja_cons jint (ja_cons (jcb jlen PySem.boot_len Z.free_len (ja_cons (jv 0) ja_nil)) ja_nil))) ja_nil))) ja_nil)) (jgn 1 nd) (jb_cons (js_set 2 (je_lst (ja_cons (jcall (f_lw_cell_at Z) (hr.mono (by decide)) (ja_cons (jv 0) (ja_cons (jv 1) ja_nil))) (ja_cons jint ja_nil))) nd)
    (jb_cons (js_set 3 (jcall (f_lw_scale Z) (hr.mono (by decide)) (ja_cons (jv 2) ja_nil)) nd)
    (jb_cons (js_set 4 (jcall (f_lw_any Z) (hr.mono (by decide)) (ja_cons (jv 2) (ja_cons jint (ja_cons jint ja_nil)))) nd)
    (jb_cons (js_set 5 (jct jlist PyProof.Rows.boot_list Z.free_list (ja_cons (jcall (f_lw_made Z) (hr.mono (by decide)) (ja_cons (jv 3) (ja_cons (jv 4) ja_nil))) ja_nil)) nd)
    (jb_cons (js_set 6 (jcall (f_parted Z) (hr.mono (by decide)) (ja_cons (jv 5) ja_nil)) nd)
    (jb_cons (js_if (JW.t (jw_or (jcmpT (jne (hu64 hr)) (jcall (f_plot_of Z) (hr.mono (by decide)) (ja_cons (jct jlist PyProof.Rows.boot_list Z.free_list (ja_cons (jv 6) ja_nil)) ja_nil)) (jv 6)) (jw_or1 (JW.t (jw_and (jcmpT jlt (jcb jlen PySem.boot_len Z.free_len (ja_cons (jv 6) ja_nil)) jint) (jw_and1 (jcmpT (jne (hu64 hr)) (jcall (f_parted Z) (hr.mono (by decide)) (ja_cons (jct jlist PyProof.Rows.boot_list Z.free_list (ja_cons (jv 6) ja_nil)) ja_nil)) (jv 6)))))))) (jb_one (js_ret jbl)) jb_nil)
    (jb_one (js_for PassesOwn.never (ji_list (jcall (f_lw_spots Z) (hr.mono (by decide)) (ja_cons (jv 2) (ja_cons (jv 3) (ja_cons (jv 4) ja_nil))))) (jgn 7 nd) (jb_one (js_if (jcmpT (jne (hu64 hr)) (jcall (f_lw_covered Z) (hr.mono (by decide)) (ja_cons (jv 5) (ja_cons (jv 7) ja_nil))) (jcall (f_lw_covered Z) (hr.mono (by decide)) (ja_cons (jv 6) (ja_cons (jv 7) ja_nil)))) (jb_one (js_ret jbl)) jb_nil)))))))))))
    (jb_one (js_ret jbl))))
    fun ds M Q el h => rd_law ds M Q h⟩
abbrev R : PySem.W.OpenRow := PySem.W.OpenLaw.row PySem.Challenge.rw_spotlook_k12_whole_parted_covers_the_sam
abbrev hk : PySem.W.Hook := He.hookD 5 faL fnL
def ob (s : PySem.W.SharedT) : He.AlD := He.obsDG 5 faL fnL (HandSHeadRun.getT s)
theorem ob_eq (s : PySem.W.SharedT) : ob s = hk.obs s.abs := He.obsDG_eq (HandSHeadRun.getT_eq s)
def names : List Str := (["SpotError", "NoFraction", "TooMany", "Crossing", "divisor", "fraction", "plus", "less", "times", "over", "is_less", "is_ahead", "along", "crossed", "leaning", "side_of", "lies_on", "passed", "put_in_row", "MOST_WALLS", "spot_of_lines", "meeting_in_line", "meeting", "is_fair", "unfair_with"] : List Str) ++ (["plot_of", "cuts_of", "is_sooner", "put_wall", "parted", "_law_cell_at", "_law_take", "_law_low", "_law_scale", "_law_spot", "_law_made", "_law_any", "_law_spots", "_law_covered"] : List Str)
theorem run (w : World) : HandSHeadRun.RunEq R (PySem.W.view R.prog [45]) hk ob 4000 names w := by
  intro os
  kernel_rfl
end Sp
open PySem PySem.W PySem.Calls PyProof.Rows
theorem PySem.Challenge.cw_spotlook_k12_whole_parted_covers_the_sam_holds : PySem.Challenge.rw_spotlook_k12_whole_parted_covers_the_sam.Holds := by
  w_on; o_law
  refine HandSHeadRun.head_any (r := OpenLaw.row PySem.Challenge.rw_spotlook_k12_whole_parted_covers_the_sam) (q := view (OpenLaw.row PySem.Challenge.rw_spotlook_k12_whole_parted_covers_the_sam).prog [45]) (H := Sp.hk) (ob := Sp.ob) (M := 4000) (loose := Sp.names) (d := HandSHeadRun.topDef (OpenLaw.row PySem.Challenge.rw_spotlook_k12_whole_parted_covers_the_sam).prog 45) (kwd := []) Sp.ob_eq
    (by kernel_rfl) (fun s => by kernel_rfl) Sp.run (by kernel_rfl) (by kernel_rfl) (by kernel_rfl) (by rfl) (by first | assumption | decide +kernel) (by decide +kernel) ⟨rfl, rfl, rfl, rfl, rfl, by decide +kernel⟩ ?hw ?hc
  case hw => w_witness2
  case hc =>
    refine MM.walk_ofM (l := PySem.Challenge.rw_spotlook_k12_whole_parted_covers_the_sam) (n := 63) (k := 12) (x := "_law_script") rfl (by decide) (by kernel_rfl) ⟨rfl, by decide, by decide⟩ ?F
    intro w mg fa h Y G hmg0
    obtain ⟨K, KX, c⟩ := Y
    have hmg : mg ("law" : PySem.Str) = some (.ref fa) := by
      have e : (HandSHeadRun.topDef (OpenLaw.row PySem.Challenge.rw_spotlook_k12_whole_parted_covers_the_sam).prog 45).name = ("law" : PySem.Str) := by kernel_rfl
      rw [← e]
      exact hmg0
    obtain ⟨fd, hb, hF⟩ := Sp.facts (P := (PySem.Challenge.rw_spotlook_k12_whole_parted_covers_the_sam).prog) (w := w) KX G hmg c
    exact ⟨K, fd, MM.sp_law, KX, hb, MM.law_in, hF⟩
