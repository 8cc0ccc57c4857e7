import PyProof.Rows.All
import Wide.All
import OpenK.AllK
import Wide.FinOn
import HandS.ForMost
import HandS.Walk
import HandS.Wide
import HandS.WideBits
import HandS.Zip
import HandS.TupAny
import HandS.IsInst
import HandS.Deep
import HandS.Flow
import HandS.Style
import HandS.Exc
import HandS.ExcOwn
import HandS.Defaults
import HandS.EndBits
import HandS.Conv
import HandS.CallSlots
import KE.GoesEnum
import KE.GoesMore
import HandS.Head0
import HandS.Head1
import HandS.Head2
import HandS.HeadEnd
import HandS.HeadHook1
import HandS.HeadHook2
import PySem.Challenge.RW_rootstairs_k13_whole_ends_met_once
set_option Elab.async false
set_option linter.all false
section
set_option maxRecDepth 100000
/-! MP1: data, the store, what they mean over the abstract heap. -/
namespace MP
open PySem PySem.Spec L2

inductive D where
  | non | bl (b : Bool) | int (i : Int) | str (s : Str) | tup (ds : List D) | lsf (ds : List D) | obj (n : Nat)
  deriving Inhabited

mutual
def beqD : D → D → Bool
  | .non, .non => true
  | .bl a, .bl b => a == b
  | .int a, .int b => a == b
  | .str a, .str b => decide (a = b)
  | .tup a, .tup b => beqDs a b
  | .lsf a, .lsf b => beqDs a b
  | .obj a, .obj b => a == b
  | _, _ => false
def beqDs : List D → List D → Bool
  | [], [] => true
  | a :: as, b :: bs => beqD a b && beqDs as bs
  | _, _ => false
end
mutual
theorem beqD_of : ∀ {a b : D}, beqD a b = true → a = b
  | .non, b, h => by cases b <;> simp_all [beqD]
  | .bl _, b, h => by cases b <;> simp_all [beqD]
  | .int _, b, h => by cases b <;> simp_all [beqD]
  | .str _, b, h => by cases b <;> simp_all [beqD]
  | .obj _, b, h => by cases b <;> simp_all [beqD]
  | .tup x, b, h => by
    cases b with
    | tup y => rw [beqDs_of (show beqDs x y = true by simpa [beqD] using h)]
    | _ => simp [beqD] at h
  | .lsf x, b, h => by
    cases b with
    | lsf y => rw [beqDs_of (show beqDs x y = true by simpa [beqD] using h)]
    | _ => simp [beqD] at h
theorem beqDs_of : ∀ {a b : List D}, beqDs a b = true → a = b
  | [], [], _ => rfl
  | [], _ :: _, h => by simp [beqDs] at h
  | _ :: _, [], h => by simp [beqDs] at h
  | x :: xs, y :: ys, h => by
    rw [beqDs, Bool.and_eq_true] at h
    rw [beqD_of h.1, beqDs_of h.2]
end
mutual
theorem beqD_self : ∀ a : D, beqD a a = true
  | .non => rfl
  | .bl _ => by simp [beqD]
  | .int _ => by simp [beqD]
  | .str _ => by simp [beqD]
  | .obj _ => by simp [beqD]
  | .tup x => by rw [beqD]; exact beqDs_self x
  | .lsf x => by rw [beqD]; exact beqDs_self x
theorem beqDs_self : ∀ a : List D, beqDs a a = true
  | [] => rfl
  | x :: xs => by rw [beqDs, beqD_self x, beqDs_self xs]; rfl
end
instance : DecidableEq D := fun a b => if h : beqD a b = true then isTrue (beqD_of h) else isFalse fun e => h (e ▸ beqD_self a)

inductive SO where
  | lst (ds : List D)
  | ins (c : Nat) (fs : List (Str × D))
  deriving Inhabited
abbrev Store := List SO

/-- a list that never changes: locked, or written -/
def FzL (K : PySem.W.Frag) (H : Hp) (a : Addr) (xs : List V) : Prop :=
  (∃ o, H a = some (.frz o (.lst xs))) ∨ ∃ (o : Obj) (its : Array Value) (n : Nat), K.lookup a = some o ∧ o.cls = .type "list" ∧ o.dict = none ∧ o.data = .seq its n ∧ its.size ≤ sizeLine ∧ Vals xs its.toList
theorem FzL.sq {K : PySem.W.Frag} {H : Hp} {a : Addr} {xs : List V} (h : FzL K H a xs) : SqL K H a xs := by
  rcases h with h | h
  · exact .inl (.inr h)
  · exact .inr h

mutual
inductive RV (K : PySem.W.Frag) (α : List Addr) (H : Hp) : D → V → Prop
  | non : RV K α H .non .non
  | bl (b : Bool) : RV K α H (.bl b) (.bl b)
  | int (i : Int) : RV K α H (.int i) (.int i)
  | str (s : Str) : RV K α H (.str s) (.str s)
  | tup {ds : List D} {xs : List V} {a : Addr} (h : SqT K H a xs) (r : RVs K α H ds xs) : RV K α H (.tup ds) (.ref a)
  | lsf {ds : List D} {xs : List V} {a : Addr} (h : FzL K H a xs) (r : RVs K α H ds xs) : RV K α H (.lsf ds) (.ref a)
  | obj {n : Nat} {a : Addr} (h : α[n]? = some a) : RV K α H (.obj n) (.ref a)
inductive RVs (K : PySem.W.Frag) (α : List Addr) (H : Hp) : List D → List V → Prop
  | nil : RVs K α H [] []
  | cons {d : D} {v : V} {ds : List D} {vs : List V} (h : RV K α H d v) (r : RVs K α H ds vs) : RVs K α H (d :: ds) (v :: vs)
end

inductive RFs (K : PySem.W.Frag) (α : List Addr) (H : Hp) : List (Str × D) → List (Str × V) → Prop
  | nil : RFs K α H [] []
  | cons {f : Str} {d : D} {v : V} {ds : List (Str × D)} {vs : List (Str × V)} (h : RV K α H d v) (r : RFs K α H ds vs) : RFs K α H ((f, d) :: ds) ((f, v) :: vs)

/-- an object of the store at an address -/
def RO (K : PySem.W.Frag) (CA : Nat → Option Addr) (α : List Addr) (H : Hp) (a : Addr) : SO → Prop
  | .lst ds => ∃ xs, H a = some (.lst xs) ∧ RVs K α H ds xs
  | .ins c fs => ∃ C dx gs, CA c = some C ∧ H a = some (.ins C dx gs) ∧ RFs K α H fs gs

structure RelS (K : PySem.W.Frag) (CA : Nat → Option Addr) (α : List Addr) (S : Store) (H : Hp) : Prop where
  len : α.length = S.length
  nd : α.Nodup
  ok : ∀ (n : Nat) (o : SO), S[n]? = some o → ∃ a : Addr, α[n]? = some a ∧ RO K CA α H a o

/-- from one state to a later one -/
structure Ext (α : List Addr) (H : Hp) (α' : List Addr) (H' : Hp) : Prop where
  pre : ∃ β, α' = α ++ β
  keep : ∀ (b : Addr) (o : HO), H b = some o → b ∉ α → (∀ ps, o ≠ .tbl ps) → H' b = some o
  tbl : ∀ (b : Addr) (ps : Array Value), H b = some (.tbl ps) → b ∉ α → ∃ more, H' b = some (.tbl (ps ++ more))
  new : ∀ b : Addr, b ∈ α' → b ∈ α ∨ H b = none

theorem Ext.refl (α : List Addr) (H : Hp) : Ext α H α H :=
  ⟨⟨[], (List.append_nil α).symm⟩, fun _ _ h _ _ => h, fun b ps h _ => ⟨#[], by simp [h]⟩, fun _ h => .inl h⟩

theorem Ext.some_ {α α' : List Addr} {H H' : Hp} (e : Ext α H α' H') {b : Addr} (hb : b ∉ α) {o : HO} (h : H b = some o) : ∃ o', H' b = some o' := by
  by_cases ht : ∃ ps, o = .tbl ps
  · obtain ⟨ps, rfl⟩ := ht
    obtain ⟨m, e2⟩ := e.tbl b ps h hb
    exact ⟨_, e2⟩
  · exact ⟨o, e.keep b o h hb fun ps q => ht ⟨ps, q⟩⟩

theorem Ext.trans {α α1 α2 : List Addr} {H H1 H2 : Hp} (e : Ext α H α1 H1) (f : Ext α1 H1 α2 H2) : Ext α H α2 H2 := by
  have nb : ∀ (b : Addr) (o : HO), H b = some o → b ∉ α → b ∉ α1 := fun b o h hb h1 => by
    rcases e.new b h1 with z | z
    · exact hb z
    · rw [h] at z; cases z
  refine ⟨?_, fun b o h hb hn => f.keep b o (e.keep b o h hb hn) (nb b o h hb) hn, fun b ps h hb => ?_, fun b h => ?_⟩
  · obtain ⟨β, e1⟩ := e.pre
    obtain ⟨γ, e2⟩ := f.pre
    exact ⟨β ++ γ, by rw [e2, e1, List.append_assoc]⟩
  · obtain ⟨m, e1⟩ := e.tbl b ps h hb
    obtain ⟨m2, e2⟩ := f.tbl b _ e1 (nb b _ h hb)
    exact ⟨m ++ m2, by rw [e2, Array.append_assoc]⟩
  · rcases f.new b h with z | z
    · exact e.new b z
    · by_cases hb : b ∈ α
      · exact .inl hb
      · right
        cases q : H b with
        | none => rfl
        | some o =>
          obtain ⟨o', q'⟩ := e.some_ hb q
          rw [z] at q'; cases q'

theorem Ext.get {α α' : List Addr} {H H' : Hp} (e : Ext α H α' H') {n : Nat} {a : Addr} (h : α[n]? = some a) : α'[n]? = some a := by
  obtain ⟨β, rfl⟩ := e.pre
  rw [List.getElem?_append_left (List.getElem?_eq_some_iff.mp h).1]
  exact h

/-- what stands at the addresses of the store -/
def isM : HO → Bool
  | .lst _ => true
  | .ins _ _ _ => true
  | .dK _ => true
  | .dT _ => true
  | _ => false
def NT (α : List Addr) (H : Hp) : Prop := ∀ a ∈ α, ∃ o, H a = some o ∧ isM o = true

section
variable {K : PySem.W.Frag} {CA : Nat → Option Addr} {α α' : List Addr} {S S' : Store} {H H' : Hp}

theorem RO.isM {a : Addr} {o : SO} (h : RO K CA α H a o) : ∃ o', H a = some o' ∧ MP.isM o' = true := by
  cases o with
  | lst ds => obtain ⟨ys, e, _⟩ := h; exact ⟨_, e, rfl⟩
  | ins c fs => obtain ⟨C, dx, gs, _, e, _⟩ := h; exact ⟨_, e, rfl⟩

theorem RelS.at_ (r : RelS K CA α S H) {a : Addr} (h : a ∈ α) : ∃ (n : Nat) (o : SO), α[n]? = some a ∧ S[n]? = some o ∧ RO K CA α H a o := by
  obtain ⟨n, hn⟩ := List.mem_iff_getElem?.mp h
  have hl : n < S.length := by rw [← r.len]; exact (List.getElem?_eq_some_iff.mp hn).1
  obtain ⟨a', h1, h2⟩ := r.ok n S[n] (List.getElem?_eq_getElem hl)
  rw [hn] at h1
  cases h1
  exact ⟨n, _, hn, List.getElem?_eq_getElem hl, h2⟩
theorem RelS.nt (r : RelS K CA α S H) : NT α H := fun a ha => by
  obtain ⟨n, o, _, _, h⟩ := r.at_ ha
  exact h.isM

theorem NT.no {a : Addr} (n : NT α H) {o : HO} (h : H a = some o) (hm : MP.isM o = false) : a ∉ α := fun ha => by
  obtain ⟨o', e, m⟩ := n a ha
  rw [h] at e; cases e
  rw [hm] at m; cases m

theorem SqT.mono {a : Addr} {xs : List V} (n : NT α H) (e : Ext α H α' H') (h : SqT K H a xs) : SqT K H' a xs := by
  rcases h with (h | ⟨o, h⟩) | h
  · exact .inl (.inl (e.keep a _ h (n.no h rfl) fun ps q => by cases q))
  · exact .inl (.inr ⟨o, e.keep a _ h (n.no h rfl) fun ps q => by cases q⟩)
  · exact .inr h
theorem FzL.mono {a : Addr} {xs : List V} (n : NT α H) (e : Ext α H α' H') (h : FzL K H a xs) : FzL K H' a xs := by
  rcases h with ⟨o, h⟩ | h
  · exact .inl ⟨o, e.keep a _ h (n.no h rfl) fun ps q => by cases q⟩
  · exact .inr h

mutual
theorem RV.mono (n : NT α H) (e : Ext α H α' H') : ∀ {d : D} {v : V}, RV K α H d v → RV K α' H' d v
  | _, _, .non => .non
  | _, _, .bl b => .bl b
  | _, _, .int i => .int i
  | _, _, .str s => .str s
  | _, _, .tup h r => .tup (SqT.mono n e h) (RVs.mono n e r)
  | _, _, .lsf h r => .lsf (FzL.mono n e h) (RVs.mono n e r)
  | _, _, .obj h => .obj (e.get h)
theorem RVs.mono (n : NT α H) (e : Ext α H α' H') : ∀ {ds : List D} {vs : List V}, RVs K α H ds vs → RVs K α' H' ds vs
  | _, _, .nil => .nil
  | _, _, .cons h r => .cons (RV.mono n e h) (RVs.mono n e r)
end
theorem RFs.mono (n : NT α H) (e : Ext α H α' H') : ∀ {ds : List (Str × D)} {vs : List (Str × V)}, RFs K α H ds vs → RFs K α' H' ds vs
  | _, _, .nil => .nil
  | _, _, .cons h r => .cons (RV.mono n e h) (RFs.mono n e r)

theorem RVs.length : ∀ {ds : List D} {vs : List V}, RVs K α H ds vs → ds.length = vs.length
  | _, _, .nil => rfl
  | _, _, .cons _ r => by rw [List.length_cons, List.length_cons, RVs.length r]
theorem RVs.append : ∀ {ds es : List D} {vs ws : List V}, RVs K α H ds vs → RVs K α H es ws → RVs K α H (ds ++ es) (vs ++ ws)
  | _, _, _, _, .nil, s => s
  | _, _, _, _, .cons h r, s => .cons h (RVs.append r s)
theorem RVs.get : ∀ {ds : List D} {vs : List V} {i : Nat} {v : V}, RVs K α H ds vs → vs[i]? = some v → ∃ d, ds[i]? = some d ∧ RV K α H d v
  | _, _, _, _, .nil, h => by simp at h
  | _, _, 0, _, .cons h _, e => by simp at e; subst e; exact ⟨_, rfl, h⟩
  | _, _, i + 1, _, .cons _ r, e => RVs.get (i := i) r (by simpa using e)
theorem RVs.got : ∀ {ds : List D} {vs : List V} {i : Nat} {d : D}, RVs K α H ds vs → ds[i]? = some d → ∃ v, vs[i]? = some v ∧ RV K α H d v
  | _, _, _, _, .nil, h => by simp at h
  | _, _, 0, _, .cons h _, e => by simp at e; subst e; exact ⟨_, rfl, h⟩
  | _, _, i + 1, _, .cons _ r, e => RVs.got (i := i) r (by simpa using e)
theorem RVs.take : ∀ {ds : List D} {vs : List V} (n : Nat), RVs K α H ds vs → RVs K α H (ds.take n) (vs.take n)
  | _, _, 0, _ => .nil
  | _, _, _ + 1, .nil => .nil
  | _, _, n + 1, .cons h r => .cons h (RVs.take n r)
theorem RVs.drop : ∀ {ds : List D} {vs : List V} (n : Nat), RVs K α H ds vs → RVs K α H (ds.drop n) (vs.drop n)
  | _, _, 0, r => r
  | _, _, _ + 1, .nil => .nil
  | _, _, n + 1, .cons _ r => RVs.drop n r
theorem RVs.set {d : D} {v : V} (h : RV K α H d v) : ∀ {ds : List D} {vs : List V} (n : Nat), RVs K α H ds vs → RVs K α H (ds.set n d) (vs.set n v)
  | _, _, _, .nil => .nil
  | _, _, 0, .cons _ r => .cons h r
  | _, _, n + 1, .cons q r => .cons q (RVs.set h n r)
theorem RVs.reverse {ds : List D} {vs : List V} (h : RVs K α H ds vs) : RVs K α H ds.reverse vs.reverse := by
  induction ds generalizing vs with
  | nil => cases h; exact .nil
  | cons d ds ih =>
    cases h with
    | cons h r =>
      rw [List.reverse_cons, List.reverse_cons]
      exact RVs.append (ih r) (.cons h .nil)
theorem RVs.dropLast {ds : List D} {vs : List V} (h : RVs K α H ds vs) : RVs K α H ds.dropLast vs.dropLast := by
  rw [List.dropLast_eq_take, List.dropLast_eq_take, h.length]
  exact h.take _
theorem RVs.ints : ∀ {ns : List Int} {vs : List V}, RVs K α H (ns.map D.int) vs → vs = ns.map V.int
  | [], _, .nil => rfl
  | _ :: _, _, .cons (.int _) r => by rw [List.map_cons, RVs.ints r]
theorem RVs.of_ints : ∀ ns : List Int, RVs K α H (ns.map D.int) (ns.map V.int)
  | [] => .nil
  | _ :: r => .cons (.int _) (RVs.of_ints r)

theorem RO.mono {a : Addr} {o : SO} (n : NT α H) (e : Ext α H α' H') (hs : H' a = H a) (h : RO K CA α H a o) : RO K CA α' H' a o := by
  cases o with
  | lst ds => obtain ⟨xs, e1, r⟩ := h; exact ⟨xs, hs.trans e1, r.mono n e⟩
  | ins c fs => obtain ⟨C, dx, gs, e0, e1, r⟩ := h; exact ⟨C, dx, gs, e0, hs.trans e1, r.mono n e⟩

theorem RelS.same (r : RelS K CA α S H) (e : Ext α H α H') (hs : ∀ a ∈ α, H' a = H a) : RelS K CA α S H' :=
  ⟨r.len, r.nd, fun n o h => by
    obtain ⟨a, h1, h2⟩ := r.ok n o h
    exact ⟨a, h1, h2.mono r.nt e (hs a (List.mem_of_getElem? h1))⟩⟩

theorem upd_at {H : Hp} {a : Addr} {o : HO} : upd H a o a = some o := upd_same

/-- a new object beside the store -/
theorem Ext.laid {p : Addr} {o : HO} (h : H p = none) : Ext α H α (upd H p o) :=
  ⟨⟨[], (List.append_nil α).symm⟩, fun b ob hb _ _ => by rw [upd_ne (ne_of_none hb h)]; exact hb,
    fun b ps hb _ => ⟨#[], by rw [upd_ne (ne_of_none hb h), hb]; simp⟩, fun _ h => .inl h⟩
theorem RelS.laid {p : Addr} {o : HO} (r : RelS K CA α S H) (h : H p = none) : RelS K CA α S (upd H p o) :=
  r.same (Ext.laid h) fun a ha => by
    obtain ⟨o', e, _⟩ := r.nt a ha
    exact upd_ne (ne_of_none e h)
theorem RelS.fresh {p : Addr} (r : RelS K CA α S H) (h : H p = none) : p ∉ α := fun hp => by
  obtain ⟨o', e, _⟩ := r.nt p hp
  rw [h] at e; cases e

/-- a new object of the store -/
theorem Ext.push {p : Addr} {o : HO} (h : H p = none) : Ext α H (α ++ [p]) (upd H p o) :=
  ⟨⟨[p], rfl⟩, fun b ob hb _ _ => by rw [upd_ne (ne_of_none hb h)]; exact hb,
    fun b ps hb _ => ⟨#[], by rw [upd_ne (ne_of_none hb h), hb]; simp⟩, fun b hb => by
      rcases List.mem_append.mp hb with z | z
      · exact .inl z
      · rw [List.mem_singleton] at z; rw [z]; exact .inr h⟩
theorem RelS.push {p : Addr} {ho : HO} {o : SO} (r : RelS K CA α S H) (h : H p = none) (ro : RO K CA (α ++ [p]) (upd H p ho) p o) : RelS K CA (α ++ [p]) (S ++ [o]) (upd H p ho) := by
  have e : Ext α H (α ++ [p]) (upd H p ho) := Ext.push h
  refine ⟨by rw [List.length_append, List.length_append, r.len]; rfl, ?_, fun n o' hn => ?_⟩
  · rw [List.nodup_append]
    refine ⟨r.nd, by simp, fun a ha b hb => ?_⟩
    rw [List.mem_singleton] at hb
    rw [hb]
    exact fun q => r.fresh h (q ▸ ha)
  · by_cases hl : n < S.length
    · rw [List.getElem?_append_left hl] at hn
      obtain ⟨a, h1, h2⟩ := r.ok n o' hn
      obtain ⟨o2, e2, _⟩ := r.nt a (List.mem_of_getElem? h1)
      exact ⟨a, e.get h1, h2.mono r.nt e (upd_ne (ne_of_none e2 h))⟩
    · have h3 := (List.getElem?_eq_some_iff.mp hn).1
      rw [List.length_append, List.length_singleton] at h3
      have h4 : n = S.length := by omega
      rw [h4, List.getElem?_append_right (Nat.le_refl _)] at hn
      simp at hn
      subst hn
      refine ⟨p, ?_, ro⟩
      rw [h4, ← r.len, List.getElem?_append_right (Nat.le_refl _)]
      simp
/-- an object of the store changed -/
theorem Ext.write {a : Addr} {o : HO} (ha : a ∈ α) : Ext α H α (upd H a o) :=
  ⟨⟨[], (List.append_nil α).symm⟩, fun b ob hb hn _ => by rw [upd_ne (show b ≠ a from fun q => hn (by rw [q]; exact ha))]; exact hb,
    fun b ps hb hn => ⟨#[], by rw [upd_ne (show b ≠ a from fun q => hn (by rw [q]; exact ha)), hb]; simp⟩, fun _ h => .inl h⟩
theorem RelS.write {n : Nat} {a : Addr} {ho : HO} {o : SO} (r : RelS K CA α S H) (hn : α[n]? = some a) (ro : RO K CA α (upd H a ho) a o) : RelS K CA α (S.set n o) (upd H a ho) := by
  have e : Ext α H α (upd H a ho) := Ext.write (List.mem_of_getElem? hn)
  refine ⟨by rw [List.length_set]; exact r.len, r.nd, fun m o' hm => ?_⟩
  by_cases hmn : n = m
  · subst hmn
    have hl : n < S.length := by rw [← r.len]; exact (List.getElem?_eq_some_iff.mp hn).1
    rw [List.getElem?_set_self hl] at hm
    cases hm
    exact ⟨a, hn, ro⟩
  · rw [List.getElem?_set_ne hmn] at hm
    obtain ⟨b, h1, h2⟩ := r.ok m o' hm
    refine ⟨b, h1, h2.mono r.nt e (upd_ne fun q => hmn ?_)⟩
    subst q
    obtain ⟨l1, e1⟩ := List.getElem?_eq_some_iff.mp hn
    obtain ⟨l2, e2⟩ := List.getElem?_eq_some_iff.mp h1
    exact (List.getElem_inj r.nd).mp (e1.trans e2.symm)
end

/-! ### slots -/
abbrev Env' := List (Option D)
structure RelE (K : PySem.W.Frag) (α : List Addr) (H : Hp) (ρ : Env') (σ : St) : Prop where
  len : ρ.length = σ.length
  get : ∀ (i : Nat) (d : D), ρ[i]? = some (some d) → ∃ v, σ[i]? = some (some v) ∧ RV K α H d v
section
variable {K : PySem.W.Frag} {CA : Nat → Option Addr} {α α' : List Addr} {S S' : Store} {H H' : Hp} {ρ : Env'} {σ : St}
theorem RelE.mono (n : NT α H) (e : Ext α H α' H') (r : RelE K α H ρ σ) : RelE K α' H' ρ σ :=
  ⟨r.len, fun i d h => by obtain ⟨v, h1, h2⟩ := r.get i d h; exact ⟨v, h1, h2.mono n e⟩⟩
theorem RelE.set {i : Nat} {d : D} {v : V} (r : RelE K α H ρ σ) (h : RV K α H d v) : RelE K α H (ρ.set i (some d)) (σ.set i (some v)) := by
  refine ⟨by rw [List.length_set, List.length_set]; exact r.len, fun j d' hj => ?_⟩
  by_cases hij : i = j
  · subst hij
    have hl : i < ρ.length := by
      have := (List.getElem?_eq_some_iff.mp hj).1
      rw [List.length_set] at this; exact this
    rw [List.getElem?_set_self hl] at hj
    cases hj
    exact ⟨v, by rw [List.getElem?_set_self (by rw [← r.len]; exact hl)], h⟩
  · rw [List.getElem?_set_ne hij] at hj
    obtain ⟨v', h1, h2⟩ := r.get j d' hj
    exact ⟨v', by rw [List.getElem?_set_ne hij]; exact h1, h2⟩
theorem RelE.unset {i : Nat} (r : RelE K α H ρ σ) : RelE K α H (ρ.set i none) (σ.set i none) := by
  refine ⟨by rw [List.length_set, List.length_set]; exact r.len, fun j d' hj => ?_⟩
  by_cases hij : i = j
  · subst hij
    have hl : i < ρ.length := by
      have := (List.getElem?_eq_some_iff.mp hj).1
      rw [List.length_set] at this; exact this
    rw [List.getElem?_set_self hl] at hj
    cases hj
  · rw [List.getElem?_set_ne hij] at hj
    obtain ⟨v', h1, h2⟩ := r.get j d' hj
    exact ⟨v', by rw [List.getElem?_set_ne hij]; exact h1, h2⟩
def wipeD (ρ : Env') : List Nat → Env'
  | [] => ρ
  | v :: vs => (wipeD ρ vs).set v none
theorem RelE.wipe (r : RelE K α H ρ σ) : ∀ vs : List Nat, RelE K α H (wipeD ρ vs) (L2.wipe σ vs)
  | [] => r
  | _ :: vs => (RelE.wipe r vs).unset
end
end MP
end

section
set_option maxRecDepth 100000
/-! MP2: the little language and what it computes. -/
namespace MP
open PySem L2

inductive BO where | add | sub | mul | fdiv | mod | pow | shl | shr | and_ | or_ | xor_
  deriving DecidableEq, Inhabited
inductive CO where | lt | le | gt | ge | eq | ne | is_ | isn | in_ | nin
  deriving DecidableEq, Inhabited
/-- built-in functions, by values -/
inductive Bi where | abs | len | int | tuple | list | max2 | min2 | sum | str
  deriving DecidableEq, Inhabited
/-- methods of built-in types -/
inductive Bm where | append | extend | pop | index | bits
  deriving DecidableEq, Inhabited
inductive IK where | sq | rng | enum | zip | rev
  deriving DecidableEq, Inhabited
inductive IT where | nm (i : Nat) | tp (ts : List IT)
  deriving Inhabited
inductive IE where
  | c (d : D) | v (i : Nat) | g (i : Nat) | np | tr (a : IE) | pr (a : IE)
  | bin (o : BO) (a b : IE) | neg (a : IE) | cmp (o : CO) (a b : IE) | chain (o o' : CO) (a b e : IE)
  | and_ (a b : IE) | or_ (a b : IE) | not (a : IE) | ife (t a b : IE)
  | tup (es : List IE) | lst (es : List IE) | ix (a i : IE) | sl (a lo hi : IE)
  | call (f : Nat) (es : List IE) (j : Nat) | mk (c : Nat) (es : List IE)
  | bi (b : Bi) (es : List IE) | isi (a : IE) (ty : String) | isc (a : IE) (c : Nat)
  | fld (a : IE) (f : Str) | bm (m : Bm) (a : IE) (es : List IE)
  | trg (es : List IE) | lrg (es : List IE)
  | lc (t : IT) (k : IK) (its ifs : List IE) (el : IE) (ws : List Nat)
  deriving Inhabited
inductive IG where | t (t : IT) | ix (a i : IE) | fld (a : IE) (f : Str) | tp (gs : List IG)
  deriving Inhabited
inductive IS where
  | ex (e : IE) | asg (g : IG) (e : IE) | par (is : List Nat) (es : List IE) | aug (i : Nat) (o : BO) (e : IE) | augx (a i : IE) (o : BO) (e : IE)
  | ret (e : IE) | ite (t : IE) (a b : List IS) | whl (t : IE) (b : List IS) | fr (t : IT) (k : IK) (its : List IE) (b : List IS)
  | pass | brk | cont | never
  deriving Inhabited

structure Exn where
  cls : Nat
  fs : List (Str × D)
  deriving Inhabited
inductive Res (α : Type) where
  | ok (a : α) (S : Store) | exc (x : Exn) (S : Store) | bad
  deriving Inhabited
def Res.bind {α β : Type} (r : Res α) (f : α → Store → Res β) : Res β := match r with
  | .ok a S => f a S
  | .exc x S => .exc x S
  | .bad => .bad
def Res.ofP {α : Type} (o : Option (α × Store)) : Res α := match o with
  | some (a, S) => .ok a S
  | none => .bad
def Res.of {α : Type} (o : Option α) (S : Store) : Res α := match o with
  | some a => .ok a S
  | none => .bad
/-- within a comprehension nothing may be raised -/
def Res.calm {α : Type} : Res α → Res α
  | .exc _ _ => .bad
  | r => r
inductive Fl where | nx | bk | ct | rt (d : D)
  deriving Inhabited
inductive RS where
  | ok (f : Fl) (ρ : Env') (S : Store) | exc (x : Exn) (ρ : Env') (S : Store) | bad
  deriving Inhabited

structure Gm where
  fn : Nat → List D → Store → Res D
  new : Nat → List D → Store → Res D
  gc : Nat → D
  dfl : Nat → List D

/-! ### values -/
def lgI (i : Int) : Nat := i.natAbs.log2
def mulOk (i j : Int) : Bool := decide (lgI i + lgI j < 100000000)
def divOk (i j : Int) : Bool := decide (j ≠ 0) && (decide (lgI j < 9000) || decide (lgI i < lgI j + 4000))
def lim : Nat := 1000000
def b2i (b : Bool) : Int := if b then 1 else 0
def lstAt (S : Store) (n : Nat) : Option (List D) := match S[n]? with
  | some (.lst ds) => some ds
  | _ => none
def binD (o : BO) (x y : D) (S : Store) : Option (D × Store) := match o, x, y with
  | .add, .int i, .int j => some ((.int (i + j)), S)
  | .add, .str s, .str t => if s.length + t.length ≤ lim then some ((.str (s ++ t)), S) else none
  | .add, .tup xs, .tup ys => if xs.length + ys.length ≤ lim then some ((.tup (xs ++ ys)), S) else none
  | .add, .obj m, .obj n => match lstAt S m, lstAt S n with
    | some xs, some ys => if xs.length + ys.length ≤ lim then some ((.obj S.length), (S ++ [.lst (xs ++ ys)])) else none
    | _, _ => none
  | .sub, .int i, .int j => some ((.int (i - j)), S)
  | .sub, .bl a, .bl b => some ((.int (b2i a - b2i b)), S)
  | .mul, .int i, .int j => if mulOk i j = true then some ((.int (i * j)), S) else none
  | .mul, .obj m, .int k => match lstAt S m with
    | some xs => if 0 ≤ k ∧ k ≤ 1000000 ∧ xs.length * k.toNat ≤ lim then some ((.obj S.length), (S ++ [.lst (List.replicate k.toNat xs).flatten])) else none
    | none => none
  | .fdiv, .int i, .int j => if divOk i j = true then some ((.int (i.fdiv j)), S) else none
  | .mod, .int i, .int j => if j ≠ 0 then some ((.int (i.fmod j)), S) else none
  | .pow, .int i, .int j => if 0 ≤ j ∧ j ≤ 1000000 ∧ i.natAbs < 2 ^ 64 then some ((.int (i ^ j.toNat)), S) else none
  | .shl, .int i, .int j => if 0 ≤ j ∧ (lgI i : Int) + j < 100000000 then some ((.int (i * 2 ^ j.toNat)), S) else none
  | .shr, .int i, .int j => if 0 ≤ j then some ((.int (i / 2 ^ j.toNat)), S) else none
  | _, _, _ => none
def truthD (d : D) (S : Store) : Option Bool := match d with
  | .non => some false
  | .bl b => some b
  | .int i => some (i != 0)
  | .str s => if s.length ≤ lim then some (decide (s.length ≠ 0)) else none
  | .tup ds => some (!ds.isEmpty)
  | .lsf ds => some (!ds.isEmpty)
  | .obj n => (lstAt S n).map fun ds => !ds.isEmpty
def allS {α β : Type} (f : α → Option β) : List α → Option (List β)
  | [] => some []
  | d :: ds => match f d with
    | some p => match allS f ds with
      | some ps => some (p :: ps)
      | none => none
    | none => none
/-- data -/
def toP (S : Store) : Nat → D → Option PyData
  | 0, d => match d with
    | .non => some .none
    | .bl b => some (.bool b)
    | .int i => some (.int i)
    | .str s => some (.str s)
    | _ => none
  | n + 1, d => match d with
    | .non => some .none
    | .bl b => some (.bool b)
    | .int i => some (.int i)
    | .str s => some (.str s)
    | .tup ds => (allS (toP S n) ds).map PyData.tuple
    | .lsf ds => (allS (toP S n) ds).map PyData.list
    | .obj m => match lstAt S m with
      | some ds => (allS (toP S n) ds).map PyData.list
      | none => none
def toPs (S : Store) (n : Nat) (ds : List D) : Option (List PyData) := allS (toP S n) ds
def shp (p : PyData) : Bool := SeqAt.shaped p
def eqD (x y : D) (S : Store) : Option Bool := match toP S 60 x, toP S 60 y with
  | some p, some q => if (shp p && shp q) = true then some (PyData.eqv p q) else none
  | _, _ => none
def seqD (x : D) (S : Store) : Option (List D) := match x with
  | .tup ds => some ds
  | .lsf ds => some ds
  | .obj n => lstAt S n
  | _ => none
def lsD (x : D) (S : Store) : Option (List D) := match x with
  | .lsf ds => some ds
  | .obj n => lstAt S n
  | _ => none
/-- a text of one sign in a text -/
def inStr (x y : Str) : Bool := !(Builtin.Str.occurrences y x 0 y.length 1).isEmpty
def inD (x y : D) (S : Store) : Option Bool := match x, y with
  | .str s, .str t => some (inStr s t)
  | x, .tup ds => match toP S 60 x, toPs S 60 ds with
    | some p, some ps => if (shp p && shp (.list ps)) = true then some (ps.any fun z => PyData.eqv z p) else none
    | _, _ => none
  | x, .obj n => match lstAt S n with
    | some ds => match toP S 60 x, toPs S 60 ds with
      | some p, some ps => if (shp p && shp (.list ps)) = true then some (ps.any fun z => PyData.eqv z p) else none
      | _, _ => none
    | none => none
  | _, _ => none
def cmpD (o : CO) (x y : D) (S : Store) : Option Bool := match o, x, y with
  | .lt, .int i, .int j => some (decide (i < j))
  | .le, .int i, .int j => some (decide (i ≤ j))
  | .gt, .int i, .int j => some (decide (j < i))
  | .ge, .int i, .int j => some (decide (j ≤ i))
  | .eq, x, y => eqD x y S
  | .ne, x, y => (eqD x y S).map fun b => !b
  | .is_, x, .non => some (match x with | .non => true | _ => false)
  | .isn, x, .non => some (match x with | .non => false | _ => true)
  | .is_, x, .bl b => some (match x with | .bl a => a == b | _ => false)
  | .isn, x, .bl b => some (match x with | .bl a => !(a == b) | _ => true)
  | .in_, x, y => inD x y S
  | .nin, x, y => (inD x y S).map fun b => !b
  | _, _, _ => none
def ixD (x y : D) (S : Store) : Option D := match x, y with
  | .str s, .int i => if s.length ≤ lim then (atI s.cps.toList i).map fun c => .str ⟨#[c]⟩ else none
  | x, .int i => match seqD x S with
    | some ds => atI ds i
    | none => none
  | _, _ => none
def cutD (ds : List D) (lo hi : Option Int) : List D := (ds.drop (HT.sIx ds.length 0 lo)).take (HT.sIx ds.length ds.length hi - HT.sIx ds.length 0 lo)
def slD (x : D) (lo hi : Option Int) (S : Store) : Option (D × Store) := match x with
  | .tup ds => some ((.tup (cutD ds lo hi)), S)
  | x => match seqD x S with
    | some ds => some ((.obj S.length), (S ++ [.lst (cutD ds lo hi)]))
    | none => none
def ofP : PyData → Option D
  | .int i => some (.int i)
  | _ => none
def firstIx (p : PyData) : List PyData → Nat → Option Nat
  | [], _ => none
  | q :: qs, k => if PyData.eqv q p = true then some k else firstIx p qs (k + 1)
def intsOf : List D → Option (List Int)
  | [] => some []
  | .int i :: ds => (intsOf ds).map fun l => i :: l
  | _ :: _ => none
def biD (b : Bi) (xs : List D) (S : Store) : Option (D × Store) := match b, xs with
  | .abs, [.int i] => some ((.int (if i < 0 then -i else i)), S)
  | .len, [.str s] => if s.length ≤ lim then some ((.int s.length), S) else none
  | .len, [x] => match seqD x S with
    | some ds => some ((.int ds.length), S)
    | none => none
  | .int, [.int i] => some ((.int i), S)
  | .int, [.bl k] => some ((.int (if k then 1 else 0)), S)
  | .tuple, [.tup ds] => some ((.tup ds), S)
  | .tuple, [x] => match seqD x S with
    | some ds => some ((.tup ds), S)
    | none => none
  | .list, [x] => match seqD x S with
    | some ds => some ((.obj S.length), (S ++ [.lst ds]))
    | none => none
  | .max2, [.int i, .int j] => some ((.int (if j > i then j else i)), S)
  | .min2, [.int i, .int j] => some ((.int (if j < i then j else i)), S)
  | .sum, [x] => match lsD x S with
    | some ds => match intsOf ds with
      | some ns => some ((.int ns.sum), S)
      | none => none
    | none => none
  | _, _ => none
def bmD (m : Bm) (x : D) (xs : List D) (S : Store) : Option (D × Store) := match m, x, xs with
  | .append, .obj n, [y] => match lstAt S n with
    | some ds => if ds.length < lim then some (.non, (S.set n (.lst (ds ++ [y])))) else none
    | none => none
  | .extend, .obj n, [.obj m] => match lstAt S n, lstAt S m with
    | some ds, some es => if ds.length + es.length < lim then some (.non, (S.set n (.lst (ds ++ es)))) else none
    | _, _ => none
  | .pop, .obj n, [] => match lstAt S n with
    | some ds => match ds[ds.length - 1]? with
      | some y => some (y, (S.set n (.lst ds.dropLast)))
      | none => none
    | none => none
  | .index, .obj n, [y] => match lstAt S n with
    | some ds => match toPs S 60 ds, toP S 60 y with
      | some ps, some p => if (shp p && shp (.list ps)) = true then (match firstIx p ps 0 with
        | some k => some ((.int (k : Nat)), S)
        | none => none) else none
      | _, _ => none
    | none => none
  | .bits, .int i, [] => some ((.int (Builtin.Int.intBits i : Nat)), S)
  | _, _, _ => none
/-- the receiver is of the method's type -/
def bmT (m : Bm) (x : D) (S : Store) : Bool := match m, x with
  | .bits, .int _ => true
  | .bits, _ => false
  | _, .obj n => (lstAt S n).isSome
  | _, _ => false
/-- the class of a built-in type -/
def tyD (d : D) (S : Store) : Option String := match d with
  | .non => some "NoneType"
  | .bl _ => some "bool"
  | .int _ => some "int"
  | .str _ => some "str"
  | .tup _ => some "tuple"
  | .lsf _ => some "list"
  | .obj n => match S[n]? with
    | some (.lst _) => some "list"
    | _ => none
def insD (d : D) (S : Store) : Option Nat := match d with
  | .obj n => match S[n]? with
    | some (.ins c _) => some c
    | _ => none
  | _ => none
def tyNames : List String := ["int", "bool", "str", "tuple", "list"]
/-- isinstance(d, T), T a built-in class -/
def isiD (d : D) (T : String) (S : Store) : Option Bool := match tyD d S with
  | some t => kitB t T
  | none => match insD d S with
    | some _ => if T ∈ tyNames then some false else none
    | none => none
def fldD (d : D) (f : Str) (S : Store) : Option D := match d with
  | .obj n => match S[n]? with
    | some (.ins _ fs) => fs.lookup f
    | _ => none
  | _ => none
/-- the lists that are walked, as they stood -/
abbrev Guard := List (Nat × List D)
def gOk (g : Guard) (S : Store) : Bool := g.all fun p => decide (lstAt S p.1 = some p.2)
def rngL (lo : Int) (n : Nat) : List D := (List.range n).map fun i => .int (lo + (i : Nat))
def enumL : Nat → List D → List D
  | _, [] => []
  | k, d :: ds => .tup [.int (k : Nat), d] :: enumL (k + 1) ds
def zipL : List D → List D → List D
  | d :: ds, e :: es => .tup [d, e] :: zipL ds es
  | _, _ => []
def big62 (i : Int) : Bool := decide (-(2 ^ 62) ≤ i ∧ i < 2 ^ 62)
def rgOf : List D → Option (List D)
  | [.int n] => if 0 ≤ n ∧ n ≤ 100000 then some (rngL 0 n.toNat) else none
  | [.int a, .int b] => if -100000 ≤ a ∧ a ≤ b ∧ b ≤ 100000 then some (rngL a (b - a).toNat) else none
  | _ => none
def itD (k : IK) (xs : List D) (S : Store) : Option (List D × Guard) := match k, xs with
  | .sq, [.tup ds] => some (ds, [])
  | .sq, [.lsf ds] => some (ds, [])
  | .sq, [.str s] => some (s.cps.toList.map fun c => .str ⟨#[c]⟩, [])
  | .sq, [.obj n] => (lstAt S n).map fun ds => (ds, [(n, ds)])
  | .rng, [.int n] => if big62 n then some (rngL 0 n.toNat, []) else none
  | .rng, [.int a, .int b] => if big62 a && big62 b then some (rngL a (b - a).toNat, []) else none
  | .enum, [.tup ds] => some (enumL 0 ds, [])
  | .enum, [.obj n] => (lstAt S n).map fun ds => (enumL 0 ds, [(n, ds)])
  | .zip, [.tup ds, .tup es] => some (zipL ds es, [])
  | .zip, [.obj m, .obj n] => match lstAt S m, lstAt S n with
    | some ds, some es => some (zipL ds es, [(m, ds), (n, es)])
    | _, _ => none
  | _, _ => none

mutual
def asT : IT → D → Env' → Option Env'
  | .nm i, d, ρ => some (ρ.set i (some d))
  | .tp ts, .tup ds, ρ => asTs ts ds ρ
  | .tp _, _, _ => none
def asTs : List IT → List D → Env' → Option Env'
  | [], [], ρ => some ρ
  | t :: ts, d :: ds, ρ => match asT t d ρ with
    | some ρ' => asTs ts ds ρ'
    | none => none
  | _, _, _ => none
end

def slot (ρ : Env') (i : Nat) : Option D := match ρ[i]? with
  | some (some d) => some d
  | _ => none

/-- the turns of a comprehension: f what a turn gives (none: left out) -/
def lcL (f : D → Store → Res (Option D)) (g : Guard) : List D → List D → Store → Res (List D)
  | [], acc, S => if gOk g S = true then .ok acc S else .bad
  | d :: ds, acc, S => if gOk g S = true then (f d S).bind fun o S1 => match o with
      | some y => if acc.length < lim then lcL f g ds (acc ++ [y]) S1 else .bad
      | none => lcL f g ds acc S1 else .bad

mutual
def evE (G : Gm) : IE → Env' → Store → Res D
  | .c d, _, S => .ok d S
  | .v i, ρ, S => Res.of (slot ρ i) S
  | .g i, _, S => .ok (G.gc i) S
  | .np, _, _ => .bad
  | .tr _, _, _ => .bad
  | .pr _, _, _ => .bad
  | .bin o a b, ρ, S => (evE G a ρ S).bind fun x S1 => (evE G b ρ S1).bind fun y S2 => Res.ofP (binD o x y S2)
  | .neg a, ρ, S => (evE G a ρ S).bind fun x S1 => match x with
    | .int i => .ok (.int (-i)) S1
    | _ => .bad
  | .cmp o a b, ρ, S => (evE G a ρ S).bind fun x S1 => (evE G b ρ S1).bind fun y S2 => Res.of ((cmpD o x y S2).map .bl) S2
  | .chain o o' a b e, ρ, S => (evE G a ρ S).bind fun x S1 => (evE G b ρ S1).bind fun y S2 => match cmpD o x y S2 with
    | some true => (evE G e ρ S2).bind fun z S3 => Res.of ((cmpD o' y z S3).map .bl) S3
    | some false => .ok (.bl false) S2
    | none => .bad
  | .and_ a b, ρ, S => (evE G a ρ S).bind fun x S1 => match truthD x S1 with
    | some true => evE G b ρ S1
    | some false => .ok x S1
    | none => .bad
  | .or_ a b, ρ, S => (evE G a ρ S).bind fun x S1 => match truthD x S1 with
    | some true => .ok x S1
    | some false => evE G b ρ S1
    | none => .bad
  | .not a, ρ, S => (evE G a ρ S).bind fun x S1 => Res.of ((truthD x S1).map fun b => .bl (!b)) S1
  | .ife t a b, ρ, S => (evT G t ρ S).bind fun c S1 => if c = true then evE G a ρ S1 else evE G b ρ S1
  | .tup es, ρ, S => (evEs G es ρ S).bind fun ds S1 => if ds.length ≤ lim then .ok (.tup ds) S1 else .bad
  | .lst es, ρ, S => (evEs G es ρ S).bind fun ds S1 => if ds.length ≤ lim then .ok (.obj S1.length) (S1 ++ [.lst ds]) else .bad
  | .ix a i, ρ, S => (evE G a ρ S).bind fun x S1 => (evE G i ρ S1).bind fun y S2 => Res.of (ixD x y S2) S2
  | .sl a lo hi, ρ, S => (evE G a ρ S).bind fun x S1 => (evP G lo ρ S1).bind fun l S2 => (evP G hi ρ S2).bind fun h S3 => Res.ofP (slD x l h S3)
  | .call f es j, ρ, S => (evEs G es ρ S).bind fun ds S1 => G.fn f (ds ++ (G.dfl f).drop j) S1
  | .mk c es, ρ, S => (evEs G es ρ S).bind fun ds S1 => G.new c ds S1
  | .bi b es, ρ, S => (evEs G es ρ S).bind fun ds S1 => Res.ofP (biD b ds S1)
  | .isi a T, ρ, S => (evE G a ρ S).bind fun x S1 => Res.of ((isiD x T S1).map .bl) S1
  | .isc a c, ρ, S => (evE G a ρ S).bind fun x S1 => .ok (.bl (decide (insD x S1 = some c))) S1
  | .fld a f, ρ, S => (evE G a ρ S).bind fun x S1 => Res.of (fldD x f S1) S1
  | .bm m a es, ρ, S => (evE G a ρ S).bind fun x S1 => if bmT m x S1 = true then (evEs G es ρ S1).bind fun ds S2 => Res.ofP (bmD m x ds S2) else .bad
  | .trg es, ρ, S => (evEs G es ρ S).bind fun xs S1 => match rgOf xs with
    | some ds => .ok (.tup ds) S1
    | none => .bad
  | .lrg es, ρ, S => (evEs G es ρ S).bind fun xs S1 => match rgOf xs with
    | some ds => .ok (.obj S1.length) (S1 ++ [.lst ds])
    | none => .bad
  | .lc t k its ifs el ws, ρ, S => (evEs G its ρ S).bind fun xs S1 => match itD k xs S1 with
    | some (items, g) => ((lcL (fun d S => match asT t d (wipeD ρ ws) with
        | some ρ' => (evIfs G ifs ρ' S).bind fun b S' => if b = true then (evE G el ρ' S').bind fun y S'' => .ok (some y) S'' else .ok none S'
        | none => .bad) g items [] S1).calm).bind fun ys S2 => .ok (.obj S2.length) (S2 ++ [.lst ys])
    | none => .bad
def evT (G : Gm) : IE → Env' → Store → Res Bool
  | .not a, ρ, S => (evT G a ρ S).bind fun c S1 => .ok (!c) S1
  | .and_ a b, ρ, S => (evT G a ρ S).bind fun c S1 => if c = true then evT G b ρ S1 else .ok false S1
  | .or_ a b, ρ, S => (evT G a ρ S).bind fun c S1 => if c = true then .ok true S1 else evT G b ρ S1
  | .ife t a b, ρ, S => (evT G t ρ S).bind fun c S1 => if c = true then evT G a ρ S1 else evT G b ρ S1
  | .cmp o a b, ρ, S => (evE G a ρ S).bind fun x S1 => (evE G b ρ S1).bind fun y S2 => Res.of (cmpD o x y S2) S2
  | .chain o o' a b e, ρ, S => (evE G a ρ S).bind fun x S1 => (evE G b ρ S1).bind fun y S2 => match cmpD o x y S2 with
    | some true => (evE G e ρ S2).bind fun z S3 => Res.of (cmpD o' y z S3) S3
    | some false => .ok false S2
    | none => .bad
  | .tr a, ρ, S => (evE G a ρ S).bind fun x S1 => Res.of (truthD x S1) S1
  | _, _, _ => .bad
def evEs (G : Gm) : List IE → Env' → Store → Res (List D)
  | [], _, S => .ok [] S
  | e :: es, ρ, S => (evE G e ρ S).bind fun d S1 => (evEs G es ρ S1).bind fun ds S2 => .ok (d :: ds) S2
def evIfs (G : Gm) : List IE → Env' → Store → Res Bool
  | [], _, S => .ok true S
  | e :: es, ρ, S => (evT G e ρ S).bind fun c S1 => if c = true then evIfs G es ρ S1 else .ok false S1
def evP (G : Gm) : IE → Env' → Store → Res (Option Int)
  | .np, _, S => .ok none S
  | .pr a, ρ, S => (evE G a ρ S).bind fun x S1 => match x with
    | .int i => .ok (some i) S1
    | _ => .bad
  | _, _, _ => .bad
end

/-! ### statements -/
def RS.bind (r : RS) (f : Env' → Store → RS) : RS := match r with
  | .ok .nx ρ S => f ρ S
  | r => r
def Res.toS {α : Type} (r : Res α) (ρ : Env') (f : α → Store → RS) : RS := match r with
  | .ok a S => f a S
  | .exc x S => .exc x ρ S
  | .bad => .bad
def setI (x y v : D) (S : Store) : Option Store := match x, y with
  | .obj n, .int i => match lstAt S n with
    | some ds => match ixN ds.length i with
      | some j => some (S.set n (.lst (ds.set j v)))
      | none => none
    | none => none
  | _, _ => none
def putD (f : Str) (v : D) : List (Str × D) → List (Str × D)
  | [] => [(f, v)]
  | (g, w) :: r => if g = f then (f, v) :: r else (g, w) :: putD f v r
def setF (x : D) (f : Str) (v : D) (S : Store) : Option Store := match x with
  | .obj n => match S[n]? with
    | some (.ins c fs) => if fs.length < 900 then some (S.set n (.ins c (putD f v fs))) else none
    | _ => none
  | _ => none
/-- in place: ints and texts alone -/
def ipD (o : BO) (x y : D) (S : Store) : Option (D × Store) := match o, x, y with
  | .add, .int i, .int j => some (.int (i + j), S)
  | .add, .str s, .str t => if s.length + t.length ≤ lim then some (.str (s ++ t), S) else none
  | .sub, .int i, .int j => some (.int (i - j), S)
  | _, _, _ => none
/-- what a test of a loop's end says -/
def forL (tgt : D → Env' → Option Env') (body : Env' → Store → RS) (g : Guard) : List D → Env' → Store → RS
  | [], ρ, S => if gOk g S = true then .ok .nx ρ S else .bad
  | d :: ds, ρ, S => if gOk g S = true then (match tgt d ρ with
      | some ρ1 => match body ρ1 S with
        | .ok .nx ρ2 S2 => forL tgt body g ds ρ2 S2
        | .ok .ct ρ2 S2 => forL tgt body g ds ρ2 S2
        | .ok .bk ρ2 S2 => .ok .nx ρ2 S2
        | r => r
      | none => .bad) else .bad
def whlL (test : Env' → Store → Res Bool) (body : Env' → Store → RS) : Nat → Env' → Store → RS
  | 0, _, _ => .bad
  | n + 1, ρ, S => (test ρ S).toS ρ fun c S1 => if c = true then (match body ρ S1 with
      | .ok .nx ρ2 S2 => whlL test body n ρ2 S2
      | .ok .ct ρ2 S2 => whlL test body n ρ2 S2
      | .ok .bk ρ2 S2 => .ok .nx ρ2 S2
      | r => r) else .ok .nx ρ S1
def setsI : List Nat → List D → Env' → Option Env'
  | [], [], ρ => some ρ
  | i :: is, d :: ds, ρ => setsI is ds (ρ.set i (some d))
  | _, _, _ => none

mutual
def asG (G : Gm) : IG → D → Env' → Store → RS
  | .t t, d, ρ, S => match asT t d ρ with
    | some ρ' => .ok .nx ρ' S
    | none => .bad
  | .ix a i, d, ρ, S => ((evE G a ρ S).bind fun x S1 => (evE G i ρ S1).bind fun y S2 => Res.of (setI x y d S2) S2).toS ρ fun S3 _ => .ok .nx ρ S3
  | .fld a f, d, ρ, S => ((evE G a ρ S).bind fun x S1 => Res.of (setF x f d S1) S1).toS ρ fun S3 _ => .ok .nx ρ S3
  | .tp gs, d, ρ, S => match d with
    | .tup ds => if ds.length = gs.length then asGs G gs ds ρ S else .bad
    | _ => .bad
def asGs (G : Gm) : List IG → List D → Env' → Store → RS
  | [], [], ρ, S => .ok .nx ρ S
  | g :: gs, d :: ds, ρ, S => (asG G g d ρ S).bind fun ρ1 S1 => asGs G gs ds ρ1 S1
  | _, _, _, _ => .bad
end
mutual
def evS (G : Gm) (w : Nat) : IS → Env' → Store → RS
  | .ex e, ρ, S => (evE G e ρ S).toS ρ fun _ S1 => .ok .nx ρ S1
  | .asg g e, ρ, S => (evE G e ρ S).toS ρ fun d S1 => asG G g d ρ S1
  | .par is es, ρ, S => (evEs G es ρ S).toS ρ fun ds S1 => match setsI is ds ρ with
    | some ρ' => .ok .nx ρ' S1
    | none => .bad
  | .aug i o e, ρ, S => ((Res.of (slot ρ i) S).bind fun x S0 => (evE G e ρ S0).bind fun y S1 => Res.ofP (ipD o x y S1)).toS ρ fun z S2 => .ok .nx (ρ.set i (some z)) S2
  | .augx a i o e, ρ, S => ((evE G a ρ S).bind fun x S1 => (evE G i ρ S1).bind fun y S2 => (Res.of (ixD x y S2) S2).bind fun u S3 => (evE G e ρ S3).bind fun v S4 => (Res.ofP (ipD o u v S4)).bind fun z S5 => Res.of (setI x y z S5) S5).toS ρ fun S6 _ => .ok .nx ρ S6
  | .ret e, ρ, S => (evE G e ρ S).toS ρ fun d S1 => .ok (.rt d) ρ S1
  | .ite t a b, ρ, S => (evT G t ρ S).toS ρ fun c S1 => if c = true then evSs G w a ρ S1 else evSs G w b ρ S1
  | .whl t b, ρ, S => whlL (evT G t) (fun ρ S => evSs G w b ρ S) w ρ S
  | .fr t k its b, ρ, S => (evEs G its ρ S).toS ρ fun xs S1 => match itD k xs S1 with
    | some (items, g) => forL (asT t) (fun ρ S => evSs G w b ρ S) g items ρ S1
    | none => .bad
  | .pass, ρ, S => .ok .nx ρ S
  | .brk, ρ, S => .ok .bk ρ S
  | .cont, ρ, S => .ok .ct ρ S
  | .never, _, _ => .bad
def evSs (G : Gm) (w : Nat) : List IS → Env' → Store → RS
  | [], ρ, S => .ok .nx ρ S
  | s :: ss, ρ, S => (evS G w s ρ S).bind fun ρ1 S1 => evSs G w ss ρ1 S1
end

/-! ### defs -/
structure FnI where
  ps : Nat
  n : Nat
  body : List IS
  deriving Inhabited
structure ClI where
  init : Nat
  deriving Inhabited
structure Prg where
  fns : List FnI
  cls : List ClI
  gc : List D
  dfl : List (List D)
def startD (n : Nat) (ds : List D) : Env' := ds.map some ++ List.replicate (n - ds.length) none
def runF (G : Gm) (w : Nat) (f : FnI) (ds : List D) (S : Store) : Res D := if ds.length = f.ps then (match evSs G w f.body (startD f.n ds) S with
  | .ok .nx _ S' => .ok .non S'
  | .ok (.rt d) _ S' => .ok d S'
  | .exc x _ S' => .exc x S'
  | _ => .bad) else .bad
def gm (P : Prg) (w : Nat) : Nat → Gm
  | 0 => ⟨fun _ _ _ => .bad, fun _ _ _ => .bad, fun i => P.gc.getD i .non, fun i => P.dfl.getD i []⟩
  | k + 1 => ⟨fun f ds S => match P.fns[f]? with
      | some fi => runF (gm P w k) w fi ds S
      | none => .bad,
    fun c ds S => match P.cls[c]? with
      | some ci => match P.fns[ci.init]? with
        | some fi => (runF (gm P w k) w fi (.obj S.length :: ds) (S ++ [.ins c []])).bind fun v S' => match v with
          | .non => .ok (.obj S.length) S'
          | _ => .bad
        | none => .bad
      | none => .bad, fun i => P.gc.getD i .non, fun i => P.dfl.getD i []⟩
end MP
end

section
set_option maxRecDepth 100000
set_option maxHeartbeats 2000000
/-! MP3: the operations on values, by the hand layer's rules. -/
namespace MP
open PySem PySem.Spec L2

section
variable (K : PySem.W.Frag) (CA : Nat → Option Addr)
/-- what is wanted of a value and a store, over the abstract heap -/
def PostV (α : List Addr) (H : Hp) (o : Option (D × Store)) (Q : VK) : Prop :=
  ∃ d S', o = some (d, S') ∧ ∀ (α' : List Addr) (H' : Hp) (v : V), Ext α H α' H' → RelS K CA α' S' H' → RV K α' H' d v → Q v H'
def rB (f : D → D → Store → Option (D × Store)) : R2 := fun x y H Q => ∃ α S d1 d2, RelS K CA α S H ∧ RV K α H d1 x ∧ RV K α H d2 y ∧ PostV K CA α H (f d1 d2 S) Q
end
theorem lim_le : lim ≤ sizeLine := by rw [sizeLine_eq]; decide
theorem lim_lt {n : Nat} (h : n < lim) : n < sizeLine := Nat.lt_of_lt_of_le h lim_le
theorem le_lim {n : Nat} (h : n ≤ lim) : n ≤ sizeLine := Nat.le_trans h lim_le
theorem lg_bits (i : Int) : Builtin.Int.intBits i ≤ lgI i + 1 := by
  unfold Builtin.Int.intBits lgI
  split <;> omega
theorem mulOk_ok {i j : Int} (h : mulOk i j = true) : IntMulOk i j := by
  have h1 := lg_bits i
  have h2 := lg_bits j
  have h3 : lgI i + lgI j < 100000000 := of_decide_eq_true h
  have e : bitsLine = 134217728 := by decide
  unfold IntMulOk
  intro z
  rw [Bool.and_eq_true] at z
  have z2 := z.2
  unfold Builtin.Int.intTooBig at z2
  have z3 := of_decide_eq_true z2
  rw [e] at z3
  omega
theorem divOk_ok {i j : Int} (h : divOk i j = true) : j ≠ 0 ∧ Builtin.divisionGoesByPylong i j = false := by
  unfold divOk at h
  rw [Bool.and_eq_true, Bool.or_eq_true] at h
  have hj : j ≠ 0 := of_decide_eq_true h.1
  refine ⟨hj, ?_⟩
  rcases h.2 with h | h
  · exact PyProof.noPylong_of_log2 (of_decide_eq_true h)
  · have h2 : lgI i < lgI j + 4000 := of_decide_eq_true h
    unfold lgI at h2
    unfold Builtin.divisionGoesByPylong
    have e : (j == 0) = false := by simpa using hj
    by_cases hi : i = 0
    · simp [hi, e]
    · have e2 : (i == 0) = false := by simpa using hi
      simp only [e, e2, Bool.false_eq_true, if_false, Bool.and_eq_false_iff, decide_eq_false_iff_not]
      right
      omega

section
variable {X : Cx} {CA : Nat → Option Addr} {α α' : List Addr} {S S' : Store} {H H' : Hp} {a : Addr} {x y v : V} {d e : D}
theorem lstAt_some {n : Nat} {ds : List D} (h : lstAt S n = some ds) : S[n]? = some (.lst ds) := by
  unfold lstAt at h
  split at h
  · cases h; assumption
  · cases h
theorem RelS.lst {K : PySem.W.Frag} {n : Nat} {ds : List D} (r : RelS K CA α S H) (h : lstAt S n = some ds) (hn : α[n]? = some a) : ∃ xs, H a = some (.lst xs) ∧ RVs K α H ds xs := by
  obtain ⟨b, h1, h2⟩ := r.ok n _ (lstAt_some h)
  rw [hn] at h1; cases h1
  exact h2
theorem RelS.push_lst {K : PySem.W.Frag} {p : Addr} {ds : List D} {xs : List V} (r : RelS K CA α S H) (h : H p = none) (rv : RVs K α H ds xs) : RelS K CA (α ++ [p]) (S ++ [.lst ds]) (upd H p (.lst xs)) :=
  r.push h ⟨xs, upd_same, rv.mono r.nt (Ext.push h)⟩
theorem push_get {p : Addr} (hl : α.length = S.length) : (α ++ [p])[S.length]? = some p := by
  rw [← hl, List.getElem?_append_right (Nat.le_refl _)]
  simp
theorem RelS.new_lst {K : PySem.W.Frag} {p : Addr} {ds : List D} {xs : List V} (r : RelS K CA α S H) (h : H p = none) (rv : RVs K α H ds xs) {Q : VK}
    (k : ∀ (α' : List Addr) (H' : Hp) (v : V), Ext α H α' H' → RelS K CA α' (S ++ [.lst ds]) H' → RV K α' H' (.obj S.length) v → Q v H') : Q (.ref p) (upd H p (.lst xs)) :=
  k _ _ _ (Ext.push h) (r.push_lst h rv) (.obj (push_get r.len))
theorem RelS.new_tup {K : PySem.W.Frag} {p : Addr} {ds : List D} {xs : List V} (r : RelS K CA α S H) (h : H p = none) (rv : RVs K α H ds xs) {Q : VK}
    (k : ∀ (α' : List Addr) (H' : Hp) (v : V), Ext α H α' H' → RelS K CA α' S H' → RV K α' H' (.tup ds) v → Q v H') : Q (.ref p) (upd H p (.tup xs)) :=
  k _ _ _ (Ext.laid h) (r.laid h) (.tup (SqT.of upd_same) (rv.mono r.nt (Ext.laid h)))

theorem opImp {f : Value → Value → Sem Value} {r r' : R2} (h : OpR X f r) (i : ∀ x y H Q, r' x y H Q → r x y H Q) : OpR X f r' :=
  fun pins s σ H x y v u Q I rx ry q => h pins s σ H x y v u Q I rx ry (i _ _ _ _ q)

theorem ob_add : OpR X (binaryOp .Add) (rB X.K CA (binD .add)) := by
  intro pins s σ H x y v u Q I rx ry h
  obtain ⟨α, S, d1, d2, rs, r1, r2, d, S', e, k⟩ := h
  unfold binD at e
  split at e <;> try (first | (cases e; done) | contradiction)
  · cases r1; cases r2; cases e
    exact op_add pins s σ H _ _ v u Q I rx ry ⟨_, _, rfl, rfl, k α H _ (Ext.refl _ _) rs (.int _)⟩
  · cases r1; cases r2
    split at e
    · rename_i hl
      cases e
      exact op_add_str pins s σ H _ _ v u Q I rx ry ⟨_, _, rfl, rfl, le_lim hl, k α H _ (Ext.refl _ _) rs (.str _)⟩
    · cases e
  · split at e
    · rename_i hl
      cases e
      cases r1 with
      | tup h1 v1 =>
        cases r2 with
        | tup h2 v2 =>
          refine op_catA pins s σ H _ _ v u Q I rx ry ⟨_, _, _, _, rfl, rfl, h1, h2, ?_, fun e => ?_, fun _ e => ?_, fun _ _ p hp => ?_⟩
          · rw [← v1.length, ← v2.length]; exact le_lim hl
          · subst e
            cases v1
            exact k α H _ (Ext.refl _ _) rs (.tup h2 v2)
          · subst e
            cases v2
            rw [List.append_nil] at k
            exact k α H _ (Ext.refl _ _) rs (.tup h1 v1)
          · exact rs.new_tup hp (v1.append v2) k
    · cases e
  · split at e
    · rename_i m n _ _ xs ys e1 e2
      split at e
      · rename_i hl
        cases e
        cases r1 with
        | obj h1 =>
          cases r2 with
          | obj h2 =>
            obtain ⟨vs, hv, rv⟩ := rs.lst e1 h1
            obtain ⟨ws, hw, rw'⟩ := rs.lst e2 h2
            refine op_cat pins s σ H _ _ v u Q I rx ry ⟨_, _, _, _, rfl, rfl, hv, hw, ?_, fun p hp => rs.new_lst hp (rv.append rw') k⟩
            rw [← rv.length, ← rw'.length]; exact le_lim hl
      · cases e
    · cases e
theorem ob_sub : OpR X (binaryOp .Sub) (rB X.K CA (binD .sub)) := by
  intro pins s σ H x y v u Q I rx ry h
  obtain ⟨α, S, d1, d2, rs, r1, r2, d, S', e, k⟩ := h
  unfold binD at e
  split at e <;> try (first | (cases e; done) | contradiction)
  · cases r1; cases r2; cases e
    exact op_sub pins s σ H _ _ v u Q I rx ry ⟨_, _, rfl, rfl, k α H _ (Ext.refl _ _) rs (.int _)⟩
  · cases r1; cases r2; cases e
    cases rx; cases ry
    exact PyProof.Rows.sub_bool ⟨.int _, H, I.tok _, ⟨_, rfl⟩, k α H _ (Ext.refl _ _) rs (.int _)⟩
theorem ob_mul : OpR X (binaryOp .Mult) (rB X.K CA (binD .mul)) := by
  intro pins s σ H x y v u Q I rx ry h
  obtain ⟨α, S, d1, d2, rs, r1, r2, d, S', e, k⟩ := h
  unfold binD at e
  split at e <;> try (first | (cases e; done) | contradiction)
  · cases r1; cases r2
    split at e
    · rename_i hm
      cases e
      obtain ⟨t, rfl⟩ := rx
      obtain ⟨t', rfl⟩ := ry
      exact PyProof.Rows.mul_int ⟨.int _, H, I.tok _, ⟨_, rfl⟩, k α H _ (Ext.refl _ _) rs (.int _)⟩ (mulOk_ok hm)
    · cases e
  · split at e
    · rename_i m kk _ xs e1
      split at e
      · rename_i hl
        cases e
        cases r1 with
        | obj h1 =>
          cases r2
          obtain ⟨vs, hv, rv⟩ := rs.lst e1 h1
          have rep : ∀ n : Nat, RVs X.K α H (List.replicate n xs).flatten (List.replicate n vs).flatten := by
            intro n
            induction n with
            | zero => exact .nil
            | succ n ih => rw [List.replicate_succ, List.replicate_succ, List.flatten_cons, List.flatten_cons]; exact rv.append ih
          refine op_rep pins s σ H _ _ v u Q I rx ry ⟨_, _, _, rfl, rfl, hv, by omega, by omega, ?_, fun p hp => rs.new_lst hp (rep _) k⟩
          rw [← rv.length]; exact le_lim hl.2.2
      · cases e
    · cases e
theorem ob_fdiv : OpR X (binaryOp .FloorDiv) (rB X.K CA (binD .fdiv)) := by
  intro pins s σ H x y v u Q I rx ry h
  obtain ⟨α, S, d1, d2, rs, r1, r2, d, S', e, k⟩ := h
  unfold binD at e
  split at e <;> try (first | (cases e; done) | contradiction)
  · cases r1; cases r2
    split at e
    · rename_i hm
      cases e
      obtain ⟨t, rfl⟩ := rx
      obtain ⟨t', rfl⟩ := ry
      obtain ⟨h1, h2⟩ := divOk_ok hm
      exact PyProof.Rows.floordiv_int h1 ⟨.int _, H, I.tok _, ⟨_, rfl⟩, k α H _ (Ext.refl _ _) rs (.int _)⟩ (.inl h2)
    · cases e
theorem ob_mod : OpR X (binaryOp .Mod) (rB X.K CA (binD .mod)) := by
  intro pins s σ H x y v u Q I rx ry h
  obtain ⟨α, S, d1, d2, rs, r1, r2, d, S', e, k⟩ := h
  unfold binD at e
  split at e <;> try (first | (cases e; done) | contradiction)
  · cases r1; cases r2
    split at e
    · rename_i hm
      cases e
      exact op_modN pins s σ H _ _ v u Q I rx ry ⟨_, _, rfl, rfl, hm, k α H _ (Ext.refl _ _) rs (.int _)⟩
    · cases e
theorem ob_pow : OpR X (binaryOp .Pow) (rB X.K CA (binD .pow)) := by
  intro pins s σ H x y v u Q I rx ry h
  obtain ⟨α, S, d1, d2, rs, r1, r2, d, S', e, k⟩ := h
  unfold binD at e
  split at e <;> try (first | (cases e; done) | contradiction)
  · cases r1; cases r2
    split at e
    · rename_i hm
      cases e
      exact op_pow pins s σ H _ _ v u Q I rx ry ⟨_, _, rfl, rfl, hm, k α H _ (Ext.refl _ _) rs (.int _)⟩
    · cases e
theorem shl_ok' {i j : Int} (h : 0 ≤ j ∧ (lgI i : Int) + j < 100000000) : CShl i j := by
  have hb := lg_bits i
  exact ⟨h.1, by omega⟩
theorem ob_shl : OpR X (binaryOp .LShift) (rB X.K CA (binD .shl)) := by
  intro pins s σ H x y v u Q I rx ry h
  obtain ⟨α, S, d1, d2, rs, r1, r2, d, S', e, k⟩ := h
  unfold binD at e
  split at e <;> try (first | (cases e; done) | contradiction)
  · cases r1; cases r2
    split at e
    · rename_i hm
      cases e
      exact op_shlW pins s σ H _ _ v u Q I rx ry ⟨_, _, rfl, rfl, shl_ok' hm, k α H _ (Ext.refl _ _) rs (.int _)⟩
    · cases e
theorem ob_shr : OpR X (binaryOp .RShift) (rB X.K CA (binD .shr)) := by
  intro pins s σ H x y v u Q I rx ry h
  obtain ⟨α, S, d1, d2, rs, r1, r2, d, S', e, k⟩ := h
  unfold binD at e
  split at e <;> try (first | (cases e; done) | contradiction)
  · cases r1; cases r2
    split at e
    · rename_i hm
      cases e
      exact op_shr pins s σ H _ _ v u Q I rx ry ⟨_, _, rfl, rfl, hm, k α H _ (Ext.refl _ _) rs (.int _)⟩
    · cases e
/-- the same in place, of ints alone and texts -/
theorem oi_add : OpR X (inplaceOp .Add) (rB X.K CA fun x y S => match x, y with | .int i, .int j => some (.int (i + j), S) | .str s, .str t => if s.length + t.length ≤ lim then some (.str (s ++ t), S) else none | _, _ => none) := by
  intro pins s σ H x y v u Q I rx ry h
  obtain ⟨α, S, d1, d2, rs, r1, r2, d, S', e, k⟩ := h
  dsimp only at e
  split at e <;> try (first | (cases e; done) | contradiction)
  · cases r1; cases r2; cases e
    exact iop_add pins s σ H _ _ v u Q I rx ry ⟨_, _, rfl, rfl, k α H _ (Ext.refl _ _) rs (.int _)⟩
  · cases r1; cases r2
    split at e
    · rename_i hl
      cases e
      exact iop_add_str pins s σ H _ _ v u Q I rx ry ⟨_, _, rfl, rfl, le_lim hl, k α H _ (Ext.refl _ _) rs (.str _)⟩
    · cases e
theorem oi_sub : OpR X (inplaceOp .Sub) (rB X.K CA fun x y S => match x, y with | .int i, .int j => some (.int (i - j), S) | _, _ => none) := by
  intro pins s σ H x y v u Q I rx ry h
  obtain ⟨α, S, d1, d2, rs, r1, r2, d, S', e, k⟩ := h
  dsimp only at e
  split at e <;> try (first | (cases e; done) | contradiction)
  · cases r1; cases r2; cases e
    exact iop_sub pins s σ H _ _ v u Q I rx ry ⟨_, _, rfl, rfl, k α H _ (Ext.refl _ _) rs (.int _)⟩

/-! ### data -/
theorem allS_ok {K : PySem.W.Frag} {f : D → Option PyData} (hf : ∀ (d : D) (p : PyData) (v : V), f d = some p → RV K α H d v → Dp K H v p) : ∀ {ds : List D} {ps : List PyData} {vs : List V}, allS f ds = some ps → RVs K α H ds vs → DpAll K H vs ps
  | [], ps, vs, e, r => by
    cases r
    cases e; exact .nil
  | d :: ds, ps, vs, e, r => by
    cases r with
    | cons h rr =>
      unfold allS at e
      split at e
      · rename_i p h1
        split at e
        · rename_i ps' h2
          cases e
          exact .cons (hf _ _ _ h1 h) (allS_ok hf h2 rr)
        · cases e
      · cases e
theorem toP_ok {K : PySem.W.Frag} (rs : RelS K CA α S H) : ∀ (n : Nat) (d : D) (p : PyData) (v : V), toP S n d = some p → RV K α H d v → Dp K H v p := by
  intro n
  induction n with
  | zero =>
    intro d p v e r
    cases r with
    | non => cases e; exact .non
    | bl b => cases e; exact .bl b
    | int i => cases e; exact .int i
    | str x => cases e; exact .str x
    | _ => cases e
  | succ n ih =>
    intro d p v e r
    cases r with
    | non => cases e; exact .non
    | bl b => cases e; exact .bl b
    | int i => cases e; exact .int i
    | str x => cases e; exact .str x
    | tup h rr =>
      obtain ⟨ps, h1, rfl⟩ := Option.map_eq_some_iff.mp (show (allS (toP S n) _).map PyData.tuple = some p from e)
      exact .tup h (allS_ok ih h1 rr)
    | lsf h rr =>
      obtain ⟨ps, h1, rfl⟩ := Option.map_eq_some_iff.mp (show (allS (toP S n) _).map PyData.list = some p from e)
      exact .lst h.sq (allS_ok ih h1 rr)
    | @obj m _ h =>
      have e' : (match lstAt S m with | some ds => (allS (toP S n) ds).map PyData.list | none => none) = some p := e
      split at e'
      · rename_i ds e1
        obtain ⟨ps, h1, rfl⟩ := Option.map_eq_some_iff.mp e'
        obtain ⟨xs, hx, rr⟩ := rs.lst e1 h
        exact .lst (SqL.of hx) (allS_ok ih h1 rr)
      · cases e'
theorem toPs_ok {K : PySem.W.Frag} (rs : RelS K CA α S H) {n : Nat} {ds : List D} {ps : List PyData} {vs : List V} (e : toPs S n ds = some ps) (r : RVs K α H ds vs) : DpAll K H vs ps := allS_ok (toP_ok rs n) e r
theorem RelS.seq {K : PySem.W.Frag} {d : D} {ds : List D} {v : V} (rs : RelS K CA α S H) (h : seqD d S = some ds) (r : RV K α H d v) : ∃ a xs, v = .ref a ∧ (SqL K H a xs ∨ SqT K H a xs) ∧ RVs K α H ds xs := by
  cases r with
  | tup hs rr => cases h; exact ⟨_, _, rfl, .inr hs, rr⟩
  | lsf hs rr => cases h; exact ⟨_, _, rfl, .inl hs.sq, rr⟩
  | obj ho =>
    obtain ⟨xs, hx, rr⟩ := rs.lst h ho
    exact ⟨_, xs, rfl, .inl (SqL.of hx), rr⟩
  | _ => cases h

/-! ### comparisons -/
def rC (K : PySem.W.Frag) (CA : Nat → Option Addr) (f : D → D → Store → Option Bool) : R2 := fun x y H Q => ∃ α S d1 d2 b, RelS K CA α S H ∧ RV K α H d1 x ∧ RV K α H d2 y ∧ f d1 d2 S = some b ∧ Q (.bl b) H
theorem oc_int {o : CO} {op : CmpOp} {g : Int → Int → Bool} (h : OpR X (compareOp op) (rI0 fun i j => .bl (g i j))) (hg : ∀ (d1 d2 : D) (S : Store) (b : Bool), cmpD o d1 d2 S = some b → ∃ i j, d1 = .int i ∧ d2 = .int j ∧ b = g i j) :
    OpR X (compareOp op) (rC X.K CA (cmpD o)) := by
  refine opImp h fun x y H Q ⟨α, S, d1, d2, b, rs, r1, r2, e, q⟩ => ?_
  obtain ⟨i, j, rfl, rfl, rfl⟩ := hg _ _ _ _ e
  cases r1; cases r2
  exact ⟨i, j, rfl, rfl, q⟩
theorem oc_lt : OpR X (compareOp .Lt) (rC X.K CA (cmpD .lt)) := oc_int op_lt fun d1 d2 S b e => by
  cases d1 <;> cases d2 <;> first | (cases e; exact ⟨_, _, rfl, rfl, rfl⟩) | (cases e; done)
theorem oc_le : OpR X (compareOp .LtE) (rC X.K CA (cmpD .le)) := oc_int op_le fun d1 d2 S b e => by
  cases d1 <;> cases d2 <;> first | (cases e; exact ⟨_, _, rfl, rfl, rfl⟩) | (cases e; done)
theorem oc_gt : OpR X (compareOp .Gt) (rC X.K CA (cmpD .gt)) := oc_int op_gt fun d1 d2 S b e => by
  cases d1 <;> cases d2 <;> first | (cases e; exact ⟨_, _, rfl, rfl, rfl⟩) | (cases e; done)
theorem oc_ge : OpR X (compareOp .GtE) (rC X.K CA (cmpD .ge)) := oc_int op_ge fun d1 d2 S b e => by
  cases d1 <;> cases d2 <;> first | (cases e; exact ⟨_, _, rfl, rfl, rfl⟩) | (cases e; done)
theorem eqD_some {d1 d2 : D} {S : Store} {b : Bool} (e : eqD d1 d2 S = some b) : ∃ p q, toP S 60 d1 = some p ∧ toP S 60 d2 = some q ∧ SeqAt.shaped p = true ∧ SeqAt.shaped q = true ∧ b = PyData.eqv p q := by
  unfold eqD at e
  split at e
  · rename_i p q h1 h2
    split at e
    · rename_i hs
      cases e
      rw [Bool.and_eq_true] at hs
      exact ⟨p, q, h1, h2, hs.1, hs.2, rfl⟩
    · cases e
  · cases e
theorem oc_eq (hu : X.A.units + 64 < cLine) : OpR X (compareOp .Eq) (rC X.K CA (cmpD .eq)) := opImp (op_eqD hu) fun x y H Q ⟨α, S, d1, d2, b, rs, r1, r2, e, q⟩ => by
  have e' : eqD d1 d2 S = some b := by cases d1 <;> cases d2 <;> exact e
  obtain ⟨p, p', h1, h2, h3, h4, rfl⟩ := eqD_some e'
  exact ⟨p, p', toP_ok rs _ _ _ _ h1 r1, toP_ok rs _ _ _ _ h2 r2, h3, h4, q⟩
theorem oc_ne (hu : X.A.units + 64 < cLine) : OpR X (compareOp .NotEq) (rC X.K CA (cmpD .ne)) := opImp (op_neD hu) fun x y H Q ⟨α, S, d1, d2, b, rs, r1, r2, e, q⟩ => by
  have e' : (eqD d1 d2 S).map (fun b => !b) = some b := by cases d1 <;> cases d2 <;> exact e
  obtain ⟨b', h0, rfl⟩ := Option.map_eq_some_iff.mp e'
  obtain ⟨p, p', h1, h2, h3, h4, rfl⟩ := eqD_some h0
  exact ⟨p, p', toP_ok rs _ _ _ _ h1 r1, toP_ok rs _ _ _ _ h2 r2, h3, h4, q⟩
theorem oc_is : OpR X (compareOp .Is) (rC X.K CA (cmpD .is_)) := by
  intro pins s σ H x y v u Q I rx ry ⟨α, S, d1, d2, b, rs, r1, r2, e, q⟩
  cases r2 with
  | non =>
    refine op_isN pins s σ H x _ v u Q I rx ry ⟨rfl, ?_⟩
    have : b = decide (x = V.non) := by cases r1 <;> (cases e; simp)
    rw [← this]; exact q
  | bl c =>
    cases ry
    cases r1 with
    | bl a =>
      have e' : (a == c) = b := Option.some.inj e
      cases rx
      by_cases h : a = c
      · subst h; exact wpAny_is_self rfl ⟨.bl true, H, I, rfl, by rw [← e', beq_self_eq_true] at q; exact q⟩
      · exact wpAny_is_other rfl (fun z => h (Value.bool.inj z)) ⟨.bl false, H, I, rfl, by rw [← e', beq_eq_false_iff_ne.mpr h] at q; exact q⟩
    | non => cases e; cases rx; exact wpAny_is_other rfl (by simp) ⟨.bl false, H, I, rfl, q⟩
    | int i => cases e; obtain ⟨t, rfl⟩ := rx; exact wpAny_is_other rfl (by simp) ⟨.bl false, H, I, rfl, q⟩
    | str z => cases e; obtain ⟨t, rfl⟩ := rx; exact wpAny_is_other rfl (by simp) ⟨.bl false, H, I, rfl, q⟩
    | tup h r => cases e; cases rx; exact wpAny_is_other rfl (by simp) ⟨.bl false, H, I, rfl, q⟩
    | lsf h r => cases e; cases rx; exact wpAny_is_other rfl (by simp) ⟨.bl false, H, I, rfl, q⟩
    | obj h => cases e; cases rx; exact wpAny_is_other rfl (by simp) ⟨.bl false, H, I, rfl, q⟩
  | _ => cases d1 <;> cases e
theorem oc_isn : OpR X (compareOp .IsNot) (rC X.K CA (cmpD .isn)) := by
  intro pins s σ H x y v u Q I rx ry ⟨α, S, d1, d2, b, rs, r1, r2, e, q⟩
  cases r2 with
  | non =>
    refine op_notN pins s σ H x _ v u Q I rx ry ⟨rfl, ?_⟩
    have : b = !decide (x = V.non) := by cases r1 <;> (cases e; simp)
    rw [← this]; exact q
  | bl c =>
    cases ry
    cases r1 with
    | bl a =>
      have e' : (!(a == c)) = b := Option.some.inj e
      cases rx
      by_cases h : a = c
      · subst h; exact wpAny_isNot_self rfl ⟨.bl false, H, I, rfl, by rw [← e', beq_self_eq_true] at q; exact q⟩
      · exact wpAny_isNot_other rfl (fun z => h (Value.bool.inj z)) ⟨.bl true, H, I, rfl, by rw [← e', beq_eq_false_iff_ne.mpr h] at q; exact q⟩
    | non => cases e; cases rx; exact wpAny_isNot_other rfl (by simp) ⟨.bl true, H, I, rfl, q⟩
    | int i => cases e; obtain ⟨t, rfl⟩ := rx; exact wpAny_isNot_other rfl (by simp) ⟨.bl true, H, I, rfl, q⟩
    | str z => cases e; obtain ⟨t, rfl⟩ := rx; exact wpAny_isNot_other rfl (by simp) ⟨.bl true, H, I, rfl, q⟩
    | tup h r => cases e; cases rx; exact wpAny_isNot_other rfl (by simp) ⟨.bl true, H, I, rfl, q⟩
    | lsf h r => cases e; cases rx; exact wpAny_isNot_other rfl (by simp) ⟨.bl true, H, I, rfl, q⟩
    | obj h => cases e; cases rx; exact wpAny_isNot_other rfl (by simp) ⟨.bl true, H, I, rfl, q⟩
  | _ => cases d1 <;> cases e

/-! ### items and slices -/
theorem atI_rel {K : PySem.W.Frag} {ds : List D} {xs : List V} {i : Int} {d : D} (r : RVs K α H ds xs) (h : atI ds i = some d) : ∃ v, atI xs i = some v ∧ RV K α H d v := by
  unfold atI at h ⊢
  rw [← r.length]
  cases hj : ixN ds.length i with
  | none => rw [hj] at h; cases h
  | some j =>
    rw [hj] at h
    exact r.got h
theorem ix_all : IxR X (fun x y H Q => ∃ α S d1 d2 d, RelS X.K CA α S H ∧ RV X.K α H d1 x ∧ RV X.K α H d2 y ∧ ixD d1 d2 S = some d ∧ ∀ v, RV X.K α H d v → Q v H) := by
  intro va sl pins s σ H x y v u Q I rx ry ⟨α, S, d1, d2, d, rs, r1, r2, e, q⟩ hs
  unfold ixD at e
  split at e
  · cases r1; cases r2
    split at e
    · rename_i hl
      obtain ⟨c, hc, rfl⟩ := Option.map_eq_some_iff.mp e
      exact ix_seq va sl pins s σ H _ _ v u Q I rx ry (.inr (.inr ⟨_, _, c, rfl, rfl, le_lim hl, hc, q _ (.str _)⟩)) hs
    · cases e
  · cases r2
    split at e
    · rename_i ds hd
      obtain ⟨a, xs, rfl, hsq, rr⟩ := rs.seq hd r1
      obtain ⟨w, hw, rw'⟩ := atI_rel rr e
      rcases hsq with hq | hq
      · exact ix_seq va sl pins s σ H _ _ v u Q I rx ry (.inl ⟨a, xs, _, w, rfl, rfl, hq, hw, q w rw'⟩) hs
      · exact ix_seq va sl pins s σ H _ _ v u Q I rx ry (.inr (.inl ⟨a, xs, _, w, rfl, rfl, hq, hw, q w rw'⟩)) hs
    · cases e
  · cases e
theorem cut_rel {K : PySem.W.Frag} {ds : List D} {xs : List V} {lo hi : Option Int} (r : RVs K α H ds xs) : RVs K α H (cutD ds lo hi) (cutV xs lo hi) := by
  unfold cutD cutV
  rw [← r.length]
  exact (r.drop _).take _
theorem sl_all : SlR X (fun x lo hi H Q => ∃ α S d1, RelS X.K CA α S H ∧ RV X.K α H d1 x ∧ PostV X.K CA α H (slD d1 lo hi S) Q) := by
  intro pins s σ H x v vl vu lo hi sl Q I rx hs pl pu ⟨α, S, d1, rs, r1, d, S', e, k⟩
  unfold slD at e
  split at e
  · cases e
    cases r1 with
    | tup h rr =>
      refine sl_tupA pins s σ H _ v vl vu lo hi sl Q I rx hs pl pu ⟨_, _, rfl, h, fun w => ?_, fun _ p hp => rs.new_tup hp (cut_rel rr) k⟩
      refine k α H _ (Ext.refl _ _) rs (.tup h ?_)
      have e : ∀ {τ : Type} (l : List τ), HT.sIx l.length 0 lo = 0 ∧ HT.sIx l.length l.length hi = l.length → (l.drop (HT.sIx l.length 0 lo)).take (HT.sIx l.length l.length hi - HT.sIx l.length 0 lo) = l := fun l ⟨w1, w2⟩ => by
        rw [w1, w2]; simp
      unfold cutD
      rw [e _ (by rw [rr.length]; exact w)]
      exact rr
  · split at e
    · rename_i ds hd
      cases e
      obtain ⟨a, xs, rfl, hsq, rr⟩ := rs.seq hd r1
      rcases hsq with hq | hq
      · exact sl_list pins s σ H _ v vl vu lo hi sl Q I rx hs pl pu ⟨a, xs, rfl, hq, fun p hp => rs.new_lst hp (cut_rel rr) k⟩
      · cases r1 with
        | tup h rr => exact (by assumption : ∀ ds' : List D, D.tup _ = D.tup ds' → False) _ rfl |>.elim
        | lsf h rr => exact sl_list pins s σ H _ v vl vu lo hi sl Q I rx hs pl pu ⟨_, _, rfl, h.sq, fun p hp => rs.new_lst hp (cut_rel (by cases hd; exact rr)) k⟩
        | obj h =>
          obtain ⟨ys, hy, ry⟩ := rs.lst hd h
          exact sl_list pins s σ H _ v vl vu lo hi sl Q I rx hs pl pu ⟨_, _, rfl, SqL.of hy, fun p hp => rs.new_lst hp (cut_rel ry) k⟩
    · cases e

/-! ### truth -/
theorem tru_all {K : PySem.W.Frag} {b : Bool} (rs : RelS K CA α S H) (r : RV K α H d v) (e : truthD d S = some b) : TruV K v H b := by
  cases r with
  | non => cases e; rfl
  | bl c => cases e; rfl
  | int i => cases e; rfl
  | str z =>
    unfold truthD at e
    dsimp only at e
    split at e
    · rename_i hl
      cases e
      refine ⟨le_lim hl, ?_⟩
      by_cases h : z.length = 0
      · simp [h]
      · have : ((z.length : Int) != 0) = true := by simpa using h
        rw [this]; simpa using h
    · cases e
  | tup h rr =>
    cases e
    refine .inr (.inl ⟨_, h, ?_⟩)
    cases rr <;> rfl
  | lsf h rr =>
    cases e
    refine .inl ⟨_, h.sq, ?_⟩
    cases rr <;> rfl
  | obj h =>
    unfold truthD at e
    obtain ⟨ds, hd, rfl⟩ := Option.map_eq_some_iff.mp e
    obtain ⟨xs, hx, rr⟩ := rs.lst hd h
    refine .inl ⟨_, SqL.of hx, ?_⟩
    cases rr <;> rfl

/-! ### calls of built-in functions and classes -/
def rK (K : PySem.W.Frag) (CA : Nat → Option Addr) (f : List D → Store → Option (D × Store)) : List V → Hp → VK → Prop := fun xs H Q => ∃ α S ds, RelS K CA α S H ∧ RVs K α H ds xs ∧ PostV K CA α H (f ds S) Q
theorem CallRimp {f : Value} {r r' : List V → Hp → VK → Prop} (h : CallR X f r) (i : ∀ xs H Q, r' xs H Q → r xs H Q) : CallR X f r' :=
  fun pins s σ H xs us Q I rs q => h pins s σ H xs us Q I rs (i _ _ _ q)
theorem cb_abs : CallR X (.builtin "abs") (rK X.K CA (biD .abs)) := CallRimp call_abs fun xs H Q ⟨α, S, ds, rs, rv, d, S', e, k⟩ => by
  unfold biD at e
  split at e <;> try (first | (cases e; done) | contradiction)
  cases e
  cases rv with
  | cons h r => cases h; cases r; exact ⟨_, rfl, k α H _ (Ext.refl _ _) rs (.int _)⟩
theorem cb_int : CallR X (.type "int") (rK X.K CA (biD .int)) := CallRimp call_int1 fun xs H Q ⟨α, S, ds, rs, rv, d, S', e, k⟩ => by
  unfold biD at e
  split at e <;> try (first | (cases e; done) | contradiction)
  · cases e
    cases rv with
    | cons h r => cases h; cases r; exact .inl ⟨_, rfl, k α H _ (Ext.refl _ _) rs (.int _)⟩
  · cases e
    cases rv with
    | cons h r => cases h; cases r; exact .inr ⟨_, rfl, k α H _ (Ext.refl _ _) rs (.int _)⟩
theorem cb_max2 (hc : X.calm = true) : CallR X (.builtin "max") (rK X.K CA (biD .max2)) := CallRimp (call_max2 hc) fun xs H Q ⟨α, S, ds, rs, rv, d, S', e, k⟩ => by
  unfold biD at e
  split at e <;> try (first | (cases e; done) | contradiction)
  cases e
  cases rv with
  | cons h r =>
    cases h
    cases r with
    | cons h r => cases h; cases r; exact ⟨_, _, rfl, k α H _ (Ext.refl _ _) rs (.int _)⟩
theorem cb_min2 (hc : X.calm = true) : CallR X (.builtin "min") (rK X.K CA (biD .min2)) := CallRimp (call_min2 hc) fun xs H Q ⟨α, S, ds, rs, rv, d, S', e, k⟩ => by
  unfold biD at e
  split at e <;> try (first | (cases e; done) | contradiction)
  cases e
  cases rv with
  | cons h r =>
    cases h
    cases r with
    | cons h r => cases h; cases r; exact ⟨_, _, rfl, k α H _ (Ext.refl _ _) rs (.int _)⟩
theorem cb_len : CallR X (.builtin "len") (rK X.K CA (biD .len)) := CallRimp call_len fun xs H Q ⟨α, S, ds, rs, rv, d, S', e, k⟩ => by
  unfold biD at e
  split at e <;> try (first | (cases e; done) | contradiction)
  · split at e
    · rename_i hl
      cases e
      cases rv with
      | cons h r => cases h; cases r; exact ⟨_, _, rfl, ⟨le_lim hl, rfl⟩, k α H _ (Ext.refl _ _) rs (.int _)⟩
    · cases e
  · split at e
    · rename_i es hd
      cases e
      cases rv with
      | cons h r =>
        cases r
        obtain ⟨a, ys, rfl, hq, rr⟩ := rs.seq hd h
        refine ⟨_, es.length, rfl, ?_, k α H _ (Ext.refl _ _) rs (.int _)⟩
        rcases hq with hq | hq
        · exact .inl ⟨_, hq, rr.length⟩
        · exact .inr ⟨_, hq, rr.length⟩
    · cases e
theorem cb_tuple : CallR X (.type "tuple") (rK X.K CA (biD .tuple)) := CallRimp call_tuple_of fun xs H Q ⟨α, S, ds, rs, rv, d, S', e, k⟩ => by
  unfold biD at e
  split at e <;> try (first | (cases e; done) | contradiction)
  · cases e
    cases rv with
    | cons h r =>
      cases r
      cases h with
      | tup h rr => exact ⟨_, _, rfl, .inr ⟨h, k α H _ (Ext.refl _ _) rs (.tup h rr)⟩⟩
  · split at e
    · rename_i es hd
      cases e
      cases rv with
      | cons h r =>
        cases r
        obtain ⟨a, ys, rfl, hq, rr⟩ := rs.seq hd h
        refine ⟨a, ys, rfl, ?_⟩
        rcases hq with hq | hq
        · exact .inl ⟨hq, fun p hp => rs.new_tup hp rr k⟩
        · exact .inr ⟨hq, k α H _ (Ext.refl _ _) rs (.tup hq rr)⟩
    · cases e
theorem cb_list : CallR X (.type "list") (rK X.K CA (biD .list)) := CallRimp call_list_of fun xs H Q ⟨α, S, ds, rs, rv, d, S', e, k⟩ => by
  unfold biD at e
  split at e <;> try (first | (cases e; done) | contradiction)
  split at e
  · rename_i es hd
    cases e
    cases rv with
    | cons h r =>
      cases r
      obtain ⟨a, ys, rfl, hq, rr⟩ := rs.seq hd h
      exact ⟨a, ys, rfl, hq, fun p hp => rs.new_lst hp rr k⟩
  · cases e
theorem intsOf_some : ∀ {ds : List D} {ns : List Int}, intsOf ds = some ns → ds = ns.map D.int
  | [], ns, e => by cases e; rfl
  | .int i :: ds, ns, e => by
    unfold intsOf at e
    obtain ⟨l, h, rfl⟩ := Option.map_eq_some_iff.mp e
    rw [intsOf_some h]; rfl
  | .non :: _, ns, e => by cases e
  | .bl _ :: _, ns, e => by cases e
  | .str _ :: _, ns, e => by cases e
  | .tup _ :: _, ns, e => by cases e
  | .lsf _ :: _, ns, e => by cases e
  | .obj _ :: _, ns, e => by cases e
theorem RelS.ls {K : PySem.W.Frag} {d : D} {ds : List D} {v : V} (rs : RelS K CA α S H) (h : lsD d S = some ds) (r : RV K α H d v) : ∃ a xs, v = .ref a ∧ SqL K H a xs ∧ RVs K α H ds xs := by
  cases r with
  | lsf hs rr => cases h; exact ⟨_, _, rfl, hs.sq, rr⟩
  | obj ho =>
    obtain ⟨xs, hx, rr⟩ := rs.lst h ho
    exact ⟨_, xs, rfl, SqL.of hx, rr⟩
  | _ => cases h
theorem cb_sum (hc : X.calm = true) : CallR X (.builtin "sum") (rK X.K CA (biD .sum)) := CallRimp (cr_sum hc) fun xs H Q ⟨α, S, ds, rs, rv, d, S', e, k⟩ => by
  unfold biD at e
  split at e <;> try (first | (cases e; done) | contradiction)
  split at e
  · rename_i es hd
    split at e
    · rename_i ns hn
      cases e
      cases rv with
      | cons h r =>
        cases r
        obtain ⟨a, ys, rfl, hq, rr⟩ := rs.ls hd h
        rw [intsOf_some hn] at rr
        rw [rr.ints] at hq
        exact ⟨a, ns, rfl, hq, k α H _ (Ext.refl _ _) rs (.int _)⟩
    · cases e
  · cases e

/-! ### methods -/
def rM (K : PySem.W.Frag) (CA : Nat → Option Addr) (m : Bm) : V → List V → Hp → VK → Prop := fun x xs H Q => ∃ α S d ds, RelS K CA α S H ∧ RV K α H d x ∧ RVs K α H ds xs ∧ PostV K CA α H (bmD m d ds S) Q
theorem MtRimp {id : String} {r r' : V → List V → Hp → VK → Prop} (h : MtR X id r) (i : ∀ x xs H Q, r' x xs H Q → r x xs H Q) : MtR X id r' :=
  fun pins s σ H x xs v us Q I rx rs q => h pins s σ H x xs v us Q I rx rs (i _ _ _ _ q)
theorem RelS.setl {K : PySem.W.Frag} {n : Nat} {ds : List D} {xs : List V} (rs : RelS K CA α S H) (h : α[n]? = some a) (r : RVs K α H ds xs) : RelS K CA α (S.set n (.lst ds)) (upd H a (.lst xs)) :=
  rs.write h ⟨xs, upd_same, r.mono rs.nt (Ext.write (List.mem_of_getElem? h))⟩
theorem mb_append : MtR X "list.append" (rM X.K CA .append) := MtRimp mt_append fun x xs H Q ⟨α, S, d, ds, rs, r1, rv, d', S', e, k⟩ => by
  unfold bmD at e
  split at e <;> try (first | (cases e; done) | contradiction)
  split at e
  · rename_i es hd
    split at e
    · rename_i hl
      cases e
      cases r1 with
      | obj ho =>
        cases rv with
        | cons hy r =>
          cases r
          obtain ⟨vs, hv, rr⟩ := rs.lst hd ho
          refine ⟨_, vs, _, rfl, rfl, hv, by rw [← rr.length]; exact lim_lt hl, ?_⟩
          exact k _ _ _ (Ext.write (List.mem_of_getElem? ho)) (rs.setl ho (rr.append (.cons hy .nil))) .non
    · cases e
  · cases e
theorem mb_extend : MtR X "list.extend" (rM X.K CA .extend) := MtRimp mt_extend fun x xs H Q ⟨α, S, d, ds, rs, r1, rv, d', S', e, k⟩ => by
  unfold bmD at e
  split at e <;> try (first | (cases e; done) | contradiction)
  split at e
  · rename_i es fs hd hf
    split at e
    · rename_i hl
      cases e
      cases r1 with
      | obj ho =>
        cases rv with
        | cons hy r =>
          cases r
          cases hy with
          | obj hp =>
            obtain ⟨vs, hv, rr⟩ := rs.lst hd ho
            obtain ⟨ws, hw, rw'⟩ := rs.lst hf hp
            refine ⟨_, _, vs, ws, rfl, rfl, hv, hw, by rw [← rr.length, ← rw'.length]; exact Nat.le_of_lt (lim_lt hl), ?_⟩
            exact k _ _ _ (Ext.write (List.mem_of_getElem? ho)) (rs.setl ho (rr.append rw')) .non
    · cases e
  · cases e
theorem mb_pop : MtR X "list.pop" (rM X.K CA .pop) := MtRimp mt_pop fun x xs H Q ⟨α, S, d, ds, rs, r1, rv, d', S', e, k⟩ => by
  unfold bmD at e
  split at e <;> try (first | (cases e; done) | contradiction)
  split at e
  · rename_i es hd
    split at e
    · rename_i y hy
      cases e
      cases r1 with
      | obj ho =>
        cases rv
        obtain ⟨vs, hv, rr⟩ := rs.lst hd ho
        obtain ⟨w, hw, rw'⟩ := rr.got hy
        rw [rr.length] at hw
        refine ⟨_, vs, w, rfl, rfl, hv, hw, ?_⟩
        exact k _ _ _ (Ext.write (List.mem_of_getElem? ho)) (rs.setl ho rr.dropLast) (rw'.mono rs.nt (Ext.write (List.mem_of_getElem? ho)))
    · cases e
  · cases e
theorem firstIx_ok {p : PyData} : ∀ {ps : List PyData} {k j : Nat}, firstIx p ps k = some j → ∃ i, j = k + i ∧ ∃ z, ps[i]? = some z ∧ PyData.eqv z p = true ∧ ∀ (m : Nat) (z' : PyData), m < i → ps[m]? = some z' → PyData.eqv z' p = false
  | [], k, j, e => by cases e
  | q :: qs, k, j, e => by
    unfold firstIx at e
    split at e
    · rename_i h
      cases e
      exact ⟨0, rfl, q, rfl, h, fun m _ hm => absurd hm (Nat.not_lt_zero _)⟩
    · rename_i h
      obtain ⟨i, rfl, z, h1, h2, h3⟩ := firstIx_ok e
      refine ⟨i + 1, by omega, z, by simpa using h1, h2, fun m z' hm hz => ?_⟩
      cases m with
      | zero => cases hz; simpa using h
      | succ m => exact h3 m z' (by omega) (by simpa using hz)
theorem mb_index (hu : X.A.units + 65 < cLine) : MtR X "list.index" (rM X.K CA .index) := MtRimp (mt_indexD hu) fun x xs H Q ⟨α, S, d, ds, rs, r1, rv, d', S', e, k⟩ => by
  unfold bmD at e
  split at e <;> try (first | (cases e; done) | contradiction)
  split at e
  · rename_i es hd
    split at e
    · rename_i ps p hps hp
      split at e
      · rename_i hs
        split at e
        · rename_i j hj
          cases e
          rw [Bool.and_eq_true] at hs
          obtain ⟨i, rfl, z, h1, h2, h3⟩ := firstIx_ok hj
          cases r1 with
          | obj ho =>
            cases rv with
            | cons hy r =>
              cases r
              obtain ⟨vs, hv, rr⟩ := rs.lst hd ho
              rw [Nat.zero_add] at k
              exact ⟨_, _, p, ps, i, z, rfl, rfl, .lst (SqL.of hv) (toPs_ok rs hps rr), toP_ok rs _ _ _ _ hp hy, hs.2, hs.1, h1, h2, h3, k α H _ (Ext.refl _ _) rs (.int _)⟩
        · cases e
      · cases e
    · cases e
  · cases e
theorem RelS.tyL {K : PySem.W.Frag} {ds : List D} {v : V} (rs : RelS K CA α S H) {n : Nat} (h : lstAt S n = some ds) (r : RV K α H (.obj n) v) : tyV K "list" v H := by
  cases r with
  | obj ho =>
    obtain ⟨xs, hx, rr⟩ := rs.lst h ho
    exact .inl ⟨rfl, _, SqL.of hx⟩
end
end MP
end

section
set_option maxRecDepth 100000
set_option maxHeartbeats 2000000
/-! MP4: the text read into the little language; what that says of expressions. -/
namespace MP
open PySem PySem.Spec L2

/-! ### what is wanted -/
section
variable (K : PySem.W.Frag) (CA XA : Nat → Option Addr)
/-- an exception in the air -/
def RX (α : List Addr) (H : Hp) (x : Exn) (cls : Value) (dd : Option Addr) : Prop :=
  ∃ C, XA x.cls = some C ∧ cls = .ref C ∧ ((x.fs = [] ∧ dd = none) ∨ ∃ d gs, dd = some d ∧ H d = some (.xd gs) ∧ RFs K α H x.fs gs)
def PostG {β : Type} (α : List Addr) (H : Hp) (r : Res β) (P : β → List Addr → Store → Hp → Prop) (E : XK) : Prop := match r with
  | .ok b S' => ∀ (α' : List Addr) (H' : Hp), Ext α H α' H' → RelS K CA α' S' H' → P b α' S' H'
  | .exc x S' => ∀ (α' : List Addr) (H' : Hp) (cls : Value) (dd : Option Addr), Ext α H α' H' → RelS K CA α' S' H' → RX K XA α' H' x cls dd → E cls dd H'
  | .bad => False
end
section
variable {K : PySem.W.Frag} {CA XA : Nat → Option Addr} {β γ : Type} {α α' : List Addr} {H H' : Hp} {S S' : Store} {E : XK}
theorem PostG.mono {r : Res β} {P : β → List Addr → Store → Hp → Prop} (e : Ext α H α' H') (h : PostG K CA XA α H r P E) : PostG K CA XA α' H' r P E := by
  cases r with
  | ok b S' => exact fun α2 H2 e2 rs => h α2 H2 (e.trans e2) rs
  | exc x S' => exact fun α2 H2 cls dd e2 rs rx => h α2 H2 cls dd (e.trans e2) rs rx
  | bad => exact h
theorem PostG.bind {r : Res β} {f : β → Store → Res γ} {P : γ → List Addr → Store → Hp → Prop} (h : PostG K CA XA α H (r.bind f) P E) :
    PostG K CA XA α H r (fun b α1 S1 H1 => PostG K CA XA α1 H1 (f b S1) P E) E := by
  cases r with
  | ok b S' => exact fun α1 H1 e rs => PostG.mono e h
  | exc x S' => exact h
  | bad => exact h
theorem PostG.imp {r : Res β} {P P' : β → List Addr → Store → Hp → Prop} (h : PostG K CA XA α H r P E) (i : ∀ b α' S' H', Ext α H α' H' → RelS K CA α' S' H' → P b α' S' H' → P' b α' S' H') : PostG K CA XA α H r P' E := by
  cases r with
  | ok b S' => exact fun α1 H1 e rs => i _ _ _ _ e rs (h α1 H1 e rs)
  | exc x S' => exact h
  | bad => exact h
theorem PostG.ofP {o : Option (D × Store)} {P : D → List Addr → Store → Hp → Prop} (h : PostG K CA XA α H (Res.ofP o) P E) : ∃ d S', o = some (d, S') ∧ ∀ (α' : List Addr) (H' : Hp), Ext α H α' H' → RelS K CA α' S' H' → P d α' S' H' := by
  cases o with
  | none => exact False.elim h
  | some p => exact ⟨p.1, p.2, rfl, h⟩
theorem PostG.of {o : Option β} {P : β → List Addr → Store → Hp → Prop} (rs : RelS K CA α S H) (h : PostG K CA XA α H (Res.of o S) P E) : ∃ b, o = some b ∧ P b α S H := by
  cases o with
  | none => exact False.elim h
  | some b => exact ⟨b, rfl, h α H (Ext.refl _ _) rs⟩
end

/-! ### readings -/
section
variable (K : PySem.W.Frag) (CA XA : Nat → Option Addr) (G : Gm) (W : WX)
abbrev PE' (α : List Addr) (H : Hp) (σ : St) (r : Res D) (Q : VK) : Prop := PostG K CA XA α H r (fun d α' _ H' => ∀ v, RV K α' H' d v → Q v H') (WE W σ)
def rdE (e : IE) : TE := fun σ H Q => ∃ α ρ S, RelS K CA α S H ∧ RelE K α H ρ σ ∧ PE' K CA XA W α H σ (evE G e ρ S) Q
def rdT (e : IE) : TT := fun σ H Q => ∃ α ρ S, RelS K CA α S H ∧ RelE K α H ρ σ ∧ PostG K CA XA α H (evT G e ρ S) (fun b _ _ H' => Q b H') (WE W σ)
def rdA (es : List IE) : TA := fun σ H Q => ∃ α ρ S, RelS K CA α S H ∧ RelE K α H ρ σ ∧ PostG K CA XA α H (evEs G es ρ S) (fun ds α' _ H' => ∀ vs, RVs K α' H' ds vs → Q vs H') (WE W σ)
def rdIfs (es : List IE) : TT := fun σ H Q => ∃ α ρ S, RelS K CA α S H ∧ RelE K α H ρ σ ∧ PostG K CA XA α H (evIfs G es ρ S) (fun b _ _ H' => Q b H') (WE W σ)
def rdP (e : IE) : TO := fun σ H Q => ∃ α ρ S, RelS K CA α S H ∧ RelE K α H ρ σ ∧ PostG K CA XA α H (evP G e ρ S) (fun b _ _ H' => Q b H') (WE W σ)
end

/-! ### the text -/
structure FnC where
  name : Str
  ps : List Str
  nd : Nat
  glob : Bool
structure Cc where
  fns : List FnC
  cls : List Str
  gcs : List Str
  attrs : List Str
  /-- how many arguments a class is made of -/
  inits : List Nat
def findAt {α : Type} (p : α → Bool) : List α → Nat → Option Nat
  | [], _ => none
  | a :: l, k => if p a = true then some k else findAt p l (k + 1)
theorem findAt_some {α : Type} {p : α → Bool} : ∀ {l : List α} {k j : Nat}, findAt p l k = some j → ∃ i a, j = k + i ∧ l[i]? = some a ∧ p a = true
  | [], _, _, e => by cases e
  | a :: l, k, j, e => by
    unfold findAt at e
    split at e
    · cases e; exact ⟨0, a, rfl, rfl, by assumption⟩
    · obtain ⟨i, b, rfl, h1, h2⟩ := findAt_some e
      exact ⟨i + 1, b, by omega, by simpa using h1, h2⟩
def ixOf (x : Str) (l : List Str) : Option Nat := findAt (fun y => decide (y = x)) l 0
theorem ixOf_some {x : Str} {l : List Str} {j : Nat} (h : ixOf x l = some j) : l[j]? = some x := by
  obtain ⟨i, a, rfl, h1, h2⟩ := findAt_some h
  rw [Nat.zero_add, h1, of_decide_eq_true h2]
def opB : Operator → Option BO
  | .Add => some .add | .Sub => some .sub | .Mult => some .mul | .FloorDiv => some .fdiv | .Mod => some .mod | .Pow => some .pow | .LShift => some .shl | .RShift => some .shr
  | _ => none
def opC : CmpOp → Option CO
  | .Lt => some .lt | .LtE => some .le | .Gt => some .gt | .GtE => some .ge | .Eq => some .eq | .NotEq => some .ne | .Is => some .is_ | .IsNot => some .isn | .In => some .in_ | .NotIn => some .nin
def okName (x : Str) : Bool := !(x == ("__debug__" : Str)) && !(x == ("__classdict__" : Str)) && decide (x ≠ "__name__")
def varC (sc : Scope) (N : List Str) (x : Str) : Option Nat := match sc.names.lookup x with
  | some .local => if okName x then ixOf x N else none
  | some .cell => if okName x then ixOf x N else none
  | some .free => if okName x then ixOf x N else none
  | _ => none
def isGl (sc : Scope) (x : Str) : Bool := decide (sc.names.lookup x = some .globalImplicit) && okName x
def notSuper : PySem.Expr → Bool
  | .Call (.Name _ _) [] [] _ => false
  | _ => true
def constC : Const → Option D
  | .none => some .non | .bool b => some (.bl b) | .int i => some (.int i) | .str s => some (.str s)
  | _ => none
def biC : List (Str × Bi) := [("abs", .abs), ("len", .len), ("int", .int), ("tuple", .tuple), ("list", .list), ("sum", .sum)]
def bmC : List (Str × Bm) := [("append", .append), ("extend", .extend), ("pop", .pop), ("index", .index)]
def tyC : List (Str × String) := [("int", "int"), ("bool", "bool"), ("str", "str"), ("tuple", "tuple"), ("list", "list")]
mutual
def tgC (cl : Bool) (sc : Scope) (N : List Str) : Nat → PySem.Expr → Option IT
  | 0, _ => none
  | n + 1, e => match e with
    | .Name x _ => match sc.names.lookup x with
      | some .local => if okName x then (ixOf x N).map .nm else none
      | some .cell => if okName x && cl then (ixOf x N).map .nm else none
      | _ => none
    | .Tuple es _ _ => (tgsC cl sc N n es).map .tp
    | _ => none
def tgsC (cl : Bool) (sc : Scope) (N : List Str) : Nat → List PySem.Expr → Option (List IT)
  | 0, _ => none
  | n + 1, es => match es with
    | [] => some []
    | e :: es => match tgC cl sc N n e, tgsC cl sc N n es with
      | some t, some ts => some (t :: ts)
      | _, _ => none
end
mutual
def slT : IT → List Nat
  | .nm i => [i]
  | .tp ts => slTs ts
def slTs : List IT → List Nat
  | [] => []
  | t :: ts => slT t ++ slTs ts
end
/-- the names that a comprehension's target binds, with their places -/
def ownOf (N : List Str) : Nat → PySem.Expr → Option (List (Str × Nat))
  | 0, _ => none
  | n + 1, e => match e with
    | .Name x _ => (ixOf x N).map fun i => [(x, i)]
    | .Tuple es _ _ => (allS (ownOf N n) es).map List.flatten
    | _ => none
def iterC (cE : PySem.Expr → Option IE) (sc : Scope) (e : PySem.Expr) (tup : Bool) : Option (IK × List IE) := match e with
  | .Call (.Name x _) es [] _ =>
    if isGl sc x && decide (x = "range") && (decide (es.length = 1) || decide (es.length = 2)) then (allS cE es).map fun l => (.rng, l)
    else if isGl sc x && decide (x = "enumerate") && decide (es.length = 1) && tup then (allS cE es).map fun l => (.enum, l)
    else if isGl sc x && decide (x = "zip") && decide (es.length = 2) && tup then (allS cE es).map fun l => (.zip, l)
    else (cE e).map fun i => (.sq, [i])
  | e => (cE e).map fun i => (.sq, [i])
def isTup : PySem.Expr → Bool
  | .Tuple _ _ _ => true
  | _ => false
def fewC (es : List PySem.Expr) : Bool := decide (es.length < 20)

def notSet : PySem.Expr → Bool
  | .Set _ _ _ => false
  | _ => true
def cRg (f : PySem.Expr → Option IE) (sc : Scope) (a : PySem.Expr) : Option (List IE) := match a with
  | .Call (.Name y _) rs [] _ => if isGl sc y && decide (y = "range") && (decide (rs.length = 1) || decide (rs.length = 2)) then allS f rs else none
  | _ => none
def cBi (f : PySem.Expr → Option IE) (x : Str) (a : PySem.Expr) : Option IE := match biC.lookup x, f a with
  | some b, some ia => some (.bi b [ia])
  | _, _ => none
/-- a call of a name that is no variable -/
def cCall (c : Cc) (f : PySem.Expr → Option IE) (sc : Scope) (x : Str) (es : List PySem.Expr) : Option IE :=
  match findAt (fun r => r.glob && decide (r.name = x)) c.fns 0 with
  | some k => match c.fns[k]?, allS f es with
    | some r, some l => if es.length ≤ r.ps.length ∧ r.ps.length ≤ es.length + r.nd then some (.call k l (es.length + r.nd - r.ps.length)) else none
    | _, _ => none
  | none => match ixOf x c.cls with
    | some i => match c.inits[i]?, allS f es with
      | some m, some l => if es.length = m ∧ es ≠ [] then some (.mk i l) else none
      | _, _ => none
    | none => match es with
      | [a, b] => if x = "isinstance" then (match b, f a with
          | .Name t _, some ia => if isGl sc t then (match tyC.lookup t with
            | some T => some (.isi ia T)
            | none => match ixOf t c.cls with
              | some i => some (.isc ia i)
              | none => none) else none
          | _, _ => none)
        else match f a, f b with
          | some ia, some ib => if x = "max" then some (.bi .max2 [ia, ib]) else if x = "min" then some (.bi .min2 [ia, ib]) else none
          | _, _ => none
      | [a] => if x = "tuple" then (match cRg f sc a with
            | some l => some (.trg l)
            | none => cBi f x a)
          else if x = "list" then (match cRg f sc a with
            | some l => some (.lrg l)
            | none => cBi f x a)
          else cBi f x a
      | _ => none
def cMeth (f : PySem.Expr → Option IE) (a : PySem.Expr) (m : Str) (es : List PySem.Expr) : Option IE := match es, f a with
  | [], some ia => if m = "bit_length" then some (.bm .bits ia []) else if m = "pop" then some (.bm .pop ia []) else none
  | [e], some ia => match bmC.lookup m, f e with
    | some b, some ie => if b = .pop then none else some (.bm b ia [ie])
    | _, _ => none
  | _, _ => none

mutual
def cE (c : Cc) : Nat → Scope → List Str → PySem.Expr → Option IE
  | 0, _, _, _ => none
  | n + 1, sc, N, e => match e with
    | .Constant k _ _ => (constC k).map .c
    | .Name x _ => match varC sc N x with
      | some i => some (.v i)
      | none => if isGl sc x then (ixOf x c.gcs).map .g else none
    | .BinOp a op b _ => match opB op, cE c n sc N a, cE c n sc N b with
      | some o, some ia, some ib => some (.bin o ia ib)
      | _, _, _ => none
    | .UnaryOp .USub a _ => (cE c n sc N a).map .neg
    | .UnaryOp .Not a _ => (cE c n sc N a).map .not
    | .BoolOp op es _ => cBool c n sc N op es
    | .Compare a [op] [b] _ => match opC op, cE c n sc N a, cE c n sc N b with
      | some o, some ia, some ib => some (.cmp o ia ib)
      | _, _, _ => none
    | .Compare a [op, op'] [b, d] _ => match opC op, opC op', cE c n sc N a, cE c n sc N b, cE c n sc N d with
      | some o, some o', some ia, some ib, some id => some (.chain o o' ia ib id)
      | _, _, _, _, _ => none
    | .IfExp t a b _ => match cT c n sc N t, cE c n sc N a, cE c n sc N b with
      | some it, some ia, some ib => some (.ife it ia ib)
      | _, _, _ => none
    | .Tuple es _ _ => (allS (cE c n sc N) es).map .tup
    | .List es _ => (allS (cE c n sc N) es).map .lst
    | .Subscript a (.Slice lo hi none _) _ => match cE c n sc N a, cP c n sc N lo, cP c n sc N hi with
      | some ia, some il, some ih => some (.sl ia il ih)
      | _, _, _ => none
    | .Subscript a i _ => match cE c n sc N a, cE c n sc N i with
      | some ia, some ii => some (.ix ia ii)
      | _, _ => none
    | .Attribute a f _ => if notSuper a && decide (f ∈ c.attrs) then (cE c n sc N a).map fun ia => .fld ia f else none
    | .Call (.Name x _) es [] _ => if isGl sc x then cCall c (cE c n sc N) sc x es else none
    | .Call (.Attribute a m ap) es [] pos => if notSuper a && decide (ap.endLine = pos.line) then cMeth (cE c n sc N) a m es else none
    | .ListComp el [⟨tg, it, ifs, 0⟩] scope _ => match ownOf N 5 tg, iterC (cE c n sc N) sc it (isTup tg), tgC false (relS scope sc) N 5 tg, allS (cT c n (relS scope sc) N) ifs, cE c n (relS scope sc) N el with
      | some own, some (k, its), some t, some cs, some ie => if blkC N sc scope own && decide (ifs.length ≤ 1) && (slT t).all (fun i => decide (i ∈ own.map (·.2))) && notSet it then some (.lc t k its cs ie (own.map (·.2))) else none
      | _, _, _, _, _ => none
    | _ => none
def cT (c : Cc) : Nat → Scope → List Str → PySem.Expr → Option IE
  | 0, _, _, _ => none
  | n + 1, sc, N, e => match e with
    | .UnaryOp .Not a _ => (cT c n sc N a).map .not
    | .BoolOp op es _ => cBoolT c n sc N op es
    | .IfExp t a b _ => match cT c n sc N t, cT c n sc N a, cT c n sc N b with
      | some it, some ia, some ib => some (.ife it ia ib)
      | _, _, _ => none
    | .Compare a [op] [b] _ => match opC op, cE c n sc N a, cE c n sc N b with
      | some o, some ia, some ib => some (.cmp o ia ib)
      | _, _, _ => none
    | .Compare a [op, op'] [b, d] _ => match opC op, opC op', cE c n sc N a, cE c n sc N b, cE c n sc N d with
      | some o, some o', some ia, some ib, some id => some (.chain o o' ia ib id)
      | _, _, _, _, _ => none
    | .Compare _ _ _ _ => none
    | _ => (cE c n sc N e).map .tr
def cBool (c : Cc) : Nat → Scope → List Str → BoolOp → List PySem.Expr → Option IE
  | 0, _, _, _, _ => none
  | n + 1, sc, N, op, es => match es with
    | [] => none
    | [a] => cE c n sc N a
    | a :: r => match cE c n sc N a, cBool c n sc N op r with
      | some ia, some ir => some (match op with | .And => .and_ ia ir | .Or => .or_ ia ir)
      | _, _ => none
def cBoolT (c : Cc) : Nat → Scope → List Str → BoolOp → List PySem.Expr → Option IE
  | 0, _, _, _, _ => none
  | n + 1, sc, N, op, es => match es with
    | [] => none
    | [a] => cT c n sc N a
    | a :: r => match cT c n sc N a, cBoolT c n sc N op r with
      | some ia, some ir => some (match op with | .And => .and_ ia ir | .Or => .or_ ia ir)
      | _, _ => none
def cP (c : Cc) : Nat → Scope → List Str → Option PySem.Expr → Option IE
  | 0, _, _, _ => none
  | n + 1, sc, N, o => match o with
    | none => some .np
    | some e => (cE c n sc N e).map .pr
end
end MP
end

section
set_option maxRecDepth 100000
set_option maxHeartbeats 2000000
/-! MP5: each construct of the text, by the hand layer's rule. -/
namespace MP
open PySem PySem.Spec L2

/-! ### what is known of the surroundings -/
structure ClF (K : PySem.W.Frag) (CA : Nat → Option Addr) (attrs : List Str) : Prop where
  cls : ∀ (c : Nat) (C : Addr), CA c = some C → Cls K C
  own : ∀ (c : Nat) (C : Addr), CA c = some C → PySem.W.findIn K (.ref C) "__class__" = some (some (.builtin "object.__class__"))
  gs : PySem.W.specialIn K (.builtin "object.__class__") "__get__" = some (some (.builtin "getset_descriptor.__get__"))
  tk : PySem.W.takesIn K (.builtin "object.__class__") = some true
  mro : ∀ (c : Nat) (C : Addr), CA c = some C → PySem.W.mroIn K C (.type "object") = some true
  k1 : ∀ (c : Nat) (C : Addr) (T : String), CA c = some C → T ∈ tyNames → PySem.W.kitOne K (.ref C) (.type T) = some false
  k2 : ∀ (c : Nat) (C : Addr) (c' : Nat) (C' : Addr), CA c = some C → CA c' = some C' → PySem.W.kitOne K (.ref C) (.ref C') = some (decide (c = c'))
  k3 : ∀ (c : Nat) (C : Addr) (T : String), CA c = some C → T ∈ "NoneType" :: tyNames → PySem.W.kitOne K (.type T) (.ref C) = some false
  na : ∀ (c : Nat) (C : Addr) (f : Str), CA c = some C → f ∈ attrs → NoAttr K C f
def bltNames : List Str := ["abs", "len", "int", "tuple", "list", "sum", "max", "min", "isinstance", "range", "enumerate", "zip", "bool", "str"]

/-- the reading of a call -/
def spF (K : PySem.W.Frag) (CA XA : Nat → Option Addr) (g : List D → Store → Res D) : Sp := fun vs H Q E => ∃ α S ds, RelS K CA α S H ∧ RVs K α H ds vs ∧ PostG K CA XA α H (g ds S) (fun d α' _ H' => ∀ v, RV K α' H' d v → Q v H') E

structure FnA (X : Cx) (CA XA : Nat → Option Addr) (G : Gm) (f : Nat) (r : FnC) : Prop where
  at_ : ∃ (a : Addr) (fd : FuncData) (k : Nat), X.mg r.name = some (.ref a) ∧ PySem.W.keepIn X.K (.ref a) = true ∧ Room k X.A ∧ FnOk X.prog X.w X.K X.mg X.base (L2.CX X.prog X.w) k a fd r.ps (spF X.K CA XA (G.fn f)) ∧
    ∀ j, j ≤ r.nd → ∃ (dvs : List V) (ds : List Value), Vals dvs ds ∧ Binds X.K fd r.ps ds ∧ ∀ (α : List Addr) (H : Hp), RVs X.K α H ((G.dfl f).drop j) dvs

structure Hy (X : Cx) (c : Cc) (CA XA : Nat → Option Addr) (G : Gm) (W : WX) (sc : Scope) (N : List Str) : Prop where
  sc : X.env.scope = sc
  nN : X.N = N
  nd : N.Nodup
  calm : X.calm = true
  tk : Takes X W
  room : ∃ k, Room k X.A
  blt : ∀ x ∈ bltNames, X.mg x = none
  cl : ClF X.K CA c.attrs
  gc : ∀ (i : Nat) (x : Str), c.gcs[i]? = some x → ∃ (v : V) (u : Value), X.mg x = some u ∧ RelV v u ∧ ∀ (α : List Addr) (H : Hp), RV X.K α H (G.gc i) v
  fn : ∀ (f : Nat) (r : FnC), c.fns[f]? = some r → r.glob = true → FnA X CA XA G f r
  cln : ∀ (i : Nat) (x : Str), c.cls[i]? = some x → ∃ C, CA i = some C ∧ X.mg x = some (.ref C)

section
variable {X : Cx} {t t' : TE}
theorem peImp {e : PySem.Expr} {t t' : TE} (h : PE X e t) (i : ∀ σ H Q, t' σ H Q → t σ H Q) : PE X e t' := ⟨fun pins s σ H Q I hw => h.run pins s σ H Q I (i _ _ _ hw)⟩
theorem ptImp {e : PySem.Expr} {t t' : TT} (h : PT X e t) (i : ∀ σ H Q, t' σ H Q → t σ H Q) : PT X e t' := ⟨fun pins s σ H Q I hw => h.run pins s σ H Q I (i _ _ _ hw)⟩
theorem pwImp {e : PySem.Expr} {t t' : TT} (h : PW X e t) (i : ∀ σ H Q, t' σ H Q → t σ H Q) : PW X e t' := ⟨fun w pins s σ H Q I hw => h.run w pins s σ H Q I (i _ _ _ hw)⟩
theorem paImp {es : List PySem.Expr} {t t' : TA} (h : PA X es t) (i : ∀ σ H Q, t' σ H Q → t σ H Q) : PA X es t' := ⟨fun pos pins s σ H Q I hw => h.run pos pins s σ H Q I (i _ _ _ hw)⟩
theorem poImp {e : Option PySem.Expr} {t t' : TO} (h : PO X e t) (i : ∀ σ H Q, t' σ H Q → t σ H Q) : PO X e t' := ⟨fun pins s σ H Q I hw => h.run pins s σ H Q I (i _ _ _ hw)⟩
end

section
variable {X : Cx} {c : Cc} {CA XA : Nat → Option Addr} {G : Gm} {W : WX} {sc : Scope} {N : List Str}
theorem Hy.units (h : Hy X c CA XA G W sc N) : X.A.units + 65 < cLine := by
  obtain ⟨k, r⟩ := h.room
  have := r.un
  omega
theorem okName_d {x : Str} (h : okName x = true) : (x == ("__debug__" : Str)) = false ∧ (x == ("__classdict__" : Str)) = false ∧ x ≠ "__name__" := by
  unfold okName at h
  simp only [Bool.and_eq_true, Bool.not_eq_true', decide_eq_true_eq] at h
  exact ⟨h.1.1, h.1.2, h.2⟩
theorem isGl_d {x : Str} (h : isGl sc x = true) : sc.names.lookup x = some .globalImplicit ∧ okName x = true := by
  unfold isGl at h
  rw [Bool.and_eq_true] at h
  exact ⟨of_decide_eq_true h.1, h.2⟩
theorem Hy.gl (h : Hy X c CA XA G W sc N) {x : Str} (g : isGl sc x = true) : Gl X x := by
  show X.env.scope.names.lookup x = _
  rw [h.sc]; exact (isGl_d g).1
theorem varC_d {x : Str} {i : Nat} (h : varC sc N x = some i) : N[i]? = some x ∧ (sc.names.lookup x = some .local ∨ sc.names.lookup x = some .cell ∨ sc.names.lookup x = some .free) ∧ okName x = true := by
  unfold varC at h
  split at h
  · split at h
    · exact ⟨ixOf_some h, .inl (by assumption), by assumption⟩
    · cases h
  · split at h
    · exact ⟨ixOf_some h, .inr (.inl (by assumption)), by assumption⟩
    · cases h
  · split at h
    · exact ⟨ixOf_some h, .inr (.inr (by assumption)), by assumption⟩
    · cases h
  · cases h

theorem q_c {k : Const} {d : D} {j : Nat} {p : Pos} (h : constC k = some d) : PE X (.Constant k j p) (rdE X.K CA XA G W (.c d)) := by
  have fin : ∀ {v : V} {σ : L2.St} {H : Hp} {Q : VK}, (∀ α H, RV X.K α H d v) → rdE X.K CA XA G W (.c d) σ H Q → tC v σ H Q := fun hv ⟨α, ρ, S, rs, re, k⟩ => k α _ (Ext.refl _ _) rs _ (hv _ _)
  cases k with
  | none => cases h; exact peImp pe_non fun σ H Q q => fin (fun _ _ => .non) q
  | bool b => cases h; exact peImp pe_bl fun σ H Q q => fin (fun _ _ => .bl b) q
  | int i => cases h; exact peImp pe_int fun σ H Q q => fin (fun _ _ => .int i) q
  | str s => cases h; exact peImp pe_str fun σ H Q q => fin (fun _ _ => .str s) q
  | _ => cases h
theorem slot_some {ρ : Env'} {i : Nat} {d : D} (h : slot ρ i = some d) : ρ[i]? = some (some d) := by
  unfold slot at h
  split at h
  · cases h; assumption
  · cases h
theorem q_v (hy : Hy X c CA XA G W sc N) {x : Str} {i : Nat} {p : Pos} (h : varC sc N x = some i) : PE X (.Name x p) (rdE X.K CA XA G W (.v i)) := by
  obtain ⟨h1, h2, h3⟩ := varC_d h
  obtain ⟨h4, h5, _⟩ := okName_d h3
  refine peImp (pe_var (i := i) (by rw [hy.nN]; exact h1) (by rw [hy.sc]; exact h2) h4 h5) fun σ H Q ⟨α, ρ, S, rs, re, k⟩ => ?_
  obtain ⟨d, hd, k⟩ := PostG.of rs k
  obtain ⟨v, hv, rv⟩ := re.get i d (slot_some hd)
  exact ⟨v, hv, k v rv⟩
theorem q_g (hy : Hy X c CA XA G W sc N) {x : Str} {i : Nat} {p : Pos} (hg : isGl sc x = true) (h : ixOf x c.gcs = some i) : PE X (.Name x p) (rdE X.K CA XA G W (.g i)) := by
  obtain ⟨v, u, h1, h2, h3⟩ := hy.gc i x (ixOf_some h)
  refine peImp (pe_glob (hy.gl hg) h1 h2 (okName_d (isGl_d hg).2).1) fun σ H Q ⟨α, ρ, S, rs, re, k⟩ => ?_
  exact k α H (Ext.refl _ _) rs v (h3 _ _)

/-- two expressions, one behind the other -/
theorem rd2 {a b : IE} {f : D → D → Store → Res D} {σ : L2.St} {H : Hp} {Q : VK} {r : R2} {e : IE}
    (he : ∀ ρ S, evE G e ρ S = (evE G a ρ S).bind fun x S1 => (evE G b ρ S1).bind fun y S2 => f x y S2)
    (hr : ∀ α S d1 d2 x y H Q, RelS X.K CA α S H → RV X.K α H d1 x → RV X.K α H d2 y → PE' X.K CA XA W α H σ (f d1 d2 S) Q → r x y H Q)
    (h : rdE X.K CA XA G W e σ H Q) : tOp r (rdE X.K CA XA G W a) (rdE X.K CA XA G W b) σ H Q := by
  obtain ⟨α, ρ, S, rs, re, k⟩ := h
  rw [he] at k
  refine ⟨α, ρ, S, rs, re, PostG.imp k.bind fun d1 α1 S1 H1 e1 rs1 k1 x rx => ?_⟩
  refine ⟨α1, ρ, S1, rs1, re.mono rs.nt e1, PostG.imp k1.bind fun d2 α2 S2 H2 e2 rs2 k2 y ry => ?_⟩
  exact hr α2 S2 d1 d2 x y H2 Q rs2 (rx.mono rs1.nt e2) ry k2
theorem q_bin (hy : Hy X c CA XA G W sc N) {a b : PySem.Expr} {ia ib : IE} {op : Operator} {o : BO} {p : Pos} (ho : opB op = some o) (ha : PE X a (rdE X.K CA XA G W ia)) (hb : PE X b (rdE X.K CA XA G W ib)) : PE X (.BinOp a op b p) (rdE X.K CA XA G W (.bin o ia ib)) := by
  have key : ∀ {op : Operator} {o : BO}, OpR X (binaryOp op) (rB X.K CA (binD o)) → PE X (.BinOp a op b p) (rdE X.K CA XA G W (.bin o ia ib)) := fun hop =>
    peImp (pe_op hop ha hb) fun σ H Q q => rd2 (fun ρ S => by rw [evE]) (fun α S d1 d2 x y H Q rs r1 r2 k => by
      obtain ⟨d, S', e, k⟩ := PostG.ofP k
      exact ⟨α, S, d1, d2, rs, r1, r2, d, S', e, fun α' H' v e1 e2 e3 => k α' H' e1 e2 v e3⟩) q
  cases op <;> first | (cases ho; done) | skip
  · cases ho; exact key ob_add
  · cases ho; exact key ob_sub
  · cases ho; exact key ob_mul
  · cases ho; exact key ob_mod
  · cases ho; exact key ob_pow
  · cases ho; exact key ob_shl
  · cases ho; exact key ob_shr
  · cases ho; exact key ob_fdiv
theorem q_neg {a : PySem.Expr} {ia : IE} {p : Pos} (ha : PE X a (rdE X.K CA XA G W ia)) : PE X (.UnaryOp .USub a p) (rdE X.K CA XA G W (.neg ia)) := by
  refine peImp (pe_un un_neg ha) fun σ H Q ⟨α, ρ, S, rs, re, k⟩ => ?_
  rw [evE] at k
  refine ⟨α, ρ, S, rs, re, PostG.imp k.bind fun d α1 S1 H1 e1 rs1 k1 x rx => ?_⟩
  cases d with
  | int i => cases rx; exact ⟨i, rfl, k1 α1 H1 (Ext.refl _ _) rs1 _ (.int _)⟩
  | _ => exact False.elim k1
theorem q_not {a : PySem.Expr} {ia : IE} {p : Pos} (ha : PE X a (rdE X.K CA XA G W ia)) : PE X (.UnaryOp .Not a p) (rdE X.K CA XA G W (.not ia)) := by
  refine peImp (pe_notT ha) fun σ H Q ⟨α, ρ, S, rs, re, k⟩ => ?_
  rw [evE] at k
  refine ⟨α, ρ, S, rs, re, PostG.imp k.bind fun d α1 S1 H1 e1 rs1 k1 x rx => ?_⟩
  obtain ⟨d', hd, k1⟩ := PostG.of rs1 k1
  obtain ⟨b, hb, rfl⟩ := Option.map_eq_some_iff.mp hd
  exact ⟨b, tru_all rs1 rx hb, k1 _ (.bl _)⟩
theorem q_one {op : BoolOp} {a : PySem.Expr} {ia : IE} {p : Pos} (ha : PE X a (rdE X.K CA XA G W ia)) : PE X (.BoolOp op [a] p) (rdE X.K CA XA G W ia) := pe_one ha
theorem q_and {a b : PySem.Expr} {r : List PySem.Expr} {ia ib : IE} {p : Pos} (ha : PE X a (rdE X.K CA XA G W ia)) (hb : PE X (.BoolOp .And (b :: r) p) (rdE X.K CA XA G W ib)) : PE X (.BoolOp .And (a :: b :: r) p) (rdE X.K CA XA G W (.and_ ia ib)) := by
  refine peImp (pe_andT ha hb) fun σ H Q ⟨α, ρ, S, rs, re, k⟩ => ?_
  rw [evE] at k
  refine ⟨α, ρ, S, rs, re, PostG.imp k.bind fun d α1 S1 H1 e1 rs1 k1 x rx => ?_⟩
  cases hb : truthD d S1 with
  | none => rw [hb] at k1; exact False.elim k1
  | some t =>
    rw [hb] at k1
    refine ⟨t, tru_all rs1 rx hb, ?_⟩
    cases t with
    | true => exact ⟨α1, ρ, S1, rs1, re.mono rs.nt e1, k1⟩
    | false => exact k1 α1 H1 (Ext.refl _ _) rs1 _ rx
theorem q_or {a b : PySem.Expr} {r : List PySem.Expr} {ia ib : IE} {p : Pos} (ha : PE X a (rdE X.K CA XA G W ia)) (hb : PE X (.BoolOp .Or (b :: r) p) (rdE X.K CA XA G W ib)) : PE X (.BoolOp .Or (a :: b :: r) p) (rdE X.K CA XA G W (.or_ ia ib)) := by
  refine peImp (pe_orT ha hb) fun σ H Q ⟨α, ρ, S, rs, re, k⟩ => ?_
  rw [evE] at k
  refine ⟨α, ρ, S, rs, re, PostG.imp k.bind fun d α1 S1 H1 e1 rs1 k1 x rx => ?_⟩
  cases hb : truthD d S1 with
  | none => rw [hb] at k1; exact False.elim k1
  | some t =>
    rw [hb] at k1
    refine ⟨t, tru_all rs1 rx hb, ?_⟩
    cases t with
    | false => exact ⟨α1, ρ, S1, rs1, re.mono rs.nt e1, k1⟩
    | true => exact k1 α1 H1 (Ext.refl _ _) rs1 _ rx

/-! ### comparisons -/
theorem oc_inD (neg : Bool) (hu : X.A.units + 65 < cLine) : OpR X (compareOp (if neg then .NotIn else .In)) (fun x y H Q => ∃ α S d1 d2 b, RelS X.K CA α S H ∧ RV X.K α H d1 x ∧ RV X.K α H d2 y ∧ inD d1 d2 S = some b ∧ Q (.bl (if neg then !b else b)) H) := by
  intro pins s σ H x y v u Q I rx ry ⟨α, S, d1, d2, b, rs, r1, r2, e, q⟩
  have str : ∀ z t : Str, d1 = .str z → d2 = .str t → wpAny (model X.prog X.w) X.A (compareOp (if neg then .NotIn else .In) v u) (EP X pins σ Q) X.xe s := fun z t h1 h2 => by
    subst h1 h2
    cases e
    cases r1
    cases r2
    cases neg
    · exact op_in_str pins s σ H _ _ v u Q I rx ry ⟨_, _, rfl, rfl, q⟩
    · exact op_notin_str pins s σ H _ _ v u Q I rx ry ⟨_, _, rfl, rfl, q⟩
  have tup : ∀ ds p ps, d2 = .tup ds → toP S 60 d1 = some p → toPs S 60 ds = some ps → (shp p && shp (.list ps)) = true → b = (ps.any fun z => PyData.eqv z p) → wpAny (model X.prog X.w) X.A (compareOp (if neg then .NotIn else .In) v u) (EP X pins σ Q) X.xe s := fun ds p ps h2 hp hps hs hb => by
    subst h2 hb
    rw [Bool.and_eq_true] at hs
    cases r2 with
    | tup hq rr =>
      obtain ⟨as, r1'⟩ := Dp.reads I p x v (toP_ok rs _ _ _ _ hp r1) rx
      obtain ⟨bs, r2'⟩ := Dp.reads I (.tuple ps) _ u (.tup hq (toPs_ok rs hps rr)) ry
      cases neg
      · exact SeqAt.in_tuple_reads r2' r1' (SeqAt.canLay_of_shaped hs.2) (SeqAt.canLay_of_shaped hs.1) (PyProof.Rows.room_in_shaped hs.1 hu) ⟨.bl _, H, I, rfl, q⟩
      · exact SeqAt.notIn_tuple_reads r2' r1' (SeqAt.canLay_of_shaped hs.2) (SeqAt.canLay_of_shaped hs.1) (PyProof.Rows.room_in_shaped hs.1 hu) ⟨.bl _, H, I, rfl, q⟩
  have lst : ∀ n ds p ps, d2 = .obj n → lstAt S n = some ds → toP S 60 d1 = some p → toPs S 60 ds = some ps → (shp p && shp (.list ps)) = true → b = (ps.any fun z => PyData.eqv z p) → wpAny (model X.prog X.w) X.A (compareOp (if neg then .NotIn else .In) v u) (EP X pins σ Q) X.xe s := fun n ds p ps h2 hd hp hps hs hb => by
    subst h2 hb
    rw [Bool.and_eq_true] at hs
    cases r2 with
    | obj ho =>
      obtain ⟨vs, hv, rr⟩ := rs.lst hd ho
      have h1 := toP_ok rs _ _ _ _ hp r1
      have h2 : Dp X.K H (.ref _) (.list ps) := .lst (SqL.of hv) (toPs_ok rs hps rr)
      cases neg
      · exact op_inD hu pins s σ H x _ v u Q I rx ry ⟨p, ps, h1, h2, hs.1, hs.2, q⟩
      · exact op_notInD hu pins s σ H x _ v u Q I rx ry ⟨p, ps, h1, h2, hs.1, hs.2, q⟩
  unfold inD at e
  split at e
  · exact str _ _ rfl rfl
  · split at e
    · split at e
      · rename_i p ps h1 h2 h3; cases e; exact tup _ p ps rfl h1 h2 h3 rfl
      · cases e
    · cases e
  · split at e
    · split at e
      · split at e
        · rename_i hd _ _ p ps h1 h2 h3; cases e; exact lst _ _ p ps rfl hd h1 h2 h3 rfl
        · cases e
      · cases e
    · cases e
  · cases e
theorem oc_in (hu : X.A.units + 65 < cLine) : OpR X (compareOp .In) (rC X.K CA (cmpD .in_)) := opImp (oc_inD (CA := CA) false hu) fun x y H Q ⟨α, S, d1, d2, b, rs, r1, r2, e, q⟩ => by
  have e' : inD d1 d2 S = some b := by cases d1 <;> cases d2 <;> exact e
  exact ⟨α, S, d1, d2, b, rs, r1, r2, e', q⟩
theorem oc_nin (hu : X.A.units + 65 < cLine) : OpR X (compareOp .NotIn) (rC X.K CA (cmpD .nin)) := opImp (oc_inD (CA := CA) true hu) fun x y H Q ⟨α, S, d1, d2, b, rs, r1, r2, e, q⟩ => by
  have e' : (inD d1 d2 S).map (fun b => !b) = some b := by cases d1 <;> cases d2 <;> exact e
  obtain ⟨b', h0, rfl⟩ := Option.map_eq_some_iff.mp e'
  exact ⟨α, S, d1, d2, b', rs, r1, r2, h0, q⟩
theorem opC_ok (hy : Hy X c CA XA G W sc N) {op : CmpOp} {o : CO} (h : opC op = some o) : OpR X (compareOp op) (rC X.K CA (cmpD o)) := by
  have hu := hy.units
  cases op <;> first | (cases h; done) | skip
  · cases h; exact oc_eq (by omega)
  · cases h; exact oc_ne (by omega)
  · cases h; exact oc_lt
  · cases h; exact oc_le
  · cases h; exact oc_gt
  · cases h; exact oc_ge
  · cases h; exact oc_is
  · cases h; exact oc_isn
  · cases h; exact oc_in hu
  · cases h; exact oc_nin hu
theorem opC_mark {op : CmpOp} {b : PySem.Expr} (h : notSet b = true) : behindInMarks op b = false := by
  cases b <;> first | rfl | (cases h; done)
theorem cmp_r {o : CO} {σ : L2.St} (α : List Addr) (S : Store) (d1 d2 : D) (x y : V) (H : Hp) (Q : VK) (rs : RelS X.K CA α S H) (r1 : RV X.K α H d1 x) (r2 : RV X.K α H d2 y)
    (k : PE' X.K CA XA W α H σ (Res.of ((cmpD o d1 d2 S).map .bl) S) Q) : rC X.K CA (cmpD o) x y H Q := by
  obtain ⟨d, hd, k⟩ := PostG.of rs k
  obtain ⟨b, hb, rfl⟩ := Option.map_eq_some_iff.mp hd
  exact ⟨α, S, d1, d2, b, rs, r1, r2, hb, k _ (.bl _)⟩
theorem q_cmp (hy : Hy X c CA XA G W sc N) {a b : PySem.Expr} {ia ib : IE} {op : CmpOp} {o : CO} {p : Pos} (ho : opC op = some o) (hn : notSet b = true) (ha : PE X a (rdE X.K CA XA G W ia)) (hb : PE X b (rdE X.K CA XA G W ib)) : PE X (.Compare a [op] [b] p) (rdE X.K CA XA G W (.cmp o ia ib)) :=
  peImp (pe_cmpR (opC_ok hy ho) ha hb (opC_mark hn)) fun σ H Q q => rd2 (fun ρ S => by rw [evE]) cmp_r q
theorem q_cmpT (hy : Hy X c CA XA G W sc N) {a b : PySem.Expr} {ia ib : IE} {op : CmpOp} {o : CO} {p : Pos} (ho : opC op = some o) (hn : notSet b = true) (ha : PE X a (rdE X.K CA XA G W ia)) (hb : PE X b (rdE X.K CA XA G W ib)) : PT X (.Compare a [op] [b] p) (rdT X.K CA XA G W (.cmp o ia ib)) := by
  refine ptImp (pt_cmpR (opC_ok hy ho) ha hb (opC_mark hn)) fun σ H Q ⟨α, ρ, S, rs, re, k⟩ => ?_
  rw [evT] at k
  refine ⟨α, ρ, S, rs, re, PostG.imp k.bind fun d1 α1 S1 H1 e1 rs1 k1 x rx => ?_⟩
  refine ⟨α1, ρ, S1, rs1, re.mono rs.nt e1, PostG.imp k1.bind fun d2 α2 S2 H2 e2 rs2 k2 y ry => ?_⟩
  obtain ⟨b, hb, k2⟩ := PostG.of rs2 k2
  exact ⟨α2, S2, d1, d2, b, rs2, rx.mono rs1.nt e2, ry, hb, b, rfl, k2⟩
end
end MP
end

section
set_option maxRecDepth 100000
set_option maxHeartbeats 2000000
/-! MP6: further constructs. -/
namespace MP
open PySem PySem.Spec L2
section
variable {X : Cx} {c : Cc} {CA XA : Nat → Option Addr} {G : Gm} {W : WX} {sc : Scope} {N : List Str}

theorem lastMarks2 {op op' : CmpOp} {b d : PySem.Expr} (h : notSet d = true) : lastMarks [op, op'] [b, d] = false := by
  show behindInMarks op' d = false
  exact opC_mark h
theorem q_chain (hy : Hy X c CA XA G W sc N) {a b d : PySem.Expr} {ia ib id : IE} {op op' : CmpOp} {o o' : CO} {p : Pos} (ho : opC op = some o) (ho' : opC op' = some o') (hn : notSet d = true) (ha : PE X a (rdE X.K CA XA G W ia)) (hb : PE X b (rdE X.K CA XA G W ib)) (hd : PE X d (rdE X.K CA XA G W id)) :
    PE X (.Compare a [op, op'] [b, d] p) (rdE X.K CA XA G W (.chain o o' ia ib id)) := by
  refine peImp (pe_chain (opC_ok hy ho) (opC_ok hy ho') ha hb hd (lastMarks2 hn)) fun σ H Q ⟨α, ρ, S, rs, re, k⟩ => ?_
  rw [evE] at k
  refine ⟨α, ρ, S, rs, re, PostG.imp k.bind fun d1 α1 S1 H1 e1 rs1 k1 x rx => ?_⟩
  refine ⟨α1, ρ, S1, rs1, re.mono rs.nt e1, PostG.imp k1.bind fun d2 α2 S2 H2 e2 rs2 k2 y ry => ?_⟩
  cases hb : cmpD o d1 d2 S2 with
  | none => rw [hb] at k2; exact False.elim k2
  | some t =>
    rw [hb] at k2
    refine ⟨α2, S2, d1, d2, t, rs2, rx.mono rs1.nt e2, ry, hb, t, rfl, ?_⟩
    cases t with
    | false => exact k2 α2 H2 (Ext.refl _ _) rs2 _ (.bl _)
    | true =>
      refine ⟨α2, ρ, S2, rs2, (re.mono rs.nt e1).mono rs1.nt e2, PostG.imp k2.bind fun d3 α3 S3 H3 e3 rs3 k3 z rz => ?_⟩
      exact cmp_r (σ := σ) α3 S3 d2 d3 y z H3 Q rs3 (ry.mono rs2.nt e3) rz k3
theorem q_chainT (hy : Hy X c CA XA G W sc N) {a b d : PySem.Expr} {ia ib id : IE} {op op' : CmpOp} {o o' : CO} {p : Pos} (ho : opC op = some o) (ho' : opC op' = some o') (hn : notSet d = true) (ha : PE X a (rdE X.K CA XA G W ia)) (hb : PE X b (rdE X.K CA XA G W ib)) (hd : PE X d (rdE X.K CA XA G W id)) :
    PT X (.Compare a [op, op'] [b, d] p) (rdT X.K CA XA G W (.chain o o' ia ib id)) := by
  refine ptImp (pt_chain (opC_ok hy ho) (opC_ok hy ho') ha hb hd (lastMarks2 hn)) fun σ H Q ⟨α, ρ, S, rs, re, k⟩ => ?_
  rw [evT] at k
  refine ⟨α, ρ, S, rs, re, PostG.imp k.bind fun d1 α1 S1 H1 e1 rs1 k1 x rx => ?_⟩
  refine ⟨α1, ρ, S1, rs1, re.mono rs.nt e1, PostG.imp k1.bind fun d2 α2 S2 H2 e2 rs2 k2 y ry => ?_⟩
  cases hb : cmpD o d1 d2 S2 with
  | none => rw [hb] at k2; exact False.elim k2
  | some t =>
    rw [hb] at k2
    refine ⟨α2, S2, d1, d2, t, rs2, rx.mono rs1.nt e2, ry, hb, t, rfl, ?_⟩
    cases t with
    | false => exact ⟨false, rfl, k2 α2 H2 (Ext.refl _ _) rs2⟩
    | true =>
      refine ⟨α2, ρ, S2, rs2, (re.mono rs.nt e1).mono rs1.nt e2, PostG.imp k2.bind fun d3 α3 S3 H3 e3 rs3 k3 z rz => ?_⟩
      obtain ⟨b, hb, k3⟩ := PostG.of rs3 k3
      exact ⟨α3, S3, d2, d3, b, rs3, ry.mono rs2.nt e3, rz, hb, b, rfl, k3⟩

/-! ### tests -/
theorem q_notT {a : PySem.Expr} {ia : IE} {p : Pos} (ha : PT X a (rdT X.K CA XA G W ia)) : PT X (.UnaryOp .Not a p) (rdT X.K CA XA G W (.not ia)) := by
  refine ptImp (pt_not ha) fun σ H Q ⟨α, ρ, S, rs, re, k⟩ => ?_
  rw [evT] at k
  exact ⟨α, ρ, S, rs, re, PostG.imp k.bind fun d α1 S1 H1 e1 rs1 k1 => k1 α1 H1 (Ext.refl _ _) rs1⟩
theorem q_and1T {a : PySem.Expr} {ia : IE} {p : Pos} (ha : PT X a (rdT X.K CA XA G W ia)) : PW X (.BoolOp .And [a] p) (rdT X.K CA XA G W ia) := pw_and1 ha
theorem q_or1T {a : PySem.Expr} {ia : IE} {p : Pos} (ha : PT X a (rdT X.K CA XA G W ia)) : PW X (.BoolOp .Or [a] p) (rdT X.K CA XA G W ia) := pw_or1 ha
theorem q_andT {a b : PySem.Expr} {r : List PySem.Expr} {ia ib : IE} {p : Pos} (ha : PT X a (rdT X.K CA XA G W ia)) (hb : PW X (.BoolOp .And (b :: r) p) (rdT X.K CA XA G W ib)) : PW X (.BoolOp .And (a :: b :: r) p) (rdT X.K CA XA G W (.and_ ia ib)) := by
  refine pwImp (pw_and ha hb) fun σ H Q ⟨α, ρ, S, rs, re, k⟩ => ?_
  rw [evT] at k
  refine ⟨α, ρ, S, rs, re, PostG.imp k.bind fun d α1 S1 H1 e1 rs1 k1 => ?_⟩
  cases d with
  | true => exact ⟨α1, ρ, S1, rs1, re.mono rs.nt e1, k1⟩
  | false => exact k1 α1 H1 (Ext.refl _ _) rs1
theorem q_orT {a b : PySem.Expr} {r : List PySem.Expr} {ia ib : IE} {p : Pos} (ha : PT X a (rdT X.K CA XA G W ia)) (hb : PW X (.BoolOp .Or (b :: r) p) (rdT X.K CA XA G W ib)) : PW X (.BoolOp .Or (a :: b :: r) p) (rdT X.K CA XA G W (.or_ ia ib)) := by
  refine pwImp (pw_or ha hb) fun σ H Q ⟨α, ρ, S, rs, re, k⟩ => ?_
  rw [evT] at k
  refine ⟨α, ρ, S, rs, re, PostG.imp k.bind fun d α1 S1 H1 e1 rs1 k1 => ?_⟩
  cases d with
  | false => exact ⟨α1, ρ, S1, rs1, re.mono rs.nt e1, k1⟩
  | true => exact k1 α1 H1 (Ext.refl _ _) rs1
theorem q_tr {a : PySem.Expr} {ia : IE} (ha : PE X a (rdE X.K CA XA G W ia)) (he : ∀ whole, isTrue a X.env whole = (do let v ← whole; standAt a.pos; holding [v] (truthy v))) : PT X a (rdT X.K CA XA G W (.tr ia)) := by
  refine ptImp (pt_truth ha he) fun σ H Q ⟨α, ρ, S, rs, re, k⟩ => ?_
  rw [evT] at k
  refine ⟨α, ρ, S, rs, re, PostG.imp k.bind fun d α1 S1 H1 e1 rs1 k1 x rx => ?_⟩
  obtain ⟨b, hb, k1⟩ := PostG.of rs1 k1
  exact ⟨b, tru_all rs1 rx hb, k1⟩
theorem q_ife {t a b : PySem.Expr} {it ia ib : IE} {p : Pos} (ht : PT X t (rdT X.K CA XA G W it)) (ha : PE X a (rdE X.K CA XA G W ia)) (hb : PE X b (rdE X.K CA XA G W ib)) : PE X (.IfExp t a b p) (rdE X.K CA XA G W (.ife it ia ib)) := by
  refine peImp (pe_ifExp ht ha hb) fun σ H Q ⟨α, ρ, S, rs, re, k⟩ => ?_
  rw [evE] at k
  refine ⟨α, ρ, S, rs, re, PostG.imp k.bind fun d α1 S1 H1 e1 rs1 k1 => ?_⟩
  cases d with
  | true => exact ⟨α1, ρ, S1, rs1, re.mono rs.nt e1, k1⟩
  | false => exact ⟨α1, ρ, S1, rs1, re.mono rs.nt e1, k1⟩

/-! ### argument lists, displays -/
def notStar : PySem.Expr → Prop
  | .Starred _ _ => False
  | _ => True
theorem star_cons {e : PySem.Expr} {es : List PySem.Expr} {env : PySem.Env} (h : notStar e) : starEach (e :: es) env = (false, eval e env) :: starEach es env := by
  cases e <;> first | rfl | exact False.elim h
theorem star_any {pos : Pos} {env : PySem.Env} : ∀ {es : List PySem.Expr}, (∀ e ∈ es, notStar e) → (backTo pos (starEach es env)).any (·.1) = false
  | [], _ => rfl
  | e :: es, h => by
    rw [star_cons (h e (List.mem_cons_self ..))]
    show (false || (backTo pos (starEach es env)).any (·.1)) = false
    rw [star_any fun x hx => h x (List.mem_cons_of_mem _ hx)]
    rfl
theorem star_all {pos : Pos} {env : PySem.Env} : ∀ {es : List PySem.Expr}, (∀ e ∈ es, notStar e) → ((backTo pos (starEach es env)).all fun x => !x.1) = true
  | [], _ => rfl
  | e :: es, h => by
    rw [star_cons (h e (List.mem_cons_self ..))]
    show (!false && (backTo pos (starEach es env)).all fun x => !x.1) = true
    rw [star_all fun x hx => h x (List.mem_cons_of_mem _ hx)]
    rfl
theorem q_nil : PA X [] (rdA X.K CA XA G W []) := paImp pa_nil fun σ H Q ⟨α, ρ, S, rs, re, k⟩ => by
  rw [evEs] at k
  exact k α H (Ext.refl _ _) rs _ .nil
theorem q_cons {e : PySem.Expr} {es : List PySem.Expr} {ie : IE} {ies : List IE} (hn : notStar e) (ha : PE X e (rdE X.K CA XA G W ie)) (hr : PA X es (rdA X.K CA XA G W ies)) : PA X (e :: es) (rdA X.K CA XA G W (ie :: ies)) := by
  refine paImp (pa_cons ha hr (star_cons hn)) fun σ H Q ⟨α, ρ, S, rs, re, k⟩ => ?_
  rw [evEs] at k
  refine ⟨α, ρ, S, rs, re, PostG.imp k.bind fun d α1 S1 H1 e1 rs1 k1 x rx => ?_⟩
  refine ⟨α1, ρ, S1, rs1, re.mono rs.nt e1, PostG.imp k1.bind fun ds α2 S2 H2 e2 rs2 k2 xs rxs => ?_⟩
  exact k2 α2 H2 (Ext.refl _ _) rs2 _ (.cons (rx.mono rs1.nt e2) rxs)
theorem q_tup {es : List PySem.Expr} {ies : List IE} {j : Nat} {p : Pos} (h : PA X es (rdA X.K CA XA G W ies)) : PE X (.Tuple es j p) (rdE X.K CA XA G W (.tup ies)) := by
  refine peImp (pe_tup h) fun σ H Q ⟨α, ρ, S, rs, re, k⟩ => ?_
  rw [evE] at k
  refine ⟨α, ρ, S, rs, re, PostG.imp k.bind fun ds α1 S1 H1 e1 rs1 k1 xs rx => ?_⟩
  by_cases hl : ds.length ≤ lim
  · rw [if_pos hl] at k1
    exact ⟨by rw [← rx.length]; exact le_lim hl, fun p hp => rs1.new_tup hp rx fun α' H' v e2 rs2 rv => k1 α' H' e2 rs2 v rv⟩
  · rw [if_neg hl] at k1; exact False.elim k1
theorem q_lst {es : List PySem.Expr} {ies : List IE} {p : Pos} (h : PA X es (rdA X.K CA XA G W ies)) : PE X (.List es p) (rdE X.K CA XA G W (.lst ies)) := by
  refine peImp (pe_lst h) fun σ H Q ⟨α, ρ, S, rs, re, k⟩ => ?_
  rw [evE] at k
  refine ⟨α, ρ, S, rs, re, PostG.imp k.bind fun ds α1 S1 H1 e1 rs1 k1 xs rx => ?_⟩
  by_cases hl : ds.length ≤ lim
  · rw [if_pos hl] at k1
    exact ⟨by rw [← rx.length]; exact le_lim hl, fun p hp => rs1.new_lst hp rx fun α' H' v e2 rs2 rv => k1 α' H' e2 rs2 v rv⟩
  · rw [if_neg hl] at k1; exact False.elim k1

/-! ### items, slices, fields -/
def notSlice : PySem.Expr → Prop
  | .Slice _ _ _ _ => False
  | _ => True
theorem plainIx_of {b : PySem.Expr} (h : notSlice b) : PlainIx b := by
  intro o i
  cases b <;> first | rfl | exact False.elim h
theorem q_ix {a i : PySem.Expr} {ia ii : IE} {p : Pos} (hn : notSlice i) (ha : PE X a (rdE X.K CA XA G W ia)) (hi : PE X i (rdE X.K CA XA G W ii)) : PE X (.Subscript a i p) (rdE X.K CA XA G W (.ix ia ii)) :=
  peImp (pe_ix (ix_all (CA := CA)) ha hi (plainIx_of hn)) fun σ H Q q => rd2 (fun ρ S => by rw [evE]) (fun α S d1 d2 x y H Q rs r1 r2 k => by
    obtain ⟨d, hd, k⟩ := PostG.of rs k
    exact ⟨α, S, d1, d2, d, rs, r1, r2, hd, k⟩) q
theorem q_np : PO X none (rdP X.K CA XA G W .np) := poImp po_none fun σ H Q ⟨α, ρ, S, rs, re, k⟩ => by
  rw [evP] at k
  exact k α H (Ext.refl _ _) rs
theorem q_pr {e : PySem.Expr} {ie : IE} (h : PE X e (rdE X.K CA XA G W ie)) : PO X (some e) (rdP X.K CA XA G W (.pr ie)) := by
  refine poImp (po_some h) fun σ H Q ⟨α, ρ, S, rs, re, k⟩ => ?_
  rw [evP] at k
  refine ⟨α, ρ, S, rs, re, PostG.imp k.bind fun d α1 S1 H1 e1 rs1 k1 x rx => ?_⟩
  cases d with
  | int i => cases rx; exact ⟨i, rfl, k1 α1 H1 (Ext.refl _ _) rs1⟩
  | _ => exact False.elim k1
theorem q_sl {a : PySem.Expr} {lo hi : Option PySem.Expr} {ia il ih : IE} {p2 p : Pos} (ha : PE X a (rdE X.K CA XA G W ia)) (hl : PO X lo (rdP X.K CA XA G W il)) (hh : PO X hi (rdP X.K CA XA G W ih)) : PE X (.Subscript a (.Slice lo hi none p2) p) (rdE X.K CA XA G W (.sl ia il ih)) := by
  refine peImp (pe_slice (sl_all (CA := CA)) ha hl hh) fun σ H Q ⟨α, ρ, S, rs, re, k⟩ => ?_
  rw [evE] at k
  refine ⟨α, ρ, S, rs, re, PostG.imp k.bind fun d α1 S1 H1 e1 rs1 k1 x rx => ?_⟩
  refine ⟨α1, ρ, S1, rs1, re.mono rs.nt e1, PostG.imp k1.bind fun l α2 S2 H2 e2 rs2 k2 => ?_⟩
  refine ⟨α2, ρ, S2, rs2, (re.mono rs.nt e1).mono rs1.nt e2, PostG.imp k2.bind fun u α3 S3 H3 e3 rs3 k3 => ?_⟩
  obtain ⟨d', S', e, k⟩ := PostG.ofP k3
  exact ⟨α3, S3, d, rs3, (rx.mono rs1.nt e2).mono rs2.nt e3, d', S', e, fun α' H' v e1 e2 e3 => k α' H' e1 e2 v e3⟩
theorem rfs_lookup {K : PySem.W.Frag} {α : List Addr} {H : Hp} {f : Str} : ∀ {fs : List (Str × D)} {gs : List (Str × V)} {d : D}, RFs K α H fs gs → fs.lookup f = some d → ∃ v, gs.lookup f = some v ∧ RV K α H d v
  | _, _, _, .nil, h => by cases h
  | _, _, d, .cons (f := g) h r, e => by
    simp only [List.lookup] at e ⊢
    split at e
    · cases e; rename_i hg; exact ⟨_, rfl, h⟩
    · exact rfs_lookup r e
theorem base_of {a : PySem.Expr} {f : Str} {env : PySem.Env} (h : notSuper a = true) (w : Sem Value) : attributeBase a f env w = w := by
  unfold attributeBase
  cases a with
  | Call g args kws p =>
    cases g with
    | Name x q =>
      cases args with
      | nil =>
        cases kws with
        | nil => cases h
        | cons _ _ => rfl
      | cons _ _ => rfl
    | _ => rfl
  | _ => rfl
theorem q_fld (hy : Hy X c CA XA G W sc N) {a : PySem.Expr} {f : Str} {ia : IE} {p : Pos} (hs : notSuper a = true) (hf : f ∈ c.attrs) (ha : PE X a (rdE X.K CA XA G W ia)) : PE X (.Attribute a f p) (rdE X.K CA XA G W (.fld ia f)) := by
  refine peImp (pe_fld ha (base_of hs _)) fun σ H Q ⟨α, ρ, S, rs, re, k⟩ => ?_
  rw [evE] at k
  refine ⟨α, ρ, S, rs, re, PostG.imp k.bind fun d α1 S1 H1 e1 rs1 k1 x rx => ?_⟩
  obtain ⟨d', hd, k2⟩ := PostG.of rs1 k1
  unfold fldD at hd
  split at hd
  · rename_i n
    split at hd
    · rename_i c' fs hS
      cases rx with
      | obj ho =>
        obtain ⟨b, h1, C, dx, gs, h2, h3, h4⟩ := rs1.ok _ _ hS
        rw [ho] at h1; cases h1
        obtain ⟨v, hv, rv⟩ := rfs_lookup h4 hd
        exact ⟨_, C, dx, gs, v, rfl, h3, hy.cl.cls _ _ h2, hy.cl.na _ _ _ h2 hf, hv, k2 v rv⟩
    · cases hd
  · cases hd

/-! ### calls -/
theorem q_call (hy : Hy X c CA XA G W sc N) {x : Str} {f j : Nat} {r : FnC} {e : PySem.Expr} {es : List PySem.Expr} {ies : List IE} {p pos : Pos} (hg : isGl sc x = true) (hf : c.fns[f]? = some r) (hr : r.glob = true) (hn : r.name = x) (hj : j ≤ r.nd)
    (hs : ∀ z ∈ e :: es, notStar z) (ha : PA X (e :: es) (rdA X.K CA XA G W ies)) : PE X (.Call (.Name x p) (e :: es) [] pos) (rdE X.K CA XA G W (.call f ies j)) := by
  obtain ⟨a, fd, k, h1, h2, h3, h4, h5⟩ := (hy.fn f r hf hr).at_
  obtain ⟨dvs, ds, h6, h7, h8⟩ := h5 j hj
  refine peImp (pe_callSD (E := WE W) h4 h3 (hy.gl hg) (by rw [← hn]; exact h1) h2 h7 h6 (fun σ => passAt hy.tk σ) ha (okName_d (isGl_d hg).2).1 (star_cons (hs e (List.mem_cons_self ..))) (star_any fun z hz => hs z (List.mem_cons_of_mem _ hz))) fun σ H Q ⟨α, ρ, S, rs, re, k⟩ => ?_
  rw [evE] at k
  refine ⟨α, ρ, S, rs, re, PostG.imp k.bind fun as α1 S1 H1 e1 rs1 k1 vs rvs => ?_⟩
  exact ⟨α1, S1, _, rs1, rvs.append (h8 _ _), k1⟩

theorem q_call0 (hy : Hy X c CA XA G W sc N) {x : Str} {f j : Nat} {r : FnC} {p pos : Pos} (hg : isGl sc x = true) (hf : c.fns[f]? = some r) (hr : r.glob = true) (hn : r.name = x) (hj : j ≤ r.nd) : PE X (.Call (.Name x p) [] [] pos) (rdE X.K CA XA G W (.call f [] j)) := by
  obtain ⟨a, fd, k, h1, h2, h3, h4, h5⟩ := (hy.fn f r hf hr).at_
  obtain ⟨dvs, ds, h6, h7, h8⟩ := h5 j hj
  refine ⟨fun pins s σ H Q I ⟨α, ρ, S, rs, re, k⟩ => ?_⟩
  rw [evE, evEs] at k
  refine wpAny_Call_Name_kw (ld_glob I (hy.gl hg) (by rw [← hn]; exact h1) ?_ (okName_d (isGl_d hg).2).1)
  refine PySem.W.callWith_K0 I.kIn h2 ?_
  exact run_fnSD (vs := []) (us := []) h4 h3 h7 h6 (passAt hy.tk σ) I .nil ⟨α, S, _, rs, (RVs.nil).append (h8 _ _), k⟩

/-! ### built-in functions -/
theorem q_blt (hy : Hy X c CA XA G W sc N) {x : Str} {id : String} {b : Bi} {e : PySem.Expr} {ie : IE} {p pos : Pos} (hg : isGl sc x = true) (hx : x ∈ bltNames) (hv : bootBuiltins x = some (.builtin id)) (hc : CallR X (.builtin id) (rK X.K CA (biD b))) (hs : notStar e) (ha : PE X e (rdE X.K CA XA G W ie)) :
    PE X (.Call (.Name x p) [e] [] pos) (rdE X.K CA XA G W (.bi b [ie])) := by
  refine peImp (pe_callB hc (hy.gl hg) (hy.blt x hx) hv (q_cons hs ha q_nil) (okName_d (isGl_d hg).2).2.2 (okName_d (isGl_d hg).2).1 (star_cons hs) rfl) fun σ H Q ⟨α, ρ, S, rs, re, k⟩ => ?_
  rw [evE] at k
  refine ⟨α, ρ, S, rs, re, PostG.imp k.bind fun as α1 S1 H1 e1 rs1 k1 vs rvs => ?_⟩
  obtain ⟨d, S', e, k⟩ := PostG.ofP k1
  exact ⟨α1, S1, as, rs1, rvs, d, S', e, fun α' H' v e1 e2 e3 => k α' H' e1 e2 v e3⟩
theorem q_bty (hy : Hy X c CA XA G W sc N) {x : Str} {T : String} {b : Bi} {e : PySem.Expr} {ie : IE} {p pos : Pos} (hg : isGl sc x = true) (hx : x ∈ bltNames) (hv : bootBuiltins x = some (.type T)) (hc : CallR X (.type T) (rK X.K CA (biD b))) (hs : notStar e) (ha : PE X e (rdE X.K CA XA G W ie)) :
    PE X (.Call (.Name x p) [e] [] pos) (rdE X.K CA XA G W (.bi b [ie])) := by
  refine peImp (pe_callTy hc (hy.gl hg) (hy.blt x hx) hv (q_cons hs ha q_nil) (okName_d (isGl_d hg).2).2.2 (okName_d (isGl_d hg).2).1 (star_cons hs) rfl) fun σ H Q ⟨α, ρ, S, rs, re, k⟩ => ?_
  rw [evE] at k
  refine ⟨α, ρ, S, rs, re, PostG.imp k.bind fun as α1 S1 H1 e1 rs1 k1 vs rvs => ?_⟩
  obtain ⟨d, S', e, k⟩ := PostG.ofP k1
  exact ⟨α1, S1, as, rs1, rvs, d, S', e, fun α' H' v e1 e2 e3 => k α' H' e1 e2 v e3⟩
theorem q_bi (hy : Hy X c CA XA G W sc N) {x : Str} {b : Bi} {e : PySem.Expr} {ie : IE} {p pos : Pos} (hg : isGl sc x = true) (hb : biC.lookup x = some b) (hs : notStar e) (ha : PE X e (rdE X.K CA XA G W ie)) :
    PE X (.Call (.Name x p) [e] [] pos) (rdE X.K CA XA G W (.bi b [ie])) := by
  have hm := PySem.mem_of_lookup hb
  simp only [biC, List.mem_cons, List.mem_nil_iff, or_false, Prod.mk.injEq] at hm
  rcases hm with ⟨rfl, rfl⟩ | ⟨rfl, rfl⟩ | ⟨rfl, rfl⟩ | ⟨rfl, rfl⟩ | ⟨rfl, rfl⟩ | ⟨rfl, rfl⟩
  · exact q_blt hy hg (by decide) (by decide +kernel) cb_abs hs ha
  · exact q_blt hy hg (by decide) (by decide +kernel) cb_len hs ha
  · exact q_bty hy hg (by decide) (by decide +kernel) cb_int hs ha
  · exact q_bty hy hg (by decide) (by decide +kernel) cb_tuple hs ha
  · exact q_bty hy hg (by decide) (by decide +kernel) cb_list hs ha
  · exact q_blt hy hg (by decide) (by decide +kernel) (cb_sum hy.calm) hs ha
end
end MP
end

section
set_option maxRecDepth 100000
set_option maxHeartbeats 2000000
/-! MP7: isinstance, made objects, methods. -/
namespace MP
open PySem PySem.Spec L2

/-- how a class of the text is made -/
structure MkA (X : Cx) (CA XA : Nat → Option Addr) (G : Gm) (i : Nat) (x : Str) (m : Nat) : Prop where
  at_ : ∃ (C a : Addr) (fd : FuncData) (k : Nat) (ps : List Str) (g : List D → Store → Res D), CA i = some C ∧ X.mg x = some (.ref C) ∧ Mk X.K C a ∧ Room (k + 1) X.A ∧ FnOk X.prog X.w X.K X.mg X.base (L2.CX X.prog X.w) k a fd ps (spF X.K CA XA g) ∧ ps.length = m + 1 ∧
    Binds X.K fd ps [] ∧ ∀ ds S, G.new i ds S = (g (.obj S.length :: ds) (S ++ [.ins i []])).bind fun v S' => match v with
          | .non => .ok (.obj S.length) S'
          | _ => .bad

section
variable {X : Cx} {c : Cc} {CA XA : Nat → Option Addr} {G : Gm} {W : WX} {sc : Scope} {N : List Str}

/-! ### isinstance -/
theorem ty_of {K : PySem.W.Frag} {α : List Addr} {S : Store} {H : Hp} {d : D} {x : V} {t : String} (rs : RelS K CA α S H) (r : RV K α H d x) (h : tyD d S = some t) : TyX K H x (.type t) ∧ t ∈ "NoneType" :: tyNames := by
  cases r with
  | non => cases h; exact ⟨.base .non, by decide⟩
  | bl b => cases h; exact ⟨.base (.bl b), by decide⟩
  | int i => cases h; exact ⟨.base (.int i), by decide⟩
  | str z => cases h; exact ⟨.base (.str z), by decide⟩
  | tup hs rr =>
    cases h
    refine ⟨?_, by decide⟩
    rcases hs with (hs | ⟨o, hs⟩) | ⟨o, its, n, h1, h2, _⟩
    · exact .base (.tup hs)
    · exact .fTuple hs
    · exact .kTuple h1 h2
  | lsf hs rr =>
    cases h
    refine ⟨?_, by decide⟩
    rcases hs with ⟨o, hs⟩ | ⟨o, its, n, h1, h2, _⟩
    · exact .base (.frz hs)
    · exact .kList h1 h2
  | @obj n a ho =>
    unfold tyD at h
    dsimp only at h
    split at h
    · rename_i ds hS
      cases h
      obtain ⟨b, h1, xs, h2, _⟩ := rs.ok _ _ hS
      rw [ho] at h1; cases h1
      exact ⟨.base (.lst h2), by decide⟩
    · cases h
theorem ins_of {K : PySem.W.Frag} {attrs : List Str} {α : List Addr} {S : Store} {H : Hp} {d : D} {x : V} {i : Nat} (cl : ClF K CA attrs) (rs : RelS K CA α S H) (r : RV K α H d x) (h : insD d S = some i) : ∃ C, CA i = some C ∧ TyX K H x (.ref C) := by
  unfold insD at h
  split at h
  · split at h
    · rename_i c' fs hS
      cases h
      cases r with
      | obj ho =>
        obtain ⟨b, h1, C, dx, gs, h2, h3, _⟩ := rs.ok _ _ hS
        rw [ho] at h1; cases h1
        exact ⟨C, h2, .base (.ins h3 (cl.cls _ _ h2) (cl.own _ _ h2) cl.gs cl.tk (cl.mro _ _ h2))⟩
    · cases h
  · cases h
theorem ty_ins {d : D} {S : Store} {t : String} (h : tyD d S = some t) : insD d S = none := by
  unfold tyD at h
  unfold insD
  split at h <;> try rfl
  split at h
  · rename_i hS; dsimp only; rw [hS]
  · cases h
theorem ty_or {K : PySem.W.Frag} {α : List Addr} {S : Store} {H : Hp} {d : D} {x : V} (rs : RelS K CA α S H) (r : RV K α H d x) : (∃ t, tyD d S = some t) ∨ ∃ i, insD d S = some i := by
  cases r with
  | @obj n a ho =>
    have hl : n < S.length := by rw [← rs.len]; exact (List.getElem?_eq_some_iff.mp ho).1
    cases hS : S[n] with
    | lst ds => left; exact ⟨"list", by unfold tyD; dsimp only; rw [List.getElem?_eq_getElem hl, hS]⟩
    | ins i fs => right; exact ⟨i, by unfold insD; dsimp only; rw [List.getElem?_eq_getElem hl, hS]⟩
  | _ => left; exact ⟨_, rfl⟩
theorem q_isi (hy : Hy X c CA XA G W sc N) {t : Str} {T : String} {a : PySem.Expr} {ia : IE} {p p2 pos : Pos} (hg : isGl sc "isinstance" = true) (ht : isGl sc t = true) (hT : tyC.lookup t = some T) (hs : notStar a) (ha : PE X a (rdE X.K CA XA G W ia)) :
    PE X (.Call (.Name "isinstance" p) [a, .Name t p2] [] pos) (rdE X.K CA XA G W (.isi ia T)) := by
  have hm := PySem.mem_of_lookup hT
  simp only [tyC, List.mem_cons, List.mem_nil_iff, or_false, Prod.mk.injEq] at hm
  have hb : bootBuiltins t = some (.type T) ∧ t ∈ bltNames := by
    rcases hm with ⟨rfl, rfl⟩ | ⟨rfl, rfl⟩ | ⟨rfl, rfl⟩ | ⟨rfl, rfl⟩ | ⟨rfl, rfl⟩ <;> exact ⟨by decide +kernel, by decide⟩
  have hTn : T ∈ tyNames := by rcases hm with ⟨rfl, rfl⟩ | ⟨rfl, rfl⟩ | ⟨rfl, rfl⟩ | ⟨rfl, rfl⟩ | ⟨rfl, rfl⟩ <;> decide
  have pt : PE X (.Name t p2) (tC (.ty T)) := pe_bltn (hy.gl ht) (hy.blt t hb.2) hb.1 rfl (okName_d (isGl_d ht).2).2.2 (okName_d (isGl_d ht).2).1
  refine peImp (pe_callB call_isi (hy.gl hg) (hy.blt _ (by decide)) (by decide +kernel) (pa_cons ha (pa_cons pt pa_nil) (star_cons hs)) (okName_d (isGl_d hg).2).2.2 (okName_d (isGl_d hg).2).1 (star_cons hs) rfl) fun σ H Q ⟨α, ρ, S, rs, re, k⟩ => ?_
  rw [evE] at k
  refine ⟨α, ρ, S, rs, re, PostG.imp k.bind fun d α1 S1 H1 e1 rs1 k1 x rx => ?_⟩
  obtain ⟨d', hd, k2⟩ := PostG.of rs1 k1
  obtain ⟨b, hb, rfl⟩ := Option.map_eq_some_iff.mp hd
  show rIsi X.K [x, .ty T] H1 Q
  unfold isiD at hb
  split at hb
  · rename_i t0 h0
    exact ⟨x, .ty T, _, _, b, rfl, .ty T, (ty_of rs1 rx h0).1, kit_ty hb, k2 _ (.bl _)⟩
  · split at hb
    · rename_i i hi
      rw [if_pos hTn] at hb
      cases hb
      obtain ⟨C, h1, h2⟩ := ins_of hy.cl rs1 rx hi
      exact ⟨x, .ty T, _, _, false, rfl, .ty T, h2, hy.cl.k1 _ _ _ h1 hTn, k2 _ (.bl _)⟩
    · cases hb
theorem q_isc (hy : Hy X c CA XA G W sc N) {t : Str} {i : Nat} {a : PySem.Expr} {ia : IE} {p p2 pos : Pos} (hg : isGl sc "isinstance" = true) (ht : isGl sc t = true) (hi : ixOf t c.cls = some i) (hs : notStar a) (ha : PE X a (rdE X.K CA XA G W ia)) :
    PE X (.Call (.Name "isinstance" p) [a, .Name t p2] [] pos) (rdE X.K CA XA G W (.isc ia i)) := by
  obtain ⟨C, hC, hm⟩ := hy.cln i t (ixOf_some hi)
  have pt : PE X (.Name t p2) (tC (.ref C)) := pe_glob (hy.gl ht) hm rfl (okName_d (isGl_d ht).2).1
  refine peImp (pe_callB call_isi (hy.gl hg) (hy.blt _ (by decide)) (by decide +kernel) (pa_cons ha (pa_cons pt pa_nil) (star_cons hs)) (okName_d (isGl_d hg).2).2.2 (okName_d (isGl_d hg).2).1 (star_cons hs) rfl) fun σ H Q ⟨α, ρ, S, rs, re, k⟩ => ?_
  rw [evE] at k
  refine ⟨α, ρ, S, rs, re, PostG.imp k.bind fun d α1 S1 H1 e1 rs1 k1 x rx => ?_⟩
  show rIsi X.K [x, .ref C] H1 Q
  have k2 := k1 α1 H1 (Ext.refl _ _) rs1 _ (.bl _)
  rcases ty_or rs1 rx with ⟨t0, h0⟩ | ⟨i', h0⟩
  · obtain ⟨h1, h2⟩ := ty_of rs1 rx h0
    rw [ty_ins h0] at k2
    exact ⟨x, .ref C, _, _, false, rfl, .own C, h1, hy.cl.k3 _ _ _ hC h2, k2⟩
  · obtain ⟨C', h1, h2⟩ := ins_of hy.cl rs1 rx h0
    rw [h0] at k2
    refine ⟨x, .ref C, _, _, decide (i' = i), rfl, .own C, h2, hy.cl.k2 _ _ _ _ h1 hC, ?_⟩
    have e : decide (some i' = some i) = decide (i' = i) := by simp
    rw [← e]; exact k2

/-! ### methods -/
theorem q_bits {a : PySem.Expr} {ia : IE} {ap pos : Pos} (hs : notSuper a = true) (hl : ap.endLine = pos.line) (ha : PE X a (rdE X.K CA XA G W ia)) : PE X (.Call (.Attribute a "bit_length" ap) [] [] pos) (rdE X.K CA XA G W (.bm .bits ia [])) := by
  refine peImp (pe_bits ha (base_of hs _) (by rw [hl]; exact beq_self_eq_true _)) fun σ H Q ⟨α, ρ, S, rs, re, k⟩ => ?_
  rw [evE] at k
  refine ⟨α, ρ, S, rs, re, PostG.imp k.bind fun d α1 S1 H1 e1 rs1 k1 x rx => ?_⟩
  cases rx with
  | int i => exact ⟨i, rfl, k1 α1 H1 (Ext.refl _ _) rs1 _ (.int _)⟩
  | _ => exact False.elim k1
theorem bmT_list {m : Bm} {d : D} {S : Store} {α : List Addr} {H : Hp} {x : V} (rs : RelS X.K CA α S H) (rx : RV X.K α H d x) (hm : m ≠ .bits) (h : bmT m d S = true) : tyV X.K "list" x H := by
  cases rx with
  | @obj n a ho =>
    have h' : (lstAt S n).isSome = true := by cases m <;> first | exact h | exact absurd rfl hm
    obtain ⟨ds, hd⟩ := Option.isSome_iff_exists.mp h'
    exact rs.tyL hd (.obj ho)
  | _ => cases m <;> first | (cases h; done) | exact absurd rfl hm
theorem q_bm0 {a : PySem.Expr} {ia : IE} {ap pos : Pos} {name : Str} {id : String} {m : Bm} (slot : Slot "list" name id) (hty : typeOf (.builtin id) = pure (.type "method_descriptor")) (hm : MtR X id (rM X.K CA m)) (hb : m ≠ .bits) (hs : notSuper a = true) (hl : ap.endLine = pos.line) (ha : PE X a (rdE X.K CA XA G W ia)) :
    PE X (.Call (.Attribute a name ap) [] [] pos) (rdE X.K CA XA G W (.bm m ia [])) := by
  refine peImp (pe_bm0 PySem.F.plainAttrs_list slot hty hm ha (base_of hs _) (by rw [hl]; exact beq_self_eq_true _)) fun σ H Q ⟨α, ρ, S, rs, re, k⟩ => ?_
  rw [evE] at k
  refine ⟨α, ρ, S, rs, re, PostG.imp k.bind fun d α1 S1 H1 e1 rs1 k1 x rx => ?_⟩
  by_cases ht : bmT m d S1 = true
  · rw [if_pos ht, evEs] at k1
    have k2 : PE' X.K CA XA W α1 H1 σ (Res.ofP (bmD m d [] S1)) Q := k1
    obtain ⟨d', S', e, k⟩ := PostG.ofP k2
    exact ⟨bmT_list rs1 rx hb ht, α1, S1, d, [], rs1, rx, .nil, d', S', e, fun α' H' v e1 e2 e3 => k α' H' e1 e2 v e3⟩
  · rw [if_neg ht] at k1; exact False.elim k1
theorem q_bm1 {a e : PySem.Expr} {ia ie : IE} {ap pos : Pos} {name : Str} {id : String} {m : Bm} (slot : Slot "list" name id) (hty : typeOf (.builtin id) = pure (.type "method_descriptor")) (hm : MtR X id (rM X.K CA m)) (hb : m ≠ .bits) (hs : notSuper a = true) (hl : ap.endLine = pos.line) (hn : notStar e) (ha : PE X a (rdE X.K CA XA G W ia)) (he : PE X e (rdE X.K CA XA G W ie)) :
    PE X (.Call (.Attribute a name ap) [e] [] pos) (rdE X.K CA XA G W (.bm m ia [ie])) := by
  refine peImp (pe_bm PySem.F.plainAttrs_list slot hty hm ha (q_cons hn he q_nil) (base_of hs _) ?_ (by rw [hl]; exact beq_self_eq_true _) (star_cons hn) rfl) fun σ H Q ⟨α, ρ, S, rs, re, k⟩ => ?_
  · rw [star_all (es := [e]) (fun z hz => by rw [List.mem_singleton] at hz; rw [hz]; exact hn)]
    rfl
  · rw [evE] at k
    refine ⟨α, ρ, S, rs, re, PostG.imp k.bind fun d α1 S1 H1 e1 rs1 k1 x rx => ?_⟩
    by_cases ht : bmT m d S1 = true
    · rw [if_pos ht] at k1
      refine ⟨bmT_list rs1 rx hb ht, α1, ρ, S1, rs1, re.mono rs.nt e1, PostG.imp k1.bind fun ds α2 S2 H2 e2 rs2 k2 xs rxs => ?_⟩
      obtain ⟨d', S', e, k⟩ := PostG.ofP k2
      exact ⟨α2, S2, d, ds, rs2, rx.mono rs1.nt e2, rxs, d', S', e, fun α' H' v e1 e2 e3 => k α' H' e1 e2 v e3⟩
    · rw [if_neg ht] at k1; exact False.elim k1
theorem q_pop {a : PySem.Expr} {ia : IE} {ap pos : Pos} (hs : notSuper a = true) (hl : ap.endLine = pos.line) (ha : PE X a (rdE X.K CA XA G W ia)) : PE X (.Call (.Attribute a "pop" ap) [] [] pos) (rdE X.K CA XA G W (.bm .pop ia [])) :=
  q_bm0 PySem.F.slot_list_pop PySem.F.type_list_pop mb_pop (by decide) hs hl ha
theorem q_bm (hy : Hy X c CA XA G W sc N) {a e : PySem.Expr} {ia ie : IE} {ap pos : Pos} {name : Str} {m : Bm} (hm : bmC.lookup name = some m) (hp : m ≠ .pop) (hs : notSuper a = true) (hl : ap.endLine = pos.line) (hn : notStar e) (ha : PE X a (rdE X.K CA XA G W ia)) (he : PE X e (rdE X.K CA XA G W ie)) :
    PE X (.Call (.Attribute a name ap) [e] [] pos) (rdE X.K CA XA G W (.bm m ia [ie])) := by
  have hm := PySem.mem_of_lookup hm
  simp only [bmC, List.mem_cons, List.mem_nil_iff, or_false, Prod.mk.injEq] at hm
  rcases hm with ⟨rfl, rfl⟩ | ⟨rfl, rfl⟩ | ⟨rfl, rfl⟩ | ⟨rfl, rfl⟩
  · exact q_bm1 PySem.F.slot_list_append PySem.F.type_list_append mb_append (by decide) hs hl hn ha he
  · exact q_bm1 PySem.F.slot_list_extend PySem.F.type_list_extend mb_extend (by decide) hs hl hn ha he
  · exact absurd rfl hp
  · exact q_bm1 PySem.F.slot_list_index PySem.F.type_list_index (mb_index hy.units) (by decide) hs hl hn ha he

/-! ### objects made -/
theorem RelS.new_ins {K : PySem.W.Frag} {α : List Addr} {S : Store} {H : Hp} {i : Nat} {C x dx : Addr} (rs : RelS K CA α S H) (hC : CA i = some C) (hx : H x = none) (hd : H dx = none) (hne : dx ≠ x) :
    RelS K CA (α ++ [x]) (S ++ [.ins i []]) (upd (upd H dx (.own x)) x (.ins C dx [])) ∧ Ext α H (α ++ [x]) (upd (upd H dx (.own x)) x (.ins C dx [])) := by
  have hx' : upd H dx (.own x) x = none := by rw [upd_ne (Ne.symm hne)]; exact hx
  have rs1 : RelS K CA α S (upd H dx (.own x)) := rs.laid hd
  exact ⟨rs1.push hx' ⟨C, dx, [], hC, upd_same, .nil⟩, (Ext.laid hd).trans (Ext.push hx')⟩
theorem run_makeS {CX : CXT} {pins : List (Addr × Obj)} {σ : L2.St} {H : Hp} {s : Shared} {Q : VK} {us : List Value} {vs : List V} {k : Nat} {f C : Addr} {fd : FuncData} {ps : List Str} {sp : Sp} {E : XK} (M : Mk X.K C f) (F : FnOk X.prog X.w X.K X.mg X.base CX k f fd ps sp) (hr : Room (k + 1) X.A) (hb : Binds X.K fd ps [])
    (hx : ∀ (pins : List (Addr × Obj)) (H : Hp) (s : Shared) (e : Value) (s' : Shared), Inv X pins σ H s → CX X.stack H s E e s' → X.xe e s') (I : Inv X pins σ H s) (r : Vals vs us)
    (h : ∀ x dx, H x = none → H dx = none → dx ≠ x → sp (.ref x :: vs) (upd (upd H dx (.own x)) x (.ins C dx [])) (fun v H2 => v = .non ∧ Q (.ref x) H2) E) :
    wpAny (model X.prog X.w) X.A (call (.ref C) us) (EP X pins σ Q) X.xe s := by
  have hq := h (s.heap.objs.size + 1) s.heap.objs.size (I.hok.fresh (Nat.le_succ _)) (I.hok.fresh (Nat.le_refl _)) (Nat.ne_of_lt (Nat.lt_succ_self _))
  have I2 := L2.Inv.made (C := C) I
  have r2 : Vals (V.ref (s.heap.objs.size + 1) :: vs) (Value.ref (s.heap.objs.size + 1) :: us) := .cons rfl r
  have hl : (Value.ref (s.heap.objs.size + 1) :: us ++ []).length = ps.length := by
    have e := r2.length
    rw [F.len _ _ _ _ hq] at e
    rw [List.append_nil]
    exact e.symm
  have b := hb _ (Value.ref (s.heap.objs.size + 1) :: us) I2.kIn hl
  rw [List.append_nil] at b
  refine wpAny_call (make_map (f := f) I.kIn M.makes M.init (beq_iff_eq.mp M.fn) (codeAny_mono (F.run _ X.stack _ _ ⟨Value.ref (s.heap.objs.size + 1) :: us, []⟩ (Value.ref (s.heap.objs.size + 1) :: us) _ _ E (hr.make C us [])
    (I2.env0.make C us []) b r2 hq) fun r s' hq' => ?_))
  cases r with
  | error e => exact hx pins _ _ e s' I2 hq'
  | ok fl =>
    cases fl with
    | ret u =>
      obtain ⟨v, H', I3, rv, ev, q3⟩ := I2.after hq'
      subst ev
      exact ⟨rv, ⟨V.ref (s.heap.objs.size + 1), H', I3, rfl, q3⟩⟩
    | next => exact False.elim hq'
    | brk => exact False.elim hq'
    | cont => exact False.elim hq'
theorem q_mk (hy : Hy X c CA XA G W sc N) {x : Str} {i m : Nat} {e : PySem.Expr} {es : List PySem.Expr} {ies : List IE} {p pos : Pos} (mk : MkA X CA XA G i x m) (hg : isGl sc x = true)
    (hs : ∀ z ∈ e :: es, notStar z) (ha : PA X (e :: es) (rdA X.K CA XA G W ies)) : PE X (.Call (.Name x p) (e :: es) [] pos) (rdE X.K CA XA G W (.mk i ies)) := by
  obtain ⟨C, a, fd, k, ps, g, h1, h2, h3, h4, h5, h6, h7, h8⟩ := mk.at_
  refine ⟨fun pins s σ H Q I ⟨α, ρ, S, rs, re, kk⟩ => ?_⟩
  rw [evE] at kk
  refine wpAny_Call_Name_kw (ld_glob I (hy.gl hg) h2 ?_ (okName_d (isGl_d hg).2).1)
  have h0 : rdA X.K CA XA G W ies σ H fun vs H1 => ∃ (α1 : List Addr) (S1 : Store) (ds : List D), RelS X.K CA α1 S1 H1 ∧ RVs X.K α1 H1 ds vs ∧ PE' X.K CA XA W α1 H1 σ (G.new i ds S1) Q :=
    ⟨α, ρ, S, rs, re, PostG.imp kk.bind fun as α1 S1 H1 e1 rs1 k1 vs rvs => ⟨α1, S1, as, rs1, rvs, k1⟩⟩
  refine PySem.W.callWith_K (h₀ := X.base) I.ok.mod.kin h3.kp (thn (ha.run pos pins s σ H _ I h0) fun us s1 ⟨vs, H1, I1, r, α1, S1, ds, rs1, rvs, k1⟩ => ⟨I1.kIn, ?_⟩) (star_cons (hs e (List.mem_cons_self ..))) (star_any fun z hz => hs z (List.mem_cons_of_mem _ hz))
  rw [h8] at k1
  refine run_makeS (E := WE W σ) h3 h5 h4 h7 (passAt hy.tk σ) I1 r fun x dx hx hd hne => ?_
  obtain ⟨rs2, e2⟩ := rs1.new_ins h1 hx hd hne
  refine ⟨_, _, _, rs2, .cons (.obj (push_get rs1.len)) (rvs.mono rs1.nt e2), PostG.imp (PostG.mono e2 k1).bind fun v α3 S3 H3 e3 rs3 k3 w rw' => ?_⟩
  cases rw' with
  | non => exact ⟨rfl, k3 α3 H3 (Ext.refl _ _) rs3 _ (.obj (e3.get (push_get rs1.len)))⟩
  | _ => exact False.elim k3
end
end MP
end

section
set_option maxRecDepth 100000
set_option maxHeartbeats 2000000
/-! MP8: what is walked; targets; comprehensions. -/
namespace MP
open PySem PySem.Spec PyProof.Rows
/-! ### enumerate(tuple) -/
set_option maxHeartbeats 1000000 in
theorem meets_enum1 {v : Value} {o : Obj} {H : Heap → Prop} (B : Begins v o H) :
    Meets (Builtin.«enumerate.__new__» ⟨[.type "enumerate", v], []⟩) (fun _ R s => H s.heap ∧
      R (.ok (.ret (.ref (s.heap.push o).objs.size))) { s with heap := (s.heap.push o).push { cls := .type "enumerate", data := .fields #[.none, .bool false, .ref s.heap.objs.size, rawInt 0, .none, .none] } }) :=
  .of_wp fun prog w A R s h => by
    obtain ⟨hp, g, d, tk, os⟩ := s; obtain ⟨h1, h⟩ := h
    have hsub := sub_enumerate
    have q1 : ∀ {A' : Around} {E : Value → Shared → Prop} {Q : Value → Shared → Prop}, Q (.ref hp.objs.size) ⟨hp.push o, g, d, tk, os⟩ → wpAny (model prog w) A' (pyIter v) Q E ⟨hp, g, d, tk, os⟩ :=
      fun q => B.iter prog w _ _ ⟨hp, g, d, tk, os⟩ _ h1 q
    wp_walk using q1
    refine wpAny_stack_any fun st => wpAny_pure ?_
    split
    · rename_i c _ _ _ _ _
      cases (c == Value.type "enumerate")
      · wp_walk using q1
        exact ⟨_, rfl, h⟩
      · wp_walk using q1
        exact ⟨_, rfl, h⟩
    · wp_walk using q1
      exact ⟨_, rfl, h⟩
theorem enum_begins1 {prog : Program} {w : World} {A : Around} {E : Value → Shared → Prop} {s : Shared} {v : Value} {o : Obj} {H : Heap → Prop} {Q : Value → Shared → Prop} (B : Begins v o H) (h1 : H s.heap)
    (h : ∀ h', IsEnum h' (s.heap.objs.size + 1) s.heap.objs.size 0 .none → h'.get? s.heap.objs.size = some o → h'.objs.size = s.heap.objs.size + 2 →
      (∀ b o, s.heap.get? b = some o → h'.get? b = some o) → Q (.ref (s.heap.objs.size + 1)) { s with heap := h' }) :
    wpAny (model prog w) A (call (.type "enumerate") [v]) Q E s := by
  refine callType_new F.called_enumerate (by decide) (F.typeCall_enumerate_1 _) (F.newCall_enumerate_1 _) (fun obj => F.args_object_init_2 obj _) F.entry_enumerate_new
    (meets_enum1 B) ⟨h1, ?_⟩
  have hz : (s.heap.push o).objs.size = s.heap.objs.size + 1 := Heap.size_push ..
  show _ ∧ _
  rw [hz]
  have he : IsEnum ((s.heap.push o).push { cls := .type "enumerate", data := .fields #[.none, .bool false, .ref s.heap.objs.size, rawInt 0, .none, .none] }) (s.heap.objs.size + 1) s.heap.objs.size 0 .none := by
    have := Heap.get?_push_size (s.heap.push o) (o := { cls := .type "enumerate", data := .fields #[.none, .bool false, .ref s.heap.objs.size, rawInt 0, .none, .none] }) rfl
    rw [hz] at this; exact this
  refine ⟨⟨_, he, rfl⟩, h _ he (Heap.get?_push_of_some _ (Heap.get?_push_size _ B.free)) (by rw [Heap.size_push, hz]) fun b o x => Heap.get?_push_of_some _ (Heap.get?_push_of_some _ x)⟩
end MP
namespace MP
open PySem PySem.Spec L2
/-- the tuple at a, each item in a new pair -/
def IteT (K : PySem.W.Frag) (a : Addr) : It :=
  ⟨fun i H => ∃ (xs : List V) (x : V), SqT K H a xs ∧ xs[i]? = some x, fun i H v H' => ∃ T x, v = .ref T ∧ H T = none ∧ H' = upd H T (.tup [.int (i : Nat), x]) ∧ ∀ xs, SqT K H a xs → xs[i]? = some x, fun i H => ∃ xs : List V, SqT K H a xs ∧ xs.length = i⟩
theorem turn_enumT {P : Program} {w : World} {K : PySem.W.Frag} {elts : List PySem.Expr} {kk : Nat} {tpos : Pos} (a e it : Addr) :
    Turn P w K (.Tuple elts kk tpos) (IteT K a) [e, it] e (fun i h => (∃ old, IsEnum h e it ((i : Nat) : Int) old) ∧ h.IsTupleIter it a i ∧ e ≠ it) where
  mem := by simp
  obj := fun i h st b hb => by
    obtain ⟨⟨old, he⟩, ⟨o, ho, hc, hd⟩, _⟩ := st
    have e' : b = e ∨ b = it := by simpa using hb
    rcases e' with z | z
    · rw [z]; exact ⟨_, he, fun v q => nomatch q⟩
    · rw [z]; exact ⟨o, ho, fun v q => by rw [hd] at q; cases q⟩
  keep := fun i h h' st k => let ⟨⟨old, he⟩, hi, hne⟩ := st; ⟨⟨old, k e (by simp) _ he⟩, hi.at fun o q => k it (by simp) o q, hne⟩
  item := by
    intro X hP hw hK hc i pins s σ H E I hf st hg
    subst hP hw hK
    obtain ⟨⟨old, he⟩, hit, hne⟩ := st
    obtain ⟨xs, x, hq, hx⟩ := hg
    obtain ⟨its, rv, p, hz⟩ := I.tuple hq
    obtain ⟨u, hu, ru⟩ := rv.get hx
    have hel : e < s.heap.objs.size := Heap.lt_size he
    have hil : it < s.heap.objs.size := by obtain ⟨_, q, _⟩ := hit; exact Heap.lt_size q
    have hae : a ≠ e := fun q => by
      obtain ⟨o, h1, h2, _⟩ := p
      rw [q, he] at h1; cases h1
      have h3 : Value.type "enumerate" = Value.type "tuple" := h2
      injection h3 with z; exact absurd z (by decide)
    have hai : a ≠ it := fun q => by
      obtain ⟨o, h1, h2, _⟩ := p
      obtain ⟨o', h3, h4, _⟩ := hit
      rw [q, h3] at h1; cases h1; rw [h2] at h4; injection h4 with z; exact absurd z (by decide)
    refine wpAny_pyNext_enum_itemD (Draws.tuple (show X.A.in1.handled = none from I.ok.hd hc) it a hai its.toArray) he ⟨hit, p⟩ (by have := (List.getElem?_eq_some_iff.mp hu).1; simpa using this) hne (by simp [hne, Ne.symm hae]) fun u' h' tk hP ho hs' hT hsz hk => ?_
    have eu : u' = u := by
      have : its.toArray[i]? = some u := by simpa using hu
      rw [this] at hP; exact (Option.some.inj hP).symm
    subst eu
    refine ⟨_, rfl, PySem.wpAny_letOwnedTupleGo_enum (s := { s with heap := h', toks := tk + 1 }) ho fun h'' he' sb => ?_⟩
    have hT2 : h''.get? s.heap.objs.size = some { cls := .type "tuple", data := .seq #[.int i tk, u'] } := (sb.2 _ (Nat.ne_of_gt hel)).trans hT
    have new : ObjOk X.prog X.w (upd H s.heap.objs.size (.tup [.int (i : Nat), x])) h'' s.heap.objs.size (.tup [.int (i : Nat), x]) :=
      ⟨by show 2 ≤ sizeLine; decide, [.int i tk, u'], .cons ⟨_, rfl⟩ (.cons ru .nil), ⟨_, hT2, rfl, _, rfl⟩⟩
    have I1 : Inv X pins σ (upd H s.heap.objs.size (.tup [.int (i : Nat), x])) { s with heap := h'', toks := tk + 1 } :=
      I.turnedNew (ch := [e, it]) (fun b ob hb q => (sb.2 b (fun z => hb (by simp [z]))).trans (hk b ob (fun z => hb (by simp [z])) (fun z => hb (by simp [z])) q)) hf (Nat.le_refl _) new
    refine ⟨.ref s.heap.objs.size, _, I1, rfl, ⟨_, x, rfl, I.hok.fresh (Nat.le_refl _), rfl, fun ys hy => by rw [I.tuple_inj hy hq]; exact hx⟩, ⟨⟨u', ?_⟩, hs'.1.at fun o q => (sb.2 it (Ne.symm hne)).trans q, hne⟩, fun b hb => ?_⟩
    · have e1 : ((i + 1 : Nat) : Int) = (i : Int) + 1 := by omega
      rw [e1]; exact he'
    · have hb' : b < s.heap.objs.size := by
        have e' : b = e ∨ b = it := by simpa using hb
        rcases e' with z | z
        · rw [z]; exact hel
        · rw [z]; exact hil
      rw [upd_ne (Nat.ne_of_lt hb')]
      exact (hf b hb).1
  done := by
    intro X hP hw hK hc i pins s σ H E I hf st hg
    subst hP hw hK
    obtain ⟨⟨old, he⟩, hit, hne⟩ := st
    obtain ⟨xs, hq, hx⟩ := hg
    obtain ⟨its, rv, p, hz⟩ := I.tuple hq
    obtain ⟨f0, f1, f2, f3, f4, f5⟩ := hf it (by simp)
    have hl := rv.length
    have hai : a ≠ it := fun q => by
      obtain ⟨o, h1, h2, _⟩ := p
      obtain ⟨o', h3, h4, _⟩ := hit
      rw [q, h3] at h1; cases h1; rw [h2] at h4; injection h4 with z; exact absurd z (by decide)
    have hn : its.toArray.size = i := by rw [List.size_toArray, ← hl, hx]
    exact wpAny_pyNext_enum_endD (Draws.tuple (show X.A.in1.handled = none from I.ok.hd hc) it a hai its.toArray) he ⟨by rw [hn]; exact hit, p⟩ fun h' eb => ⟨rfl, I.turned (t' := s.toks) (fun b o hb q => eb b o hb q) f0 f1 f3 f4 f5⟩
  self := fun A i s Q E st h => let ⟨⟨_, he⟩, _⟩ := st; wpAny_pyIter_enum he h

/-- enumerate(list or tuple) -/
def iEnumA (K : PySem.W.Frag) (ta : TA) : TI := fun σ H R => ta σ H fun vs H1 => ∃ a xs, vs = [.ref a] ∧ ((SqL K H1 a xs ∧ R (Ite K a) H1) ∨ (SqT K H1 a xs ∧ R (IteT K a) H1))
theorem pi_enumA {X : Cx} {e : PySem.Expr} {ta : TA} {p pos tpos : Pos} {elts : List PySem.Expr} {kk : Nat} (hg : Gl X "enumerate") (hm : X.mg "enumerate" = none) (ha : PA X [e] ta) (hs : starEach [e] X.env = [(false, eval e X.env)]) :
    PI X (.Tuple elts kk tpos) (.Call (.Name "enumerate" p) [e] [] pos) (iEnumA X.K ta) := by
  refine ⟨fun pins s σ H R I h => ?_⟩
  refine PyProof.Rows.Call_ (ld_blt I hg hm PyProof.Rows.boot_enumerate (PyProof.Rows.callWith_type1 (thn (ha.run pos pins s σ H _ I h) fun us s1 ⟨vs, H1, I1, r1, q1⟩ => ?_) hs rfl))
  obtain ⟨a, xs, ex, hq⟩ := q1
  subst ex
  have fin : ∀ b, (b = s1.heap.objs.size + 1 ∨ b = s1.heap.objs.size) → FpOk X pins H1 b := fun b e' => by
    have hle : s1.heap.objs.size ≤ b := by
      rcases e' with z | z
      · rw [z]; exact Nat.le_add_right _ _
      · rw [z]; exact Nat.le_refl _
    exact I1.fpOk hle (I1.hok.fresh hle)
  cases r1 with
  | cons r rr =>
    cases rr
    cases r
    rcases hq with ⟨hq, q⟩ | ⟨hq, q⟩
    · obtain ⟨its, rv, p', hz⟩ := I1.list hq
      refine call_enumerate_list p'.isList fun h' he hit hsz hk => wpAny_pyIter_enum he ?_
      have I2 : Inv X pins σ H1 { s1 with heap := h' } := I1.kept (t' := s1.toks) hk
      exact ⟨s1.heap.objs.size + 1, [s1.heap.objs.size + 1, s1.heap.objs.size], _, _, H1, rfl, I2, turn_enum a (s1.heap.objs.size + 1) s1.heap.objs.size, ⟨⟨.none, he⟩, hit, Nat.succ_ne_self _⟩, fun b hb => fin b (by simpa using hb), q⟩
    · obtain ⟨its, rv, p', hz⟩ := I1.tuple hq
      refine enum_begins1 (begins_tuple a its.toArray) p' fun h' he hit hsz hk => wpAny_pyIter_enum he ?_
      have I2 : Inv X pins σ H1 { s1 with heap := h' } := I1.kept (t' := s1.toks) hk
      exact ⟨s1.heap.objs.size + 1, [s1.heap.objs.size + 1, s1.heap.objs.size], _, _, H1, rfl, I2, turn_enumT a (s1.heap.objs.size + 1) s1.heap.objs.size, ⟨⟨.none, he⟩, ⟨_, hit, rfl, rfl⟩, Nat.succ_ne_self _⟩, fun b hb => fin b (by simpa using hb), q⟩
end MP

namespace MP
open PySem PySem.Spec L2
/-! ### a list, a tuple or a text walked -/
def iSqA (K : PySem.W.Frag) (te : TE) : TI := fun σ H R => te σ H fun v H1 => (∃ a xs, v = .ref a ∧ SqL K H1 a xs ∧ R (Itl K a) H1) ∨ (∃ a xs, v = .ref a ∧ SqT K H1 a xs ∧ R (Itt K a) H1) ∨ ∃ x, v = .str x ∧ R (Its x) H1
theorem pi_sqA {X : Cx} {tg l : PySem.Expr} {tl : TE} (hl : PE X l tl) : PI X tg l (iSqA X.K tl) := by
  refine ⟨fun pins s σ H R I h => ?_⟩
  refine thn (hl.run pins s σ H _ I h) fun v s1 ⟨x, H1, I1, r1, q1⟩ => ?_
  rcases q1 with ⟨a, xs, e, hq, q⟩ | ⟨a, xs, e, hq, q⟩ | ⟨x, ex, q⟩
  · subst e
    cases r1
    obtain ⟨its, rv, p, hz⟩ := I1.list hq
    refine wpAny_pyIter_list p.isList ?_
    refine ⟨s1.heap.objs.size, [s1.heap.objs.size], _, _, H1, rfl, I1.kept (t' := s1.toks) fun b o e => Heap.get?_push_of_some _ e, turn_list a _, ⟨_, Heap.get?_push_size _ rfl, rfl, rfl⟩, fun b hb => ?_, q⟩
    have e : b = s1.heap.objs.size := by simpa using hb
    subst e
    exact I1.fpOk (Nat.le_refl _) (I1.hok.fresh (Nat.le_refl _))
  · subst e
    cases r1
    obtain ⟨its, rv, p, hz⟩ := I1.tuple hq
    refine wpAny_pyIter_tuple (show s1.heap.IsTuple a its.toArray from p) ?_
    refine ⟨s1.heap.objs.size, [s1.heap.objs.size], _, _, H1, rfl, I1.kept (t' := s1.toks) fun b o e => Heap.get?_push_of_some _ e, turn_tuple a _, ⟨_, Heap.get?_push_size _ rfl, rfl, rfl⟩, fun b hb => ?_, q⟩
    have e : b = s1.heap.objs.size := by simpa using hb
    subst e
    exact I1.fpOk (Nat.le_refl _) (I1.hok.fresh (Nat.le_refl _))
  · subst ex
    obtain ⟨t, rfl⟩ := r1
    cases ha : x.cps.all (· < 128)
    · exact wpAny_pyIter_wide ha (pi_one (tk := s1.toks) I1 _ (turn_str _ x t "str_iterator" (.inr rfl)) ⟨_, Heap.get?_push_size _ rfl, rfl, rfl⟩ q)
    · exact wpAny_pyIter_ascii ha (pi_one (tk := s1.toks) I1 _ (turn_str _ x t "str_ascii_iterator" (.inl rfl)) ⟨_, Heap.get?_push_size _ rfl, rfl, rfl⟩ q)

/-! ### what an iterator gives, by data -/
section
variable (K : PySem.W.Frag) (CA : Nat → Option Addr)
def JOk (α : List Addr) (H : Hp) (items : List D) (g : Guard) (J : It) : Prop :=
  ∀ (α' : List Addr) (S' : Store) (H' : Hp), Ext α H α' H' → RelS K CA α' S' H' → gOk g S' = true → ∀ i : Nat,
    (∀ d, items[i]? = some d → J.go i H' ∧ ∀ x H2, J.yld i H' x H2 → Ext α' H' α' H2 ∧ RelS K CA α' S' H2 ∧ RV K α' H2 d x) ∧ (i = items.length → J.stop i H')
end
section
variable {K : PySem.W.Frag} {CA : Nat → Option Addr} {α : List Addr} {S : Store} {H : Hp}
theorem gOk_one {n : Nat} {ds : List D} {S' : Store} (h : gOk [(n, ds)] S' = true) : lstAt S' n = some ds := by
  simpa [gOk] using h
theorem gOk_two {n m : Nat} {ds es : List D} {S' : Store} (h : gOk [(n, ds), (m, es)] S' = true) : lstAt S' n = some ds ∧ lstAt S' m = some es := by
  simpa [gOk] using h
/-- a sequence: tuple, or list of the store, or locked list -/
theorem lst_later {n : Nat} {a : Addr} {ds : List D} {α' : List Addr} {S' : Store} {H' : Hp} (ha : α[n]? = some a) (e : Ext α H α' H') (rs : RelS K CA α' S' H') (h : lstAt S' n = some ds) : ∃ xs, SqL K H' a xs ∧ RVs K α' H' ds xs := by
  unfold lstAt at h
  split at h
  · cases h
    rename_i o ho
    obtain ⟨a', h1, xs, h2, h3⟩ := rs.ok n _ ho
    rw [e.get ha] at h1; cases h1
    exact ⟨xs, .inl (.inl h2), h3⟩
  · cases h
theorem sql_uniq {a : Addr} {xs ys : List V} {X : Cx} {pins : List (Addr × Obj)} {σ : L2.St} {s : Shared} (I : Inv X pins σ H s) (h1 : SqL X.K H a xs) (h2 : SqL X.K H a ys) : xs = ys := I.list_inj h1 h2
theorem jok_tup {ds : List D} {a : Addr} {xs : List V} (rs : RelS K CA α S H) (h : SqT K H a xs) (r : RVs K α H ds xs) : JOk K CA α H ds [] (Itt K a) := fun α' S' H' e rs' _ i => by
  have h' := SqT.mono rs.nt e h
  have r' := r.mono rs.nt e
  refine ⟨fun d hd => ?_, fun hi => ⟨xs, h', by rw [← r.length, hi]; exact Nat.le_refl _⟩⟩
  obtain ⟨v, hv, rv⟩ := r'.got hd
  refine ⟨⟨xs, v, h', hv⟩, fun x H2 ⟨e1, e2⟩ => ?_⟩
  subst e1
  have := e2 xs h'
  rw [hv] at this; cases this
  exact ⟨Ext.refl _ _, rs', rv⟩
theorem jok_ls {ds : List D} {a : Addr} {xs : List V} (rs : RelS K CA α S H) (h : FzL K H a xs) (r : RVs K α H ds xs) : JOk K CA α H ds [] (Itl K a) := fun α' S' H' e rs' _ i => by
  have h' := (FzL.mono rs.nt e h).sq
  have r' := r.mono rs.nt e
  refine ⟨fun d hd => ?_, fun hi => ⟨xs, h', by rw [← r.length, hi]; exact Nat.le_refl _⟩⟩
  obtain ⟨v, hv, rv⟩ := r'.got hd
  refine ⟨⟨xs, v, h', hv⟩, fun x H2 ⟨e1, e2⟩ => ?_⟩
  subst e1
  have := e2 xs h'
  rw [hv] at this; cases this
  exact ⟨Ext.refl _ _, rs', rv⟩
theorem jok_lst {ds : List D} {n : Nat} {a : Addr} (h : α[n]? = some a) : JOk K CA α H ds [(n, ds)] (Itl K a) := fun α' S' H' e rs' g i => by
  obtain ⟨xs, h', r'⟩ := lst_later h e rs' (gOk_one g)
  refine ⟨fun d hd => ?_, fun hi => ⟨xs, h', by rw [← r'.length, hi]; exact Nat.le_refl _⟩⟩
  obtain ⟨v, hv, rv⟩ := r'.got hd
  refine ⟨⟨xs, v, h', hv⟩, fun x H2 ⟨e1, e2⟩ => ?_⟩
  subst e1
  have := e2 xs h'
  rw [hv] at this; cases this
  exact ⟨Ext.refl _ _, rs', rv⟩
theorem jok_str {x : Str} : JOk K CA α H (x.cps.toList.map fun c => .str ⟨#[c]⟩) [] (Its x) := fun α' S' H' e rs' g i => by
  refine ⟨fun d hd => ?_, fun hi => by rw [hi, List.length_map, Array.length_toList]; exact Nat.le_refl _⟩
  rw [List.getElem?_map, Array.getElem?_toList, Option.map_eq_some_iff] at hd
  obtain ⟨c, hc, rfl⟩ := hd
  refine ⟨(Array.getElem?_eq_some_iff.mp hc).1, fun y H2 ⟨e1, c', e2, e3⟩ => ?_⟩
  subst e1 e3
  rw [hc] at e2; cases e2
  exact ⟨Ext.refl _ _, rs', .str _⟩
theorem jok_rng {lo : Int} {n : Nat} : JOk K CA α H (rngL lo n) [] (Itr lo n) := fun α' S' H' e rs' g i => by
  have hl : (rngL lo n).length = n := by rw [rngL, List.length_map, List.length_range]
  refine ⟨fun d hd => ?_, fun hi => by rw [hi, hl]; exact Nat.le_refl _⟩
  have hlt := (List.getElem?_eq_some_iff.mp hd).1
  rw [hl] at hlt
  rw [rngL, List.getElem?_map, List.getElem?_range hlt] at hd
  cases hd
  refine ⟨hlt, fun y H2 ⟨e1, e2⟩ => ?_⟩
  subst e1 e2
  exact ⟨Ext.refl _ _, rs', .int _⟩
theorem enumL_len : ∀ (ds : List D) (k : Nat), (enumL k ds).length = ds.length
  | [], _ => rfl
  | _ :: ds, k => by rw [enumL, List.length_cons, List.length_cons, enumL_len ds]
theorem enumL_get : ∀ (ds : List D) (k i : Nat) (d : D), (enumL k ds)[i]? = some d → ∃ e, ds[i]? = some e ∧ d = .tup [.int ((k + i : Nat) : Int), e]
  | [], _, _, _, h => by simp [enumL] at h
  | e :: _, k, 0, d, h => by
    simp [enumL] at h
    exact ⟨e, rfl, h.symm⟩
  | _ :: ds, k, i + 1, d, h => by
    rw [enumL, List.getElem?_cons_succ] at h
    obtain ⟨e, h1, h2⟩ := enumL_get ds (k + 1) i d h
    refine ⟨e, by simpa using h1, ?_⟩
    rw [h2, show k + 1 + i = k + (i + 1) by omega]
theorem zipL_len : ∀ (ds es : List D), (zipL ds es).length = min ds.length es.length
  | [], es => by simp [zipL]
  | _ :: _, [] => by simp [zipL]
  | _ :: ds, _ :: es => by rw [zipL, List.length_cons, zipL_len ds es, List.length_cons, List.length_cons]; omega
theorem zipL_get : ∀ (ds es : List D) (i : Nat) (d : D), (zipL ds es)[i]? = some d → ∃ x y, ds[i]? = some x ∧ es[i]? = some y ∧ d = .tup [x, y]
  | [], es, _, _, h => by simp [zipL] at h
  | _ :: _, [], _, _, h => by simp [zipL] at h
  | x :: _, y :: _, 0, d, h => by
    simp [zipL] at h
    exact ⟨x, y, rfl, rfl, h.symm⟩
  | _ :: ds, _ :: es, i + 1, d, h => by
    rw [zipL, List.getElem?_cons_succ] at h
    obtain ⟨x, y, h1, h2, h3⟩ := zipL_get ds es i d h
    exact ⟨x, y, by simpa using h1, by simpa using h2, h3⟩
/-- a new pair -/
theorem pair_new {α' : List Addr} {S' : Store} {H' : Hp} {T : Addr} {d1 d2 : D} {x1 x2 : V} (rs : RelS K CA α' S' H') (h : H' T = none) (r1 : RV K α' H' d1 x1) (r2 : RV K α' H' d2 x2) :
    Ext α' H' α' (upd H' T (.tup [x1, x2])) ∧ RelS K CA α' S' (upd H' T (.tup [x1, x2])) ∧ RV K α' (upd H' T (.tup [x1, x2])) (.tup [d1, d2]) (.ref T) :=
  ⟨Ext.laid h, rs.laid h, .tup (.inl (.inl upd_at)) (.cons (r1.mono rs.nt (Ext.laid h)) (.cons (r2.mono rs.nt (Ext.laid h)) .nil))⟩
theorem jok_enumT {ds : List D} {a : Addr} {xs : List V} (rs : RelS K CA α S H) (h : SqT K H a xs) (r : RVs K α H ds xs) : JOk K CA α H (enumL 0 ds) [] (IteT K a) := fun α' S' H' e rs' _ i => by
  have h' := SqT.mono rs.nt e h
  have r' := r.mono rs.nt e
  refine ⟨fun d hd => ?_, fun hi => ⟨xs, h', by rw [← r.length, hi, enumL_len]⟩⟩
  obtain ⟨d2, hd2, rfl⟩ := enumL_get ds 0 i d hd
  obtain ⟨v, hv, rv⟩ := r'.got hd2
  refine ⟨⟨xs, v, h', hv⟩, fun x H2 ⟨T, y, e1, e2, e3, e4⟩ => ?_⟩
  subst e1 e3
  have := e4 xs h'
  rw [hv] at this; cases this
  rw [Nat.zero_add]
  exact pair_new rs' e2 (.int _) rv
theorem jok_enumL {ds : List D} {a : Addr} {xs : List V} (rs : RelS K CA α S H) (h : FzL K H a xs) (r : RVs K α H ds xs) : JOk K CA α H (enumL 0 ds) [] (Ite K a) := fun α' S' H' e rs' _ i => by
  have h' := (FzL.mono rs.nt e h).sq
  have r' := r.mono rs.nt e
  refine ⟨fun d hd => ?_, fun hi => ⟨xs, h', by rw [← r.length, hi, enumL_len]; exact Nat.le_refl _⟩⟩
  obtain ⟨d2, hd2, rfl⟩ := enumL_get ds 0 i d hd
  obtain ⟨v, hv, rv⟩ := r'.got hd2
  refine ⟨⟨xs, v, h', hv⟩, fun x H2 ⟨T, y, e1, e2, e3, e4⟩ => ?_⟩
  subst e1 e3
  have := e4 xs h'
  rw [hv] at this; cases this
  rw [Nat.zero_add]
  exact pair_new rs' e2 (.int _) rv
theorem jok_enumO {ds : List D} {n : Nat} {a : Addr} (h : α[n]? = some a) : JOk K CA α H (enumL 0 ds) [(n, ds)] (Ite K a) := fun α' S' H' e rs' g i => by
  obtain ⟨xs, h', r'⟩ := lst_later h e rs' (gOk_one g)
  refine ⟨fun d hd => ?_, fun hi => ⟨xs, h', by rw [← r'.length, hi, enumL_len]; exact Nat.le_refl _⟩⟩
  obtain ⟨d2, hd2, rfl⟩ := enumL_get ds 0 i d hd
  obtain ⟨v, hv, rv⟩ := r'.got hd2
  refine ⟨⟨xs, v, h', hv⟩, fun x H2 ⟨T, y, e1, e2, e3, e4⟩ => ?_⟩
  subst e1 e3
  have := e4 xs h'
  rw [hv] at this; cases this
  rw [Nat.zero_add]
  exact pair_new rs' e2 (.int _) rv
theorem jok_zipT {ds es : List D} {a b : Addr} {xs ys : List V} (rs : RelS K CA α S H) (h1 : SqT K H a xs) (h2 : SqT K H b ys) (r1 : RVs K α H ds xs) (r2 : RVs K α H es ys) : JOk K CA α H (zipL ds es) [] (RZ.ItzT K a b) := fun α' S' H' e rs' _ i => by
  have h1' := SqT.mono rs.nt e h1
  have h2' := SqT.mono rs.nt e h2
  have r1' := r1.mono rs.nt e
  have r2' := r2.mono rs.nt e
  refine ⟨fun d hd => ?_, fun hi => ⟨xs, ys, h1', h2', by rw [← r1.length, ← r2.length, hi, zipL_len]; omega⟩⟩
  obtain ⟨d1, d2, hd1, hd2, rfl⟩ := zipL_get ds es i d hd
  obtain ⟨v, hv, rv⟩ := r1'.got hd1
  obtain ⟨u, hu, ru⟩ := r2'.got hd2
  refine ⟨⟨xs, ys, v, u, h1', h2', hv, hu⟩, fun x H2 ⟨T, y, z, e1, e2, e3, e4, e5⟩ => ?_⟩
  subst e1 e3
  have q1 := e4 xs h1'
  have q2 := e5 ys h2'
  rw [hv] at q1; cases q1
  rw [hu] at q2; cases q2
  exact pair_new rs' e2 rv ru
theorem jok_zipO {ds es : List D} {n m : Nat} {a b : Addr} (h1 : α[n]? = some a) (h2 : α[m]? = some b) : JOk K CA α H (zipL ds es) [(n, ds), (m, es)] (Itz K a b) := fun α' S' H' e rs' g i => by
  obtain ⟨xs, h1', r1'⟩ := lst_later h1 e rs' (gOk_two g).1
  obtain ⟨ys, h2', r2'⟩ := lst_later h2 e rs' (gOk_two g).2
  refine ⟨fun d hd => ?_, fun hi => ⟨xs, ys, h1', h2', by rw [← r1'.length, ← r2'.length, hi, zipL_len]; omega⟩⟩
  obtain ⟨d1, d2, hd1, hd2, rfl⟩ := zipL_get ds es i d hd
  obtain ⟨v, hv, rv⟩ := r1'.got hd1
  obtain ⟨u, hu, ru⟩ := r2'.got hd2
  refine ⟨⟨xs, ys, v, u, h1', h2', hv, hu⟩, fun x H2 ⟨T, y, z, e1, e2, e3, e4, e5⟩ => ?_⟩
  subst e1 e3
  have q1 := e4 xs h1'
  have q2 := e5 ys h2'
  rw [hv] at q1; cases q1
  rw [hu] at q2; cases q2
  exact pair_new rs' e2 rv ru
end
end MP
end

section
set_option maxRecDepth 100000
set_option maxHeartbeats 2000000
/-! MP9: iterators read; targets; comprehensions. -/
namespace MP
open PySem PySem.Spec L2
section
variable {K : PySem.W.Frag} {CA XA : Nat → Option Addr} {β γ : Type} {α α' : List Addr} {H H' : Hp} {S S' : Store} {E : XK}
theorem PostG.bind0 {r : Res β} {f : β → Store → Res γ} {P : γ → List Addr → Store → Hp → Prop} (h : PostG K CA XA α H (r.bind f) P E) :
    PostG K CA XA α H r (fun b _ S1 _ => PostG K CA XA α H (f b S1) P E) E := by
  cases r with
  | ok b S' => exact fun α1 H1 e rs => h
  | exc x S' => exact h
  | bad => exact h
theorem PostG.calm {r : Res β} {P : β → List Addr → Store → Hp → Prop} {E' : XK} (h : PostG K CA XA α H r.calm P E) : PostG K CA XA α H r P E' := by
  cases r with
  | ok b S' => exact h
  | exc x S' => exact False.elim h
  | bad => exact h
theorem SqT.sim {a : Addr} {xs : List V} (h : SqT K H a xs) (k : ∀ (b : Addr) (o : HO), H b = some o → isM o = false → H' b = some o) : SqT K H' a xs := by
  rcases h with (h | ⟨o, h⟩) | h
  · exact .inl (.inl (k _ _ h rfl))
  · exact .inl (.inr ⟨o, k _ _ h rfl⟩)
  · exact .inr h
theorem FzL.sim {a : Addr} {xs : List V} (h : FzL K H a xs) (k : ∀ (b : Addr) (o : HO), H b = some o → isM o = false → H' b = some o) : FzL K H' a xs := by
  rcases h with ⟨o, h⟩ | h
  · exact .inl ⟨o, k _ _ h rfl⟩
  · exact .inr h
abbrev KpH (H H' : Hp) : Prop := ∀ (b : Addr) (o : HO), H b = some o → isM o = false → H' b = some o
abbrev PrA (α α' : List Addr) : Prop := ∀ (n : Nat) (a : Addr), α[n]? = some a → α'[n]? = some a
mutual
theorem RV.sim (k : KpH H H') (g : PrA α α') : ∀ {d : D} {v : V}, RV K α H d v → RV K α' H' d v
  | _, _, .non => .non
  | _, _, .bl b => .bl b
  | _, _, .int i => .int i
  | _, _, .str s => .str s
  | _, _, .tup h r => .tup (SqT.sim h k) (RVs.sim k g r)
  | _, _, .lsf h r => .lsf (FzL.sim h k) (RVs.sim k g r)
  | _, _, .obj h => .obj (g _ _ h)
theorem RVs.sim (k : KpH H H') (g : PrA α α') : ∀ {ds : List D} {vs : List V}, RVs K α H ds vs → RVs K α' H' ds vs
  | _, _, .nil => .nil
  | _, _, .cons h r => .cons (RV.sim k g h) (RVs.sim k g r)
end
theorem RFs.sim (k : KpH H H') (g : PrA α α') : ∀ {ds : List (Str × D)} {vs : List (Str × V)}, RFs K α H ds vs → RFs K α' H' ds vs
  | _, _, .nil => .nil
  | _, _, .cons h r => .cons (RV.sim k g h) (RFs.sim k g r)
theorem RO.sim (k : KpH H H') (g : PrA α α') {a : Addr} {o : SO} (hs : H' a = H a) (h : RO K CA α H a o) : RO K CA α' H' a o := by
  cases o with
  | lst ds => obtain ⟨xs, e1, r⟩ := h; exact ⟨xs, hs.trans e1, RVs.sim k g r⟩
  | ins c fs => obtain ⟨C, dx, gs, e0, e1, r⟩ := h; exact ⟨C, dx, gs, e0, hs.trans e1, RFs.sim k g r⟩
/-- a list outside the store grows -/
theorem upd_sim {D : Addr} {xs ys : List V} (h : H D = some (.lst xs)) : ∀ (b : Addr) (o : HO), H b = some o → isM o = false → upd H D (.lst ys) b = some o := fun b o hb hm => by
  have : b ≠ D := fun q => by rw [q, h] at hb; cases hb; cases hm
  rw [upd_ne this]; exact hb
theorem RelS.side {D : Addr} {xs ys : List V} (rs : RelS K CA α S H) (hD : D ∉ α) (h : H D = some (.lst xs)) : RelS K CA α S (upd H D (.lst ys)) :=
  ⟨rs.len, rs.nd, fun n o hn => by
    obtain ⟨a, h1, h2⟩ := rs.ok n o hn
    exact ⟨a, h1, RO.sim (upd_sim h) (fun _ _ x => x) (upd_ne fun q => hD (q ▸ List.mem_of_getElem? h1)) h2⟩⟩
theorem Ext.side {D : Addr} {o : HO} (e : Ext α H α' H') (h : H D = none) : Ext α H α' (upd H' D o) :=
  ⟨e.pre, fun b ob hb hn ht => by rw [upd_ne (ne_of_none hb h)]; exact e.keep b ob hb hn ht,
    fun b ps hb hn => by obtain ⟨m, hm⟩ := e.tbl b ps hb hn; exact ⟨m, by rw [upd_ne (ne_of_none hb h)]; exact hm⟩, e.new⟩
/-- a list outside the store joins it -/
theorem RelS.join {L : Addr} {xs : List V} {ds : List D} (rs : RelS K CA α S H) (hD : L ∉ α) (h : H L = some (.lst xs)) (r : RVs K α H ds xs) : RelS K CA (α ++ [L]) (S ++ [.lst ds]) H := by
  have g : ∀ (n : Nat) (a : Addr), α[n]? = some a → (α ++ [L])[n]? = some a := fun n a hn => by
    rw [List.getElem?_append_left (List.getElem?_eq_some_iff.mp hn).1]; exact hn
  refine ⟨by rw [List.length_append, List.length_append, rs.len]; rfl, ?_, fun n o' hn => ?_⟩
  · rw [List.nodup_append]
    refine ⟨rs.nd, by simp, fun a ha b hb => ?_⟩
    rw [List.mem_singleton] at hb
    rw [hb]
    exact fun q => hD (q ▸ ha)
  · by_cases hl : n < S.length
    · rw [List.getElem?_append_left hl] at hn
      obtain ⟨a, h1, h2⟩ := rs.ok n o' hn
      exact ⟨a, g _ _ h1, RO.sim (fun _ _ x _ => x) g rfl h2⟩
    · have h3 := (List.getElem?_eq_some_iff.mp hn).1
      rw [List.length_append, List.length_singleton] at h3
      have h4 : n = S.length := by omega
      rw [h4, List.getElem?_append_right (Nat.le_refl _)] at hn
      simp at hn
      subst hn
      refine ⟨L, ?_, xs, h, RVs.sim (fun _ _ x _ => x) g r⟩
      rw [h4, ← rs.len, List.getElem?_append_right (Nat.le_refl _)]
      simp
theorem Ext.join {D : Addr} (e : Ext α H α' H') (h : H D = none) : Ext α H (α' ++ [D]) H' :=
  ⟨by obtain ⟨β, e1⟩ := e.pre; exact ⟨β ++ [D], by rw [e1, List.append_assoc]⟩, e.keep, e.tbl, fun b hb => by
    rcases List.mem_append.mp hb with z | z
    · exact e.new b z
    · rw [List.mem_singleton] at z; rw [z]; exact .inr h⟩
end

/-! ### slots -/
theorem wipe_get {σ : L2.St} {i : Nat} : ∀ {vs : List Nat}, (L2.wipe σ vs)[i]? = if i ∈ vs then σ[i]?.map (fun _ => none) else σ[i]?
  | [] => by simp [L2.wipe]
  | v :: vs => by
    unfold L2.wipe
    by_cases hi : v = i
    · subst hi
      rw [List.getElem?_set]
      rw [if_pos rfl, if_pos (List.mem_cons_self ..), wipe_length]
      split
      · rename_i h; rw [List.getElem?_eq_getElem h]; rfl
      · rename_i h; rw [List.getElem?_eq_none (by omega)]; rfl
    · rw [List.getElem?_set_ne hi, wipe_get (vs := vs)]
      have : (i ∈ v :: vs) ↔ i ∈ vs := by
        rw [List.mem_cons]
        exact ⟨fun z => z.elim (fun q => absurd q.symm hi) id, .inr⟩
      simp only [this]
theorem wipe_agree {σ σ2 : L2.St} {vs : List Nat} {is : List Nat} (hl : σ2.length = σ.length) (h : ∀ i, i ∉ is → σ2[i]? = (L2.wipe σ vs)[i]?) (hs : ∀ i ∈ is, i ∈ vs) : L2.wipe σ2 vs = L2.wipe σ vs := by
  refine List.ext_getElem? fun i => ?_
  rw [wipe_get]
  by_cases hi : i ∈ vs
  · rw [if_pos hi, wipe_get, if_pos hi]
    by_cases h2 : i < σ.length
    · rw [List.getElem?_eq_getElem h2, List.getElem?_eq_getElem (by omega)]; rfl
    · rw [List.getElem?_eq_none (by omega), List.getElem?_eq_none (by omega)]
  · rw [if_neg hi, h i fun q => hi (hs i q)]

theorem asTs_len : ∀ {ts : List IT} {ds : List D} {ρ ρ' : Env'}, asTs ts ds ρ = some ρ' → ds.length = ts.length
  | [], [], _, _, _ => rfl
  | [], _ :: _, _, _, h => by simp [asTs] at h
  | _ :: _, [], _, _, h => by simp [asTs] at h
  | t :: ts, d :: ds, ρ, ρ', h => by
    rw [asTs] at h
    split at h
    · rw [List.length_cons, List.length_cons, asTs_len h]
    · cases h
section
variable (K : PySem.W.Frag) (CA XA : Nat → Option Addr) (G : Gm) (W : WX)
def rdI (k : IK) (its : List IE) : TI := fun σ H R => ∃ α ρ S, RelS K CA α S H ∧ RelE K α H ρ σ ∧ PostG K CA XA α H (evEs G its ρ S) (fun xs α1 S1 H1 => ∃ items g, itD k xs S1 = some (items, g) ∧ ∀ J, JOk K CA α1 H1 items g J → R J H1) (WE W σ)
def gT (t : IT) : TG := fun x σ H Q => ∃ α ρ S d ρ', RelS K CA α S H ∧ RelE K α H ρ σ ∧ RV K α H d x ∧ asT t d ρ = some ρ' ∧ ∀ σ', RelE K α H ρ' σ' → σ'.length = σ.length → (∀ i, i ∉ slT t → σ'[i]? = σ[i]?) → Q σ' H
def gTs (ts : List IT) : TGs := fun xs σ H Q => ∃ α ρ S ds ρ', RelS K CA α S H ∧ RelE K α H ρ σ ∧ RVs K α H ds xs ∧ asTs ts ds ρ = some ρ' ∧ ∀ σ', RelE K α H ρ' σ' → σ'.length = σ.length → (∀ i, i ∉ slTs ts → σ'[i]? = σ[i]?) → Q σ' H
end

section
variable {X : Cx} {c : Cc} {CA XA : Nat → Option Addr} {G : Gm} {W : WX} {sc : Scope} {N : List Str}
theorem piImp {tg e : PySem.Expr} {t t' : TI} (h : PI X tg e t) (i : ∀ σ H R, t' σ H R → t σ H R) : PI X tg e t' := ⟨fun pins s σ H R I hw => h.run pins s σ H R I (i _ _ _ hw)⟩
theorem pgImp {tg : PySem.Expr} {t t' : TG} (h : PG X tg t) (i : ∀ v σ H Q, t' v σ H Q → t v σ H Q) : PG X tg t' := ⟨fun pins s σ H v u Q I r hw => h.run pins s σ H v u Q I r (i _ _ _ _ hw)⟩
theorem pgsImp {tg : List PySem.Expr} {t t' : TGs} (h : PGs X tg t) (i : ∀ v σ H Q, t' v σ H Q → t v σ H Q) : PGs X tg t' := ⟨fun pins s σ H v u Q I r hw => h.run pins s σ H v u Q I r (i _ _ _ _ hw)⟩
theorem psImp {st : Stmt} {t t' : TS} (h : PS X st t) (i : ∀ D σ H, t' D σ H → t D σ H) : PS X st t' := ⟨fun pins s σ H D I hw => h.run pins s σ H D I (i _ _ _ hw)⟩
theorem pssImp {st : List Stmt} {t t' : TS} (h : PSs X st t) (i : ∀ D σ H, t' D σ H → t D σ H) : PSs X st t' := ⟨fun pins s σ H D I hw => h.run pins s σ H D I (i _ _ _ hw)⟩

/-- what walks one value -/
theorem sq_d {α : List Addr} {S : Store} {H : Hp} {d : D} {x : V} {items : List D} {g : Guard} {R : It → Hp → Prop} {K : PySem.W.Frag} (rs : RelS K CA α S H) (r : RV K α H d x) (h : itD .sq [d] S = some (items, g)) (k : ∀ J, JOk K CA α H items g J → R J H) :
    (∃ a xs, x = .ref a ∧ SqL K H a xs ∧ R (Itl K a) H) ∨ (∃ a xs, x = .ref a ∧ SqT K H a xs ∧ R (Itt K a) H) ∨ ∃ y, x = .str y ∧ R (Its y) H := by
  cases r with
  | tup hs rr => cases h; exact .inr (.inl ⟨_, _, rfl, hs, k _ (jok_tup rs hs rr)⟩)
  | lsf hs rr => cases h; exact .inl ⟨_, _, rfl, hs.sq, k _ (jok_ls rs hs rr)⟩
  | str s => cases h; exact .inr (.inr ⟨_, rfl, k _ jok_str⟩)
  | obj ho =>
    obtain ⟨ds, h1, h2⟩ := Option.map_eq_some_iff.mp h
    cases h2
    obtain ⟨xs, hx, _⟩ := lst_later ho (Ext.refl _ _) rs h1
    exact .inl ⟨_, xs, rfl, hx, k _ (jok_lst ho)⟩
  | _ => cases h
theorem q_sq {tg e : PySem.Expr} {ie : IE} (he : PE X e (rdE X.K CA XA G W ie)) : PI X tg e (rdI X.K CA XA G W .sq [ie]) := by
  refine piImp (pi_sqA he) fun σ H R ⟨α, ρ, S, rs, re, k⟩ => ?_
  rw [evEs] at k
  refine ⟨α, ρ, S, rs, re, PostG.imp k.bind fun d α1 S1 H1 e1 rs1 k1 x rx => ?_⟩
  rw [evEs] at k1
  obtain ⟨items, g, h1, h2⟩ := k1 α1 H1 (Ext.refl _ _) rs1
  exact sq_d rs1 rx h1 h2
theorem big_d {n : Int} (h : big62 n = true) : -(2 ^ 62) ≤ n ∧ n < 2 ^ 62 := of_decide_eq_true h
theorem Res.bind_ok {β γ : Type} {r : Res β} {f : β → Store → Res γ} {y : γ} {S' : Store} (h : r.bind f = .ok y S') : ∃ b S1, r = .ok b S1 ∧ f b S1 = .ok y S' := by
  cases r with
  | ok b S1 => exact ⟨b, S1, rfl, h⟩
  | exc x S1 => cases h
  | bad => cases h
theorem evEs_len {G : Gm} : ∀ {es : List IE} {ρ : Env'} {S : Store} {ds : List D} {S' : Store}, evEs G es ρ S = .ok ds S' → ds.length = es.length
  | [], _, _, _, _, h => by rw [evEs] at h; cases h; rfl
  | e :: es, ρ, S, ds, S', h => by
    rw [evEs] at h
    obtain ⟨d, S1, _, h⟩ := Res.bind_ok h
    obtain ⟨r, S2, h1, h⟩ := Res.bind_ok h
    cases h
    rw [List.length_cons, List.length_cons, evEs_len h1]
theorem PostG.eq {K : PySem.W.Frag} {β : Type} {α : List Addr} {H : Hp} {E : XK} {r : Res β} {P : β → List Addr → Store → Hp → Prop} (h : PostG K CA XA α H r P E) : PostG K CA XA α H r (fun b α' S' H' => r = .ok b S' ∧ P b α' S' H') E := by
  cases r with
  | ok b S' => exact fun α' H' e rs => ⟨rfl, h α' H' e rs⟩
  | exc x S' => exact h
  | bad => exact h
theorem q_rng1 (hy : Hy X c CA XA G W sc N) {tg a : PySem.Expr} {ia : IE} {p pos : Pos} (hg : isGl sc "range" = true) (hs : notStar a) (ha : PE X a (rdE X.K CA XA G W ia)) : PI X tg (.Call (.Name "range" p) [a] [] pos) (rdI X.K CA XA G W .rng [ia]) := by
  refine piImp (pi_range1 (hy.gl hg) (hy.blt _ (by decide)) (q_cons hs ha q_nil) (star_cons hs)) fun σ H R ⟨α, ρ, S, rs, re, k⟩ => ?_
  refine ⟨α, ρ, S, rs, re, PostG.imp k.eq fun xs α1 S1 H1 e1 rs1 ⟨he, items, g, h1, h2⟩ vs rvs => ?_⟩
  have hl := evEs_len he
  obtain ⟨d, rfl⟩ : ∃ d, xs = [d] := by
    match xs, hl with
    | [d], _ => exact ⟨d, rfl⟩
  cases rvs with
  | cons r rr =>
    cases rr
    cases r with
    | int n =>
      have h1 : (if big62 n = true then some (rngL 0 n.toNat, []) else none) = some (items, g) := h1
      split at h1
      · cases h1
        rename_i hb
        exact ⟨_, rfl, (big_d hb).1, (big_d hb).2, h2 _ jok_rng⟩
      · cases h1
    | _ => cases h1
theorem q_rng2 (hy : Hy X c CA XA G W sc N) {tg a b : PySem.Expr} {ia ib : IE} {p pos : Pos} (hg : isGl sc "range" = true) (hs : notStar a) (hs2 : notStar b) (ha : PE X a (rdE X.K CA XA G W ia)) (hb : PE X b (rdE X.K CA XA G W ib)) : PI X tg (.Call (.Name "range" p) [a, b] [] pos) (rdI X.K CA XA G W .rng [ia, ib]) := by
  refine piImp (pi_range2 (hy.gl hg) (hy.blt _ (by decide)) (q_cons hs ha (q_cons hs2 hb q_nil)) ((star_cons hs).trans (by rw [star_cons hs2]; rfl)) (star_cons hs2)) fun σ H R ⟨α, ρ, S, rs, re, k⟩ => ?_
  refine ⟨α, ρ, S, rs, re, PostG.imp k.eq fun xs α1 S1 H1 e1 rs1 ⟨he, items, g, h1, h2⟩ vs rvs => ?_⟩
  have hl := evEs_len he
  obtain ⟨d, d2, rfl⟩ : ∃ d d2, xs = [d, d2] := by
    match xs, hl with
    | [d, d2], _ => exact ⟨d, d2, rfl⟩
  cases rvs with
  | cons r rr =>
    cases rr with
    | cons r2 rr =>
      cases rr
      cases r with
      | int n =>
        cases r2 with
        | int m =>
          have h1 : (if (big62 n && big62 m) = true then some (rngL n (m - n).toNat, []) else none) = some (items, g) := h1
          split at h1
          · cases h1
            rename_i hb
            rw [Bool.and_eq_true] at hb
            exact ⟨_, _, rfl, ⟨(big_d hb.1).1, (big_d hb.1).2, (big_d hb.2).1, (big_d hb.2).2⟩, h2 _ jok_rng⟩
          · cases h1
        | _ => cases h1
      | _ => cases h1
theorem q_enum (hy : Hy X c CA XA G W sc N) {elts : List PySem.Expr} {kk : Nat} {a : PySem.Expr} {ia : IE} {p pos tpos : Pos} (hg : isGl sc "enumerate" = true) (hs : notStar a) (ha : PE X a (rdE X.K CA XA G W ia)) : PI X (.Tuple elts kk tpos) (.Call (.Name "enumerate" p) [a] [] pos) (rdI X.K CA XA G W .enum [ia]) := by
  refine piImp (pi_enumA (hy.gl hg) (hy.blt _ (by decide)) (q_cons hs ha q_nil) (star_cons hs)) fun σ H R ⟨α, ρ, S, rs, re, k⟩ => ?_
  refine ⟨α, ρ, S, rs, re, PostG.imp k.eq fun xs α1 S1 H1 e1 rs1 ⟨he, items, g, h1, h2⟩ vs rvs => ?_⟩
  have hl := evEs_len he
  obtain ⟨d, rfl⟩ : ∃ d, xs = [d] := by
    match xs, hl with
    | [d], _ => exact ⟨d, rfl⟩
  cases rvs with
  | cons r rr =>
    cases rr
    cases r with
    | tup hs rr => cases h1; exact ⟨_, _, rfl, .inr ⟨hs, h2 _ (jok_enumT rs1 hs rr)⟩⟩
    | obj ho =>
      obtain ⟨ds, h3, h4⟩ := Option.map_eq_some_iff.mp h1
      cases h4
      obtain ⟨xs, hx, _⟩ := lst_later ho (Ext.refl _ _) rs1 h3
      exact ⟨_, xs, rfl, .inl ⟨hx, h2 _ (jok_enumO ho)⟩⟩
    | _ => cases h1
theorem q_zip (hy : Hy X c CA XA G W sc N) {elts : List PySem.Expr} {kk : Nat} {a b : PySem.Expr} {ia ib : IE} {p pos tpos : Pos} (hg : isGl sc "zip" = true) (hs : notStar a) (hs2 : notStar b) (ha : PE X a (rdE X.K CA XA G W ia)) (hb : PE X b (rdE X.K CA XA G W ib)) : PI X (.Tuple elts kk tpos) (.Call (.Name "zip" p) [a, b] [] pos) (rdI X.K CA XA G W .zip [ia, ib]) := by
  refine piImp (RZ.pi_zipA (hy.gl hg) (hy.blt _ (by decide)) (q_cons hs ha (q_cons hs2 hb q_nil)) (star_cons hs) (by rw [star_cons hs2]; rfl)) fun σ H R ⟨α, ρ, S, rs, re, k⟩ => ?_
  refine ⟨α, ρ, S, rs, re, PostG.imp k.eq fun xs α1 S1 H1 e1 rs1 ⟨he, items, g, h1, h2⟩ vs rvs => ?_⟩
  have hl := evEs_len he
  obtain ⟨d, d2, rfl⟩ : ∃ d d2, xs = [d, d2] := by
    match xs, hl with
    | [d, d2], _ => exact ⟨d, d2, rfl⟩
  cases rvs with
  | cons r rr =>
    cases rr with
    | cons r2 rr =>
      cases rr
      cases r with
      | tup hs rr =>
        cases r2 with
        | tup hs2 rr2 => cases h1; exact ⟨_, _, _, _, rfl, .inr ⟨hs, hs2, h2 _ (jok_zipT rs1 hs hs2 rr rr2)⟩⟩
        | _ => cases h1
      | @obj n a ho =>
        cases r2 with
        | @obj m b ho2 =>
          have h1 : (match lstAt S1 n, lstAt S1 m with
            | some ds, some es => some (zipL ds es, [(n, ds), (m, es)])
            | _, _ => none) = some (items, g) := h1
          split at h1
          · cases h1
            rename_i h3 h4
            obtain ⟨xs, hx, _⟩ := lst_later ho (Ext.refl _ _) rs1 h3
            obtain ⟨ys, hy, _⟩ := lst_later ho2 (Ext.refl _ _) rs1 h4
            exact ⟨_, _, xs, ys, rfl, .inl ⟨hx, hy, h2 _ (jok_zipO ho ho2)⟩⟩
          · cases h1
        | _ => cases h1
      | _ => cases h1

/-! ### targets -/
structure TgH (X : Cx) (cl : Bool) (sc : Scope) (N : List Str) : Prop where
  scE : X.env.scope = sc
  nN : X.N = N
  nd : N.Nodup
  calm : X.calm = true
  cells : cl = true → ∀ x, sc.names.lookup x = some .cell → X.fn x = true
theorem tg_star {cl : Bool} {n : Nat} {e : PySem.Expr} {t : IT} (h : tgC cl sc N n e = some t) : notStar e := by
  cases n with
  | zero => cases h
  | succ n => cases e <;> first | trivial | (cases h; done)
theorem tgs_each {cl : Bool} {env : PySem.Env} : ∀ {n : Nat} {es : List PySem.Expr} {ts : List IT}, tgsC cl sc N n es = some ts → (assignEach es env).length = ts.length ∧ (assignEach es env).findIdx? (·.1) = none
  | 0, _, _, h => by cases h
  | n + 1, [], ts, h => by cases h; exact ⟨rfl, rfl⟩
  | n + 1, e :: es, ts, h => by
    unfold tgsC at h
    dsimp only at h
    split at h
    · cases h
      rename_i t ts h1 h2
      obtain ⟨h3, h4⟩ := tgs_each (env := env) h2
      have : assignEach (e :: es) env = (false, assign e env) :: assignEach es env := by
        have hn := tg_star h1
        cases e <;> first | rfl | exact False.elim hn
      rw [this]
      refine ⟨by rw [List.length_cons, List.length_cons, h3], ?_⟩
      rw [List.findIdx?_cons, h4]
      rfl
    · cases h
mutual
theorem q_tg {cl : Bool} (th : TgH X cl sc N) : ∀ {n : Nat} {e : PySem.Expr} {t : IT}, tgC cl sc N n e = some t → PG X e (gT X.K CA t)
  | 0, _, _, h => by cases h
  | n + 1, e, t, h => by
    unfold tgC at h
    split at h
    · rename_i x p
      have key : ∀ i, ixOf x N = some i → (sc.names.lookup x = some .local ∨ (sc.names.lookup x = some .cell ∧ cl = true)) → t = .nm i → PG X (.Name x p) (gT X.K CA t) := fun i hi hk ht => by
        subst ht
        refine pgImp (pg_name (i := i) (by rw [th.nN]; exact th.nd) (by rw [th.nN]; exact ixOf_some hi) (by rw [th.scE]; rcases hk with k | ⟨k, _⟩; exact .inl k; exact .inr k) (by
          rcases hk with k | ⟨k, kc⟩
          · right; rw [th.scE]; exact k
          · left; exact th.cells kc x k)) fun v σ H Q ⟨α, ρ, S, d, ρ', rs, re, r, ha, k⟩ => ?_
        rw [asT] at ha
        cases ha
        refine k _ (re.set r) (List.length_set ..) fun j hj => ?_
        rw [List.getElem?_set_ne]
        intro q
        exact hj (by rw [slT, q]; exact List.mem_cons_self ..)
      split at h
      · rename_i hk
        split at h
        · obtain ⟨i, h1, h2⟩ := Option.map_eq_some_iff.mp h
          exact key i h1 (.inl hk) h2.symm
        · cases h
      · rename_i hk
        split at h
        · rename_i hc
          rw [Bool.and_eq_true] at hc
          obtain ⟨i, h1, h2⟩ := Option.map_eq_some_iff.mp h
          exact key i h1 (.inr ⟨hk, hc.2⟩) h2.symm
        · cases h
      · cases h
    · rename_i es kk p
      obtain ⟨ts, h1, rfl⟩ := Option.map_eq_some_iff.mp h
      obtain ⟨h3, h4⟩ := tgs_each (env := X.env) h1
      refine pgImp (pg_tup th.calm (q_tgs th h1) h3 h4) fun v σ H Q ⟨α, ρ, S, d, ρ', rs, re, r, ha, k⟩ => ?_
      cases d with
      | tup ds =>
        rw [asT] at ha
        cases r with
        | tup hs rr =>
          refine ⟨_, _, rfl, hs, ?_, α, ρ, S, ds, ρ', rs, re, rr, ha, fun σ' r2 hl hag => k σ' r2 hl fun i hi => hag i (by rw [slT] at hi; exact hi)⟩
          rw [← rr.length]
          exact asTs_len ha
      | _ => rw [asT] at ha <;> first | (cases ha; done) | (intro _ q; cases q)
    · cases h
theorem q_tgs {cl : Bool} (th : TgH X cl sc N) : ∀ {n : Nat} {es : List PySem.Expr} {ts : List IT}, tgsC cl sc N n es = some ts → PGs X es (gTs X.K CA ts)
  | 0, _, _, h => by cases h
  | n + 1, [], ts, h => by
    cases h
    refine pgsImp pgs_nil fun vs σ H Q ⟨α, ρ, S, ds, ρ', rs, re, r, ha, k⟩ => ?_
    cases ds with
    | nil =>
      rw [asTs] at ha
      cases ha
      cases r
      exact ⟨rfl, k σ re rfl fun _ _ => rfl⟩
    | cons _ _ => rw [asTs] at ha; cases ha; all_goals simp
  | n + 1, e :: es, ts, h => by
    unfold tgsC at h
    dsimp only at h
    split at h
    · cases h
      rename_i t ts h1 h2
      refine pgsImp (pgs_cons (q_tg th h1) (q_tgs th h2) (by
        have hn := tg_star h1
        cases e <;> first | rfl | exact False.elim hn)) fun vs σ H Q ⟨α, ρ, S, ds, ρ', rs, re, r, ha, k⟩ => ?_
      cases ds with
      | nil => rw [asTs] at ha; cases ha; all_goals simp
      | cons d ds =>
        rw [asTs] at ha
        split at ha
        · rename_i ρ1 h3
          cases r with
          | cons r rr =>
            refine ⟨_, _, rfl, α, ρ, S, d, ρ1, rs, re, r, h3, fun σ1 re1 hl1 ag1 => ⟨α, ρ1, S, ds, ρ', rs, re1, rr, ha, fun σ2 re2 hl2 ag2 => k σ2 re2 (hl2.trans hl1) fun i hi => ?_⟩⟩
            rw [slTs, List.mem_append, not_or] at hi
            rw [ag2 i hi.2, ag1 i hi.1]
        · cases ha
    · cases h
end
end
end MP
end

section
set_option maxRecDepth 100000
set_option maxHeartbeats 2000000
/-! MP10: comprehensions; ranges made. -/
namespace MP
open PySem PySem.Spec L2
section
variable {X : Cx} {c : Cc} {CA XA : Nat → Option Addr} {G : Gm} {W : WX} {sc : Scope} {N : List Str}
def WF : WX := fun _ _ _ _ => False
theorem pts_nil' : PTs X [] (rdIfs X.K CA XA G W []) := ⟨fun pins s σ H Q I ⟨α, ρ, S, rs, re, k⟩ => by
  rw [evIfs] at k
  exact pts_nil.run pins s σ H Q I (k α H (Ext.refl _ _) rs)⟩
theorem pts_one' {a : PySem.Expr} {ia : IE} (ha : PT X a (rdT X.K CA XA G W ia)) : PTs X [a] (rdIfs X.K CA XA G W [ia]) := ⟨fun pins s σ H Q I ⟨α, ρ, S, rs, re, k⟩ => by
  rw [evIfs] at k
  refine (pts_one ha).run pins s σ H Q I ⟨α, ρ, S, rs, re, PostG.imp k.bind fun b α1 S1 H1 e1 rs1 k1 => ?_⟩
  cases b with
  | true => rw [if_pos rfl, evIfs] at k1; exact k1 α1 H1 (Ext.refl _ _) rs1
  | false => rw [if_neg (by decide)] at k1; exact k1 α1 H1 (Ext.refl _ _) rs1⟩
def lcF (G : Gm) (t : IT) (ifs : List IE) (el : IE) (ws : List Nat) (ρ : Env') : D → Store → Res (Option D) := fun d S => match asT t d (wipeD ρ ws) with
        | some ρ' => (evIfs G ifs ρ' S).bind fun b S' => if b = true then (evE G el ρ' S').bind fun y S'' => .ok (some y) S'' else .ok none S'
        | none => .bad
theorem q_lc (hy : Hy X c CA XA G W sc N) {el tg it : PySem.Expr} {ifs : List PySem.Expr} {scope : Scope} {own : List (Str × Nat)} {pos : Pos} {t : IT} {kk : IK} {its cs : List IE} {ie : IE}
    (hi : PI X tg it (rdI X.K CA XA G W kk its)) (ok : BlkOk N sc scope own) (hsl : ∀ i ∈ slT t, i ∈ own.map (·.2))
    (hg : ∀ (s : Shared) (H : Hp) (C : Addr) (cl : List (Str × Addr)) (fp : List Addr), PG (X.blk s H scope (compEnvC scope cl C X.env) fp) tg (gT X.K CA t))
    (ht : ∀ (s : Shared) (H : Hp) (C : Addr) (cl : List (Str × Addr)) (fp : List Addr), PTs (X.blk s H scope (compEnvC scope cl C X.env) fp) ifs (rdIfs X.K CA XA G WF cs))
    (he : ∀ (s : Shared) (H : Hp) (C : Addr) (cl : List (Str × Addr)) (fp : List Addr), PE (X.blk s H scope (compEnvC scope cl C X.env) fp) el (rdE X.K CA XA G WF ie)) (hs : ∀ x, foldedSetIterable it X.env x = pure x) :
    PE X (.ListComp el [⟨tg, it, ifs, 0⟩] scope pos) (rdE X.K CA XA G W (.lc t kk its cs ie (own.map (·.2)))) ∧
    (∀ (j : Nat) (y : Str) (py spos : Pos), N[j]? = some y → sc.names.lookup y = some .local → swapsWith (.ListComp el [⟨tg, it, ifs, 0⟩] scope pos) (some (.Name y py)) spos.line X.env = pure true →
      PS X (.Assign [.Name y py] (.ListComp el [⟨tg, it, ifs, 0⟩] scope pos) spos) (tAsg (rdE X.K CA XA G W (.lc t kk its cs ie (own.map (·.2)))) (gName j))) := by
  have main : ∀ σ H Q, rdE X.K CA XA G W (.lc t kk its cs ie (own.map (·.2))) σ H Q → tLc (rdI X.K CA XA G W kk its) (gT X.K CA t) (rdIfs X.K CA XA G WF cs) (rdE X.K CA XA G WF ie) (own.map (·.2)) σ H Q := by
    intro σ H Q ⟨α, ρ, S, rs, re, k⟩
    rw [evE] at k
    refine ⟨α, ρ, S, rs, re, PostG.imp k.bind fun xs α1 S1 H1 e1 rs1 k1 => ?_⟩
    have re1 := re.mono rs.nt e1
    cases hit : itD kk xs S1 with
    | none => rw [hit] at k1; exact False.elim k1
    | some p =>
      obtain ⟨items, g⟩ := p
      rw [hit] at k1
      dsimp only at k1
      refine ⟨items, g, rfl, fun J jok D hD => ?_⟩
      have k2 : PostG X.K CA XA α1 H1 (lcL (lcF G t cs ie (own.map (·.2)) ρ) g items [] S1) (fun ys _ S2 _ => PostG X.K CA XA α1 H1 (Res.ok (.obj S2.length) (S2 ++ [.lst ys])) (fun d α' _ H' => ∀ v, RV X.K α' H' d v → Q v H') (WE W σ)) (fun _ _ _ => False) := (PostG.bind0 k1).calm
      have rew := re1.wipe (own.map (·.2))
      let Pfin : List MP.D → List Addr → Store → Hp → Prop := fun ys _ S2 _ => PostG X.K CA XA α1 H1 (Res.ok (.obj S2.length) (S2 ++ [.lst ys])) (fun d α' _ H' => ∀ v, RV X.K α' H' d v → Q v H') (WE W σ)
      let B : Nat → Hp → Prop := fun i Hc => ∃ α' S' acc xs, Ext α1 H1 α' Hc ∧ RelS X.K CA α' S' Hc ∧ Hc D = some (.lst xs) ∧ D ∉ α' ∧ RVs X.K α' Hc acc xs ∧ PostG X.K CA XA α1 H1 (lcL (lcF G t cs ie (own.map (·.2)) ρ) g (items.drop i) acc S') Pfin (fun _ _ _ => False)
      refine ⟨fun i m Hc => m = items.length - i ∧ i ≤ items.length ∧ B i Hc, ⟨items.length, rfl, Nat.zero_le _, α1, S1, [], [], Ext.laid hD, rs1.laid hD, upd_same, rs1.fresh hD, .nil, k2⟩, ?_⟩
      rintro i m Hc ⟨rfl, hil, α', S', acc, xs', ee, rs', hDc, hDn, rv, kc⟩
      by_cases hlt : i < items.length
      · right
        rw [List.drop_eq_getElem_cons hlt, lcL] at kc
        by_cases hgo : gOk g S' = true
        · rw [if_pos hgo] at kc
          obtain ⟨jgo, jy⟩ := (jok α' S' Hc ee rs' hgo i).1 items[i] (List.getElem?_eq_getElem hlt)
          refine ⟨jgo, B (i + 1), fun H' b => ⟨items.length - (i + 1), by omega, rfl, hlt, b⟩, fun x H2 y => ?_⟩
          obtain ⟨e2, rs2, rx⟩ := jy x H2 y
          have kF := PostG.bind0 kc
          unfold lcF at kF
          cases has : asT t items[i] (wipeD ρ (own.map (·.2))) with
          | none => rw [has] at kF; exact False.elim kF
          | some ρ' =>
            rw [has] at kF
            have kI := PostG.bind0 kF
            have ee2 := ee.trans e2
            have hD2 : H2 D = some (.lst xs') := e2.keep D _ hDc hDn fun ps q => by cases q
            have rv2 := rv.mono rs'.nt e2
            refine ⟨α', wipeD ρ (own.map (·.2)), S', items[i], ρ', rs2, rew.mono rs1.nt ee2, rx, has, fun σ2 re2 hl2 ag2 => ⟨?_, ?_⟩⟩
            · exact wipe_agree (by rw [hl2, wipe_length]) ag2 hsl
            refine ⟨α', ρ', S', rs2, re2, PostG.imp (PostG.mono ee2 kI) fun b α3 S3 H3 e3 rs3 k3 => ?_⟩
            have ee3 := ee2.trans e3
            have hD3 : H3 D = some (.lst xs') := e3.keep D _ hD2 hDn fun ps q => by cases q
            have hDn3 : D ∉ α3 := fun q => by
              rcases e3.new D q with z | z
              · exact hDn z
              · rw [hD2] at z; cases z
            have rv3 := rv2.mono rs2.nt e3
            cases b with
            | false =>
              rw [if_neg Bool.false_ne_true] at k3
              have k4 := k3 α3 H3 ee3 rs3
              show if (false : Bool) = true then _ else _
              rw [if_neg Bool.false_ne_true]
              exact ⟨α3, S3, acc, xs', ee3, rs3, hD3, hDn3, rv3, k4⟩
            | true =>
              rw [if_pos rfl] at k3
              show if (true : Bool) = true then _ else _
              rw [if_pos rfl]
              refine ⟨α3, ρ', S3, rs3, re2.mono rs2.nt e3, PostG.imp (PostG.mono ee3 (PostG.bind0 k3)) fun y α4 S4 H4 e4 rs4 k4 v rv' => ?_⟩
              have ee4 := ee3.trans e4
              have hD4 : H4 D = some (.lst xs') := e4.keep D _ hD3 hDn3 fun ps q => by cases q
              have hDn4 : D ∉ α4 := fun q => by
                rcases e4.new D q with z | z
                · exact hDn3 z
                · rw [hD3] at z; cases z
              have rv4 := rv3.mono rs3.nt e4
              have k5 := k4 α4 H4 ee4 rs4
              dsimp only at k5
              by_cases hlim : acc.length < lim
              · rw [if_pos hlim] at k5
                refine ⟨xs', hD4, by rw [← rv4.length]; exact Nat.lt_of_lt_of_le hlim lim_le, α4, S4, acc ++ [y], xs' ++ [v], ee4.side hD, rs4.side hDn4 hD4, upd_same, hDn4, ?_, k5⟩
                exact RVs.sim (upd_sim hD4) (fun _ _ x => x) (rv4.append (.cons rv' .nil))
              · rw [if_neg hlim] at k5; exact False.elim k5
        · rw [if_neg hgo] at kc; exact False.elim kc
      · left
        have hi : i = items.length := by omega
        rw [hi, List.drop_length, lcL] at kc
        by_cases hgo : gOk g S' = true
        · rw [if_pos hgo] at kc
          refine ⟨(jok α' S' Hc ee rs' hgo i).2 hi, ?_⟩
          have k3 := kc α' Hc ee rs'
          exact k3 (α' ++ [D]) Hc (ee.join hD) (rs'.join hDn hDc rv) _ (.obj (push_get rs'.len))
        · rw [if_neg hgo] at kc; exact False.elim kc
  exact ⟨peImp (pe_lc hy.calm (by rw [hy.nN]; exact hy.nd) hi (by rw [hy.nN, hy.sc]; exact ok) hg ht he hs) main, fun j y py spos hj hl hsw => psImp (ps_setLc hy.calm (by rw [hy.nN]; exact hy.nd) (by rw [hy.nN]; exact hj) (by rw [hy.sc]; exact hl) hsw hi (by rw [hy.nN, hy.sc]; exact ok) hg ht he hs) fun D σ H h => main σ H _ h⟩
theorem Hy.blk (hy : Hy X c CA XA G W sc N) (s : Shared) (H : Hp) (scope : Scope) (C : Addr) (cl : List (Str × Addr)) (fp : List Addr) : Hy (X.blk s H scope (compEnvC scope cl C X.env) fp) c CA XA G WF (relS scope sc) N where
  sc := by show relS scope X.env.scope = _; rw [hy.sc]
  nN := hy.nN
  nd := hy.nd
  calm := hy.calm
  tk := fun u s' x => by
    obtain ⟨a, B, sI, pins, σ, H', cls, d, e, I, nb, up, sky, na, os, ag, w⟩ := x
    exact False.elim w
  room := hy.room
  blt := hy.blt
  cl := hy.cl
  gc := hy.gc
  fn := fun f r h1 h2 => ⟨(hy.fn f r h1 h2).at_⟩
  cln := hy.cln

/-! ### tuple(range(..)), list(range(..)) -/
theorem rgOf_eq {ds items : List D} (h : rgOf ds = some items) : ∃ a b : Int, items = rngL a (b - a).toNat ∧ RgOk a b ∧ ((ds = [.int b] ∧ a = 0) ∨ ds = [.int a, .int b]) := by
  unfold rgOf at h
  split at h
  · split at h
    · cases h; rename_i n hn; exact ⟨0, n, by rw [Int.sub_zero], ⟨by omega, by omega, by omega, by omega, by omega⟩, .inl ⟨rfl, rfl⟩⟩
    · cases h
  · split at h
    · cases h; rename_i a b hn; exact ⟨a, b, rfl, ⟨by omega, by omega, by omega, by omega, by omega⟩, .inr rfl⟩
    · cases h
  · cases h
theorem rvs_rg {K : PySem.W.Frag} {α : List Addr} {H : Hp} (a b : Int) : RVs K α H (rngL a (b - a).toNat) (rgV a b) := by
  unfold rngL rgV
  generalize List.range (b - a).toNat = l
  induction l with
  | nil => exact .nil
  | cons i l ih => exact .cons (.int _) ih
def rdR (K : PySem.W.Frag) (CA XA : Nat → Option Addr) (G : Gm) (W : WX) (es : List IE) : L2.St → Hp → (Int → Int → Hp → Prop) → Prop := fun σ H Q => ∃ α ρ S, RelS K CA α S H ∧ RelE K α H ρ σ ∧
  PostG K CA XA α H (evEs G es ρ S) (fun ds _ _ H' => ∃ a b, ((ds = [.int b] ∧ a = 0) ∨ ds = [.int a, .int b]) ∧ Q a b H') (WE W σ)
theorem q_rg1 (hy : Hy X c CA XA G W sc N) {a : PySem.Expr} {ia : IE} {p pos : Pos} (hg : isGl sc "range" = true) (hs : notStar a) (ha : PE X a (rdE X.K CA XA G W ia)) : PRg X (.Call (.Name "range" p) [a] [] pos) (rdR X.K CA XA G W [ia]) := by
  intro pins s σ H Q I ⟨α, ρ, S, rs, re, k⟩
  refine prg_1 (hy.gl hg) (hy.blt _ (by decide)) ha (star_cons hs) pins s σ H Q I ⟨α, ρ, S, rs, re, ?_⟩
  rw [evEs] at k
  refine PostG.imp k.bind fun d α1 S1 H1 e1 rs1 k1 x rx => ?_
  rw [evEs] at k1
  obtain ⟨i, j, h, q⟩ := k1 α1 H1 (Ext.refl _ _) rs1
  rcases h with ⟨h, rfl⟩ | h
  · cases h; cases rx; exact ⟨j, rfl, q⟩
  · cases h
theorem q_rg2 (hy : Hy X c CA XA G W sc N) {a b : PySem.Expr} {ia ib : IE} {p pos : Pos} (hg : isGl sc "range" = true) (hs : notStar a) (hs2 : notStar b) (ha : PE X a (rdE X.K CA XA G W ia)) (hb : PE X b (rdE X.K CA XA G W ib)) : PRg X (.Call (.Name "range" p) [a, b] [] pos) (rdR X.K CA XA G W [ia, ib]) := by
  intro pins s σ H Q I ⟨α, ρ, S, rs, re, k⟩
  refine prg_2 (hy.gl hg) (hy.blt _ (by decide)) ha hb (star_cons hs) (star_cons hs2) (by rw [star_cons hs2]; rfl) pins s σ H Q I ⟨α, ρ, S, rs, re, ?_⟩
  rw [evEs] at k
  refine PostG.imp k.bind fun d α1 S1 H1 e1 rs1 k1 x rx => ⟨α1, ρ, S1, rs1, re.mono rs.nt e1, ?_⟩
  rw [evEs] at k1
  refine PostG.imp k1.bind.bind fun d2 α2 S2 H2 e2 rs2 k2 y ry => ?_
  rw [evEs] at k2
  obtain ⟨i, j, h, q⟩ := (k2 α2 H2 (Ext.refl _ _) rs2) α2 H2 (Ext.refl _ _) rs2
  rcases h with ⟨h, rfl⟩ | h
  · cases h
  · cases h; cases rx; cases ry; exact ⟨i, j, rfl, rfl, q⟩
theorem q_trg (hy : Hy X c CA XA G W sc N) {e : PySem.Expr} {es : List IE} {p pos : Pos} (hg : isGl sc "tuple" = true) (hs : notStar e) (he : PRg X e (rdR X.K CA XA G W es)) : PE X (.Call (.Name "tuple" p) [e] [] pos) (rdE X.K CA XA G W (.trg es)) := by
  refine peImp (pe_tupRg hy.calm (hy.gl hg) (hy.blt _ (by decide)) he (star_cons hs)) fun σ H Q ⟨α, ρ, S, rs, re, k⟩ => ⟨α, ρ, S, rs, re, ?_⟩
  rw [evE] at k
  refine PostG.imp k.bind fun ds α1 S1 H1 e1 rs1 k1 => ?_
  cases hr : rgOf ds with
  | none => rw [hr] at k1; exact False.elim k1
  | some items =>
    rw [hr] at k1
    obtain ⟨a, b, rfl, h1, h2⟩ := rgOf_eq hr
    refine ⟨a, b, h2, h1, fun q hq => rs1.new_tup hq (rvs_rg a b) fun α' H' v e2 rs2 rv => k1 α' H' e2 rs2 v rv⟩
theorem q_lrg (hy : Hy X c CA XA G W sc N) {e : PySem.Expr} {es : List IE} {p pos : Pos} (hg : isGl sc "list" = true) (hs : notStar e) (he : PRg X e (rdR X.K CA XA G W es)) : PE X (.Call (.Name "list" p) [e] [] pos) (rdE X.K CA XA G W (.lrg es)) := by
  refine peImp (pe_listRg hy.calm (hy.gl hg) (hy.blt _ (by decide)) he (star_cons hs)) fun σ H Q ⟨α, ρ, S, rs, re, k⟩ => ⟨α, ρ, S, rs, re, ?_⟩
  rw [evE] at k
  refine PostG.imp k.bind fun ds α1 S1 H1 e1 rs1 k1 => ?_
  cases hr : rgOf ds with
  | none => rw [hr] at k1; exact False.elim k1
  | some items =>
    rw [hr] at k1
    obtain ⟨a, b, rfl, h1, h2⟩ := rgOf_eq hr
    refine ⟨a, b, h2, h1, fun q hq => rs1.new_lst hq (rvs_rg a b) fun α' H' v e2 rs2 rv => k1 α' H' e2 rs2 v rv⟩
end
end MP
end

section
set_option maxRecDepth 100000
set_option maxHeartbeats 4000000
/-! MP11: the reading of expressions is sound. -/
namespace MP
open PySem PySem.Spec L2
structure HyF (X : Cx) (c : Cc) (CA XA : Nat → Option Addr) (G : Gm) (W : WX) (sc : Scope) (N : List Str) : Prop extends Hy X c CA XA G W sc N where
  made : ∀ (i : Nat) (x : Str) (m : Nat), c.cls[i]? = some x → c.inits[i]? = some m → MkA X CA XA G i x m
theorem HyF.blk {X : Cx} {c : Cc} {CA XA : Nat → Option Addr} {G : Gm} {W : WX} {sc : Scope} {N : List Str} (hy : HyF X c CA XA G W sc N) (s : Shared) (H : Hp) (scope : Scope) (C : Addr) (cl : List (Str × Addr)) (fp : List Addr) : HyF (X.blk s H scope (compEnvC scope cl C X.env) fp) c CA XA G WF (relS scope sc) N :=
  { hy.toHy.blk s H scope C cl fp with made := fun i x m h1 h2 => ⟨(hy.made i x m h1 h2).at_⟩ }

section
variable {X : Cx} {c : Cc} {CA XA : Nat → Option Addr} {G : Gm} {W : WX} {sc : Scope} {N : List Str}
/-- one reading is sound -/
structure FOk (X : Cx) (CA XA : Nat → Option Addr) (G : Gm) (W : WX) (f : PySem.Expr → Option IE) : Prop where
  pe : ∀ e i, f e = some i → PE X e (rdE X.K CA XA G W i)
  st : ∀ e i, f e = some i → notStar e
theorem FOk.pa {f : PySem.Expr → Option IE} (F : FOk X CA XA G W f) : ∀ {es : List PySem.Expr} {l : List IE}, allS f es = some l → PA X es (rdA X.K CA XA G W l) ∧ ∀ e ∈ es, notStar e
  | [], l, h => by cases h; exact ⟨q_nil, by simp⟩
  | e :: es, l, h => by
    unfold allS at h
    split at h
    · rename_i i hi
      split at h
      · rename_i l' hl
        cases h
        obtain ⟨h1, h2⟩ := F.pa hl
        refine ⟨q_cons (F.st e i hi) (F.pe e i hi) h1, fun z hz => ?_⟩
        rcases List.mem_cons.mp hz with rfl | q
        · exact F.st _ i hi
        · exact h2 z q
      · cases h
    · cases h
theorem allS_len {α β : Type} {f : α → Option β} : ∀ {es : List α} {l : List β}, allS f es = some l → l.length = es.length
  | [], l, h => by cases h; rfl
  | e :: es, l, h => by
    unfold allS at h
    split at h
    · split at h
      · rename_i hl; cases h; rw [List.length_cons, List.length_cons, allS_len hl]
      · cases h
    · cases h
theorem allS_one {α β : Type} {f : α → Option β} {a : α} {l : List β} (h : allS f [a] = some l) : ∃ i, f a = some i ∧ l = [i] := by
  unfold allS at h
  split at h
  · rename_i i hi
    rw [allS] at h
    cases h
    exact ⟨i, hi, rfl⟩
  · cases h
theorem allS_two {α β : Type} {f : α → Option β} {a b : α} {l : List β} (h : allS f [a, b] = some l) : ∃ i j, f a = some i ∧ f b = some j ∧ l = [i, j] := by
  unfold allS at h
  split at h
  · rename_i i hi
    split at h
    · rename_i l' hl
      cases h
      obtain ⟨j, h1, rfl⟩ := allS_one hl
      exact ⟨i, j, hi, h1, rfl⟩
    · cases h
  · cases h
theorem q_blt2 (hy : Hy X c CA XA G W sc N) {x : Str} {id : String} {b : Bi} {e e2 : PySem.Expr} {ie ie2 : IE} {p pos : Pos} (hg : isGl sc x = true) (hx : x ∈ bltNames) (hv : bootBuiltins x = some (.builtin id)) (hc : CallR X (.builtin id) (rK X.K CA (biD b))) (hs : notStar e) (hs2 : notStar e2) (ha : PE X e (rdE X.K CA XA G W ie)) (hb : PE X e2 (rdE X.K CA XA G W ie2)) :
    PE X (.Call (.Name x p) [e, e2] [] pos) (rdE X.K CA XA G W (.bi b [ie, ie2])) := by
  refine peImp (pe_callB hc (hy.gl hg) (hy.blt x hx) hv (q_cons hs ha (q_cons hs2 hb q_nil)) (okName_d (isGl_d hg).2).2.2 (okName_d (isGl_d hg).2).1 (star_cons hs) (by rw [star_cons hs2]; rfl)) fun σ H Q ⟨α, ρ, S, rs, re, k⟩ => ?_
  rw [evE] at k
  refine ⟨α, ρ, S, rs, re, PostG.imp k.bind fun as α1 S1 H1 e1 rs1 k1 vs rvs => ?_⟩
  obtain ⟨d, S', e, k⟩ := PostG.ofP k1
  exact ⟨α1, S1, as, rs1, rvs, d, S', e, fun α' H' v e1 e2 e3 => k α' H' e1 e2 v e3⟩
theorem q_cBi (hy : Hy X c CA XA G W sc N) {f : PySem.Expr → Option IE} (F : FOk X CA XA G W f) {x : Str} {a : PySem.Expr} {i : IE} {p pos : Pos} (hg : isGl sc x = true) (h : cBi f x a = some i) : PE X (.Call (.Name x p) [a] [] pos) (rdE X.K CA XA G W i) := by
  unfold cBi at h
  split at h
  · rename_i b ia h1 h2
    cases h
    exact q_bi hy hg h1 (F.st _ _ h2) (F.pe _ _ h2)
  · cases h
theorem q_cRg (hy : Hy X c CA XA G W sc N) {f : PySem.Expr → Option IE} (F : FOk X CA XA G W f) {a : PySem.Expr} {l : List IE} (h : cRg f sc a = some l) : PRg X a (rdR X.K CA XA G W l) ∧ notStar a := by
  unfold cRg at h
  split at h
  · rename_i y p rs pos
    split at h
    · rename_i hc
      simp only [Bool.and_eq_true, Bool.or_eq_true, decide_eq_true_eq] at hc
      obtain ⟨⟨h1, rfl⟩, h2⟩ := hc
      rcases h2 with h2 | h2
      · match rs, h2 with
        | [a], _ =>
          obtain ⟨i, h3, rfl⟩ := allS_one h
          exact ⟨q_rg1 hy h1 (F.st _ _ h3) (F.pe _ _ h3), trivial⟩
      · match rs, h2 with
        | [a, b], _ =>
          obtain ⟨i, j, h3, h4, rfl⟩ := allS_two h
          exact ⟨q_rg2 hy h1 (F.st _ _ h3) (F.st _ _ h4) (F.pe _ _ h3) (F.pe _ _ h4), trivial⟩
    · cases h
  · cases h
theorem q_cCall (hy : HyF X c CA XA G W sc N) {f : PySem.Expr → Option IE} (F : FOk X CA XA G W f) {x : Str} {es : List PySem.Expr} {i : IE} {p pos : Pos} (hg : isGl sc x = true) (h : cCall c f sc x es = some i) : PE X (.Call (.Name x p) es [] pos) (rdE X.K CA XA G W i) := by
  unfold cCall at h
  split at h
  · rename_i k hk
    obtain ⟨i', r', e1, e2, e3⟩ := findAt_some hk
    rw [Nat.zero_add] at e1
    subst e1
    split at h
    · rename_i r l h1 h2
      split at h
      · rename_i hc
        cases h
        rw [e2] at h1; cases h1
        rw [Bool.and_eq_true, decide_eq_true_eq] at e3
        obtain ⟨h3, h4⟩ := F.pa h2
        match es, hc with
        | [], hc =>
          cases h2
          exact q_call0 hy.toHy hg e2 e3.1 e3.2 (by omega)
        | e :: es, hc => exact q_call hy.toHy hg e2 e3.1 e3.2 (by omega) h4 h3
      · cases h
    · cases h
  · split at h
    · rename_i i' hi
      split at h
      · rename_i m l h1 h2
        split at h
        · rename_i hc
          cases h
          obtain ⟨h3, h4⟩ := F.pa h2
          match es, hc with
          | [], hc => exact absurd rfl hc.2
          | e :: es, hc => exact q_mk hy.toHy (hy.made i' x m (ixOf_some hi) h1) hg h4 h3
        · cases h
      · cases h
    · split at h
      · rename_i a b
        split at h
        · rename_i hx
          subst hx
          split at h
          · rename_i t p2 ia h1
            split at h
            · rename_i ht
              split at h
              · rename_i T hT
                cases h
                exact q_isi hy.toHy hg ht hT (F.st _ _ h1) (F.pe _ _ h1)
              · split at h
                · rename_i i' hi
                  cases h
                  exact q_isc hy.toHy hg ht hi (F.st _ _ h1) (F.pe _ _ h1)
                · cases h
            · cases h
          · cases h
        · split at h
          · rename_i ia ib h1 h2
            split at h
            · rename_i hx
              subst hx
              cases h
              exact q_blt2 hy.toHy hg (by decide) (by decide +kernel) (cb_max2 hy.calm) (F.st _ _ h1) (F.st _ _ h2) (F.pe _ _ h1) (F.pe _ _ h2)
            · split at h
              · rename_i hx
                subst hx
                cases h
                exact q_blt2 hy.toHy hg (by decide) (by decide +kernel) (cb_min2 hy.calm) (F.st _ _ h1) (F.st _ _ h2) (F.pe _ _ h1) (F.pe _ _ h2)
              · cases h
          · cases h
      · rename_i a
        split at h
        · rename_i hx
          subst hx
          split at h
          · rename_i l hl
            cases h
            obtain ⟨h1, h2⟩ := q_cRg hy.toHy F hl
            exact q_trg hy.toHy hg h2 h1
          · exact q_cBi hy.toHy F hg h
        · split at h
          · rename_i hx
            subst hx
            split at h
            · rename_i l hl
              cases h
              obtain ⟨h1, h2⟩ := q_cRg hy.toHy F hl
              exact q_lrg hy.toHy hg h2 h1
            · exact q_cBi hy.toHy F hg h
          · exact q_cBi hy.toHy F hg h
      · cases h
theorem q_cMeth (hy : Hy X c CA XA G W sc N) {f : PySem.Expr → Option IE} (F : FOk X CA XA G W f) {a : PySem.Expr} {m : Str} {es : List PySem.Expr} {i : IE} {ap pos : Pos} (hs : notSuper a = true) (hl : ap.endLine = pos.line) (h : cMeth f a m es = some i) : PE X (.Call (.Attribute a m ap) es [] pos) (rdE X.K CA XA G W i) := by
  unfold cMeth at h
  split at h
  · rename_i ia h1
    split at h
    · rename_i hm
      subst hm
      cases h
      exact q_bits hs hl (F.pe _ _ h1)
    · split at h
      · rename_i hm
        subst hm
        cases h
        exact q_pop hs hl (F.pe _ _ h1)
      · cases h
  · rename_i e ia h1
    split at h
    · rename_i b ie h2 h3
      split at h
      · cases h
      · rename_i hp
        cases h
        exact q_bm hy h2 hp hs hl (F.st _ _ h3) (F.pe _ _ h1) (F.pe _ _ h3)
    · cases h
  · cases h
theorem q_iter (hy : Hy X c CA XA G W sc N) {f : PySem.Expr → Option IE} (F : FOk X CA XA G W f) {tg e : PySem.Expr} {k : IK} {its : List IE} (h : iterC f sc e (isTup tg) = some (k, its)) : PI X tg e (rdI X.K CA XA G W k its) := by
  have sq : ∀ {e : PySem.Expr} {k : IK} {its : List IE}, (f e).map (fun i => (IK.sq, [i])) = some (k, its) → PI X tg e (rdI X.K CA XA G W k its) := fun h => by
    obtain ⟨i, h1, h2⟩ := Option.map_eq_some_iff.mp h
    cases h2
    exact q_sq (F.pe _ _ h1)
  unfold iterC at h
  split at h
  · rename_i x p es pos
    split at h
    · rename_i hc
      simp only [Bool.and_eq_true, Bool.or_eq_true, decide_eq_true_eq] at hc
      obtain ⟨⟨h1, rfl⟩, h2⟩ := hc
      obtain ⟨l, h3, h4⟩ := Option.map_eq_some_iff.mp h
      cases h4
      rcases h2 with h2 | h2
      · match es, h2 with
        | [a], _ =>
          obtain ⟨i, h5, rfl⟩ := allS_one h3
          exact q_rng1 hy h1 (F.st _ _ h5) (F.pe _ _ h5)
      · match es, h2 with
        | [a, b], _ =>
          obtain ⟨i, j, h5, h6, rfl⟩ := allS_two h3
          exact q_rng2 hy h1 (F.st _ _ h5) (F.st _ _ h6) (F.pe _ _ h5) (F.pe _ _ h6)
    · split at h
      · rename_i hc
        simp only [Bool.and_eq_true, decide_eq_true_eq] at hc
        obtain ⟨⟨⟨h1, rfl⟩, h2⟩, ht⟩ := hc
        obtain ⟨l, h3, h4⟩ := Option.map_eq_some_iff.mp h
        cases h4
        match es, h2 with
        | [a], _ =>
          obtain ⟨i, h5, rfl⟩ := allS_one h3
          cases tg with
          | Tuple elts kk tpos => exact q_enum hy h1 (F.st _ _ h5) (F.pe _ _ h5)
          | _ => cases ht
      · split at h
        · rename_i hc
          simp only [Bool.and_eq_true, decide_eq_true_eq] at hc
          obtain ⟨⟨⟨h1, rfl⟩, h2⟩, ht⟩ := hc
          obtain ⟨l, h3, h4⟩ := Option.map_eq_some_iff.mp h
          cases h4
          match es, h2 with
          | [a, b], _ =>
            obtain ⟨i, j, h5, h6, rfl⟩ := allS_two h3
            cases tg with
            | Tuple elts kk tpos => exact q_zip hy h1 (F.st _ _ h5) (F.st _ _ h6) (F.pe _ _ h5) (F.pe _ _ h6)
            | _ => cases ht
        · exact sq h
  · exact sq h
end

section
variable {X : Cx} {c : Cc} {CA XA : Nat → Option Addr} {G : Gm} {W : WX}
theorem q_ifeT {t a b : PySem.Expr} {it ia ib : IE} {p : Pos} (ht : PT X t (rdT X.K CA XA G W it)) (ha : PT X a (rdT X.K CA XA G W ia)) (hb : PT X b (rdT X.K CA XA G W ib)) : PT X (.IfExp t a b p) (rdT X.K CA XA G W (.ife it ia ib)) := by
  refine ⟨fun pins s σ H Q I ⟨α, ρ, S, rs, re, k⟩ => ?_⟩
  rw [evT] at k
  refine PyProof.Rows.isTrue_IfExp (thn (ht.run pins s σ H (fun c H1 => if c = true then rdT X.K CA XA G W ia σ H1 Q else rdT X.K CA XA G W ib σ H1 Q) I ⟨α, ρ, S, rs, re, PostG.imp k.bind fun d α1 S1 H1 e1 rs1 k1 => ?_⟩) fun d s1 ⟨H1, I1, q1⟩ => ?_)
  · cases d with
    | true => exact ⟨α1, ρ, S1, rs1, re.mono rs.nt e1, k1⟩
    | false => exact ⟨α1, ρ, S1, rs1, re.mono rs.nt e1, k1⟩
  · cases d with
    | true => exact ha.run pins s1 σ H1 Q I1 q1
    | false => exact hb.run pins s1 σ H1 Q I1 q1
end

/-! ### every expression -/
def SdE (c : Cc) (CA XA : Nat → Option Addr) (G : Gm) (n : Nat) : Prop := ∀ (X : Cx) (W : WX) (sc : Scope) (N : List Str), HyF X c CA XA G W sc N →
  (∀ e i, cE c n sc N e = some i → PE X e (rdE X.K CA XA G W i)) ∧ (∀ e i, cT c n sc N e = some i → PT X e (rdT X.K CA XA G W i)) ∧
  (∀ op es i p, cBool c n sc N op es = some i → PE X (.BoolOp op es p) (rdE X.K CA XA G W i)) ∧ (∀ op es i p, cBoolT c n sc N op es = some i → PW X (.BoolOp op es p) (rdT X.K CA XA G W i)) ∧
  (∀ o i, cP c n sc N o = some i → PO X o (rdP X.K CA XA G W i)) ∧
  ∀ el gs scope pos i, cE c n sc N (.ListComp el gs scope pos) = some i → ∀ (j : Nat) (y : Str) (py spos : Pos), N[j]? = some y → sc.names.lookup y = some .local → swapsWith (.ListComp el gs scope pos) (some (.Name y py)) spos.line X.env = pure true →
      PS X (.Assign [.Name y py] (.ListComp el gs scope pos) spos) (tAsg (rdE X.K CA XA G W i) (gName j))
theorem cE_star {c : Cc} {n : Nat} {sc : Scope} {N : List Str} {e : PySem.Expr} {i : IE} (h : cE c n sc N e = some i) : notStar e ∧ notSlice e ∧ notSet e = true := by
  cases n with
  | zero => cases h
  | succ n => cases e <;> first | exact ⟨trivial, trivial, rfl⟩ | (cases h; done)
theorem noFold {e : PySem.Expr} (h : notSet e = true) (env : PySem.Env) (x : Value) : foldedSetIterable e env x = pure x := by
  cases e <;> first | rfl | (cases h; done)
theorem sdE (c : Cc) (CA XA : Nat → Option Addr) (G : Gm) : ∀ n, SdE c CA XA G n
  | 0 => by
    intro X W sc N hy
    exact ⟨fun e i h => (by cases h), fun e i h => (by cases h), fun op es i p h => (by cases h), fun op es i p h => (by cases h), fun o i h => (by cases h), fun el gs scope pos i h => (by cases h)⟩
  | n + 1 => fun X W sc N hy => by
    obtain ⟨ihE, ihT, ihB, ihBT, ihP, _⟩ := sdE c CA XA G n X W sc N hy
    have F : FOk X CA XA G W (cE c n sc N) := ⟨ihE, fun e i h => (cE_star h).1⟩
    refine ⟨fun e i h => ?_, fun e i h => ?_, fun op es i p h => ?_, fun op es i p h => ?_, fun o i h => ?_, fun el gs scope pos i h => ?_⟩
    · unfold cE at h
      split at h
      · obtain ⟨d, h1, rfl⟩ := Option.map_eq_some_iff.mp h
        exact q_c h1
      · rename_i x p
        split at h
        · rename_i j hj
          cases h
          exact q_v hy.toHy hj
        · split at h
          · rename_i hg
            obtain ⟨j, h1, rfl⟩ := Option.map_eq_some_iff.mp h
            exact q_g hy.toHy hg h1
          · cases h
      · split at h
        · rename_i o ia ib h1 h2 h3
          cases h
          exact q_bin hy.toHy h1 (ihE _ _ h2) (ihE _ _ h3)
        · cases h
      · obtain ⟨d, h1, rfl⟩ := Option.map_eq_some_iff.mp h
        exact q_neg (ihE _ _ h1)
      · obtain ⟨d, h1, rfl⟩ := Option.map_eq_some_iff.mp h
        exact q_not (ihE _ _ h1)
      · exact ihB _ _ _ _ h
      · split at h
        · rename_i o ia ib h1 h2 h3
          cases h
          exact q_cmp hy.toHy h1 (cE_star h3).2.2 (ihE _ _ h2) (ihE _ _ h3)
        · cases h
      · split at h
        · rename_i o o' ia ib id h1 h1' h2 h3 h4
          cases h
          exact q_chain hy.toHy h1 h1' (cE_star h4).2.2 (ihE _ _ h2) (ihE _ _ h3) (ihE _ _ h4)
        · cases h
      · split at h
        · rename_i it ia ib h1 h2 h3
          cases h
          exact q_ife (ihT _ _ h1) (ihE _ _ h2) (ihE _ _ h3)
        · cases h
      · obtain ⟨d, h1, rfl⟩ := Option.map_eq_some_iff.mp h
        exact q_tup (F.pa h1).1
      · obtain ⟨d, h1, rfl⟩ := Option.map_eq_some_iff.mp h
        exact q_lst (F.pa h1).1
      · split at h
        · rename_i ia il ih h1 h2 h3
          cases h
          exact q_sl (ihE _ _ h1) (ihP _ _ h2) (ihP _ _ h3)
        · cases h
      · split at h
        · rename_i ia ii h1 h2
          cases h
          exact q_ix (cE_star h2).2.1 (ihE _ _ h1) (ihE _ _ h2)
        · cases h
      · split at h
        · rename_i hc
          rw [Bool.and_eq_true, decide_eq_true_eq] at hc
          obtain ⟨ia, h1, rfl⟩ := Option.map_eq_some_iff.mp h
          exact q_fld hy.toHy hc.1 hc.2 (ihE _ _ h1)
        · cases h
      · split at h
        · rename_i hg
          exact q_cCall hy F hg h
        · cases h
      · split at h
        · rename_i hc
          rw [Bool.and_eq_true, decide_eq_true_eq] at hc
          exact q_cMeth hy.toHy F hc.1 hc.2 h
        · cases h
      · rename_i el tg it ifs scope pos
        split at h
        · rename_i own k its t cs ie h1 h2 h3 h4 h5
          split at h
          · rename_i hc
            cases h
            simp only [Bool.and_eq_true, decide_eq_true_eq, List.all_eq_true] at hc
            obtain ⟨⟨⟨b1, b2⟩, b3⟩, b4⟩ := hc
            refine (q_lc hy.toHy (q_iter hy.toHy F h2) (blkOk_by b1) b3 (fun s H C cl fp => ?_) (fun s H C cl fp => ?_) (fun s H C cl fp => ?_) (noFold b4 _)).1
            · have hb := hy.blk s H scope C cl fp
              exact q_tg ⟨hb.sc, hb.nN, hb.nd, hb.calm, fun z => by cases z⟩ h3
            · have hb := hy.blk s H scope C cl fp
              obtain ⟨jE, jT, _⟩ := sdE c CA XA G n _ _ _ _ hb
              match ifs, b2 with
              | [], _ => cases h4; exact pts_nil'
              | [a], _ =>
                obtain ⟨i, h6, rfl⟩ := allS_one h4
                exact pts_one' (jT _ _ h6)
            · have hb := hy.blk s H scope C cl fp
              obtain ⟨jE, jT, _⟩ := sdE c CA XA G n _ _ _ _ hb
              exact jE _ _ h5
          · cases h
        · cases h
      · cases h
    · have tr : ∀ {e : PySem.Expr} {i : IE}, (cE c n sc N e).map IE.tr = some i → (∀ whole, isTrue e X.env whole = (do let v ← whole; standAt e.pos; holding [v] (truthy v))) → PT X e (rdT X.K CA XA G W i) := fun h hw => by
        obtain ⟨ia, h1, rfl⟩ := Option.map_eq_some_iff.mp h
        exact q_tr (ihE _ _ h1) hw
      unfold cT at h
      split at h
      · obtain ⟨d, h1, rfl⟩ := Option.map_eq_some_iff.mp h
        exact q_notT (ihT _ _ h1)
      · exact (ihBT _ _ _ _ h).pt
      · split at h
        · rename_i it ia ib h1 h2 h3
          cases h
          exact q_ifeT (ihT _ _ h1) (ihT _ _ h2) (ihT _ _ h3)
        · cases h
      · split at h
        · rename_i o ia ib h1 h2 h3
          cases h
          exact q_cmpT hy.toHy h1 (cE_star h3).2.2 (ihE _ _ h2) (ihE _ _ h3)
        · cases h
      · split at h
        · rename_i o o' ia ib id h1 h1' h2 h3 h4
          cases h
          exact q_chainT hy.toHy h1 h1' (cE_star h4).2.2 (ihE _ _ h2) (ihE _ _ h3) (ihE _ _ h4)
        · cases h
      · cases h
      · rename_i z1 z2 z3 z4 z5 z6
        refine tr h fun whole => ?_
        cases e with
        | UnaryOp op a p => cases op <;> first | rfl | exact absurd rfl (z1 _ _)
        | BoolOp op es p => exact absurd rfl (z2 _ _ _)
        | IfExp a b c p => exact absurd rfl (z3 _ _ _ _)
        | Compare a ops es p => exact absurd rfl (z6 _ _ _ _)
        | _ => rfl
    · unfold cBool at h
      split at h
      · cases h
      · exact q_one (ihE _ _ h)
      · rename_i a r hr
        split at h
        · rename_i ia ir h1 h2
          cases h
          cases r with
          | nil => exact absurd rfl hr
          | cons b r =>
            cases op
            · exact q_and (ihE _ _ h1) (ihB _ _ _ p h2)
            · exact q_or (ihE _ _ h1) (ihB _ _ _ p h2)
        · cases h
    · unfold cBoolT at h
      split at h
      · cases h
      · cases op
        · exact q_and1T (ihT _ _ h)
        · exact q_or1T (ihT _ _ h)
      · rename_i a r hr
        split at h
        · rename_i ia ir h1 h2
          cases h
          cases r with
          | nil => exact absurd rfl hr
          | cons b r =>
            cases op
            · exact q_andT (ihT _ _ h1) (ihBT _ _ _ p h2)
            · exact q_orT (ihT _ _ h1) (ihBT _ _ _ p h2)
        · cases h
    · unfold cP at h
      split at h
      · cases h; exact q_np
      · obtain ⟨d, h1, rfl⟩ := Option.map_eq_some_iff.mp h
        exact q_pr (ihE _ _ h1)
    · unfold cE at h
      split at h
      all_goals first | (cases h; done) | (rename_i hq; cases hq; done) | skip
      rename_i el' tg it ifs scope' pos' hq
      cases hq
      split at h
      · rename_i own k its t cs ie h1 h2 h3 h4 h5
        split at h
        · rename_i hc
          cases h
          simp only [Bool.and_eq_true, decide_eq_true_eq, List.all_eq_true] at hc
          obtain ⟨⟨⟨b1, b2⟩, b3⟩, b4⟩ := hc
          refine (q_lc hy.toHy (q_iter hy.toHy F h2) (blkOk_by b1) b3 (fun s H C cl fp => ?_) (fun s H C cl fp => ?_) (fun s H C cl fp => ?_) (noFold b4 _)).2
          · have hb := hy.blk s H scope C cl fp
            exact q_tg ⟨hb.sc, hb.nN, hb.nd, hb.calm, fun z => by cases z⟩ h3
          · have hb := hy.blk s H scope C cl fp
            obtain ⟨jE, jT, _⟩ := sdE c CA XA G n _ _ _ _ hb
            match ifs, b2 with
            | [], _ => cases h4; exact pts_nil'
            | [a], _ =>
              obtain ⟨i, h6, rfl⟩ := allS_one h4
              exact pts_one' (jT _ _ h6)
          · have hb := hy.blk s H scope C cl fp
            obtain ⟨jE, jT, _⟩ := sdE c CA XA G n _ _ _ _ hb
            exact jE _ _ h5
        · cases h
      · cases h
end MP
end

section
set_option maxRecDepth 100000
set_option maxHeartbeats 4000000
/-! MP12: statements. -/
namespace MP
open PySem PySem.Spec L2
section
variable (K : PySem.W.Frag) (CA XA : Nat → Option Addr) (W : WX)
def PostS (α : List Addr) (H : Hp) (r : RS) (D : Ends) : Prop := match r with
  | .ok f ρ' S' => match f with
    | .nx => ∀ (α' : List Addr) (H' : Hp) (σ' : L2.St), Ext α H α' H' → RelS K CA α' S' H' → RelE K α' H' ρ' σ' → D.nx σ' H'
    | .bk => ∀ (α' : List Addr) (H' : Hp) (σ' : L2.St), Ext α H α' H' → RelS K CA α' S' H' → RelE K α' H' ρ' σ' → D.bk σ' H'
    | .ct => ∀ (α' : List Addr) (H' : Hp) (σ' : L2.St), Ext α H α' H' → RelS K CA α' S' H' → RelE K α' H' ρ' σ' → D.ct σ' H'
    | .rt d => ∀ (α' : List Addr) (H' : Hp) (v : V), Ext α H α' H' → RelS K CA α' S' H' → RV K α' H' d v → D.rt v H'
  | .exc x ρ' S' => ∀ (α' : List Addr) (H' : Hp) (σ' : L2.St) (cls : Value) (dd : Option Addr), Ext α H α' H' → RelS K CA α' S' H' → RelE K α' H' ρ' σ' → RX K XA α' H' x cls dd → W cls dd σ' H'
  | .bad => False
end
section
variable {K : PySem.W.Frag} {CA XA : Nat → Option Addr} {W : WX} {α α' : List Addr} {H H' : Hp} {S : Store} {ρ : Env'} {σ : L2.St} {D : Ends} {β : Type}
theorem PostS.mono {r : RS} (e : Ext α H α' H') (h : PostS K CA XA W α H r D) : PostS K CA XA W α' H' r D := by
  cases r with
  | ok f ρ S =>
    cases f with
    | rt d => exact fun a b c e' r s => h a b c (e.trans e') r s
    | nx => exact fun a b c e' r s => h a b c (e.trans e') r s
    | bk => exact fun a b c e' r s => h a b c (e.trans e') r s
    | ct => exact fun a b c e' r s => h a b c (e.trans e') r s
  | exc x ρ S => exact fun a b c d f e' r s t => h a b c d f (e.trans e') r s t
  | bad => exact h
theorem PostS.toS {r : Res β} {f : β → Store → RS} (rs : RelS K CA α S H) (re : RelE K α H ρ σ) (h : PostS K CA XA W α H (r.toS ρ f) D) : PostG K CA XA α H r (fun b α1 S1 H1 => PostS K CA XA W α1 H1 (f b S1) D) (WE W σ) := by
  cases r with
  | ok b S' => exact fun α1 H1 e rs => PostS.mono e h
  | exc x S' => exact fun α' H' cls dd e rs' rx => h α' H' σ cls dd e rs' (re.mono rs.nt e) rx
  | bad => exact h
theorem PostS.bind {r : RS} {f : Env' → Store → RS} (h : PostS K CA XA W α H (r.bind f) D) :
    PostS K CA XA W α H r { D with nx := fun σ' H' => ∃ α' ρ' S', RelS K CA α' S' H' ∧ RelE K α' H' ρ' σ' ∧ PostS K CA XA W α' H' (f ρ' S') D } := by
  cases r with
  | ok g ρ S =>
    cases g with
    | nx => exact fun α' H' σ' e rs re => ⟨α', ρ, S, rs, re, PostS.mono e h⟩
    | rt d => exact h
    | bk => exact h
    | ct => exact h
  | exc x ρ S => exact h
  | bad => exact h
end

section
variable (K : PySem.W.Frag) (CA XA : Nat → Option Addr) (G : Gm) (w : Nat) (W : WX)
def rdS (i : IS) : TS := fun D σ H => ∃ α ρ S, RelS K CA α S H ∧ RelE K α H ρ σ ∧ PostS K CA XA W α H (evS G w i ρ S) D
def rdSs (is : List IS) : TS := fun D σ H => ∃ α ρ S, RelS K CA α S H ∧ RelE K α H ρ σ ∧ PostS K CA XA W α H (evSs G w is ρ S) D
/-- only what comes next is wanted -/
def nxO (Q : L2.St → Hp → Prop) : Ends := { nx := Q, rt := fun _ _ => False, bk := fun _ _ => False, ct := fun _ _ => False }
def gG (g : IG) : TG := fun x σ H Q => ∃ α ρ S d, RelS K CA α S H ∧ RelE K α H ρ σ ∧ RV K α H d x ∧ PostS K CA XA W α H (asG G g d ρ S) (nxO Q)
def gGs (gs : List IG) : TGs := fun xs σ H Q => ∃ α ρ S ds, RelS K CA α S H ∧ RelE K α H ρ σ ∧ RVs K α H ds xs ∧ PostS K CA XA W α H (asGs G gs ds ρ S) (nxO Q)
end

structure HyS (X : Cx) (c : Cc) (CA XA : Nat → Option Addr) (G : Gm) (W : WX) (sc : Scope) (N : List Str) : Prop extends HyF X c CA XA G W sc N where
  kind : X.env.scope.kind = .function
  pass : PassesOwn (model X.prog X.w) X.A X.env X.xe
  cells : ∀ x, X.env.scope.names.lookup x = some .cell → X.fn x = true

/-! ### the text -/
def swC (sc : Scope) (tg e : PySem.Expr) : Option (Option (List Str)) := match tg, e with
  | .Tuple ts _ _, .Tuple vs _ _ =>
    if !(ts.length == 2 || ts.length == 3) || vs.length != ts.length then some none
    else if vs.any (fun | .Starred .. => true | _ => false) then some none
    else if (ts.filterMap fun
      | .Name id pos => if sc.names.lookup id == some .local && pos.line == (ts.head?.map (·.pos.line)).getD 0 then some id else none
      | _ => none).length != ts.length || (ts.filterMap fun
      | .Name id pos => if sc.names.lookup id == some .local && pos.line == (ts.head?.map (·.pos.line)).getD 0 then some id else none
      | _ => none).eraseDups.length != (ts.filterMap fun
      | .Name id pos => if sc.names.lookup id == some .local && pos.line == (ts.head?.map (·.pos.line)).getD 0 then some id else none
      | _ => none).length then some none
    else if vs.all (foldedForSure 8) then some none
    else if vs.all (constantsAlone 8) then none
    else some (some (ts.filterMap fun
      | .Name id pos => if sc.names.lookup id == some .local && pos.line == (ts.head?.map (·.pos.line)).getD 0 then some id else none
      | _ => none))
  | .List _ _, .Tuple _ _ _ => none
  | _, _ => some none
theorem swC_ok {sc : Scope} {env : PySem.Env} (hs : env.scope = sc) (hk : sc.kind = .function) {tg e : PySem.Expr} {r : Option (List Str)} (h : swC sc tg e = some r) : swappedStores [tg] e env = pure r := by
  have hb : env.blockKind = .function := by unfold Env.blockKind; rw [hs, hk]; rfl
  subst hs
  unfold swC at h
  split at h
  · rename_i ts k1 p1 vs k2 p2
    unfold swappedStores
    simp only [hb, bne_self_eq_false, Bool.or_false]
    split at h
    · rename_i h1
      cases h
      rw [if_pos h1]
    · rename_i h1
      rw [if_neg h1]
      split at h
      · rename_i h2
        cases h
        exact if_pos h2
      · rename_i h2
        refine (if_neg h2).trans ?_
        split at h
        · rename_i h3
          cases h
          exact if_pos h3
        · rename_i h3
          refine (if_neg h3).trans ?_
          split at h
          · rename_i h4
            cases h
            exact if_pos h4
          · rename_i h4
            refine (if_neg h4).trans ?_
            split at h
            · cases h
            · rename_i h5
              cases h
              exact if_neg h5
  · cases h
  · rename_i h1 h2
    cases h
    unfold swappedStores
    cases tg <;> cases e <;> first | rfl | exact absurd rfl (h1 _ _ _ _ _ _ rfl) | exact absurd rfl (h2 _ _ _ _ _ rfl) | skip
    all_goals first | exact (h1 _ _ _ _ _ _ rfl rfl).elim | exact (h2 _ _ _ _ _ rfl rfl).elim
end MP
end

section
set_option maxRecDepth 100000
set_option maxHeartbeats 4000000
/-! MP13: statements read. -/
namespace MP
open PySem PySem.Spec L2

mutual
def cG (c : Cc) : Nat → Scope → List Str → PySem.Expr → Option IG
  | 0, _, _, _ => none
  | n + 1, sc, N, e => match tgC true sc N 8 e with
    | some t => some (.t t)
    | none => match e with
      | .Subscript a i _ => match cE c n sc N a, cE c n sc N i with
        | some ia, some ii => some (.ix ia ii)
        | _, _ => none
      | .Attribute a f _ => if decide (f ∈ c.attrs) then (cE c n sc N a).map fun ia => .fld ia f else none
      | .Tuple es _ _ => (cGs c n sc N es).map .tp
      | _ => none
def cGs (c : Cc) : Nat → Scope → List Str → List PySem.Expr → Option (List IG)
  | 0, _, _, _ => none
  | n + 1, sc, N, es => match es with
    | [] => some []
    | e :: es => match cG c n sc N e, cGs c n sc N es with
      | some g, some gs => some (g :: gs)
      | _, _ => none
end
def notLc : PySem.Expr → Bool
  | .ListComp _ _ _ _ => false
  | .SetComp _ _ _ _ => false
  | .DictComp _ _ _ _ _ => false
  | _ => true
/-- what an assignment's kind is: a comprehension's stores exchanged, not exchanged -/
def lcC (sc : Scope) (tg e : PySem.Expr) : Option Bool := match e with
  | .ListComp _ _ scope epos => match tg with
    | .Name t p => match sc.names.lookup t with
      | some .local => if (p.line == epos.line) && !(scope.names.any fun (n, k) => n == t && (k == .local || k == .cell)) then some true else none
      | some .cell => some false
      | _ => none
    | _ => some false
  | .SetComp _ _ _ _ => none
  | .DictComp _ _ _ _ _ => none
  | _ => some false
def nm3 (N : List Str) (names : List Str) (ts : List PySem.Expr) : Option (List Nat) := match names, ts with
  | [x, y], [.Name x' _, .Name y' _] => if x = x' ∧ y = y' then (match ixOf x N, ixOf y N with
    | some i, some j => if i ≠ j then some [i, j] else none
    | _, _ => none) else none
  | [x, y, z], [.Name x' _, .Name y' _, .Name z' _] => if x = x' ∧ y = y' ∧ z = z' then (match ixOf x N, ixOf y N, ixOf z N with
    | some i, some j, some k => if i ≠ j ∧ i ≠ k ∧ j ≠ k then some [i, j, k] else none
    | _, _, _ => none) else none
  | _, _ => none
def locs (sc : Scope) (names : List Str) : Bool := names.all fun x => decide (sc.names.lookup x = some .local)
def cAsg (c : Cc) (n : Nat) (sc : Scope) (N : List Str) (tg e : PySem.Expr) : Option IS := match swC sc tg e with
  | none => none
  | some (some names) => match tg, e with
    | .Tuple ts _ _, .Tuple vs _ _ => match nm3 N names ts, allS (cE c n sc N) vs with
      | some is, some l => if locs sc names && decide (is.length = vs.length) then some (.par is l) else none
      | _, _ => none
    | _, _ => none
  | some none => match lcC sc tg e with
    | none => none
    | some true => match tg, cE c n sc N e with
      | .Name t _, some ie => (ixOf t N).map fun i => .asg (.t (.nm i)) ie
      | _, _ => none
    | some false => match cG c n sc N tg, cE c n sc N e with
      | some g, some ie => some (.asg g ie)
      | _, _ => none
def augC : Operator → Option BO
  | .Add => some .add | .Sub => some .sub
  | _ => none
mutual
def cS (c : Cc) : Nat → Scope → List Str → Stmt → Option IS
  | 0, _, _, _ => none
  | n + 1, sc, N, s => match s with
    | .Expr (.Constant (.str _) _ _) _ => some .pass
    | .Expr e _ => if notLc e then (cE c n sc N e).map .ex else none
    | .Assign [tg] e _ => cAsg c n sc N tg e
    | .AugAssign (.Name x _) op e _ => match sc.names.lookup x, ixOf x N, augC op, cE c n sc N e with
      | some .local, some i, some o, some ie => if okName x then some (.aug i o ie) else none
      | some .cell, some i, some o, some ie => if okName x then some (.aug i o ie) else none
      | _, _, _, _ => none
    | .Return (some e) _ => (cE c n sc N e).map .ret
    | .Return none _ => some (.ret (.c .non))
    | .If t a b _ => match cT c n sc N t, cSs c n sc N a, cSs c n sc N b with
      | some it, some ia, some ib => some (.ite it ia ib)
      | _, _, _ => none
    | .While t b [] _ => match cT c n sc N t, cSs c n sc N b with
      | some it, some ib => some (.whl it ib)
      | _, _ => none
    | .For tg it b [] _ => match iterC (cE c n sc N) sc it (isTup tg), tgC true sc N 8 tg, cSs c n sc N b with
      | some (k, its), some t, some ib => if notSet it then some (.fr t k its ib) else none
      | _, _, _ => none
    | .Pass _ => some .pass
    | .Break _ => some .brk
    | .Continue _ => some .cont
    | .Raise _ _ _ => some .never
    | _ => none
def cSs (c : Cc) : Nat → Scope → List Str → List Stmt → Option (List IS)
  | 0, _, _, _ => none
  | n + 1, sc, N, ss => match ss with
    | [] => some []
    | s :: ss => match cS c n sc N s, cSs c n sc N ss with
      | some i, some l => some (i :: l)
      | _, _ => none
end

section
variable {X : Cx} {c : Cc} {CA XA : Nat → Option Addr} {G : Gm} {w : Nat} {W : WX} {sc : Scope} {N : List Str}
/-! ### targets -/
theorem q_gt {cl : Bool} (th : TgH X cl sc N) {n : Nat} {e : PySem.Expr} {t : IT} (h : tgC cl sc N n e = some t) : PG X e (gG X.K CA XA G W (.t t)) := by
  refine pgImp (q_tg (CA := CA) th h) fun v σ H Q ⟨α, ρ, S, d, rs, re, r, k⟩ => ?_
  rw [asG] at k
  cases ha : asT t d ρ with
  | none => rw [ha] at k; exact False.elim k
  | some ρ' =>
    rw [ha] at k
    exact ⟨α, ρ, S, d, ρ', rs, re, r, ha, fun σ' re' _ _ => k α H σ' (Ext.refl _ _) rs re'⟩
theorem Res.toS_bind {β γ : Type} {r : Res β} {f : β → Store → Res γ} {g : γ → Store → RS} {ρ : Env'} : (r.bind f).toS ρ g = r.toS ρ fun b S => (f b S).toS ρ g := by
  cases r <;> rfl
theorem PostS.of {K : PySem.W.Frag} {α : List Addr} {H : Hp} {S : Store} {D : Ends} {β : Type} {o : Option β} {f : β → Store → RS} {ρ : Env'} (h : PostS K CA XA W α H ((Res.of o S).toS ρ f) D) : ∃ b, o = some b ∧ PostS K CA XA W α H (f b S) D := by
  cases o with
  | none => exact False.elim h
  | some b => exact ⟨b, rfl, h⟩
theorem PostS.ofP {K : PySem.W.Frag} {α : List Addr} {H : Hp} {D : Ends} {β : Type} {o : Option (β × Store)} {f : β → Store → RS} {ρ : Env'} (h : PostS K CA XA W α H ((Res.ofP o).toS ρ f) D) : ∃ b S, o = some (b, S) ∧ PostS K CA XA W α H (f b S) D := by
  cases o with
  | none => exact False.elim h
  | some b => exact ⟨b.1, b.2, rfl, h⟩
theorem q_gix {a i : PySem.Expr} {ia ii : IE} {p : Pos} (hn : notSlice i) (ha : PE X a (rdE X.K CA XA G W ia)) (hi : PE X i (rdE X.K CA XA G W ii)) : PG X (.Subscript a i p) (gG X.K CA XA G W (.ix ia ii)) := by
  refine pgImp (pg_sub ha hi set_list (by intro v; cases i <;> first | rfl | exact False.elim hn)) fun v σ H Q ⟨α, ρ, S, d, rs, re, r, k⟩ => ?_
  rw [asG, Res.toS_bind] at k
  refine ⟨α, ρ, S, rs, re, PostG.imp (PostS.toS rs re k) fun d1 α1 S1 H1 e1 rs1 k1 x rx => ?_⟩
  have re1 := re.mono rs.nt e1
  rw [Res.toS_bind] at k1
  refine ⟨α1, ρ, S1, rs1, re1, PostG.imp (PostS.toS rs1 re1 k1) fun d2 α2 S2 H2 e2 rs2 k2 y ry => ?_⟩
  have re2 := re1.mono rs1.nt e2
  obtain ⟨S3, h3, k3⟩ := PostS.of k2
  unfold setI at h3
  split at h3
  · split at h3
    · rename_i hd
      split at h3
      · rename_i j hj
        cases h3
        cases ry
        have rx2 := rx.mono rs1.nt e2
        cases rx2 with
        | obj ho =>
          obtain ⟨xs, hx, rv⟩ := rs2.lst hd ho
          have hl := rv.length
          have r2 := (r.mono rs.nt e1).mono rs1.nt e2
          refine ⟨_, xs, _, j, rfl, rfl, hx, by rw [← hl]; exact hj, ?_⟩
          have rs3 := rs2.setl ho (rv.set r2 j)
          exact k3 α2 _ σ (Ext.write (List.mem_of_getElem? ho)) rs3 (re2.mono rs2.nt (Ext.write (List.mem_of_getElem? ho)))
      · cases h3
    · cases h3
  · cases h3
theorem rfs_put {K : PySem.W.Frag} {α : List Addr} {H : Hp} {f : Str} {d : D} {v : V} (h : RV K α H d v) : ∀ {fs : List (Str × D)} {gs : List (Str × V)}, RFs K α H fs gs → RFs K α H (putD f d fs) (L2.putF f v gs)
  | _, _, .nil => .cons h .nil
  | _, _, .cons (f := g) q r => by
    unfold putD L2.putF
    by_cases e : g = f
    · rw [if_pos e, if_pos e]; subst e; exact .cons h r
    · rw [if_neg e, if_neg e]; exact .cons q (rfs_put h r)
theorem rfs_len {K : PySem.W.Frag} {α : List Addr} {H : Hp} : ∀ {fs : List (Str × D)} {gs : List (Str × V)}, RFs K α H fs gs → fs.length = gs.length
  | _, _, .nil => rfl
  | _, _, .cons _ r => by rw [List.length_cons, List.length_cons, rfs_len r]
theorem q_gfld (hy : Hy X c CA XA G W sc N) {a : PySem.Expr} {f : Str} {ia : IE} {p : Pos} (hf : f ∈ c.attrs) (ha : PE X a (rdE X.K CA XA G W ia)) : PG X (.Attribute a f p) (gG X.K CA XA G W (.fld ia f)) := by
  refine ⟨fun pins s σ H v u Q I r ⟨α, ρ, S, d, rs, re, r', k⟩ => ?_⟩
  rw [PySem.assign_Attribute]
  rw [asG, Res.toS_bind] at k
  refine wpAny_bind (wpAny_holding (thn (ha.run pins s σ H (fun x H2 => ∃ b C dx fs, x = .ref b ∧ H2 b = some (.ins C dx fs) ∧ Cls X.K C ∧ NoAttr X.K C f ∧ fs.length < 1000 ∧ Q σ (upd H2 b (.ins C dx (putF f v fs)))) I ⟨α, ρ, S, rs, re, PostG.imp (PostS.toS rs re k) fun d1 α1 S1 H1 e1 rs1 k1 x rx => ?_⟩) fun ov s1 ⟨x, H1, I1, rx, b, C, dx, fs, ex, ea, cc, n, l, q⟩ => ?_))
  · have re1 := re.mono rs.nt e1
    obtain ⟨S3, h3, k3⟩ := PostS.of k1
    unfold setF at h3
    split at h3
    · split at h3
      · rename_i hS
        split at h3
        · rename_i hl
          cases h3
          cases rx with
          | obj ho =>
            obtain ⟨b, h1, C, dx, gs, h2, h4, h5⟩ := rs1.ok _ _ hS
            rw [ho] at h1; cases h1
            have hw := Ext.write (H := H1) (o := HO.ins C dx (putF f v gs)) (List.mem_of_getElem? ho)
            refine ⟨_, C, dx, gs, rfl, h4, hy.cl.cls _ _ h2, hy.cl.na _ _ _ h2 hf, by rw [← rfs_len h5]; omega, ?_⟩
            exact k3 α1 _ σ hw (rs1.write ho ⟨C, dx, _, h2, upd_same, (rfs_put (r'.mono rs.nt e1) h5).mono rs1.nt hw⟩) (re1.mono rs1.nt hw)
        · cases h3
      · cases h3
    · cases h3
  · subst ex
    obtain rfl : ov = Value.ref b := rx
    refine wpAny_bind (wpAny_standAt (wpAny_bind (wpAny_holding (setattr_ok I1 ea cc n l r fun s3 I3 => wpAny_release ⟨σ, _, I3, q⟩))))
theorem RS.bind_nxO {K : PySem.W.Frag} {α : List Addr} {H : Hp} {r : RS} {f : Env' → Store → RS} {Q : L2.St → Hp → Prop} (h : PostS K CA XA W α H (r.bind f) (nxO Q)) :
    PostS K CA XA W α H r (nxO fun σ' H' => ∃ α' ρ' S', Ext α H α' H' ∧ RelS K CA α' S' H' ∧ RelE K α' H' ρ' σ' ∧ PostS K CA XA W α' H' (f ρ' S') (nxO Q)) := by
  cases r with
  | ok g ρ S =>
    cases g with
    | nx => exact fun α' H' σ' e rs re => ⟨α', ρ, S, e, rs, re, PostS.mono e h⟩
    | rt d => exact h
    | bk => exact h
    | ct => exact h
  | exc x ρ S => exact h
  | bad => exact h
theorem cG_star {n : Nat} {e : PySem.Expr} {g : IG} (h : cG c n sc N e = some g) : notStar e := by
  cases n with
  | zero => cases h
  | succ n =>
    unfold cG at h
    split at h
    · rename_i ht; exact tg_star ht
    · split at h <;> first | trivial | (cases h; done)
theorem cGs_each {env : PySem.Env} : ∀ {n : Nat} {es : List PySem.Expr} {ts : List IG}, cGs c n sc N es = some ts → (assignEach es env).length = ts.length ∧ (assignEach es env).findIdx? (·.1) = none
  | 0, _, _, h => by cases h
  | n + 1, [], ts, h => by cases h; exact ⟨rfl, rfl⟩
  | n + 1, e :: es, ts, h => by
    unfold cGs at h
    dsimp only at h
    split at h
    · cases h
      rename_i t ts h1 h2
      obtain ⟨h3, h4⟩ := cGs_each (env := env) h2
      have : assignEach (e :: es) env = (false, assign e env) :: assignEach es env := by
        have hn := cG_star h1
        cases e <;> first | rfl | exact False.elim hn
      rw [this]
      refine ⟨by rw [List.length_cons, List.length_cons, h3], ?_⟩
      rw [List.findIdx?_cons, h4]
      rfl
    · cases h

mutual
theorem q_cG (hy : HyS X c CA XA G W sc N) : ∀ {n : Nat} {e : PySem.Expr} {g : IG}, cG c n sc N e = some g → PG X e (gG X.K CA XA G W g)
  | 0, _, _, h => by cases h
  | n + 1, e, g, h => by
    have th : TgH X true sc N := ⟨hy.sc, hy.nN, hy.nd, hy.calm, fun _ x hx => hy.cells x (by rw [hy.sc]; exact hx)⟩
    obtain ⟨ihE, _⟩ := sdE c CA XA G n X W sc N hy.toHyF
    unfold cG at h
    split at h
    · rename_i ht
      cases h
      exact q_gt th ht
    · split at h
      · split at h
        · rename_i ia ii h1 h2
          cases h
          exact q_gix (cE_star h2).2.1 (ihE _ _ h1) (ihE _ _ h2)
        · cases h
      · split at h
        · rename_i hf
          obtain ⟨ia, h1, rfl⟩ := Option.map_eq_some_iff.mp h
          exact q_gfld hy.toHy (of_decide_eq_true hf) (ihE _ _ h1)
        · cases h
      · obtain ⟨gs, h1, rfl⟩ := Option.map_eq_some_iff.mp h
        obtain ⟨h3, h4⟩ := cGs_each (env := X.env) h1
        refine pgImp (pg_tup hy.calm (q_cGs hy h1) h3 h4) fun v σ H Q ⟨α, ρ, S, d, rs, re, r, k⟩ => ?_
        cases r with
        | @tup ds xs a hs rr =>
          rw [asG] at k
          by_cases hl : ds.length = gs.length
          · rw [if_pos hl] at k
            exact ⟨_, xs, rfl, hs, by rw [← rr.length]; exact hl, α, ρ, S, ds, rs, re, rr, k⟩
          · rw [if_neg hl] at k; exact False.elim k
        | _ => simp only [asG] at k; exact False.elim k
      · cases h
theorem q_cGs (hy : HyS X c CA XA G W sc N) : ∀ {n : Nat} {es : List PySem.Expr} {gs : List IG}, cGs c n sc N es = some gs → PGs X es (gGs X.K CA XA G W gs)
  | 0, _, _, h => by cases h
  | n + 1, [], gs, h => by
    cases h
    refine pgsImp pgs_nil fun vs σ H Q ⟨α, ρ, S, ds, rs, re, r, k⟩ => ?_
    cases r with
    | nil => rw [asGs] at k; exact ⟨rfl, k α H σ (Ext.refl _ _) rs re⟩
    | cons _ _ => simp only [asGs] at k; exact False.elim k
  | n + 1, e :: es, gs, h => by
    unfold cGs at h
    dsimp only at h
    split at h
    · cases h
      rename_i g gs h1 h2
      refine pgsImp (pgs_cons (q_cG hy h1) (q_cGs hy h2) (by
        have hn := cG_star h1
        cases e <;> first | rfl | exact False.elim hn)) fun vs σ H Q ⟨α, ρ, S, ds, rs, re, r, k⟩ => ?_
      cases r with
      | nil => simp only [asGs] at k; exact False.elim k
      | @cons d v ds vs r rr =>
        rw [asGs] at k
        refine ⟨_, _, rfl, α, ρ, S, d, rs, re, r, ?_⟩
        have k' := RS.bind_nxO k
        revert k'
        generalize asG G g d ρ S = r1
        intro k'
        cases r1 with
        | ok f ρ1 S1 =>
          cases f with
          | nx =>
            intro α1 H1 σ1 e1 rs1 re1
            obtain ⟨α2, ρ2, S2, e2, rs2, re2, k2⟩ := k' α1 H1 σ1 e1 rs1 re1
            exact ⟨α2, ρ2, S2, ds, rs2, re2, rr.mono rs.nt e2, k2⟩
          | rt d => exact k'
          | bk => exact k'
          | ct => exact k'
        | exc x ρ1 S1 => exact k'
        | bad => exact k'
    · cases h
end

/-! ### statements -/
theorem noSw {e : PySem.Expr} (h : notLc e = true) (t : Option PySem.Expr) (l : Nat) (env : PySem.Env) : swapsWith e t l env = pure false := by
  cases e <;> first | rfl | (cases h; done)
theorem s_pass : PS X (.Pass p) (rdS X.K CA XA G w W .pass) := psImp ps_pass fun D σ H ⟨α, ρ, S, rs, re, k⟩ => by
  rw [evS] at k; exact k α H σ (Ext.refl _ _) rs re
theorem s_doc {x j p p'} : PS X (.Expr (.Constant (.str x) j p) p') (rdS X.K CA XA G w W .pass) := psImp ps_doc fun D σ H ⟨α, ρ, S, rs, re, k⟩ => by
  rw [evS] at k; exact k α H σ (Ext.refl _ _) rs re
theorem s_brk : PS X (.Break p) (rdS X.K CA XA G w W .brk) := psImp ps_break fun D σ H ⟨α, ρ, S, rs, re, k⟩ => by
  rw [evS] at k; exact k α H σ (Ext.refl _ _) rs re
theorem s_cont : PS X (.Continue p) (rdS X.K CA XA G w W .cont) := psImp ps_continue fun D σ H ⟨α, ρ, S, rs, re, k⟩ => by
  rw [evS] at k; exact k α H σ (Ext.refl _ _) rs re
theorem s_never {st : Stmt} : PS X st (rdS X.K CA XA G w W .never) := psImp ps_never fun D σ H ⟨α, ρ, S, rs, re, k⟩ => by
  rw [evS] at k; exact k
theorem s_ex {e : PySem.Expr} {ie : IE} {p : Pos} (hn : notLc e = true) (he : PE X e (rdE X.K CA XA G W ie)) : PS X (.Expr e p) (rdS X.K CA XA G w W (.ex ie)) := by
  refine psImp (ps_expr he (noSw hn _ _ _)) fun D σ H ⟨α, ρ, S, rs, re, k⟩ => ?_
  rw [evS] at k
  refine ⟨α, ρ, S, rs, re, PostG.imp (PostS.toS rs re k) fun d α1 S1 H1 e1 rs1 k1 x rx => ?_⟩
  exact k1 α1 H1 σ (Ext.refl _ _) rs1 (re.mono rs.nt e1)
theorem s_ret {e : PySem.Expr} {ie : IE} {p : Pos} (he : PE X e (rdE X.K CA XA G W ie)) : PS X (.Return (some e) p) (rdS X.K CA XA G w W (.ret ie)) := by
  refine psImp (ps_ret he) fun D σ H ⟨α, ρ, S, rs, re, k⟩ => ?_
  rw [evS] at k
  refine ⟨α, ρ, S, rs, re, PostG.imp (PostS.toS rs re k) fun d α1 S1 H1 e1 rs1 k1 x rx => ?_⟩
  exact k1 α1 H1 x (Ext.refl _ _) rs1 rx
theorem s_retN {p : Pos} : PS X (.Return none p) (rdS X.K CA XA G w W (.ret (.c .non))) := by
  refine psImp ps_retN fun D σ H ⟨α, ρ, S, rs, re, k⟩ => ?_
  rw [evS, evE] at k
  exact k α H _ (Ext.refl _ _) rs .non
theorem nx_mono {K : PySem.W.Frag} {α : List Addr} {H : Hp} {r : RS} {Q Q' : L2.St → Hp → Prop} (h : PostS K CA XA W α H r (nxO Q)) (i : ∀ σ' H', Q σ' H' → Q' σ' H') : PostS K CA XA W α H r (nxO Q') := by
  cases r with
  | ok f ρ S =>
    cases f with
    | nx => exact fun α' H' σ' e rs re => i _ _ (h α' H' σ' e rs re)
    | rt d => exact h
    | bk => exact h
    | ct => exact h
  | exc x ρ S => exact h
  | bad => exact h
mutual
theorem asG_nx {G : Gm} : ∀ {g : IG} {d : D} {ρ : Env'} {S : Store} {f : Fl} {ρ' : Env'} {S' : Store}, asG G g d ρ S = .ok f ρ' S' → f = .nx
  | .t t, d, ρ, S, f, ρ', S', h => by
    rw [asG] at h
    split at h
    · cases h; rfl
    · cases h
  | .ix a i, d, ρ, S, f, ρ', S', h => by
    rw [asG] at h
    unfold Res.toS at h
    split at h <;> first | (cases h; rfl) | (cases h; done)
  | .fld a i, d, ρ, S, f, ρ', S', h => by
    rw [asG] at h
    unfold Res.toS at h
    split at h <;> first | (cases h; rfl) | (cases h; done)
  | .tp gs, d, ρ, S, f, ρ', S', h => by
    cases d with
    | tup ds =>
      rw [asG] at h
      split at h
      · exact asGs_nx h
      · cases h
    | _ => simp [asG] at h
theorem asGs_nx {G : Gm} : ∀ {gs : List IG} {ds : List D} {ρ : Env'} {S : Store} {f : Fl} {ρ' : Env'} {S' : Store}, asGs G gs ds ρ S = .ok f ρ' S' → f = .nx
  | [], [], ρ, S, f, ρ', S', h => by rw [asGs] at h; cases h; rfl
  | [], _ :: _, ρ, S, f, ρ', S', h => by simp [asGs] at h
  | _ :: _, [], ρ, S, f, ρ', S', h => by simp [asGs] at h
  | g :: gs, d :: ds, ρ, S, f, ρ', S', h => by
    rw [asGs] at h
    cases h1 : asG G g d ρ S with
    | ok f1 ρ1 S1 =>
      have := asG_nx h1
      subst this
      rw [h1] at h
      exact asGs_nx h
    | exc x ρ1 S1 => rw [h1] at h; cases h
    | bad => rw [h1] at h; cases h
end
theorem to_nxO {K : PySem.W.Frag} {α : List Addr} {H : Hp} {D : Ends} {g : IG} {d : MP.D} {ρ : Env'} {S : Store} (h : PostS K CA XA W α H (asG G g d ρ S) D) : PostS K CA XA W α H (asG G g d ρ S) (nxO D.nx) := by
  cases hr : asG G g d ρ S with
  | ok f ρ1 S1 => have := asG_nx hr; subst this; rw [hr] at h; exact h
  | exc x ρ1 S1 => rw [hr] at h; exact h
  | bad => rw [hr] at h; exact h
theorem asg_rd {te : TE} {tg : TG} {ie : IE} {g : IG} (h1 : ∀ σ H Q, rdE X.K CA XA G W ie σ H Q → te σ H Q) (h2 : ∀ v σ H Q, gG X.K CA XA G W g v σ H Q → tg v σ H Q) (D : Ends) (σ : L2.St) (H : Hp) (h : rdS X.K CA XA G w W (.asg g ie) D σ H) : tAsg te tg D σ H := by
  obtain ⟨α, ρ, S, rs, re, k⟩ := h
  rw [evS] at k
  refine h1 _ _ _ ⟨α, ρ, S, rs, re, PostG.imp (PostS.toS rs re k) fun d α1 S1 H1 e1 rs1 k1 x rx => ?_⟩
  exact h2 _ _ _ _ ⟨α1, ρ, S1, d, rs1, re.mono rs.nt e1, rx, to_nxO k1⟩
theorem s_asg {tg e : PySem.Expr} {ie : IE} {g : IG} {pos : Pos} (he : PE X e (rdE X.K CA XA G W ie)) (hg : PG X tg (gG X.K CA XA G W g)) (hs : swapsWith e (some tg) pos.line X.env = pure false) (hw : swappedStores [tg] e X.env = pure none) (hn : notStar tg) : PS X (.Assign [tg] e pos) (rdS X.K CA XA G w W (.asg g ie)) :=
  psImp (ps_asg he hg hs hw (by cases tg <;> first | rfl | exact False.elim hn)) (asg_rd (fun _ _ _ h => h) fun _ _ _ _ h => h)
end
end MP
end

section
set_option maxRecDepth 100000
set_option maxHeartbeats 4000000
/-! MP14: statements are sound. -/
namespace MP
open PySem PySem.Spec L2
section
variable {X : Cx} {c : Cc} {CA XA : Nat → Option Addr} {G : Gm} {w : Nat} {W : WX} {sc : Scope} {N : List Str}
theorem lcC_true {tg e : PySem.Expr} {l : Nat} (hk : X.env.scope.kind = .function) (hs : X.env.scope = sc) (h : lcC sc tg e = some true) : ∃ el gs scope epos t p, e = .ListComp el gs scope epos ∧ tg = .Name t p ∧ sc.names.lookup t = some .local ∧ swapsWith e (some tg) l X.env = pure true := by
  unfold lcC at h
  split at h
  · rename_i el gs scope epos
    split at h
    · rename_i t p
      split at h
      · rename_i hl
        split at h
        · rename_i hc
          rw [Bool.and_eq_true] at hc
          refine ⟨el, gs, scope, epos, t, p, rfl, rfl, hl, sw_true hk (by rw [hs]; exact hl) hc.1 ?_⟩
          have := hc.2
          rw [Bool.not_eq_true'] at this
          exact this
        · cases h
      · cases h
      · cases h
    · cases h
  · cases h
  · cases h
  · cases h
theorem lcC_false {tg e : PySem.Expr} {l : Nat} (hk : X.env.scope.kind = .function) (hs : X.env.scope = sc) (h : lcC sc tg e = some false) : swapsWith e (some tg) l X.env = pure false := by
  have hb : X.env.blockKind = .function := by unfold Env.blockKind; rw [hk]; rfl
  unfold lcC at h
  split at h
  · rename_i el gs scope epos
    split at h
    · rename_i t p
      split at h
      · split at h <;> cases h
      · rename_i hl
        unfold swapsWith
        have : X.env.kindOf t = some .cell := by rw [← hs] at hl; exact hl
        simp only [hb, this]
        rfl
      · cases h
    · rename_i hn
      unfold swapsWith
      cases tg <;> first | rfl | exact absurd rfl (hn _ _)
  · cases h
  · cases h
  · rename_i h1 h2 h3
    cases e <;> first | rfl | exact absurd rfl (h1 _ _ _ _) | exact absurd rfl (h2 _ _ _ _) | exact absurd rfl (h3 _ _ _ _ _)
theorem setsI2 {i j : Nat} {ds : List D} {ρ ρ' : Env'} (h : setsI [i, j] ds ρ = some ρ') : ∃ d1 d2, ds = [d1, d2] ∧ ρ' = (ρ.set i (some d1)).set j (some d2) := by
  match ds, h with
  | [d1, d2], h => simp only [setsI] at h; cases h; exact ⟨d1, d2, rfl, rfl⟩
  | [], h => simp [setsI] at h
  | [_], h => simp [setsI] at h
  | _ :: _ :: _ :: _, h => simp [setsI] at h
theorem setsI3 {i j k : Nat} {ds : List D} {ρ ρ' : Env'} (h : setsI [i, j, k] ds ρ = some ρ') : ∃ d1 d2 d3, ds = [d1, d2, d3] ∧ ρ' = ((ρ.set i (some d1)).set j (some d2)).set k (some d3) := by
  match ds, h with
  | [d1, d2, d3], h => simp only [setsI] at h; cases h; exact ⟨d1, d2, d3, rfl, rfl⟩
  | [], h => simp [setsI] at h
  | [_], h => simp [setsI] at h
  | [_, _], h => simp [setsI] at h
  | _ :: _ :: _ :: _ :: _, h => simp [setsI] at h
theorem par_post {is : List Nat} {es : List IE} {D : Ends} {σ : L2.St} {H : Hp} (h : rdS X.K CA XA G w W (.par is es) D σ H) :
    ∃ α ρ S, RelS X.K CA α S H ∧ RelE X.K α H ρ σ ∧ PostG X.K CA XA α H (evEs G es ρ S) (fun ds α1 S1 H1 => RelE X.K α1 H1 ρ σ ∧ ∃ ρ', setsI is ds ρ = some ρ' ∧ PostS X.K CA XA W α1 H1 (.ok .nx ρ' S1) D) (WE W σ) := by
  obtain ⟨α, ρ, S, rs, re, k⟩ := h
  rw [evS] at k
  refine ⟨α, ρ, S, rs, re, PostG.imp (PostS.toS rs re k) fun ds α1 S1 H1 e1 rs1 k1 => ⟨re.mono rs.nt e1, ?_⟩⟩
  cases hs : setsI is ds ρ with
  | none => rw [hs] at k1; exact False.elim k1
  | some ρ' => rw [hs] at k1; exact ⟨ρ', rfl, k1⟩
theorem s_par2 (hy : HyS X c CA XA G W sc N) {i j : Nat} {x y : Str} {vs : List PySem.Expr} {l : List IE} {px py pt pt2 pos : Pos} {kt k2 : Nat} (hi : N[i]? = some x) (hj : N[j]? = some y) (hij : i ≠ j) (hx : sc.names.lookup x = some .local) (hyl : sc.names.lookup y = some .local)
    (hv : vs.length = 2) (ha : PA X vs (rdA X.K CA XA G W l)) (hw : swappedStores [.Tuple [.Name x px, .Name y py] kt pt] (.Tuple vs k2 pt2) X.env = pure (some [x, y])) :
    PS X (.Assign [.Tuple [.Name x px, .Name y py] kt pt] (.Tuple vs k2 pt2) pos) (rdS X.K CA XA G w W (.par [i, j] l)) := by
  match vs, hv with
  | [a, b], _ =>
    refine psImp (ps_par hy.calm (by rw [hy.nN]; exact hy.nd) (by rw [hy.nN]; exact hi) (by rw [hy.nN]; exact hj) hij (by rw [hy.sc]; exact hx) (by rw [hy.sc]; exact hyl) ha hw) fun D σ H h => ?_
    obtain ⟨α, ρ, S, rs, re, k⟩ := par_post h
    refine ⟨α, ρ, S, rs, re, PostG.imp k fun ds α1 S1 H1 e1 rs1 ⟨re1, ρ', hs, k1⟩ ws rw' => ?_⟩
    obtain ⟨d1, d2, rfl, rfl⟩ := setsI2 hs
    cases rw' with
    | cons r1 rr =>
      cases rr with
      | cons r2 rr =>
        cases rr
        exact ⟨_, _, rfl, k1 α1 H1 _ (Ext.refl _ _) rs1 ((re1.set r1).set r2)⟩
theorem s_par3 (hy : HyS X c CA XA G W sc N) {i j m : Nat} {x y z : Str} {vs : List PySem.Expr} {l : List IE} {px py pz pt pt2 pos : Pos} {kt k2 : Nat} (hi : N[i]? = some x) (hj : N[j]? = some y) (hm : N[m]? = some z) (hij : i ≠ j) (him : i ≠ m) (hjm : j ≠ m)
    (hx : sc.names.lookup x = some .local) (hyl : sc.names.lookup y = some .local) (hz : sc.names.lookup z = some .local)
    (hv : vs.length = 3) (ha : PA X vs (rdA X.K CA XA G W l)) (hw : swappedStores [.Tuple [.Name x px, .Name y py, .Name z pz] kt pt] (.Tuple vs k2 pt2) X.env = pure (some [x, y, z])) :
    PS X (.Assign [.Tuple [.Name x px, .Name y py, .Name z pz] kt pt] (.Tuple vs k2 pt2) pos) (rdS X.K CA XA G w W (.par [i, j, m] l)) := by
  match vs, hv with
  | [a, b, d], _ =>
    refine psImp (ps_par3 hy.calm (by rw [hy.nN]; exact hy.nd) (by rw [hy.nN]; exact hi) (by rw [hy.nN]; exact hj) (by rw [hy.nN]; exact hm) hij him hjm (by rw [hy.sc]; exact hx) (by rw [hy.sc]; exact hyl) (by rw [hy.sc]; exact hz) ha hw) fun D σ H h => ?_
    obtain ⟨α, ρ, S, rs, re, k⟩ := par_post h
    refine ⟨α, ρ, S, rs, re, PostG.imp k fun ds α1 S1 H1 e1 rs1 ⟨re1, ρ', hs, k1⟩ ws rw' => ?_⟩
    obtain ⟨d1, d2, d3, rfl, rfl⟩ := setsI3 hs
    cases rw' with
    | cons r1 rr =>
      cases rr with
      | cons r2 rr =>
        cases rr with
        | cons r3 rr =>
          cases rr
          exact ⟨_, _, _, rfl, k1 α1 H1 _ (Ext.refl _ _) rs1 (((re1.set r1).set r2).set r3)⟩
theorem s_cAsg (hy : HyS X c CA XA G W sc N) {n : Nat} {tg e : PySem.Expr} {i : IS} {pos : Pos} (h : cAsg c n sc N tg e = some i) : PS X (.Assign [tg] e pos) (rdS X.K CA XA G w W i) := by
  obtain ⟨ihE, _, _, _, _, ihL⟩ := sdE c CA XA G n X W sc N hy.toHyF
  have F : FOk X CA XA G W (cE c n sc N) := ⟨ihE, fun e i h => (cE_star h).1⟩
  have hk : sc.kind = .function := by rw [← hy.sc]; exact hy.kind
  unfold cAsg at h
  split at h
  · cases h
  · rename_i names hsw
    have hw := swC_ok hy.sc hk hsw
    split at h
    · rename_i ts kt pt vs k2 pt2
      split at h
      · rename_i is l h1 h2
        split at h
        · rename_i hc
          cases h
          rw [Bool.and_eq_true, decide_eq_true_eq] at hc
          obtain ⟨hl, hlen⟩ := hc
          have ha := (F.pa h2).1
          unfold nm3 at h1
          split at h1
          · rename_i x y x' px y' py
            split at h1
            · rename_i he
              obtain ⟨rfl, rfl⟩ := he
              split at h1
              · rename_i i j hi hj
                split at h1
                · rename_i hij
                  cases h1
                  simp only [locs, List.all_cons, List.all_nil, Bool.and_true, Bool.and_eq_true, decide_eq_true_eq] at hl
                  exact s_par2 hy (ixOf_some hi) (ixOf_some hj) hij hl.1 hl.2 hlen.symm ha hw
                · cases h1
              · cases h1
            · cases h1
          · rename_i x y z x' px y' py z' pz
            split at h1
            · rename_i he
              obtain ⟨rfl, rfl, rfl⟩ := he
              split at h1
              · rename_i i j m hi hj hm
                split at h1
                · rename_i hij
                  cases h1
                  simp only [locs, List.all_cons, List.all_nil, Bool.and_true, Bool.and_eq_true, decide_eq_true_eq] at hl
                  exact s_par3 hy (ixOf_some hi) (ixOf_some hj) (ixOf_some hm) hij.1 hij.2.1 hij.2.2 hl.1 hl.2.1 hl.2.2 hlen.symm ha hw
                · cases h1
              · cases h1
            · cases h1
          · cases h1
        · cases h
      · cases h
    · cases h
  · rename_i hsw
    have hw := swC_ok hy.sc hk hsw
    split at h
    · cases h
    · rename_i hl
      obtain ⟨el, gs, scope, epos, t, p, rfl, rfl, hloc, hs⟩ := lcC_true (l := pos.line) hy.kind hy.sc hl
      split at h
      · rename_i t' p' ie hq he
        cases hq
        obtain ⟨j, hj, rfl⟩ := Option.map_eq_some_iff.mp h
        refine psImp (ihL el gs scope epos ie he j t p pos (ixOf_some hj) hloc hs) (asg_rd (fun _ _ _ h => h) fun v σ H Q ⟨α, ρ, S, d, rs, re, r, k⟩ => ?_)
        rw [asG, asT] at k
        exact k α H _ (Ext.refl _ _) rs (re.set r)
      · cases h
    · rename_i hl
      split at h
      · rename_i g ie h1 h2
        cases h
        exact s_asg (ihE _ _ h2) (q_cG hy h1) (lcC_false hy.kind hy.sc hl) hw (cG_star h1)
      · cases h
theorem s_aug (hy : HyS X c CA XA G W sc N) {i : Nat} {x : Str} {e : PySem.Expr} {ie : IE} {op : Operator} {o : BO} {p pos : Pos} (hi : N[i]? = some x) (hx : sc.names.lookup x = some .local ∨ sc.names.lookup x = some .cell) (ho : augC op = some o) (he : PE X e (rdE X.K CA XA G W ie)) :
    PS X (.AugAssign (.Name x p) op e pos) (rdS X.K CA XA G w W (.aug i o ie)) := by
  have hop : ∃ f : D → D → Store → Option (D × Store), OpR X (inplaceOp op) (rB X.K CA f) ∧ ∀ x y S r, ipD o x y S = some r → f x y S = some r := by
    cases op <;> first | (cases ho; done) | skip
    · cases ho; exact ⟨_, oi_add, fun x y S r h => by unfold ipD at h; split at h <;> first | exact h | (rename_i hq _ _; cases hq; done) | (rename_i hq; cases hq; done) | (cases h; done)⟩
    · cases ho; exact ⟨_, oi_sub, fun x y S r h => by unfold ipD at h; split at h <;> first | exact h | (rename_i hq _ _; cases hq; done) | (rename_i hq; cases hq; done) | (cases h; done)⟩
  obtain ⟨f, hf, hi2⟩ := hop
  refine psImp (ps_aug (i := i) (by rw [hy.nN]; exact hy.nd) (by rw [hy.nN]; exact hi) (by rw [hy.sc]; exact hx) he hf (by
    rcases hx with k | k
    · right; rw [hy.sc]; exact k
    · left; exact hy.cells x (by rw [hy.sc]; exact k))) fun D σ H ⟨α, ρ, S, rs, re, k⟩ => ?_
  rw [evS, Res.toS_bind] at k
  obtain ⟨d, hd, k⟩ := PostS.of k
  obtain ⟨v, hv, rv⟩ := re.get i d (slot_some hd)
  refine ⟨v, hv, ?_⟩
  rw [Res.toS_bind] at k
  refine ⟨α, ρ, S, rs, re, PostG.imp (PostS.toS rs re k) fun d2 α1 S1 H1 e1 rs1 k1 y ry => ?_⟩
  obtain ⟨z, S2, h2, k2⟩ := PostS.ofP k1
  refine ⟨α1, S1, d, d2, rs1, rv.mono rs.nt e1, ry, z, S2, hi2 _ _ _ _ h2, fun α' H' v' e2 rs2 rv2 => ?_⟩
  exact k2 α' H' _ e2 rs2 (((re.mono rs.nt e1).mono rs1.nt e2).set rv2)
theorem s_ite {t : PySem.Expr} {a b : List Stmt} {it : IE} {la lb : List IS} {p : Pos} (ht : PT X t (rdT X.K CA XA G W it)) (ha : PSs X a (rdSs X.K CA XA G w W la)) (hb : PSs X b (rdSs X.K CA XA G w W lb)) : PS X (.If t a b p) (rdS X.K CA XA G w W (.ite it la lb)) := by
  refine psImp (ps_if ht ha hb) fun D σ H ⟨α, ρ, S, rs, re, k⟩ => ?_
  rw [evS] at k
  refine ⟨α, ρ, S, rs, re, PostG.imp (PostS.toS rs re k) fun b α1 S1 H1 e1 rs1 k1 => ?_⟩
  cases b with
  | true => exact ⟨α1, ρ, S1, rs1, re.mono rs.nt e1, k1⟩
  | false => exact ⟨α1, ρ, S1, rs1, re.mono rs.nt e1, k1⟩
theorem s_whl (hy : HyS X c CA XA G W sc N) {t : PySem.Expr} {b : List Stmt} {it : IE} {lb : List IS} {p : Pos} (ht : PT X t (rdT X.K CA XA G W it)) (hb : PSs X b (rdSs X.K CA XA G w W lb)) : PS X (.While t b [] p) (rdS X.K CA XA G w W (.whl it lb)) := by
  refine psImp (ps_while hy.pass ht hb) fun D σ H ⟨α, ρ, S, rs, re, k⟩ => ?_
  rw [evS] at k
  refine ⟨fun m σ' H' => ∃ α' ρ' S', RelS X.K CA α' S' H' ∧ RelE X.K α' H' ρ' σ' ∧ PostS X.K CA XA W α' H' (whlL (evT G it) (fun ρ S => evSs G w lb ρ S) m ρ' S') D, ⟨w, α, ρ, S, rs, re, k⟩, ?_⟩
  rintro m σ1 H1 ⟨α1, ρ1, S1, rs1, re1, k1⟩
  cases m with
  | zero => rw [whlL] at k1; exact False.elim k1
  | succ n =>
    rw [whlL] at k1
    refine ⟨α1, ρ1, S1, rs1, re1, PostG.imp (PostS.toS rs1 re1 k1) fun b α2 S2 H2 e2 rs2 k2 => ?_⟩
    have re2 := re1.mono rs1.nt e2
    cases b with
    | false =>
      show if (false : Bool) = true then _ else _
      rw [if_neg Bool.false_ne_true] at k2 ⊢
      exact k2 α2 H2 σ1 (Ext.refl _ _) rs2 re2
    | true =>
      show if (true : Bool) = true then _ else _
      rw [if_pos rfl] at k2 ⊢
      refine ⟨_, fun σ' H' h => ⟨n, Nat.lt_succ_self n, h⟩, α2, ρ1, S2, rs2, re2, ?_⟩
      revert k2
      generalize evSs G w lb ρ1 S2 = r
      intro k2
      cases r with
      | ok f ρ3 S3 =>
        cases f with
        | nx => exact fun α' H' σ' e rs re => ⟨α', ρ3, S3, rs, re, PostS.mono e k2⟩
        | ct => exact fun α' H' σ' e rs re => ⟨α', ρ3, S3, rs, re, PostS.mono e k2⟩
        | bk => exact k2
        | rt d => exact k2
      | exc x ρ3 S3 => exact k2
      | bad => exact k2
theorem s_fr (hy : HyS X c CA XA G W sc N) {tg it : PySem.Expr} {b : List Stmt} {t : IT} {kk : IK} {its : List IE} {lb : List IS} {p : Pos} (hi : PI X tg it (rdI X.K CA XA G W kk its)) (hg : PG X tg (gT X.K CA t)) (hs : notSet it = true) (hb : PSs X b (rdSs X.K CA XA G w W lb)) : PS X (.For tg it b [] p) (rdS X.K CA XA G w W (.fr t kk its lb)) := by
  refine psImp (ps_for hy.pass hy.calm hi hg hb (noFold hs _)) fun D σ H ⟨α, ρ, S, rs, re, k⟩ => ?_
  rw [evS] at k
  refine ⟨α, ρ, S, rs, re, PostG.imp (PostS.toS rs re k) fun xs α1 S1 H1 e1 rs1 k1 => ?_⟩
  have re1 := re.mono rs.nt e1
  cases hit : itD kk xs S1 with
  | none => rw [hit] at k1; exact False.elim k1
  | some q =>
    obtain ⟨items, g⟩ := q
    rw [hit] at k1
    refine ⟨items, g, rfl, fun J jok => ?_⟩
    let B : Nat → L2.St → Hp → Prop := fun i σ' H' => ∃ α' ρ' S', Ext α1 H1 α' H' ∧ RelS X.K CA α' S' H' ∧ RelE X.K α' H' ρ' σ' ∧ PostS X.K CA XA W α' H' (forL (asT t) (fun ρ S => evSs G w lb ρ S) g (items.drop i) ρ' S') D
    refine ⟨fun i m σ' H' => m = items.length - i ∧ i ≤ items.length ∧ B i σ' H', ⟨items.length, rfl, Nat.zero_le _, α1, ρ, S1, Ext.refl _ _, rs1, re1, k1⟩, ?_⟩
    rintro i m σ2 H2 ⟨rfl, hil, α2, ρ2, S2, e2, rs2, re2, k2⟩
    by_cases hlt : i < items.length
    · right
      rw [List.drop_eq_getElem_cons hlt, forL] at k2
      by_cases hgo : gOk g S2 = true
      · rw [if_pos hgo] at k2
        obtain ⟨jgo, jy⟩ := (jok α2 S2 H2 e2 rs2 hgo i).1 items[i] (List.getElem?_eq_getElem hlt)
        refine ⟨jgo, B (i + 1), fun σ' H' b => ⟨items.length - (i + 1), by omega, rfl, hlt, b⟩, fun x H3 y => ?_⟩
        obtain ⟨e3, rs3, rx⟩ := jy x H3 y
        cases has : asT t items[i] ρ2 with
        | none => rw [has] at k2; exact False.elim k2
        | some ρ3 =>
          rw [has] at k2
          refine ⟨α2, ρ2, S2, items[i], ρ3, rs3, re2.mono rs2.nt e3, rx, has, fun σ4 re4 _ _ => ⟨α2, ρ3, S2, rs3, re4, ?_⟩⟩
          have k3 := PostS.mono e3 k2
          revert k3
          dsimp only
          generalize evSs G w lb ρ3 S2 = r
          intro k3
          cases r with
          | ok f ρ5 S5 =>
            cases f with
            | nx => exact fun α' H' σ' e rs re => ⟨α', ρ5, S5, (e2.trans e3).trans e, rs, re, PostS.mono e k3⟩
            | ct => exact fun α' H' σ' e rs re => ⟨α', ρ5, S5, (e2.trans e3).trans e, rs, re, PostS.mono e k3⟩
            | bk => exact k3
            | rt d => exact k3
          | exc x ρ5 S5 => exact k3
          | bad => exact k3
      · rw [if_neg hgo] at k2; exact False.elim k2
    · left
      have hi : i = items.length := by omega
      rw [hi, List.drop_length, forL] at k2
      by_cases hgo : gOk g S2 = true
      · rw [if_pos hgo] at k2
        exact ⟨(jok α2 S2 H2 e2 rs2 hgo i).2 hi, k2 α2 H2 σ2 (Ext.refl _ _) rs2 re2⟩
      · rw [if_neg hgo] at k2; exact False.elim k2
theorem ss_nil : PSs X [] (rdSs X.K CA XA G w W []) := pssImp pss_nil fun D σ H ⟨α, ρ, S, rs, re, k⟩ => by
  rw [evSs] at k; exact k α H σ (Ext.refl _ _) rs re
theorem ss_cons {s : Stmt} {ss : List Stmt} {i : IS} {l : List IS} (h1 : PS X s (rdS X.K CA XA G w W i)) (h2 : PSs X ss (rdSs X.K CA XA G w W l)) : PSs X (s :: ss) (rdSs X.K CA XA G w W (i :: l)) := by
  refine pssImp (pss_cons h1 h2) fun D σ H ⟨α, ρ, S, rs, re, k⟩ => ?_
  rw [evSs] at k
  exact ⟨α, ρ, S, rs, re, PostS.bind k⟩
end

theorem sdS (c : Cc) (CA XA : Nat → Option Addr) (G : Gm) (w : Nat) : ∀ (n : Nat) (X : Cx) (W : WX) (sc : Scope) (N : List Str), HyS X c CA XA G W sc N →
    (∀ s i, cS c n sc N s = some i → PS X s (rdS X.K CA XA G w W i)) ∧ (∀ ss l, cSs c n sc N ss = some l → PSs X ss (rdSs X.K CA XA G w W l))
  | 0, X, W, sc, N, hy => ⟨fun s i h => (by cases h), fun ss l h => (by cases h)⟩
  | n + 1, X, W, sc, N, hy => by
    obtain ⟨ihS, ihSs⟩ := sdS c CA XA G w n X W sc N hy
    obtain ⟨ihE, ihT, _⟩ := sdE c CA XA G n X W sc N hy.toHyF
    have F : FOk X CA XA G W (cE c n sc N) := ⟨ihE, fun e i h => (cE_star h).1⟩
    have th : TgH X true sc N := ⟨hy.sc, hy.nN, hy.nd, hy.calm, fun _ x hx => hy.cells x (by rw [hy.sc]; exact hx)⟩
    refine ⟨fun s i h => ?_, fun ss l h => ?_⟩
    · unfold cS at h
      split at h
      · cases h; exact s_doc
      · split at h
        · rename_i hn
          obtain ⟨ie, h1, rfl⟩ := Option.map_eq_some_iff.mp h
          exact s_ex hn (ihE _ _ h1)
        · cases h
      · exact s_cAsg hy h
      · split at h
        · rename_i h1 h2 h3 h4
          split at h
          · cases h
            exact s_aug hy (ixOf_some h2) (.inl h1) h3 (ihE _ _ h4)
          · cases h
        · rename_i h1 h2 h3 h4
          split at h
          · cases h
            exact s_aug hy (ixOf_some h2) (.inr h1) h3 (ihE _ _ h4)
          · cases h
        · cases h
      · obtain ⟨ie, h1, rfl⟩ := Option.map_eq_some_iff.mp h
        exact s_ret (ihE _ _ h1)
      · cases h; exact s_retN
      · split at h
        · rename_i h1 h2 h3
          cases h
          exact s_ite (ihT _ _ h1) (ihSs _ _ h2) (ihSs _ _ h3)
        · cases h
      · split at h
        · rename_i h1 h2
          cases h
          exact s_whl hy (ihT _ _ h1) (ihSs _ _ h2)
        · cases h
      · split at h
        · rename_i h1 h2 h3
          split at h
          · rename_i hs
            cases h
            exact s_fr hy (q_iter hy.toHy F h1) (q_tg th h2) hs (ihSs _ _ h3)
          · cases h
        · cases h
      · cases h; exact s_pass
      · cases h; exact s_brk
      · cases h; exact s_cont
      · cases h; exact s_never
      · cases h
    · unfold cSs at h
      split at h
      · cases h; exact ss_nil
      · split at h
        · rename_i h1 h2
          cases h
          exact ss_cons (ihS _ _ h1) (ihSs _ _ h2)
        · cases h
end MP
end

section
set_option maxRecDepth 100000
set_option maxHeartbeats 4000000
/-! MP15: a program of defs and classes. -/
namespace MP
open PySem PySem.Spec L2

structure Src where
  cc : Cc
  defs : List He.DefD
  Ns : List (List Str)
  prg : Prg

def smp : D → Bool
  | .non => true
  | .bl _ => true
  | .int _ => true
  | .str _ => true
  | _ => false
def toDv : D → He.Dv
  | .bl b => .bl b
  | .int i => .int i
  | .str x => .str x
  | _ => .non
theorem toDv_ok {K : PySem.W.Frag} {α : List Addr} {H : Hp} {d : D} (h : smp d = true) : RV K α H d ((toDv d).v K) := by
  cases d with
  | non => exact .non
  | bl b => exact .bl b
  | int i => exact .int i
  | str x => exact .str x
  | _ => cases h
theorem toDvs_ok {K : PySem.W.Frag} {α : List Addr} {H : Hp} : ∀ {ds : List D}, ds.all smp = true → RVs K α H ds ((ds.map toDv).map (He.Dv.v K))
  | [], _ => .nil
  | d :: ds, h => by
    rw [List.all_cons, Bool.and_eq_true] at h
    exact .cons (toDv_ok h.1) (toDvs_ok h.2)

/-! ### constants of the text -/
mutual
def gcB (K : PySem.W.Frag) : D → Value → Bool
  | .non, u => (match u with | .none => true | _ => false)
  | .bl b, u => (match u with | .bool c => b == c | _ => false)
  | .int i, u => (match u with | .int j _ => decide (i = j) | _ => false)
  | .str x, u => (match u with | .str y _ => decide (x = y) | _ => false)
  | .tup ds, u => (match u with
    | .ref a => (match K.lookup a with
      | some ⟨.type c, _, .seq its _, _⟩ => decide (c = "tuple") && decide (its.size ≤ sizeLine) && gcBs K ds its.toList
      | _ => false)
    | _ => false)
  | .lsf ds, u => (match u with
    | .ref a => (match K.lookup a with
      | some ⟨.type c, none, .seq its _, _⟩ => decide (c = "list") && decide (its.size ≤ sizeLine) && gcBs K ds its.toList
      | _ => false)
    | _ => false)
  | .obj _, _ => false
def gcBs (K : PySem.W.Frag) : List D → List Value → Bool
  | [], us => (match us with | [] => true | _ => false)
  | d :: ds, us => (match us with
    | [] => false
    | u :: us => gcB K d u && gcBs K ds us)
end
mutual
theorem gcB_ok {K : PySem.W.Frag} : ∀ {d : D} {u : Value}, gcB K d u = true → ∃ v, RelV v u ∧ ∀ α H, RV K α H d v
  | .non, u, h => by
    unfold gcB at h
    split at h
    · exact ⟨.non, rfl, fun _ _ => .non⟩
    · cases h
  | .bl b, u, h => by
    unfold gcB at h
    split at h
    · rw [eq_of_beq h]; exact ⟨.bl _, rfl, fun _ _ => .bl _⟩
    · cases h
  | .int i, u, h => by
    unfold gcB at h
    split at h
    · rw [of_decide_eq_true h]; exact ⟨.int _, ⟨_, rfl⟩, fun _ _ => .int _⟩
    · cases h
  | .str x, u, h => by
    unfold gcB at h
    split at h
    · rw [of_decide_eq_true h]; exact ⟨.str _, ⟨_, rfl⟩, fun _ _ => .str _⟩
    · cases h
  | .tup ds, u, h => by
    unfold gcB at h
    split at h
    · rename_i a
      split at h
      · rename_i c od its n sl hk
        rw [Bool.and_eq_true, Bool.and_eq_true] at h
        obtain ⟨⟨h1, h2⟩, h3⟩ := h
        obtain ⟨vs, h4, h5⟩ := gcBs_ok h3
        exact ⟨.ref a, rfl, fun α H => .tup (.inr ⟨_, its, n, hk, congrArg Value.type (of_decide_eq_true h1), rfl, of_decide_eq_true h2, h4⟩) (h5 α H)⟩
      · cases h
    · cases h
  | .lsf ds, u, h => by
    unfold gcB at h
    split at h
    · rename_i a
      split at h
      · rename_i c its n sl hk
        rw [Bool.and_eq_true, Bool.and_eq_true] at h
        obtain ⟨⟨h1, h2⟩, h3⟩ := h
        obtain ⟨vs, h4, h5⟩ := gcBs_ok h3
        exact ⟨.ref a, rfl, fun α H => .lsf (.inr ⟨_, its, n, hk, congrArg Value.type (of_decide_eq_true h1), rfl, rfl, of_decide_eq_true h2, h4⟩) (h5 α H)⟩
      · cases h
    · cases h
  | .obj _, u, h => by cases h
theorem gcBs_ok {K : PySem.W.Frag} : ∀ {ds : List D} {us : List Value}, gcBs K ds us = true → ∃ vs, Vals vs us ∧ ∀ α H, RVs K α H ds vs
  | [], us, h => by
    unfold gcBs at h
    split at h
    · exact ⟨[], .nil, fun _ _ => .nil⟩
    · cases h
  | d :: ds, us, h => by
    unfold gcBs at h
    split at h
    · cases h
    · rw [Bool.and_eq_true] at h
      obtain ⟨v, h1, h2⟩ := gcB_ok h.1
      obtain ⟨vs, h3, h4⟩ := gcBs_ok h.2
      exact ⟨v :: vs, .cons h1 h3, fun α H => .cons (h2 α H) (h4 α H)⟩
end

/-! ### what K is to hold -/
def CAof (K : PySem.W.Frag) (s : Src) : Nat → Option Addr := fun i => (s.cc.cls[i]?).map (He.ga K)
def XA0 : Nat → Option Addr := fun _ => none
def oneB (K : PySem.W.Frag) (s : Src) (c : Str) (i : Nat) : Bool :=
  (He.Fa.glo c).ok K && (He.Fa.cls c).ok K && (He.Fa.mkr c).ok K && He.eqO (PySem.W.findIn K (.ref (He.ga K c)) "__class__") (some (some (.builtin "object.__class__"))) && decide (PySem.W.mroIn K (He.ga K c) (.type "object") = some true) &&
  (tyNames.all fun T => decide (PySem.W.kitOne K (.ref (He.ga K c)) (.type T) = some false)) && (("NoneType" :: tyNames).all fun T => decide (PySem.W.kitOne K (.type T) (.ref (He.ga K c)) = some false)) &&
  ((List.range s.cc.cls.length).all fun j => match s.cc.cls[j]? with | some c' => decide (PySem.W.kitOne K (.ref (He.ga K c)) (.ref (He.ga K c')) = some (decide (i = j))) | none => true) && (s.cc.attrs.all fun f => (He.Fa.noat c f).ok K)
def factsB (s : Src) (K : PySem.W.Frag) : Bool :=
  (bltNames.all fun x => (He.Fa.free x).ok K) && decide (PySem.W.specialIn K (.builtin "object.__class__") "__get__" = some (some (.builtin "getset_descriptor.__get__"))) && decide (PySem.W.takesIn K (.builtin "object.__class__") = some true) &&
  ((List.range s.cc.cls.length).all fun i => match s.cc.cls[i]? with | some c => oneB K s c i | none => true) &&
  ((List.range s.cc.gcs.length).all fun i => match s.cc.gcs[i]? with | some x => (match PySem.W.nsIn K mainGlobals x with | some (some u) => gcB K (s.prg.gc.getD i .non) u | _ => false) | none => true) &&
  (s.cc.fns.all fun r => !r.glob || (He.Fa.glo r.name).ok K)
theorem all_range {n : Nat} {p : Nat → Bool} (h : (List.range n).all p = true) {i : Nat} (hi : i < n) : p i = true := List.all_eq_true.mp h i (List.mem_range.mpr hi)
structure FK (s : Src) (K : PySem.W.Frag) : Prop where
  blt : ∀ x ∈ bltNames, (He.Fa.free x).ok K = true
  gs : PySem.W.specialIn K (.builtin "object.__class__") "__get__" = some (some (.builtin "getset_descriptor.__get__"))
  tk : PySem.W.takesIn K (.builtin "object.__class__") = some true
  cls : ∀ (i : Nat) (c : Str), s.cc.cls[i]? = some c → oneB K s c i = true
  gc : ∀ (i : Nat) (x : Str), s.cc.gcs[i]? = some x → ∃ u, PySem.W.nsIn K mainGlobals x = some (some u) ∧ gcB K (s.prg.gc.getD i .non) u = true
  fn : ∀ (i : Nat) (r : FnC), s.cc.fns[i]? = some r → r.glob = true → (He.Fa.glo r.name).ok K = true
theorem facts_ok {s : Src} {K : PySem.W.Frag} (h : factsB s K = true) : FK s K := by
  unfold factsB at h
  simp only [Bool.and_eq_true] at h
  obtain ⟨⟨⟨⟨⟨h1, h2⟩, h3⟩, h4⟩, h5⟩, h6⟩ := h
  refine ⟨fun x hx => List.all_eq_true.mp h1 x hx, of_decide_eq_true h2, of_decide_eq_true h3, fun i c hc => ?_, fun i x hx => ?_, fun i r hr hg => ?_⟩
  · have := all_range h4 (List.getElem?_eq_some_iff.mp hc).1
    rw [hc] at this; exact this
  · have := all_range h5 (List.getElem?_eq_some_iff.mp hx).1
    rw [hx] at this
    dsimp only at this
    split at this
    · rename_i u hu; exact ⟨u, hu, this⟩
    · cases this
  · have := List.all_eq_true.mp h6 r (List.mem_of_getElem? hr)
    rw [hg] at this; exact this
theorem oneB_d {s : Src} {K : PySem.W.Frag} {c : Str} {i : Nat} (h : oneB K s c i = true) :
    (He.Fa.glo c).ok K = true ∧ (He.Fa.cls c).ok K = true ∧ (He.Fa.mkr c).ok K = true ∧ PySem.W.findIn K (.ref (He.ga K c)) "__class__" = some (some (.builtin "object.__class__")) ∧ PySem.W.mroIn K (He.ga K c) (.type "object") = some true ∧
    (∀ T ∈ tyNames, PySem.W.kitOne K (.ref (He.ga K c)) (.type T) = some false) ∧ (∀ T ∈ "NoneType" :: tyNames, PySem.W.kitOne K (.type T) (.ref (He.ga K c)) = some false) ∧
    (∀ (j : Nat) (c' : Str), s.cc.cls[j]? = some c' → PySem.W.kitOne K (.ref (He.ga K c)) (.ref (He.ga K c')) = some (decide (i = j))) ∧ ∀ f ∈ s.cc.attrs, (He.Fa.noat c f).ok K = true := by
  unfold oneB at h
  simp only [Bool.and_eq_true] at h
  obtain ⟨⟨⟨⟨⟨⟨⟨⟨h1, h2⟩, h3⟩, h4⟩, h5⟩, h6⟩, h7⟩, h8⟩, h9⟩ := h
  refine ⟨h1, h2, h3, He.eqO_ok h4, of_decide_eq_true h5, fun T hT => of_decide_eq_true (List.all_eq_true.mp h6 T hT), fun T hT => of_decide_eq_true (List.all_eq_true.mp h7 T hT), fun j c' hc => ?_, fun f hf => List.all_eq_true.mp h9 f hf⟩
  have := all_range h8 (List.getElem?_eq_some_iff.mp hc).1
  rw [hc] at this
  exact of_decide_eq_true this
theorem FK.clf {s : Src} {K : PySem.W.Frag} (k : FK s K) : ClF K (CAof K s) s.cc.attrs := by
  have at_ : ∀ {i : Nat} {C : Addr}, CAof K s i = some C → ∃ c, s.cc.cls[i]? = some c ∧ He.ga K c = C := fun {i C} h => Option.map_eq_some_iff.mp h
  refine ⟨fun i C h => ?_, fun i C h => ?_, k.gs, k.tk, fun i C h => ?_, fun i C T h hT => ?_, fun i C j C' h h' => ?_, fun i C T h hT => ?_, fun i C f h hf => ?_⟩
  all_goals
    obtain ⟨c, hc, rfl⟩ := at_ h
    obtain ⟨h1, h2, h3, h4, h5, h6, h7, h8, h9⟩ := oneB_d (k.cls i c hc)
  · obtain ⟨b1, b2⟩ := He.ba (show (PySem.W.plainGet K (He.ga K c) Str.empty && (PySem.W.hasDictIn K (He.ga K c) && (PySem.W.plainOver K (He.ga K c) && He.eqO (PySem.W.findIn K (.ref (He.ga K c)) "__setattr__") (some (some (.builtin "object.__setattr__")))))) = true from h2)
    obtain ⟨b2, b3⟩ := He.ba b2
    obtain ⟨b3, b4⟩ := He.ba b3
    exact ⟨b1, b2, b3, He.eqO_ok b4⟩
  · exact h4
  · exact h5
  · exact h6 T hT
  · obtain ⟨c', hc', rfl⟩ := at_ h'
    exact h8 j c' hc'
  · exact h7 T hT
  · exact He.noat_ok (h9 f hf)

/-! ### what the text is to be -/
structure OneOk (s : Src) (i : Nat) (r : FnC) (d : He.DefD) (N : List Str) (f : FnI) : Prop where
  sco : FnScope N r.ps d.scope
  ps : r.ps.length = f.ps
  n : N.length = f.n
  body : cSs s.cc 60 d.scope N d.body = some f.body
  nd : r.nd = (s.prg.dfl.getD i []).length
  dfl : d.dfl = (s.prg.dfl.getD i []).map toDv
  smp : (s.prg.dfl.getD i []).all smp = true
  at_ : r.glob = true → d.at_ = (r.name, none)
  bi : ∀ (K : PySem.W.Frag) (f : Addr) (fd : FuncData), FunD K d.name d.qual d.params d.body d.scope (d.dvs K) (d.kws K) f fd → ∀ j, j ≤ r.nd → ∃ ds, Vals ((d.dvs K).drop j) ds ∧ Binds K fd r.ps ds
structure SrcOk (s : Src) : Prop where
  fn : ∀ (i : Nat) (r : FnC), s.cc.fns[i]? = some r → ∃ (d : He.DefD) (N : List Str) (f : FnI), s.defs[i]? = some d ∧ s.Ns[i]? = some N ∧ s.prg.fns[i]? = some f ∧ OneOk s i r d N f
  cl : ∀ (i : Nat) (c : Str) (m : Nat), s.cc.cls[i]? = some c → s.cc.inits[i]? = some m → ∃ (ci : ClI) (r : FnC) (d : He.DefD), s.prg.cls[i]? = some ci ∧ s.cc.fns[ci.init]? = some r ∧ s.defs[ci.init]? = some d ∧ d.at_ = (c, some ("__init__" : Str)) ∧ r.ps.length = m + 1
theorem gm_dfl (P : Prg) (fu k i : Nat) : (gm P fu k).dfl i = P.dfl.getD i [] := by cases k <;> rfl
theorem gm_new {P : Prg} {fu k c : Nat} {ci : ClI} {fi : FnI} (h : P.cls[c]? = some ci) (h2 : P.fns[ci.init]? = some fi) (ds : List D) (S : Store) : (gm P fu (k + 1)).new c ds S = ((gm P fu (k + 1)).fn ci.init (D.obj S.length :: ds) (S ++ [SO.ins c []])).bind fun v S' => match v with
    | .non => .ok (D.obj S.length) S'
    | _ => .bad := by
  first
    | (simp only [gm, h, h2]; done)
    | (simp only [gm, h, h2]; congr 1)
theorem gm_gc (P : Prg) (fu k i : Nat) : (gm P fu k).gc i = P.gc.getD i .non := by cases k <;> rfl

section
variable {P : Program} {w : World} {K : PySem.W.Frag} {mg : Str → Option Value} {base : Heap} {s : Src}
/-- the defs as the heap has them -/
def Defs (s : Src) (K : PySem.W.Frag) : Prop := ∀ (i : Nat) (d : He.DefD), s.defs[i]? = some d → ∃ fd, FunD K d.name d.qual d.params d.body d.scope (d.dvs K) (d.kws K) (He.fAd K d.at_) fd
def LvOk (P : Program) (w : World) (K : PySem.W.Frag) (mg : Str → Option Value) (base : Heap) (s : Src) (fu k : Nat) : Prop := ∀ (i : Nat) (r : FnC) (d : He.DefD) (fd : FuncData), s.cc.fns[i]? = some r → s.defs[i]? = some d → FunD K d.name d.qual d.params d.body d.scope (d.dvs K) (d.kws K) (He.fAd K d.at_) fd →
  FnOk P w K mg base (L2.CX P w) (2 * k) (He.fAd K d.at_) fd r.ps (spF K (CAof K s) XA0 ((gm s.prg fu k).fn i))
theorem hy_of {fu k : Nat} {X : Cx} {W : WX} {sc : Scope} {N : List Str} (so : SrcOk s) (fk : FK s K) (df : Defs s K) (lv : LvOk P w K mg base s fu k) (KX : K.In base) (G : base.Ns mainGlobals mg)
    (eP : X.prog = P) (ew : X.w = w) (eK : X.K = K) (em : X.mg = mg) (eb : X.base = base) (hsc : X.env.scope = sc) (hN : X.N = N) (nd : N.Nodup) (hc : X.calm = true) (tk : Takes X W) (hr : Room (2 * k + 1) X.A) (hk : X.env.scope.kind = .function) (hp : PassesOwn (model X.prog X.w) X.A X.env X.xe)
    (hcl : ∀ x, X.env.scope.names.lookup x = some .cell → X.fn x = true) : HyS X s.cc (CAof K s) XA0 (gm s.prg fu k) W sc N := by
  subst eP ew eK em eb
  refine { sc := hsc, nN := hN, nd := nd, calm := hc, tk := tk, room := ⟨_, hr⟩, blt := fun x hx => He.free_ok KX G (fk.blt x hx), cl := fk.clf, gc := fun i x hx => ?_, fn := fun f r hf hg => ⟨?_⟩, cln := fun i x hx => ?_, made := fun i x m hx hm => ⟨?_⟩, kind := hk, pass := hp, cells := hcl }
  · obtain ⟨u, h1, h2⟩ := fk.gc i x hx
    obtain ⟨v, h3, h4⟩ := gcB_ok h2
    exact ⟨v, u, PySem.W.mg_of KX G h1, h3, fun α H => by rw [gm_gc]; exact h4 α H⟩
  · obtain ⟨d, N', f', h1, h2, h3, o⟩ := so.fn f r hf
    obtain ⟨fd, F⟩ := df f d h1
    have hat := o.at_ hg
    have ha : He.fAd X.K d.at_ = He.ga X.K r.name := by rw [hat]; rfl
    refine ⟨He.fAd X.K d.at_, fd, 2 * k, by rw [ha]; exact He.glo_ok KX G (fk.fn f r hf hg), F.kp, hr.mono (Nat.le_succ _), lv f r d fd hf h1 F, fun j hj => ?_⟩
    obtain ⟨ds, b1, b2⟩ := o.bi _ _ _ F j hj
    refine ⟨_, ds, b1, b2, fun α H => ?_⟩
    rw [gm_dfl]
    show RVs X.K α H _ ((d.dfl.map (He.Dv.v X.K)).drop j)
    rw [o.dfl]
    exact (toDvs_ok o.smp).drop j
  · obtain ⟨h1, _⟩ := oneB_d (fk.cls i x hx)
    exact ⟨He.ga X.K x, by unfold CAof; rw [hx]; rfl, He.glo_ok KX G h1⟩
  · obtain ⟨ci, r, d, h1, h2, h3, h4, h5⟩ := so.cl i x m hx hm
    obtain ⟨g1, g2, g3, _⟩ := oneB_d (fk.cls i x hx)
    obtain ⟨d', N', f', h1', h2', h3', o⟩ := so.fn ci.init r h2
    rw [h3] at h1'; cases h1'
    obtain ⟨fd, F⟩ := df ci.init d h3
    have ha : He.fAd X.K d.at_ = He.ma X.K (He.ga X.K x) "__init__" := by rw [h4]; rfl
    have hmk := He.mkr_ok g3
    rw [← ha] at hmk
    obtain ⟨ds, b1, b2⟩ := o.bi _ _ _ F r.nd (Nat.le_refl _)
    have hd0 : (d.dvs X.K).drop r.nd = [] := List.drop_eq_nil_of_le (by
      show (d.dfl.map (He.Dv.v X.K)).length ≤ _
      rw [o.dfl, List.length_map, List.length_map, o.nd]; exact Nat.le_refl _)
    rw [hd0] at b1
    cases b1
    refine ⟨He.ga X.K x, He.fAd X.K d.at_, fd, 2 * k, r.ps, (gm s.prg fu k).fn ci.init, by unfold CAof; rw [hx]; rfl, He.glo_ok KX G g1, hmk, hr, lv ci.init r d fd h2 h3 F, h5, b2, fun ds S => ?_⟩
    cases k with
    | zero => rfl
    | succ k =>
      exact gm_new h1 h3' ds S
theorem start_rel {α : List Addr} {H : Hp} {N : List Str} {ds : List D} {vs : List V} {n : Nat} (hn : N.length = n) (r : RVs K α H ds vs) : RelE K α H (startD n ds) (L2.start N vs) := by
  have hl := r.length
  unfold startD L2.start
  refine ⟨by simp only [List.length_append, List.length_map, List.length_replicate, hn, hl], fun i d h => ?_⟩
  by_cases hi : i < ds.length
  · rw [List.getElem?_append_left (by simpa using hi), List.getElem?_map, Option.map_eq_some_iff] at h
    obtain ⟨d', h1, h2⟩ := h
    cases h2
    obtain ⟨v, h3, h4⟩ := r.got h1
    refine ⟨v, ?_, h4⟩
    rw [List.getElem?_append_left (by simp; omega), List.getElem?_map, h3]
    rfl
  · rw [List.getElem?_append_right (by simp; omega)] at h
    have := List.mem_of_getElem? h
    rw [List.mem_replicate] at this
    exact absurd this.2 (by simp)
theorem lv_ok (so : SrcOk s) (fk : FK s K) (df : Defs s K) (KX : K.In base) (G : base.Ns mainGlobals mg) (fu : Nat) : ∀ k, LvOk P w K mg base s fu k
  | 0 => fun i r d fd h1 h2 F => ⟨fun vs H Q E ⟨α, S, ds, rs, rv, k⟩ => False.elim k, fun A outer sh H args us vs Q E hr he hb hv ⟨α, S, ds, rs, rv, k⟩ => False.elim k⟩
  | k + 1 => fun i r d fd h1 h2 F => by
    have ih := lv_ok so fk df KX G fu k
    obtain ⟨d', N, f, e1, e2, e3, o⟩ := so.fn i r h1
    rw [h2] at e1; cases e1
    have hrun : ∀ ds S, (gm s.prg fu (k + 1)).fn i ds S = runF (gm s.prg fu k) fu f ds S := fun ds S => by
      show (match s.prg.fns[i]? with
        | some fi => runF (gm s.prg fu k) fu fi ds S
        | none => .bad) = _
      rw [e3]
    have len : ∀ vs H Q E, spF K (CAof K s) XA0 ((gm s.prg fu (k + 1)).fn i) vs H Q E → vs.length = r.ps.length := fun vs H Q E ⟨α, S, ds, rs, rv, kk⟩ => by
      rw [hrun] at kk
      unfold runF at kk
      split at kk
      · rename_i hl; rw [← rv.length, hl, o.ps]
      · exact False.elim kk
    refine FunD.ok (k := 2 * k + 1) F o.sco len fun cdv A outer sh H vs Q E hr ⟨α, S, ds, rs, rv, kk⟩ => ?_
    have hy : HyS (cxOf (L2.CX P w) P w K mg base N d.qual d.scope (He.fAd K d.at_) cdv A outer sh H E) s.cc (CAof K s) XA0 (gm s.prg fu k) (fun cls dd _ H => E cls dd H) d.scope N :=
      hy_of so fk df ih KX G rfl rfl rfl rfl rfl rfl rfl o.sco.nd rfl (L2.takes_of rfl rfl rfl rfl) hr o.sco.kind (L2.passes_of rfl) fun _ _ => rfl
    refine ⟨_, (sdS s.cc (CAof K s) XA0 (gm s.prg fu k) fu 60 _ _ _ _ hy).2 _ _ o.body, α, startD f.n ds, S, rs, start_rel o.n rv, ?_⟩
    rw [hrun] at kk
    unfold runF at kk
    split at kk
    · revert kk
      generalize evSs (gm s.prg fu k) fu f.body (startD f.n ds) S = rr
      intro kk
      cases rr with
      | ok g ρ S' =>
        cases g with
        | nx => exact fun α' H' σ' e rs' re' => kk α' H' e rs' _ .non
        | rt d => exact fun α' H' v e rs' rv' => kk α' H' e rs' v rv'
        | bk => exact False.elim kk
        | ct => exact False.elim kk
      | exc x ρ S' => exact fun α' H' σ' cls dd e rs' re' rx => kk α' H' cls dd e rs' rx
      | bad => exact False.elim kk
    · exact False.elim kk
end
end MP
end

section
set_option maxRecDepth 100000
set_option maxHeartbeats 4000000
/-! MP16: the end of a law. -/
namespace MP
open PySem PySem.Spec L2
def obsM (s : Src) (K : PySem.W.Frag) : He.AlD := (factsB s K && s.defs.all fun d => d.ok K, s.defs.map fun d => He.fnW K d.at_)
def SaysM (s : Src) (K : PySem.W.Frag) : Prop := obsM s K = He.valD s.defs
def obsMG (n : Nat) (s : Src) (g : Addr → Option Obj) : He.AlD := obsM s (He.frG g (He.asD g n))
def hookM (n : Nat) (s : Src) : PySem.W.Hook where
  α := He.AlD
  obs := fun h => obsMG n s h.heap.get?
  val := fun _ => He.valD s.defs
  says := fun _ h => ∃ K : PySem.W.Frag, K.In h ∧ SaysM s K
  of := fun _ _ e => ⟨_, He.frG_in, e⟩
  keeps := fun _ _ _ ⟨K, hK, c⟩ k => ⟨K, PySem.W.Frag.In.keeps hK k, c⟩
theorem obsMG_eq {n : Nat} {s : Src} {g : Addr → Option Obj} {h : Shared} (e : ∀ a, g a = h.heap.get? a) : obsMG n s g = (hookM n s).obs h := by
  rw [show g = h.heap.get? from funext e] <;> rfl
theorem SaysM.facts {s : Src} {K : PySem.W.Frag} (c : SaysM s K) : FK s K :=
  facts_ok (He.ba (show (factsB s K && s.defs.all fun d => d.ok K) = true from congrArg (fun z : He.AlD => z.1) c)).1
theorem SaysM.defs {s : Src} {K : PySem.W.Frag} (c : SaysM s K) : Defs s K := fun i d h => by
  have c2 := (He.ba (show (factsB s K && s.defs.all fun d => d.ok K) = true from congrArg (fun z : He.AlD => z.1) c)).2
  have e2 : (s.defs.map fun d => He.fnW K d.at_)[i]? = (s.defs.map He.DefD.val)[i]? := by
    rw [show s.defs.map (fun d => He.fnW K d.at_) = s.defs.map He.DefD.val from congrArg (fun z : He.AlD => z.2) c]
  rw [List.getElem?_map, List.getElem?_map, h] at e2
  exact He.DefD.funD (Option.some.inj e2) (List.all_eq_true.mp c2 d (List.mem_of_getElem? h))
theorem walk_ofEB {l : PySem.W.OpenLaw} {n k : Nat} {q : Program} {loose : List Str} {XP : (Str → Option Value) → Heap → Prop} {YP : World → Heap → Prop} {d : DefRec} {CX : World → CXT} {x : Str}
    (hn : l.most = some n) (hn2 : n ≤ sizeLine) (hdf : d.params.defaults = []) (hr : Room k callerA)
    (F : ∀ (w : World) (mg : Str → Option Value) (fa : Addr) (h : Heap), YP w h → h.Ns mainGlobals mg → mg d.name = some (.ref fa) →
      ∃ (K : PySem.W.Frag) (fd : FuncData) (sp : Sp), K.In h ∧ (∀ (s : Shared) (u : Value), BindsTo s fd ⟨[u], []⟩ [(x, u)]) ∧
        (∀ (H : Hp) (a : Addr) (ns : List Int), ns.length ≤ n → (∀ z ∈ ns, Builtin.Int.intBits z ≤ 1048576) → Only H → SqL K H a (ns.map V.int) → sp [.ref a] H (fun v _ => v = .bl true) fun _ _ _ => False) ∧
        ∀ base : Heap, K.In base → base.Ns mainGlobals mg → FnOk l.prog w K mg base (CX w) k fa fd [x] sp)
    (hCX : ∀ (w : World) (H : Hp) (s : Shared) (e : Value) (s' : Shared), CX w [] H s (fun _ _ _ => False) e s' → False) :
    PySem.W.WalkO q loose XP YP l.row.toRowW d [] (fun f vs => PySem.call f vs) :=
  Att.attach_callB hn hdf fun w _ s₁ mg _ fa _ _ _ _ _ _ ns G Y _ _ _ hmg hobj hints hlen hbits hg => by
    obtain ⟨K, fd, sp, KX, hb, hsp, hF⟩ := F w mg fa _ Y G.T.g hmg
    exact L2.law_call KX G.T.g G.T.b G.T.builtins G.T.nolimit hg hobj hints (Nat.le_trans hlen hn2) hr hF hb (fun H hO hS => hsp H _ ns hlen hbits hO hS) fun H e s' => hCX w H s₁ e s'
theorem only_fz {K : PySem.W.Frag} {H : Hp} {a : Addr} {xs : List V} (hO : L2.Only H) (h : SqL K H a xs) : FzL K H a xs := by
  rcases h with (h | h) | h
  · rcases hO a with z | ⟨o, ys, z⟩
    · rw [h] at z; cases z
    · rw [h] at z; cases z
  · exact .inl h
  · exact .inr h
/-- a law by its little program -/
theorem walk_mp {l : PySem.W.OpenLaw} {s : Src} {q : Program} {loose : List Str} {XP : (Str → Option Value) → Heap → Prop} {d : DefRec} {m L fu dep : Nat} {dl : He.DefD}
    (hn : l.most = some 63) (hdf : d.params.defaults = []) (so : SrcOk s) (hL : s.cc.fns[L]? = some ⟨"law", ["script"], 0, true⟩) (hd : s.defs[L]? = some dl) (hnm : d.name = ("law" : Str)) (hdep : dep ≤ 60)
    (hdk : dl.kwd = [] ∧ dl.dfl = [])
    (hb : ∀ (kV doc pm : Value) (an : Option Addr) (cdv ct : Value) (us : List Value), us.length = 1 → bindArgs (PySem.W.fnOf dl.name dl.qual dl.params dl.body dl.scope .none kV doc pm an cdv ct) ⟨us, []⟩ = pure ((["script"] : List Str).zip us))
    (math : ∀ ns : List Int, ns.length ≤ 63 → (∀ z ∈ ns, Builtin.Int.intBits z ≤ 1048576) → ∃ S, (gm s.prg fu dep).fn L [.lsf (ns.map D.int)] [] = .ok (.bl true) S) :
    PySem.W.WalkO q loose XP (hookM m s).says l.row.toRowW d [] (fun f vs => PySem.call f vs) := by
  refine walk_ofEB (k := 2 * dep) (x := "script") (CX := fun w => L2.CX l.prog w) hn (by rw [sizeLine_eq]; omega) hdf ⟨rfl, ?_, ?_⟩ (fun w mg fa h Y G hmg => ?_) fun w H sh e s' ⟨a, B, H', cls, dd, _, _, _, _, _, _, _, z⟩ => z
  · have h1 : callerA.depth < 400 := by decide
    have h2 : recursionLimit = 1000 := rfl
    omega
  · have h1 : callerA.units < 50 := by decide
    have h2 : cLine = 9900 := rfl
    omega
  · obtain ⟨K, KX, c⟩ := Y
    have fk := c.facts
    have df := c.defs
    obtain ⟨d', N, f, h1, h2, h3, o⟩ := so.fn L _ hL
    rw [hd] at h1; cases h1
    have hat := o.at_ rfl
    obtain ⟨fd, F⟩ := df L dl hd
    have hgl := He.glo_ok KX G (fk.fn L _ hL rfl)
    rw [hnm] at hmg
    have e := hmg.symm.trans hgl
    cases e
    have ha : He.fAd K dl.at_ = He.ga K "law" := by rw [hat]; rfl
    have hdv : dl.dvs K = [] := by unfold He.DefD.dvs; rw [hdk.2]; rfl
    have hkw : dl.kws K = [] := by unfold He.DefD.kws; rw [hdk.1]; rfl
    have F' := F
    rw [hdv, hkw] at F'
    refine ⟨K, fd, spF K (CAof K s) XA0 ((gm s.prg fu dep).fn L), KX, fun sh u => FunD.bindsA (ps := ["script"]) F' hb sh [u] rfl, fun H a ns hl hbits hO hS => ?_, fun base KB GB => ?_⟩
    rotate_left
    · have := lv_ok (P := l.prog) (w := w) so fk df KB GB fu dep L _ dl fd hL hd F
      rw [ha] at this
      exact this
    · obtain ⟨S, hm⟩ := math ns hl hbits
      refine ⟨[], [], [.lsf (ns.map D.int)], ⟨rfl, List.nodup_nil, fun n o h => by cases h⟩, .cons (.lsf (only_fz hO hS) (RVs.of_ints ns)) .nil, ?_⟩
      rw [hm]
      intro α' H' e rs v rv
      cases rv
      rfl
end MP
end

section
set_option maxRecDepth 100000
set_option maxHeartbeats 0
namespace L_k13
open MP
/-- is_integer(value): 0:value -/
def f0 : FnI := ⟨1, 1, [
  .ret (.and_ (.isi (.v 0) "int") (.not (.isi (.v 0) "bool")))]⟩
/-- is_between(value, least, most): 0:value 1:least 2:most -/
def f1 : FnI := ⟨3, 3, [
  .ret (.and_ (.call 0 [.v 0] 0) (.chain .le .le (.v 1) (.v 0) (.v 2)))]⟩
/-- is_great(number): 0:number -/
def f2 : FnI := ⟨1, 1, [
  .ret (.cmp .ge (.bi .abs [.v 0]) (.g 0))]⟩
/-- is_told_integer(value): 0:value -/
def f3 : FnI := ⟨1, 1, [
  .ret (.and_ (.call 0 [.v 0] 0) (.not (.call 2 [.v 0] 0)))]⟩
/-- need_integer(value, at): 0:value 1:at -/
def f4 : FnI := ⟨2, 2, [
  .ite (.not (.tr (.call 3 [.v 0] 0))) [.never] []]⟩
/-- need_count(value, least, most, at): 0:value 1:least 2:most 3:at -/
def f5 : FnI := ⟨4, 4, [
  .ite (.not (.tr (.call 1 [.v 0, .v 1, .v 2] 0))) [.never] []]⟩
/-- gcd(one, other): 0:one 1:other -/
def f6 : FnI := ⟨2, 2, [
  .par [0, 1] [.bi .abs [.v 0], .bi .abs [.v 1]],
  .whl (.tr (.v 1)) [.par [0, 1] [.v 1, .bin .mod (.v 0) (.v 1)]],
  .ret (.v 0)]⟩
/-- root_floor(number): 0:number 1:found 2:lesser -/
def f7 : FnI := ⟨1, 3, [
  .ite (.cmp .lt (.v 0) (.c (.int (2)))) [.ret (.v 0)] [],
  .asg (.t (.nm 1)) (.bin .shl (.c (.int (1))) (.bin .fdiv (.bin .add (.bm .bits (.v 0) []) (.c (.int (1)))) (.c (.int (2))))),
  .asg (.t (.nm 2)) (.bin .fdiv (.bin .add (.v 1) (.bin .fdiv (.v 0) (.v 1))) (.c (.int (2)))),
  .whl (.cmp .lt (.v 2) (.v 1)) [.asg (.t (.nm 1)) (.v 2), .asg (.t (.nm 2)) (.bin .fdiv (.bin .add (.v 1) (.bin .fdiv (.v 0) (.v 1))) (.c (.int (2))))],
  .ret (.v 1)]⟩
/-- made(p, q, r): 0:p 1:q 2:r 3:shared -/
def f8 : FnI := ⟨3, 4, [
  .asg (.t (.nm 3)) (.call 6 [.call 6 [.v 0, .v 1] 0, .v 2] 0),
  .ite (.cmp .lt (.v 2) (.c (.int (0)))) [.asg (.t (.nm 3)) (.neg (.v 3))] [],
  .ret (.tup [.bin .fdiv (.v 0) (.v 3), .bin .fdiv (.v 1) (.v 3), .bin .fdiv (.v 2) (.v 3)])]⟩
/-- sign(root, p, q): 0:root 1:p 2:q 3:first 4:lead 5:first_wins -/
def f9 : FnI := ⟨3, 6, [
  .asg (.t (.nm 3)) (.bin .add (.bin .mul (.c (.int (2))) (.v 1)) (.bin .mul (.v 2) (.fld (.v 0) "t"))),
  .ite (.or_ (.cmp .eq (.v 2) (.c (.int (0)))) (.or_ (.cmp .eq (.v 3) (.c (.int (0)))) (.cmp .eq (.cmp .gt (.v 3) (.c (.int (0)))) (.cmp .gt (.v 2) (.c (.int (0))))))) [.asg (.t (.nm 4)) (.ife (.cmp .eq (.v 2) (.c (.int (0)))) (.v 3) (.v 2)), .ret (.bin .sub (.cmp .gt (.v 4) (.c (.int (0)))) (.cmp .lt (.v 4) (.c (.int (0)))))] [],
  .asg (.t (.nm 5)) (.cmp .gt (.bin .mul (.v 3) (.v 3)) (.bin .mul (.bin .mul (.v 2) (.v 2)) (.bin .add (.bin .mul (.fld (.v 0) "t") (.fld (.v 0) "t")) (.bin .mul (.c (.int (4))) (.fld (.v 0) "u"))))),
  .ret (.ife (.cmp .eq (.cmp .gt (.v 3) (.c (.int (0)))) (.v 5)) (.c (.int (1))) (.neg (.c (.int (1)))))]⟩
/-- whole(root, p, q, r): 0:root 1:p 2:q 3:r 4:size -/
def f10 : FnI := ⟨4, 5, [
  .asg (.t (.nm 4)) (.call 7 [.bin .mul (.bin .mul (.v 2) (.v 2)) (.bin .add (.bin .mul (.fld (.v 0) "t") (.fld (.v 0) "t")) (.bin .mul (.c (.int (4))) (.fld (.v 0) "u")))] 0),
  .ite (.cmp .lt (.v 2) (.c (.int (0)))) [.asg (.t (.nm 4)) (.bin .sub (.neg (.v 4)) (.c (.int (1))))] [],
  .ret (.bin .fdiv (.bin .add (.bin .add (.bin .mul (.c (.int (2))) (.v 1)) (.bin .mul (.v 2) (.fld (.v 0) "t"))) (.v 4)) (.bin .mul (.c (.int (2))) (.v 3)))]⟩
/-- is_before(root, one, other): 0:root 1:one 2:other -/
def f11 : FnI := ⟨3, 3, [
  .ret (.cmp .lt (.call 9 [.v 0, .bin .sub (.bin .mul (.ix (.v 1) (.c (.int (0)))) (.ix (.v 2) (.c (.int (2))))) (.bin .mul (.ix (.v 2) (.c (.int (0)))) (.ix (.v 1) (.c (.int (2))))), .bin .sub (.bin .mul (.ix (.v 1) (.c (.int (1)))) (.ix (.v 2) (.c (.int (2))))) (.bin .mul (.ix (.v 2) (.c (.int (1)))) (.ix (.v 1) (.c (.int (2)))))] 0) (.c (.int (0))))]⟩
/-- is_surd(value): 0:value 1:number -/
def f12 : FnI := ⟨1, 2, [
  .ite (.or_ (.not (.tr (.isi (.v 0) "tuple"))) (.cmp .ne (.bi .len [.v 0]) (.c (.int (3))))) [.ret (.c (.bl false))] [],
  .fr (.nm 1) .sq [.v 0] [.ite (.or_ (.not (.tr (.call 0 [.v 1] 0))) (.tr (.call 2 [.v 1] 0))) [.ret (.c (.bl false))] []],
  .ret (.and_ (.cmp .ge (.ix (.v 0) (.c (.int (2)))) (.c (.int (1)))) (.cmp .eq (.call 6 [.call 6 [.ix (.v 0) (.c (.int (0))), .ix (.v 0) (.c (.int (1)))] 0, .ix (.v 0) (.c (.int (2)))] 0) (.c (.int (1)))))]⟩
/-- Root.__init__(self, t, u): 0:self 1:t 2:u 3:at 4:one 5:under -/
def f13 : FnI := ⟨3, 6, [
  .fr (.tp [.nm 3, .nm 4]) .enum [.tup [.v 1, .v 2]] [.ite (.or_ (.not (.tr (.call 0 [.v 4] 0))) (.cmp .gt (.bi .abs [.v 4]) (.g 3))) [.never] []],
  .asg (.t (.nm 5)) (.bin .add (.bin .mul (.v 1) (.v 1)) (.bin .mul (.c (.int (4))) (.v 2))),
  .ite (.or_ (.cmp .lt (.v 5) (.c (.int (1)))) (.cmp .eq (.bin .mul (.call 7 [.v 5] 0) (.call 7 [.v 5] 0)) (.v 5))) [.never] [],
  .asg (.tp [.fld (.v 0) "t", .fld (.v 0) "u"]) (.tup [.v 1, .v 2])]⟩
/-- need_root(value, at): 0:value 1:at -/
def f14 : FnI := ⟨2, 2, [
  .ite (.not (.tr (.isc (.v 0) 0))) [.never] []]⟩
/-- whole_of(root, n): 0:root 1:n -/
def f15 : FnI := ⟨2, 2, [
  .ret (.call 10 [.v 0, .c (.int (0)), .v 1, .c (.int (1))] 0)]⟩
/-- point_at(root, modulus, n): 0:root 1:modulus 2:n -/
def f16 : FnI := ⟨3, 3, [
  .ret (.call 8 [.bin .mul (.neg (.v 1)) (.bin .fdiv (.call 15 [.v 0, .v 2] 0) (.v 1)), .v 2, .v 1] 0)]⟩
/-- met_at(modulus, surd): 0:modulus 1:surd 2:p 3:q 4:r -/
def f17 : FnI := ⟨2, 5, [
  .asg (.t (.tp [.nm 2, .nm 3, .nm 4])) (.v 1),
  .ite (.or_ (.tr (.bin .mod (.v 2) (.v 4))) (.tr (.bin .mod (.bin .mul (.v 0) (.v 3)) (.v 4)))) [.ret (.c (.non))] [],
  .ret (.bin .fdiv (.bin .mul (.v 0) (.v 3)) (.v 4))]⟩
/-- is_point(root, value): 0:root 1:value -/
def f18 : FnI := ⟨2, 2, [
  .ret (.and_ (.call 12 [.v 1] 0) (.and_ (.not (.call 11 [.v 0, .v 1, .g 1] 0)) (.call 11 [.v 0, .v 1, .g 2] 0)))]⟩
/-- need_point(root, value, at): 0:root 1:value 2:at -/
def f19 : FnI := ⟨3, 3, [
  .ite (.not (.tr (.call 18 [.v 0, .v 1] 0))) [.never] []]⟩
/-- coordinates(root, modulus, n): 0:root 1:modulus 2:n -/
def f20 : FnI := ⟨3, 3, [
  .ex (.call 14 [.v 0] 0),
  .ex (.call 5 [.v 1, .c (.int (1)), .g 4] 0),
  .ex (.call 4 [.v 2] 0),
  .ret (.tup [.bin .mod (.v 2) (.v 1), .call 16 [.v 0, .v 1, .v 2] 0])]⟩
/-- end_met(root, modulus, surd): 0:root 1:modulus 2:surd -/
def f21 : FnI := ⟨3, 3, [
  .ex (.call 14 [.v 0] 0),
  .ex (.call 5 [.v 1, .c (.int (1)), .g 4] 0),
  .ex (.call 19 [.v 0, .v 2] 0),
  .ret (.call 17 [.v 1, .v 2] 0)]⟩
/-- _law_box(script, salt): 0:script 1:salt 2:rest 3:state 4:k 5:cell 6:size -/
def f22 : FnI := ⟨2, 7, [
  .par [2, 3] [.lst [], .bin .add (.c (.int (51803))) (.bin .mul (.c (.int (3907))) (.v 1))],
  .fr (.tp [.nm 4, .nm 5]) .enum [.sl (.v 0) .np (.pr (.c (.int (63))))] [.asg (.t (.nm 6)) (.bin .add (.bin .mul (.bi .abs [.v 5]) (.c (.int (2)))) (.bi .int [.cmp .lt (.v 5) (.c (.int (0)))])), .ite (.cmp .ge (.bi .abs [.v 5]) (.bin .pow (.c (.int (10))) (.c (.int (18))))) [.ex (.bm .append (.v 2) [.bi .abs [.v 5]])] [], .asg (.t (.nm 3)) (.bin .add (.bin .mod (.bi .int [.bin .add (.bin .add (.bin .mul (.v 3) (.c (.int (48271)))) (.bin .mul (.bin .mod (.bi .int [.v 6]) (.c (.int (2147483629)))) (.bin .add (.bin .mul (.c (.int (2))) (.v 4)) (.c (.int (38921)))))) (.c (.int (29)))]) (.c (.int (2147483629)))) (.c (.int (1))))],
  .ret (.lst [.v 2, .v 3])]⟩
/-- _law_take(box, many): 0:box 1:many 2:cell -/
def f23 : FnI := ⟨2, 3, [
  .ite (.cmp .ne (.ix (.v 0) (.c (.int (0)))) (.lst [])) [.asg (.t (.nm 2)) (.ix (.ix (.v 0) (.c (.int (0)))) (.c (.int (0)))), .asg (.ix (.v 0) (.c (.int (0)))) (.bin .add (.ife (.cmp .ge (.v 2) (.v 1)) (.lst [.bin .fdiv (.v 2) (.v 1)]) (.lst [])) (.sl (.ix (.v 0) (.c (.int (0)))) (.pr (.c (.int (1)))) .np)), .ret (.bin .mod (.bi .int [.v 2]) (.v 1))] [],
  .asg (.ix (.v 0) (.c (.int (1)))) (.bin .mod (.bi .int [.bin .mul (.ix (.v 0) (.c (.int (1)))) (.c (.int (48271)))]) (.c (.int (2147483647)))),
  .ret (.bin .mod (.bi .int [.bin .fdiv (.bin .add (.bin .mul (.ix (.v 0) (.c (.int (1)))) (.c (.int (69623)))) (.c (.int (5)))) (.c (.int (1019)))]) (.v 1))]⟩
/-- _law_pick(box, some): 0:box 1:some -/
def f24 : FnI := ⟨2, 2, [
  .ret (.ix (.v 1) (.call 23 [.v 0, .bi .len [.v 1]] 0))]⟩
/-- _law_is(told, due): 0:told 1:due 2:one 3:other -/
def f25 : FnI := ⟨2, 4, [
  .ite (.tr (.isi (.v 1) "tuple")) [.ite (.or_ (.not (.tr (.isi (.v 0) "tuple"))) (.cmp .ne (.bi .len [.v 0]) (.bi .len [.v 1]))) [.ret (.c (.bl false))] [], .ret (.cmp .eq (.lc (.tp [.nm 2, .nm 3]) .zip [.v 0, .v 1] [.not (.tr (.call 25 [.v 2, .v 3] 0))] (.c (.int (1))) [2, 3]) (.lst []))] [],
  .ite (.or_ (.cmp .is_ (.v 1) (.c (.non))) (.or_ (.cmp .is_ (.v 1) (.c (.bl true))) (.cmp .is_ (.v 1) (.c (.bl false))))) [.ret (.ife (.cmp .is_ (.v 1) (.c (.non))) (.cmp .is_ (.v 0) (.c (.non))) (.ife (.cmp .is_ (.v 1) (.c (.bl true))) (.cmp .is_ (.v 0) (.c (.bl true))) (.cmp .is_ (.v 0) (.c (.bl false)))))] [],
  .ite (.tr (.isi (.v 1) "int")) [.ret (.and_ (.isi (.v 0) "int") (.and_ (.not (.isi (.v 0) "bool")) (.cmp .eq (.v 0) (.v 1))))] [],
  .ret (.and_ (.isi (.v 1) "str") (.and_ (.isi (.v 0) "str") (.cmp .eq (.v 0) (.v 1))))]⟩
/-- _law_sqrt(number): 0:number 1:found 2:less -/
def f26 : FnI := ⟨1, 3, [
  .ite (.cmp .lt (.v 0) (.c (.int (2)))) [.ret (.v 0)] [],
  .asg (.t (.nm 1)) (.bin .shl (.c (.int (1))) (.bin .fdiv (.bin .add (.bm .bits (.v 0) []) (.c (.int (1)))) (.c (.int (2))))),
  .asg (.t (.nm 2)) (.bin .fdiv (.bin .add (.v 1) (.bin .fdiv (.v 0) (.v 1))) (.c (.int (2)))),
  .whl (.cmp .lt (.v 2) (.v 1)) [.asg (.t (.nm 1)) (.v 2), .asg (.t (.nm 2)) (.bin .fdiv (.bin .add (.v 1) (.bin .fdiv (.v 0) (.v 1))) (.c (.int (2))))],
  .ret (.v 1)]⟩
/-- _law_floor(root, p, q, r): 0:root 1:p 2:q 3:r 4:size -/
def f27 : FnI := ⟨4, 5, [
  .asg (.t (.nm 4)) (.call 26 [.bin .mul (.bin .mul (.v 2) (.v 2)) (.bin .add (.bin .mul (.ix (.v 0) (.c (.int (0)))) (.ix (.v 0) (.c (.int (0))))) (.bin .mul (.c (.int (4))) (.ix (.v 0) (.c (.int (1))))))] 0),
  .ite (.cmp .lt (.v 2) (.c (.int (0)))) [.asg (.t (.nm 4)) (.bin .sub (.bin .sub (.c (.int (0))) (.v 4)) (.c (.int (1))))] [],
  .ret (.bin .fdiv (.bin .add (.bin .add (.bin .mul (.c (.int (2))) (.v 1)) (.bin .mul (.v 2) (.ix (.v 0) (.c (.int (0)))))) (.v 4)) (.bin .mul (.c (.int (2))) (.v 3)))]⟩
/-- _law_w(root, n): 0:root 1:n -/
def f28 : FnI := ⟨2, 2, [
  .ret (.call 27 [.v 0, .c (.int (0)), .v 1, .c (.int (1))] 0)]⟩
/-- _law_gcd(one, other): 0:one 1:other -/
def f29 : FnI := ⟨2, 2, [
  .par [0, 1] [.bi .abs [.v 0], .bi .abs [.v 1]],
  .whl (.cmp .ne (.v 1) (.c (.int (0)))) [.par [0, 1] [.v 1, .bin .mod (.bi .int [.v 0]) (.v 1)]],
  .ret (.v 0)]⟩
/-- _law_surd(p, q, r): 0:p 1:q 2:r 3:by -/
def f30 : FnI := ⟨3, 4, [
  .asg (.t (.nm 3)) (.call 29 [.call 29 [.v 0, .v 1] 0, .v 2] 0),
  .asg (.t (.nm 3)) (.ife (.cmp .gt (.v 2) (.c (.int (0)))) (.v 3) (.bin .sub (.c (.int (0))) (.v 3))),
  .ret (.tup [.bin .fdiv (.v 0) (.v 3), .bin .fdiv (.v 1) (.v 3), .bin .fdiv (.v 2) (.v 3)])]⟩
/-- _law_point(root, modulus, n): 0:root 1:modulus 2:n -/
def f31 : FnI := ⟨3, 3, [
  .ret (.call 30 [.bin .sub (.c (.int (0))) (.bin .mul (.v 1) (.bin .fdiv (.call 28 [.v 0, .v 2] 0) (.v 1))), .v 2, .v 1] 0)]⟩
/-- _law_roots():  -/
def f32 : FnI := ⟨0, 0, [
  .ret (.lst [.tup [.c (.int (1)), .c (.int (1))], .tup [.c (.int (0)), .c (.int (2))], .tup [.c (.int (2)), .c (.int (2))], .tup [.c (.int (4)), .neg (.c (.int (1)))], .tup [.c (.int (0)), .c (.int (3))], .tup [.c (.int (1)), .c (.int (3))], .tup [.c (.int (3)), .neg (.c (.int (1)))], .tup [.neg (.c (.int (1))), .c (.int (1))], .tup [.neg (.c (.int (5))), .neg (.c (.int (1)))], .tup [.c (.int (99)), .c (.int (1))], .tup [.c (.int (99)), .neg (.c (.int (1)))], .tup [.c (.int (99)), .c (.int (99))], .tup [.c (.int (0)), .c (.int (98))]])]⟩
/-- _law_big(box): 0:box 1:found 2:turn -/
def f33 : FnI := ⟨1, 3, [
  .asg (.t (.nm 1)) (.c (.int (1))),
  .fr (.nm 2) .rng [.call 24 [.v 0, .lst [.c (.int (10)), .c (.int (20)), .c (.int (39))]] 0] [.asg (.t (.nm 1)) (.bin .mul (.v 1) (.c (.int (10))))],
  .ret (.bin .mul (.call 24 [.v 0, .lst [.c (.int (1)), .neg (.c (.int (1)))]] 0) (.bin .sub (.bin .sub (.v 1) (.c (.int (1)))) (.call 23 [.v 0, .bin .pow (.c (.int (10))) (.c (.int (9)))] 0)))]⟩
/-- law(script): 0:script 1:box 2:turn 3:pair 4:modulus 5:root 6:near 7:n 8:point 9:p 10:q 11:r 12:bottom 13:other 14:due 15:top 16:ratio 17:spots 18:one 19:golden 20:two -/
def f34 : FnI := ⟨1, 21, [
  .asg (.t (.nm 1)) (.call 22 [.v 0, .c (.int (13))] 0),
  .fr (.nm 2) .rng [.c (.int (8))] [.asg (.t (.tp [.nm 3, .nm 4])) (.tup [.call 24 [.v 1, .call 32 [] 0] 0, .call 24 [.v 1, .lst [.c (.int (1)), .c (.int (2)), .c (.int (3)), .c (.int (4)), .c (.int (6)), .c (.int (12))]] 0]), .asg (.t (.nm 5)) (.mk 0 [.ix (.v 3) (.c (.int (0))), .ix (.v 3) (.c (.int (1)))]), .asg (.t (.nm 6)) (.lc (.nm 7) .rng [.neg (.c (.int (12))), .c (.int (13))] [] (.call 31 [.v 3, .v 4, .v 7] 0) [7]), .fr (.nm 7) .sq [.lst [.bin .sub (.call 23 [.v 1, .c (.int (25))] 0) (.c (.int (12))), .call 33 [.v 1] 0]] [.asg (.t (.nm 8)) (.call 31 [.v 3, .v 4, .v 7] 0), .ite (.not (.tr (.call 25 [.tup [.call 21 [.v 5, .v 4, .v 8] 0, .ix (.call 20 [.v 5, .v 4, .v 7] 0) (.c (.int (1)))], .tup [.v 7, .v 8]] 0))) [.ret (.c (.bl false))] [], .asg (.t (.tp [.nm 9, .nm 10, .nm 11])) (.v 8), .asg (.t (.nm 12)) (.call 24 [.v 1, .lst [.c (.int (2)), .c (.int (3)), .c (.int (5)), .c (.int (7))]] 0), .fr (.nm 13) .sq [.lst [.call 30 [.v 9, .v 10, .bin .mul (.bin .mul (.v 11) (.v 12)) (.v 4)] 0, .call 30 [.v 9, .v 10, .bin .mul (.v 11) (.v 12)] 0]] [.asg (.t (.nm 14)) (.c (.non)), .ite (.and_ (.cmp .eq (.bin .mod (.bi .int [.ix (.v 13) (.c (.int (0)))]) (.ix (.v 13) (.c (.int (2))))) (.c (.int (0)))) (.cmp .eq (.bin .mod (.bi .int [.bin .mul (.v 4) (.ix (.v 13) (.c (.int (1))))]) (.ix (.v 13) (.c (.int (2))))) (.c (.int (0))))) [.asg (.t (.nm 14)) (.bin .fdiv (.bin .mul (.v 4) (.ix (.v 13) (.c (.int (1))))) (.ix (.v 13) (.c (.int (2)))))] [], .ite (.not (.tr (.call 25 [.call 21 [.v 5, .v 4, .v 13] 0, .v 14] 0))) [.ret (.c (.bl false))] [], .ite (.and_ (.cmp .isn (.v 14) (.c (.non))) (.cmp .ne (.call 31 [.v 3, .v 4, .v 14] 0) (.v 13))) [.ret (.c (.bl false))] [], .ite (.and_ (.cmp .is_ (.v 14) (.c (.non))) (.cmp .in_ (.v 13) (.v 6))) [.ret (.c (.bl false))] []]], .asg (.t (.nm 12)) (.bin .add (.c (.int (2))) (.call 23 [.v 1, .c (.int (40))] 0)), .fr (.nm 15) .rng [.v 12] [.asg (.t (.nm 16)) (.call 30 [.v 15, .c (.int (0)), .v 12] 0), .ite (.not (.tr (.call 25 [.call 21 [.v 5, .v 4, .v 16] 0, .ife (.cmp .eq (.v 15) (.c (.int (0)))) (.c (.int (0))) (.c (.non))] 0))) [.ret (.c (.bl false))] []], .asg (.t (.nm 17)) (.lc (.nm 8) .sq [.v 6] [] (.call 21 [.v 5, .v 4, .v 8] 0) [8]), .ite (.or_ (.not (.tr (.call 25 [.bi .tuple [.v 17], .trg [.neg (.c (.int (12))), .c (.int (13))]] 0))) (.cmp .ne (.bi .len [.lc (.nm 18) .sq [.v 6] [.cmp .ne (.bm .index (.v 6) [.v 18]) (.bm .index (.v 17) [.call 21 [.v 5, .v 4, .v 18] 0])] (.c (.int (1))) [18]]) (.c (.int (0))))) [.ret (.c (.bl false))] []],
  .par [19, 20] [.mk 0 [.c (.int (1)), .c (.int (1))], .mk 0 [.c (.int (0)), .c (.int (2))]],
  .ret (.call 25 [.tup [.call 21 [.v 19, .c (.int (1)), .tup [.c (.int (2)), .neg (.c (.int (1))), .c (.int (1))]] 0, .call 21 [.v 19, .c (.int (2)), .tup [.c (.int (0)), .c (.int (1)), .c (.int (2))]] 0, .call 21 [.v 20, .c (.int (1)), .tup [.c (.int (0)), .c (.int (1)), .c (.int (2))]] 0], .tup [.neg (.c (.int (1))), .c (.int (1)), .c (.non)]] 0)]⟩
def prg : Prg := { fns := [f0, f1, f2, f3, f4, f5, f6, f7, f8, f9, f10, f11, f12, f13, f14, f15, f16, f17, f18, f19, f20, f21, f22, f23, f24, f25, f26, f27, f28, f29, f30, f31, f32, f33, f34], cls := [⟨13⟩], gc := [.int (10 ^ 3000), .tup [.int (0), .int (0), .int (1)], .tup [.int (1), .int (0), .int (1)], .int (99), .int (3600)], dfl := [[], [], [], [], [.int (-1)], [.int (-1)], [], [], [], [], [], [], [], [], [.int (-1)], [], [], [], [], [.int (-1)], [], [], [], [], [], [], [], [], [], [], [], [], [], [], []] }
/-- turns that a while may take -/
@[irreducible] def FU : Nat := 2 ^ 600
theorem FU_eq : FU = 2 ^ 600 := by unfold FU; rfl
open PySem PySem.Spec L2
abbrev top (i : Nat) : Stmt := PySem.Challenge.pw_rootstairs_k13_whole_ends_met_once.main.body.getD i (.Pass ⟨0, 0, 0, 0⟩)
def inC (st : Stmt) (j : Nat) : Stmt := match st with
  | .ClassDef _ _ _ b _ _ _ _ _ _ _ => b.getD j (.Pass ⟨0, 0, 0, 0⟩)
  | _ => .Pass ⟨0, 0, 0, 0⟩
abbrev s0 : Stmt := (top 8)
def d0 : He.DefD := ⟨("is_integer", none), "is_integer", "is_integer", defArgs s0, defBody s0, defScope s0, [], []⟩
def N0 : List Str := ["value"]
def r0 : FnC := ⟨"is_integer", ["value"], 0, true⟩
abbrev s1 : Stmt := (top 9)
def d1 : He.DefD := ⟨("is_between", none), "is_between", "is_between", defArgs s1, defBody s1, defScope s1, [], []⟩
def N1 : List Str := ["value", "least", "most"]
def r1 : FnC := ⟨"is_between", ["value", "least", "most"], 0, true⟩
abbrev s2 : Stmt := (top 10)
def d2 : He.DefD := ⟨("is_great", none), "is_great", "is_great", defArgs s2, defBody s2, defScope s2, [], []⟩
def N2 : List Str := ["number"]
def r2 : FnC := ⟨"is_great", ["number"], 0, true⟩
abbrev s3 : Stmt := (top 11)
def d3 : He.DefD := ⟨("is_told_integer", none), "is_told_integer", "is_told_integer", defArgs s3, defBody s3, defScope s3, [], []⟩
def N3 : List Str := ["value"]
def r3 : FnC := ⟨"is_told_integer", ["value"], 0, true⟩
abbrev s4 : Stmt := (top 12)
def d4 : He.DefD := ⟨("need_integer", none), "need_integer", "need_integer", defArgs s4, defBody s4, defScope s4, [toDv (.int (-1))], []⟩
def N4 : List Str := ["value", "at"]
def r4 : FnC := ⟨"need_integer", ["value", "at"], 1, true⟩
abbrev s5 : Stmt := (top 13)
def d5 : He.DefD := ⟨("need_count", none), "need_count", "need_count", defArgs s5, defBody s5, defScope s5, [toDv (.int (-1))], []⟩
def N5 : List Str := ["value", "least", "most", "at"]
def r5 : FnC := ⟨"need_count", ["value", "least", "most", "at"], 1, true⟩
abbrev s6 : Stmt := (top 14)
def d6 : He.DefD := ⟨("gcd", none), "gcd", "gcd", defArgs s6, defBody s6, defScope s6, [], []⟩
def N6 : List Str := ["one", "other"]
def r6 : FnC := ⟨"gcd", ["one", "other"], 0, true⟩
abbrev s7 : Stmt := (top 15)
def d7 : He.DefD := ⟨("root_floor", none), "root_floor", "root_floor", defArgs s7, defBody s7, defScope s7, [], []⟩
def N7 : List Str := ["number", "found", "lesser"]
def r7 : FnC := ⟨"root_floor", ["number"], 0, true⟩
abbrev s8 : Stmt := (top 19)
def d8 : He.DefD := ⟨("made", none), "made", "made", defArgs s8, defBody s8, defScope s8, [], []⟩
def N8 : List Str := ["p", "q", "r", "shared"]
def r8 : FnC := ⟨"made", ["p", "q", "r"], 0, true⟩
abbrev s9 : Stmt := (top 20)
def d9 : He.DefD := ⟨("sign", none), "sign", "sign", defArgs s9, defBody s9, defScope s9, [], []⟩
def N9 : List Str := ["root", "p", "q", "first", "lead", "first_wins"]
def r9 : FnC := ⟨"sign", ["root", "p", "q"], 0, true⟩
abbrev s10 : Stmt := (top 21)
def d10 : He.DefD := ⟨("whole", none), "whole", "whole", defArgs s10, defBody s10, defScope s10, [], []⟩
def N10 : List Str := ["root", "p", "q", "r", "size"]
def r10 : FnC := ⟨"whole", ["root", "p", "q", "r"], 0, true⟩
abbrev s11 : Stmt := (top 22)
def d11 : He.DefD := ⟨("is_before", none), "is_before", "is_before", defArgs s11, defBody s11, defScope s11, [], []⟩
def N11 : List Str := ["root", "one", "other"]
def r11 : FnC := ⟨"is_before", ["root", "one", "other"], 0, true⟩
abbrev s12 : Stmt := (top 23)
def d12 : He.DefD := ⟨("is_surd", none), "is_surd", "is_surd", defArgs s12, defBody s12, defScope s12, [], []⟩
def N12 : List Str := ["value", "number"]
def r12 : FnC := ⟨"is_surd", ["value"], 0, true⟩
abbrev s13 : Stmt := (inC (top 26) 0)
def d13 : He.DefD := ⟨("Root", some ("__init__" : Str)), "__init__", "Root.__init__", defArgs s13, defBody s13, defScope s13, [], []⟩
def N13 : List Str := ["self", "t", "u", "at", "one", "under"]
def r13 : FnC := ⟨"__init__", ["self", "t", "u"], 0, false⟩
abbrev s14 : Stmt := (top 27)
def d14 : He.DefD := ⟨("need_root", none), "need_root", "need_root", defArgs s14, defBody s14, defScope s14, [toDv (.int (-1))], []⟩
def N14 : List Str := ["value", "at"]
def r14 : FnC := ⟨"need_root", ["value", "at"], 1, true⟩
abbrev s15 : Stmt := (top 30)
def d15 : He.DefD := ⟨("whole_of", none), "whole_of", "whole_of", defArgs s15, defBody s15, defScope s15, [], []⟩
def N15 : List Str := ["root", "n"]
def r15 : FnC := ⟨"whole_of", ["root", "n"], 0, true⟩
abbrev s16 : Stmt := (top 31)
def d16 : He.DefD := ⟨("point_at", none), "point_at", "point_at", defArgs s16, defBody s16, defScope s16, [], []⟩
def N16 : List Str := ["root", "modulus", "n"]
def r16 : FnC := ⟨"point_at", ["root", "modulus", "n"], 0, true⟩
abbrev s17 : Stmt := (top 32)
def d17 : He.DefD := ⟨("met_at", none), "met_at", "met_at", defArgs s17, defBody s17, defScope s17, [], []⟩
def N17 : List Str := ["modulus", "surd", "p", "q", "r"]
def r17 : FnC := ⟨"met_at", ["modulus", "surd"], 0, true⟩
abbrev s18 : Stmt := (top 33)
def d18 : He.DefD := ⟨("is_point", none), "is_point", "is_point", defArgs s18, defBody s18, defScope s18, [], []⟩
def N18 : List Str := ["root", "value"]
def r18 : FnC := ⟨"is_point", ["root", "value"], 0, true⟩
abbrev s19 : Stmt := (top 34)
def d19 : He.DefD := ⟨("need_point", none), "need_point", "need_point", defArgs s19, defBody s19, defScope s19, [toDv (.int (-1))], []⟩
def N19 : List Str := ["root", "value", "at"]
def r19 : FnC := ⟨"need_point", ["root", "value", "at"], 1, true⟩
abbrev s20 : Stmt := (top 35)
def d20 : He.DefD := ⟨("coordinates", none), "coordinates", "coordinates", defArgs s20, defBody s20, defScope s20, [], []⟩
def N20 : List Str := ["root", "modulus", "n"]
def r20 : FnC := ⟨"coordinates", ["root", "modulus", "n"], 0, true⟩
abbrev s21 : Stmt := (top 36)
def d21 : He.DefD := ⟨("end_met", none), "end_met", "end_met", defArgs s21, defBody s21, defScope s21, [], []⟩
def N21 : List Str := ["root", "modulus", "surd"]
def r21 : FnC := ⟨"end_met", ["root", "modulus", "surd"], 0, true⟩
abbrev s22 : Stmt := (top 38)
def d22 : He.DefD := ⟨("_law_box", none), "_law_box", "_law_box", defArgs s22, defBody s22, defScope s22, [], []⟩
def N22 : List Str := ["script", "salt", "rest", "state", "k", "cell", "size"]
def r22 : FnC := ⟨"_law_box", ["script", "salt"], 0, true⟩
abbrev s23 : Stmt := (top 39)
def d23 : He.DefD := ⟨("_law_take", none), "_law_take", "_law_take", defArgs s23, defBody s23, defScope s23, [], []⟩
def N23 : List Str := ["box", "many", "cell"]
def r23 : FnC := ⟨"_law_take", ["box", "many"], 0, true⟩
abbrev s24 : Stmt := (top 40)
def d24 : He.DefD := ⟨("_law_pick", none), "_law_pick", "_law_pick", defArgs s24, defBody s24, defScope s24, [], []⟩
def N24 : List Str := ["box", "some"]
def r24 : FnC := ⟨"_law_pick", ["box", "some"], 0, true⟩
abbrev s25 : Stmt := (top 41)
def d25 : He.DefD := ⟨("_law_is", none), "_law_is", "_law_is", defArgs s25, defBody s25, defScope s25, [], []⟩
def N25 : List Str := ["told", "due", "one", "other"]
def r25 : FnC := ⟨"_law_is", ["told", "due"], 0, true⟩
abbrev s26 : Stmt := (top 42)
def d26 : He.DefD := ⟨("_law_sqrt", none), "_law_sqrt", "_law_sqrt", defArgs s26, defBody s26, defScope s26, [], []⟩
def N26 : List Str := ["number", "found", "less"]
def r26 : FnC := ⟨"_law_sqrt", ["number"], 0, true⟩
abbrev s27 : Stmt := (top 43)
def d27 : He.DefD := ⟨("_law_floor", none), "_law_floor", "_law_floor", defArgs s27, defBody s27, defScope s27, [], []⟩
def N27 : List Str := ["root", "p", "q", "r", "size"]
def r27 : FnC := ⟨"_law_floor", ["root", "p", "q", "r"], 0, true⟩
abbrev s28 : Stmt := (top 44)
def d28 : He.DefD := ⟨("_law_w", none), "_law_w", "_law_w", defArgs s28, defBody s28, defScope s28, [], []⟩
def N28 : List Str := ["root", "n"]
def r28 : FnC := ⟨"_law_w", ["root", "n"], 0, true⟩
abbrev s29 : Stmt := (top 45)
def d29 : He.DefD := ⟨("_law_gcd", none), "_law_gcd", "_law_gcd", defArgs s29, defBody s29, defScope s29, [], []⟩
def N29 : List Str := ["one", "other"]
def r29 : FnC := ⟨"_law_gcd", ["one", "other"], 0, true⟩
abbrev s30 : Stmt := (top 46)
def d30 : He.DefD := ⟨("_law_surd", none), "_law_surd", "_law_surd", defArgs s30, defBody s30, defScope s30, [], []⟩
def N30 : List Str := ["p", "q", "r", "by"]
def r30 : FnC := ⟨"_law_surd", ["p", "q", "r"], 0, true⟩
abbrev s31 : Stmt := (top 48)
def d31 : He.DefD := ⟨("_law_point", none), "_law_point", "_law_point", defArgs s31, defBody s31, defScope s31, [], []⟩
def N31 : List Str := ["root", "modulus", "n"]
def r31 : FnC := ⟨"_law_point", ["root", "modulus", "n"], 0, true⟩
abbrev s32 : Stmt := (top 49)
def d32 : He.DefD := ⟨("_law_roots", none), "_law_roots", "_law_roots", defArgs s32, defBody s32, defScope s32, [], []⟩
def N32 : List Str := []
def r32 : FnC := ⟨"_law_roots", [], 0, true⟩
abbrev s33 : Stmt := (top 50)
def d33 : He.DefD := ⟨("_law_big", none), "_law_big", "_law_big", defArgs s33, defBody s33, defScope s33, [], []⟩
def N33 : List Str := ["box", "found", "turn"]
def r33 : FnC := ⟨"_law_big", ["box"], 0, true⟩
abbrev s34 : Stmt := (top 51)
def d34 : He.DefD := ⟨("law", none), "law", "law", defArgs s34, defBody s34, defScope s34, [], []⟩
def N34 : List Str := ["script", "box", "turn", "pair", "modulus", "root", "near", "n", "point", "p", "q", "r", "bottom", "other", "due", "top", "ratio", "spots", "one", "golden", "two"]
def r34 : FnC := ⟨"law", ["script"], 0, true⟩
def cc : Cc := { fns := [r0, r1, r2, r3, r4, r5, r6, r7, r8, r9, r10, r11, r12, r13, r14, r15, r16, r17, r18, r19, r20, r21, r22, r23, r24, r25, r26, r27, r28, r29, r30, r31, r32, r33, r34], cls := ["Root"], gcs := ["GREAT", "NOUGHT", "UNIT", "MOST", "MOST_MODULUS"], attrs := ["t", "u"], inits := [2] }
def src : Src := { cc := cc, defs := [d0, d1, d2, d3, d4, d5, d6, d7, d8, d9, d10, d11, d12, d13, d14, d15, d16, d17, d18, d19, d20, d21, d22, d23, d24, d25, d26, d27, d28, d29, d30, d31, d32, d33, d34], Ns := [N0, N1, N2, N3, N4, N5, N6, N7, N8, N9, N10, N11, N12, N13, N14, N15, N16, N17, N18, N19, N20, N21, N22, N23, N24, N25, N26, N27, N28, N29, N30, N31, N32, N33, N34], prg := prg }
theorem one0 : OneOk src 0 r0 d0 N0 f0 where
  sco := ⟨rfl, rfl, rfl, by decide +kernel, rfl, by decide +kernel, by decide +kernel⟩
  ps := rfl
  n := rfl
  body := by kernel_rfl
  nd := rfl
  dfl := rfl
  smp := rfl
  at_ := fun _ => rfl
  bi := fun K f fd F j hj => by
    obtain rfl : j = 0 := Nat.le_zero.mp hj
    exact ⟨[], .nil, FunD.bindsN (ps := r0.ps) F fun _ _ _ _ _ _ us hl => match us, hl with | [_], _ => rfl⟩
theorem one1 : OneOk src 1 r1 d1 N1 f1 where
  sco := ⟨rfl, rfl, rfl, by decide +kernel, rfl, by decide +kernel, by decide +kernel⟩
  ps := rfl
  n := rfl
  body := by kernel_rfl
  nd := rfl
  dfl := rfl
  smp := rfl
  at_ := fun _ => rfl
  bi := fun K f fd F j hj => by
    obtain rfl : j = 0 := Nat.le_zero.mp hj
    exact ⟨[], .nil, FunD.bindsN (ps := r1.ps) F fun _ _ _ _ _ _ us hl => match us, hl with | [_, _, _], _ => rfl⟩
theorem one2 : OneOk src 2 r2 d2 N2 f2 where
  sco := ⟨rfl, rfl, rfl, by decide +kernel, rfl, by decide +kernel, by decide +kernel⟩
  ps := rfl
  n := rfl
  body := by kernel_rfl
  nd := rfl
  dfl := rfl
  smp := rfl
  at_ := fun _ => rfl
  bi := fun K f fd F j hj => by
    obtain rfl : j = 0 := Nat.le_zero.mp hj
    exact ⟨[], .nil, FunD.bindsN (ps := r2.ps) F fun _ _ _ _ _ _ us hl => match us, hl with | [_], _ => rfl⟩
theorem one3 : OneOk src 3 r3 d3 N3 f3 where
  sco := ⟨rfl, rfl, rfl, by decide +kernel, rfl, by decide +kernel, by decide +kernel⟩
  ps := rfl
  n := rfl
  body := by kernel_rfl
  nd := rfl
  dfl := rfl
  smp := rfl
  at_ := fun _ => rfl
  bi := fun K f fd F j hj => by
    obtain rfl : j = 0 := Nat.le_zero.mp hj
    exact ⟨[], .nil, FunD.bindsN (ps := r3.ps) F fun _ _ _ _ _ _ us hl => match us, hl with | [_], _ => rfl⟩
theorem one4 : OneOk src 4 r4 d4 N4 f4 where
  sco := ⟨rfl, rfl, rfl, by decide +kernel, rfl, by decide +kernel, by decide +kernel⟩
  ps := rfl
  n := rfl
  body := by kernel_rfl
  nd := rfl
  dfl := rfl
  smp := rfl
  at_ := fun _ => rfl
  bi := fun K f fd F j hj => by
    match j, hj with
    | 0, _ => exact FunD.binds1 (ps := r4.ps) F 1 0 (List.cons_ne_nil _ _) rfl fun _ _ _ _ _ _ _ us its h1 h2 => match us, its, h1, h2 with | [_], [_], _, _ => ⟨_, rfl, rfl⟩
    | 1, _ => exact FunD.binds1 (ps := r4.ps) F 2 1 (List.cons_ne_nil _ _) rfl fun _ _ _ _ _ _ _ us its h1 h2 => match us, its, h1, h2 with | [_, _], [_], _, _ => ⟨_, rfl, rfl⟩
    | j + 2, hj => exact absurd hj (by show ¬ j + 2 ≤ 1; omega)
theorem one5 : OneOk src 5 r5 d5 N5 f5 where
  sco := ⟨rfl, rfl, rfl, by decide +kernel, rfl, by decide +kernel, by decide +kernel⟩
  ps := rfl
  n := rfl
  body := by kernel_rfl
  nd := rfl
  dfl := rfl
  smp := rfl
  at_ := fun _ => rfl
  bi := fun K f fd F j hj => by
    match j, hj with
    | 0, _ => exact FunD.binds1 (ps := r5.ps) F 3 0 (List.cons_ne_nil _ _) rfl fun _ _ _ _ _ _ _ us its h1 h2 => match us, its, h1, h2 with | [_, _, _], [_], _, _ => ⟨_, rfl, rfl⟩
    | 1, _ => exact FunD.binds1 (ps := r5.ps) F 4 1 (List.cons_ne_nil _ _) rfl fun _ _ _ _ _ _ _ us its h1 h2 => match us, its, h1, h2 with | [_, _, _, _], [_], _, _ => ⟨_, rfl, rfl⟩
    | j + 2, hj => exact absurd hj (by show ¬ j + 2 ≤ 1; omega)
theorem one6 : OneOk src 6 r6 d6 N6 f6 where
  sco := ⟨rfl, rfl, rfl, by decide +kernel, rfl, by decide +kernel, by decide +kernel⟩
  ps := rfl
  n := rfl
  body := by kernel_rfl
  nd := rfl
  dfl := rfl
  smp := rfl
  at_ := fun _ => rfl
  bi := fun K f fd F j hj => by
    obtain rfl : j = 0 := Nat.le_zero.mp hj
    exact ⟨[], .nil, FunD.bindsN (ps := r6.ps) F fun _ _ _ _ _ _ us hl => match us, hl with | [_, _], _ => rfl⟩
theorem one7 : OneOk src 7 r7 d7 N7 f7 where
  sco := ⟨rfl, rfl, rfl, by decide +kernel, rfl, by decide +kernel, by decide +kernel⟩
  ps := rfl
  n := rfl
  body := by kernel_rfl
  nd := rfl
  dfl := rfl
  smp := rfl
  at_ := fun _ => rfl
  bi := fun K f fd F j hj => by
    obtain rfl : j = 0 := Nat.le_zero.mp hj
    exact ⟨[], .nil, FunD.bindsN (ps := r7.ps) F fun _ _ _ _ _ _ us hl => match us, hl with | [_], _ => rfl⟩
theorem one8 : OneOk src 8 r8 d8 N8 f8 where
  sco := ⟨rfl, rfl, rfl, by decide +kernel, rfl, by decide +kernel, by decide +kernel⟩
  ps := rfl
  n := rfl
  body := by kernel_rfl
  nd := rfl
  dfl := rfl
  smp := rfl
  at_ := fun _ => rfl
  bi := fun K f fd F j hj => by
    obtain rfl : j = 0 := Nat.le_zero.mp hj
    exact ⟨[], .nil, FunD.bindsN (ps := r8.ps) F fun _ _ _ _ _ _ us hl => match us, hl with | [_, _, _], _ => rfl⟩
theorem one9 : OneOk src 9 r9 d9 N9 f9 where
  sco := ⟨rfl, rfl, rfl, by decide +kernel, rfl, by decide +kernel, by decide +kernel⟩
  ps := rfl
  n := rfl
  body := by kernel_rfl
  nd := rfl
  dfl := rfl
  smp := rfl
  at_ := fun _ => rfl
  bi := fun K f fd F j hj => by
    obtain rfl : j = 0 := Nat.le_zero.mp hj
    exact ⟨[], .nil, FunD.bindsN (ps := r9.ps) F fun _ _ _ _ _ _ us hl => match us, hl with | [_, _, _], _ => rfl⟩
theorem one10 : OneOk src 10 r10 d10 N10 f10 where
  sco := ⟨rfl, rfl, rfl, by decide +kernel, rfl, by decide +kernel, by decide +kernel⟩
  ps := rfl
  n := rfl
  body := by kernel_rfl
  nd := rfl
  dfl := rfl
  smp := rfl
  at_ := fun _ => rfl
  bi := fun K f fd F j hj => by
    obtain rfl : j = 0 := Nat.le_zero.mp hj
    exact ⟨[], .nil, FunD.bindsN (ps := r10.ps) F fun _ _ _ _ _ _ us hl => match us, hl with | [_, _, _, _], _ => rfl⟩
theorem one11 : OneOk src 11 r11 d11 N11 f11 where
  sco := ⟨rfl, rfl, rfl, by decide +kernel, rfl, by decide +kernel, by decide +kernel⟩
  ps := rfl
  n := rfl
  body := by kernel_rfl
  nd := rfl
  dfl := rfl
  smp := rfl
  at_ := fun _ => rfl
  bi := fun K f fd F j hj => by
    obtain rfl : j = 0 := Nat.le_zero.mp hj
    exact ⟨[], .nil, FunD.bindsN (ps := r11.ps) F fun _ _ _ _ _ _ us hl => match us, hl with | [_, _, _], _ => rfl⟩
theorem one12 : OneOk src 12 r12 d12 N12 f12 where
  sco := ⟨rfl, rfl, rfl, by decide +kernel, rfl, by decide +kernel, by decide +kernel⟩
  ps := rfl
  n := rfl
  body := by kernel_rfl
  nd := rfl
  dfl := rfl
  smp := rfl
  at_ := fun _ => rfl
  bi := fun K f fd F j hj => by
    obtain rfl : j = 0 := Nat.le_zero.mp hj
    exact ⟨[], .nil, FunD.bindsN (ps := r12.ps) F fun _ _ _ _ _ _ us hl => match us, hl with | [_], _ => rfl⟩
theorem one13 : OneOk src 13 r13 d13 N13 f13 where
  sco := ⟨rfl, rfl, rfl, by decide +kernel, rfl, by decide +kernel, by decide +kernel⟩
  ps := rfl
  n := rfl
  body := by kernel_rfl
  nd := rfl
  dfl := rfl
  smp := rfl
  at_ := fun h => by cases h
  bi := fun K f fd F j hj => by
    obtain rfl : j = 0 := Nat.le_zero.mp hj
    exact ⟨[], .nil, FunD.bindsN (ps := r13.ps) F fun _ _ _ _ _ _ us hl => match us, hl with | [_, _, _], _ => rfl⟩
theorem one14 : OneOk src 14 r14 d14 N14 f14 where
  sco := ⟨rfl, rfl, rfl, by decide +kernel, rfl, by decide +kernel, by decide +kernel⟩
  ps := rfl
  n := rfl
  body := by kernel_rfl
  nd := rfl
  dfl := rfl
  smp := rfl
  at_ := fun _ => rfl
  bi := fun K f fd F j hj => by
    match j, hj with
    | 0, _ => exact FunD.binds1 (ps := r14.ps) F 1 0 (List.cons_ne_nil _ _) rfl fun _ _ _ _ _ _ _ us its h1 h2 => match us, its, h1, h2 with | [_], [_], _, _ => ⟨_, rfl, rfl⟩
    | 1, _ => exact FunD.binds1 (ps := r14.ps) F 2 1 (List.cons_ne_nil _ _) rfl fun _ _ _ _ _ _ _ us its h1 h2 => match us, its, h1, h2 with | [_, _], [_], _, _ => ⟨_, rfl, rfl⟩
    | j + 2, hj => exact absurd hj (by show ¬ j + 2 ≤ 1; omega)
theorem one15 : OneOk src 15 r15 d15 N15 f15 where
  sco := ⟨rfl, rfl, rfl, by decide +kernel, rfl, by decide +kernel, by decide +kernel⟩
  ps := rfl
  n := rfl
  body := by kernel_rfl
  nd := rfl
  dfl := rfl
  smp := rfl
  at_ := fun _ => rfl
  bi := fun K f fd F j hj => by
    obtain rfl : j = 0 := Nat.le_zero.mp hj
    exact ⟨[], .nil, FunD.bindsN (ps := r15.ps) F fun _ _ _ _ _ _ us hl => match us, hl with | [_, _], _ => rfl⟩
theorem one16 : OneOk src 16 r16 d16 N16 f16 where
  sco := ⟨rfl, rfl, rfl, by decide +kernel, rfl, by decide +kernel, by decide +kernel⟩
  ps := rfl
  n := rfl
  body := by kernel_rfl
  nd := rfl
  dfl := rfl
  smp := rfl
  at_ := fun _ => rfl
  bi := fun K f fd F j hj => by
    obtain rfl : j = 0 := Nat.le_zero.mp hj
    exact ⟨[], .nil, FunD.bindsN (ps := r16.ps) F fun _ _ _ _ _ _ us hl => match us, hl with | [_, _, _], _ => rfl⟩
theorem one17 : OneOk src 17 r17 d17 N17 f17 where
  sco := ⟨rfl, rfl, rfl, by decide +kernel, rfl, by decide +kernel, by decide +kernel⟩
  ps := rfl
  n := rfl
  body := by kernel_rfl
  nd := rfl
  dfl := rfl
  smp := rfl
  at_ := fun _ => rfl
  bi := fun K f fd F j hj => by
    obtain rfl : j = 0 := Nat.le_zero.mp hj
    exact ⟨[], .nil, FunD.bindsN (ps := r17.ps) F fun _ _ _ _ _ _ us hl => match us, hl with | [_, _], _ => rfl⟩
theorem one18 : OneOk src 18 r18 d18 N18 f18 where
  sco := ⟨rfl, rfl, rfl, by decide +kernel, rfl, by decide +kernel, by decide +kernel⟩
  ps := rfl
  n := rfl
  body := by kernel_rfl
  nd := rfl
  dfl := rfl
  smp := rfl
  at_ := fun _ => rfl
  bi := fun K f fd F j hj => by
    obtain rfl : j = 0 := Nat.le_zero.mp hj
    exact ⟨[], .nil, FunD.bindsN (ps := r18.ps) F fun _ _ _ _ _ _ us hl => match us, hl with | [_, _], _ => rfl⟩
theorem one19 : OneOk src 19 r19 d19 N19 f19 where
  sco := ⟨rfl, rfl, rfl, by decide +kernel, rfl, by decide +kernel, by decide +kernel⟩
  ps := rfl
  n := rfl
  body := by kernel_rfl
  nd := rfl
  dfl := rfl
  smp := rfl
  at_ := fun _ => rfl
  bi := fun K f fd F j hj => by
    match j, hj with
    | 0, _ => exact FunD.binds1 (ps := r19.ps) F 2 0 (List.cons_ne_nil _ _) rfl fun _ _ _ _ _ _ _ us its h1 h2 => match us, its, h1, h2 with | [_, _], [_], _, _ => ⟨_, rfl, rfl⟩
    | 1, _ => exact FunD.binds1 (ps := r19.ps) F 3 1 (List.cons_ne_nil _ _) rfl fun _ _ _ _ _ _ _ us its h1 h2 => match us, its, h1, h2 with | [_, _, _], [_], _, _ => ⟨_, rfl, rfl⟩
    | j + 2, hj => exact absurd hj (by show ¬ j + 2 ≤ 1; omega)
theorem one20 : OneOk src 20 r20 d20 N20 f20 where
  sco := ⟨rfl, rfl, rfl, by decide +kernel, rfl, by decide +kernel, by decide +kernel⟩
  ps := rfl
  n := rfl
  body := by kernel_rfl
  nd := rfl
  dfl := rfl
  smp := rfl
  at_ := fun _ => rfl
  bi := fun K f fd F j hj => by
    obtain rfl : j = 0 := Nat.le_zero.mp hj
    exact ⟨[], .nil, FunD.bindsN (ps := r20.ps) F fun _ _ _ _ _ _ us hl => match us, hl with | [_, _, _], _ => rfl⟩
theorem one21 : OneOk src 21 r21 d21 N21 f21 where
  sco := ⟨rfl, rfl, rfl, by decide +kernel, rfl, by decide +kernel, by decide +kernel⟩
  ps := rfl
  n := rfl
  body := by kernel_rfl
  nd := rfl
  dfl := rfl
  smp := rfl
  at_ := fun _ => rfl
  bi := fun K f fd F j hj => by
    obtain rfl : j = 0 := Nat.le_zero.mp hj
    exact ⟨[], .nil, FunD.bindsN (ps := r21.ps) F fun _ _ _ _ _ _ us hl => match us, hl with | [_, _, _], _ => rfl⟩
theorem one22 : OneOk src 22 r22 d22 N22 f22 where
  sco := ⟨rfl, rfl, rfl, by decide +kernel, rfl, by decide +kernel, by decide +kernel⟩
  ps := rfl
  n := rfl
  body := by kernel_rfl
  nd := rfl
  dfl := rfl
  smp := rfl
  at_ := fun _ => rfl
  bi := fun K f fd F j hj => by
    obtain rfl : j = 0 := Nat.le_zero.mp hj
    exact ⟨[], .nil, FunD.bindsN (ps := r22.ps) F fun _ _ _ _ _ _ us hl => match us, hl with | [_, _], _ => rfl⟩
theorem one23 : OneOk src 23 r23 d23 N23 f23 where
  sco := ⟨rfl, rfl, rfl, by decide +kernel, rfl, by decide +kernel, by decide +kernel⟩
  ps := rfl
  n := rfl
  body := by kernel_rfl
  nd := rfl
  dfl := rfl
  smp := rfl
  at_ := fun _ => rfl
  bi := fun K f fd F j hj => by
    obtain rfl : j = 0 := Nat.le_zero.mp hj
    exact ⟨[], .nil, FunD.bindsN (ps := r23.ps) F fun _ _ _ _ _ _ us hl => match us, hl with | [_, _], _ => rfl⟩
theorem one24 : OneOk src 24 r24 d24 N24 f24 where
  sco := ⟨rfl, rfl, rfl, by decide +kernel, rfl, by decide +kernel, by decide +kernel⟩
  ps := rfl
  n := rfl
  body := by kernel_rfl
  nd := rfl
  dfl := rfl
  smp := rfl
  at_ := fun _ => rfl
  bi := fun K f fd F j hj => by
    obtain rfl : j = 0 := Nat.le_zero.mp hj
    exact ⟨[], .nil, FunD.bindsN (ps := r24.ps) F fun _ _ _ _ _ _ us hl => match us, hl with | [_, _], _ => rfl⟩
theorem one25 : OneOk src 25 r25 d25 N25 f25 where
  sco := ⟨rfl, rfl, rfl, by decide +kernel, rfl, by decide +kernel, by decide +kernel⟩
  ps := rfl
  n := rfl
  body := by kernel_rfl
  nd := rfl
  dfl := rfl
  smp := rfl
  at_ := fun _ => rfl
  bi := fun K f fd F j hj => by
    obtain rfl : j = 0 := Nat.le_zero.mp hj
    exact ⟨[], .nil, FunD.bindsN (ps := r25.ps) F fun _ _ _ _ _ _ us hl => match us, hl with | [_, _], _ => rfl⟩
theorem one26 : OneOk src 26 r26 d26 N26 f26 where
  sco := ⟨rfl, rfl, rfl, by decide +kernel, rfl, by decide +kernel, by decide +kernel⟩
  ps := rfl
  n := rfl
  body := by kernel_rfl
  nd := rfl
  dfl := rfl
  smp := rfl
  at_ := fun _ => rfl
  bi := fun K f fd F j hj => by
    obtain rfl : j = 0 := Nat.le_zero.mp hj
    exact ⟨[], .nil, FunD.bindsN (ps := r26.ps) F fun _ _ _ _ _ _ us hl => match us, hl with | [_], _ => rfl⟩
theorem one27 : OneOk src 27 r27 d27 N27 f27 where
  sco := ⟨rfl, rfl, rfl, by decide +kernel, rfl, by decide +kernel, by decide +kernel⟩
  ps := rfl
  n := rfl
  body := by kernel_rfl
  nd := rfl
  dfl := rfl
  smp := rfl
  at_ := fun _ => rfl
  bi := fun K f fd F j hj => by
    obtain rfl : j = 0 := Nat.le_zero.mp hj
    exact ⟨[], .nil, FunD.bindsN (ps := r27.ps) F fun _ _ _ _ _ _ us hl => match us, hl with | [_, _, _, _], _ => rfl⟩
theorem one28 : OneOk src 28 r28 d28 N28 f28 where
  sco := ⟨rfl, rfl, rfl, by decide +kernel, rfl, by decide +kernel, by decide +kernel⟩
  ps := rfl
  n := rfl
  body := by kernel_rfl
  nd := rfl
  dfl := rfl
  smp := rfl
  at_ := fun _ => rfl
  bi := fun K f fd F j hj => by
    obtain rfl : j = 0 := Nat.le_zero.mp hj
    exact ⟨[], .nil, FunD.bindsN (ps := r28.ps) F fun _ _ _ _ _ _ us hl => match us, hl with | [_, _], _ => rfl⟩
theorem one29 : OneOk src 29 r29 d29 N29 f29 where
  sco := ⟨rfl, rfl, rfl, by decide +kernel, rfl, by decide +kernel, by decide +kernel⟩
  ps := rfl
  n := rfl
  body := by kernel_rfl
  nd := rfl
  dfl := rfl
  smp := rfl
  at_ := fun _ => rfl
  bi := fun K f fd F j hj => by
    obtain rfl : j = 0 := Nat.le_zero.mp hj
    exact ⟨[], .nil, FunD.bindsN (ps := r29.ps) F fun _ _ _ _ _ _ us hl => match us, hl with | [_, _], _ => rfl⟩
theorem one30 : OneOk src 30 r30 d30 N30 f30 where
  sco := ⟨rfl, rfl, rfl, by decide +kernel, rfl, by decide +kernel, by decide +kernel⟩
  ps := rfl
  n := rfl
  body := by kernel_rfl
  nd := rfl
  dfl := rfl
  smp := rfl
  at_ := fun _ => rfl
  bi := fun K f fd F j hj => by
    obtain rfl : j = 0 := Nat.le_zero.mp hj
    exact ⟨[], .nil, FunD.bindsN (ps := r30.ps) F fun _ _ _ _ _ _ us hl => match us, hl with | [_, _, _], _ => rfl⟩
theorem one31 : OneOk src 31 r31 d31 N31 f31 where
  sco := ⟨rfl, rfl, rfl, by decide +kernel, rfl, by decide +kernel, by decide +kernel⟩
  ps := rfl
  n := rfl
  body := by kernel_rfl
  nd := rfl
  dfl := rfl
  smp := rfl
  at_ := fun _ => rfl
  bi := fun K f fd F j hj => by
    obtain rfl : j = 0 := Nat.le_zero.mp hj
    exact ⟨[], .nil, FunD.bindsN (ps := r31.ps) F fun _ _ _ _ _ _ us hl => match us, hl with | [_, _, _], _ => rfl⟩
theorem one32 : OneOk src 32 r32 d32 N32 f32 where
  sco := ⟨rfl, rfl, rfl, by decide +kernel, rfl, by decide +kernel, by decide +kernel⟩
  ps := rfl
  n := rfl
  body := by kernel_rfl
  nd := rfl
  dfl := rfl
  smp := rfl
  at_ := fun _ => rfl
  bi := fun K f fd F j hj => by
    obtain rfl : j = 0 := Nat.le_zero.mp hj
    exact ⟨[], .nil, FunD.bindsN (ps := r32.ps) F fun _ _ _ _ _ _ us hl => match us, hl with | [], _ => rfl⟩
theorem one33 : OneOk src 33 r33 d33 N33 f33 where
  sco := ⟨rfl, rfl, rfl, by decide +kernel, rfl, by decide +kernel, by decide +kernel⟩
  ps := rfl
  n := rfl
  body := by kernel_rfl
  nd := rfl
  dfl := rfl
  smp := rfl
  at_ := fun _ => rfl
  bi := fun K f fd F j hj => by
    obtain rfl : j = 0 := Nat.le_zero.mp hj
    exact ⟨[], .nil, FunD.bindsN (ps := r33.ps) F fun _ _ _ _ _ _ us hl => match us, hl with | [_], _ => rfl⟩
theorem one34 : OneOk src 34 r34 d34 N34 f34 where
  sco := ⟨rfl, rfl, rfl, by decide +kernel, rfl, by decide +kernel, by decide +kernel⟩
  ps := rfl
  n := rfl
  body := by kernel_rfl
  nd := rfl
  dfl := rfl
  smp := rfl
  at_ := fun _ => rfl
  bi := fun K f fd F j hj => by
    obtain rfl : j = 0 := Nat.le_zero.mp hj
    exact ⟨[], .nil, FunD.bindsN (ps := r34.ps) F fun _ _ _ _ _ _ us hl => match us, hl with | [_], _ => rfl⟩
theorem sok : SrcOk src where
  fn := fun i r h => by
    match i, h with
    | 0, h => cases h; exact ⟨_, _, _, rfl, rfl, rfl, one0⟩
    | 1, h => cases h; exact ⟨_, _, _, rfl, rfl, rfl, one1⟩
    | 2, h => cases h; exact ⟨_, _, _, rfl, rfl, rfl, one2⟩
    | 3, h => cases h; exact ⟨_, _, _, rfl, rfl, rfl, one3⟩
    | 4, h => cases h; exact ⟨_, _, _, rfl, rfl, rfl, one4⟩
    | 5, h => cases h; exact ⟨_, _, _, rfl, rfl, rfl, one5⟩
    | 6, h => cases h; exact ⟨_, _, _, rfl, rfl, rfl, one6⟩
    | 7, h => cases h; exact ⟨_, _, _, rfl, rfl, rfl, one7⟩
    | 8, h => cases h; exact ⟨_, _, _, rfl, rfl, rfl, one8⟩
    | 9, h => cases h; exact ⟨_, _, _, rfl, rfl, rfl, one9⟩
    | 10, h => cases h; exact ⟨_, _, _, rfl, rfl, rfl, one10⟩
    | 11, h => cases h; exact ⟨_, _, _, rfl, rfl, rfl, one11⟩
    | 12, h => cases h; exact ⟨_, _, _, rfl, rfl, rfl, one12⟩
    | 13, h => cases h; exact ⟨_, _, _, rfl, rfl, rfl, one13⟩
    | 14, h => cases h; exact ⟨_, _, _, rfl, rfl, rfl, one14⟩
    | 15, h => cases h; exact ⟨_, _, _, rfl, rfl, rfl, one15⟩
    | 16, h => cases h; exact ⟨_, _, _, rfl, rfl, rfl, one16⟩
    | 17, h => cases h; exact ⟨_, _, _, rfl, rfl, rfl, one17⟩
    | 18, h => cases h; exact ⟨_, _, _, rfl, rfl, rfl, one18⟩
    | 19, h => cases h; exact ⟨_, _, _, rfl, rfl, rfl, one19⟩
    | 20, h => cases h; exact ⟨_, _, _, rfl, rfl, rfl, one20⟩
    | 21, h => cases h; exact ⟨_, _, _, rfl, rfl, rfl, one21⟩
    | 22, h => cases h; exact ⟨_, _, _, rfl, rfl, rfl, one22⟩
    | 23, h => cases h; exact ⟨_, _, _, rfl, rfl, rfl, one23⟩
    | 24, h => cases h; exact ⟨_, _, _, rfl, rfl, rfl, one24⟩
    | 25, h => cases h; exact ⟨_, _, _, rfl, rfl, rfl, one25⟩
    | 26, h => cases h; exact ⟨_, _, _, rfl, rfl, rfl, one26⟩
    | 27, h => cases h; exact ⟨_, _, _, rfl, rfl, rfl, one27⟩
    | 28, h => cases h; exact ⟨_, _, _, rfl, rfl, rfl, one28⟩
    | 29, h => cases h; exact ⟨_, _, _, rfl, rfl, rfl, one29⟩
    | 30, h => cases h; exact ⟨_, _, _, rfl, rfl, rfl, one30⟩
    | 31, h => cases h; exact ⟨_, _, _, rfl, rfl, rfl, one31⟩
    | 32, h => cases h; exact ⟨_, _, _, rfl, rfl, rfl, one32⟩
    | 33, h => cases h; exact ⟨_, _, _, rfl, rfl, rfl, one33⟩
    | 34, h => cases h; exact ⟨_, _, _, rfl, rfl, rfl, one34⟩
    | i + 35, h => cases h
  cl := fun i c m h h2 => by
    match i, h, h2 with
    | 0, h, h2 => cases h; cases h2; exact ⟨_, _, _, rfl, rfl, rfl, rfl, rfl⟩
    | i + 1, h, _ => cases h
def lo0 : List PySem.Str := ["StairError", "InvalidRoot", "InvalidSurd", "InvalidInteger", "InvalidCount", "GREAT", "is_integer", "is_between", "is_great", "is_told_integer", "need_integer", "need_count", "gcd", "root_floor", "NOUGHT", "UNIT", "made", "sign", "whole", "is_before", "is_surd", "MOST", "Root", "need_root", "MOST_MODULUS", "whole_of", "point_at", "met_at", "is_point", "need_point"]
def lo1 : List PySem.Str := ["coordinates", "end_met", "_law_box", "_law_take", "_law_pick", "_law_is", "_law_sqrt", "_law_floor", "_law_w", "_law_gcd", "_law_surd", "_law_sub", "_law_point", "_law_roots", "_law_big"]
def loose : List PySem.Str := lo0 ++ lo1
abbrev R : PySem.W.OpenRow := PySem.W.OpenLaw.row PySem.Challenge.rw_rootstairs_k13_whole_ends_met_once
abbrev hk : PySem.W.Hook := hookM 6 src
def ob (s : PySem.W.SharedT) : He.AlD := obsMG 6 src (HandSHeadRun.getT s)
theorem ob_eq (s : PySem.W.SharedT) : ob s = hk.obs s.abs := obsMG_eq (HandSHeadRun.getT_eq s)
theorem run (w : World) : HandSHeadRun.RunEq R (PySem.W.view R.prog [51]) hk ob 3000 loose w := by
  intro os
  kernel_rfl
def MathOk : Prop := ∀ ns : List Int, ns.length ≤ 63 → (∀ z ∈ ns, Builtin.Int.intBits z ≤ 1048576) → ∃ S, (gm prg FU 20).fn 34 [.lsf (ns.map D.int)] [] = .ok (.bl true) S
open PySem.W PySem.Calls PyProof.Rows in
theorem fin (math : MathOk) : PySem.Challenge.rw_rootstairs_k13_whole_ends_met_once.Holds := by
  w_on; o_law
  refine HandSHeadRun.head_any (r := OpenLaw.row PySem.Challenge.rw_rootstairs_k13_whole_ends_met_once) (q := view (OpenLaw.row PySem.Challenge.rw_rootstairs_k13_whole_ends_met_once).prog [51]) (H := hk) (ob := ob) (M := 3000) (loose := loose) (d := HandSHeadRun.topDef (OpenLaw.row PySem.Challenge.rw_rootstairs_k13_whole_ends_met_once).prog 51) (kwd := []) ob_eq
    (by kernel_rfl) (fun s => by kernel_rfl) run (by kernel_rfl) (by kernel_rfl) (by kernel_rfl) (by rfl) (by first | assumption | decide +kernel) (by decide +kernel) ⟨rfl, rfl, rfl, rfl, rfl, by decide +kernel⟩ ?hw ?hc
  case hw => w_witness2
  case hc => exact walk_mp (l := PySem.Challenge.rw_rootstairs_k13_whole_ends_met_once) (s := src) (m := 6) (L := 34) (fu := FU) (dep := 20) (dl := d34) rfl (by kernel_rfl) sok rfl rfl (by kernel_rfl) (by decide) ⟨rfl, rfl⟩ (fun _ _ _ _ _ _ us hl => match us, hl with | [_], _ => rfl) math
end L_k13
end

section
set_option maxRecDepth 10000
namespace K13
/-! ### integer roots -/
def isq : Nat → Nat
  | 0 => 0
  | n + 1 => if (isq n + 1) * (isq n + 1) ≤ n + 1 then isq n + 1 else isq n
theorem isq_both : ∀ n, isq n * isq n ≤ n ∧ n < (isq n + 1) * (isq n + 1)
  | 0 => by decide
  | n + 1 => by
    obtain ⟨h1, h2⟩ := isq_both n
    unfold isq
    split
    · rename_i h
      refine ⟨h, ?_⟩
      have : (isq n + 1 + 1) * (isq n + 1 + 1) = (isq n + 1) * (isq n + 1) + 2 * (isq n + 1) + 1 := by grind
      omega
    · rename_i h
      exact ⟨Nat.le_succ_of_le h1, by omega⟩
theorem sq_lt {a b : Nat} (h : a * a < b * b) : a < b := by
  refine Nat.lt_of_not_le fun h' => ?_
  have := Nat.mul_le_mul h' h'
  omega
theorem isq_uniq {s n : Nat} (h1 : s * s ≤ n) (h2 : n < (s + 1) * (s + 1)) : s = isq n := by
  obtain ⟨h3, h4⟩ := isq_both n
  have a := sq_lt (Nat.lt_of_le_of_lt h1 h4)
  have b := sq_lt (Nat.lt_of_le_of_lt h3 h2)
  omega
theorem le_isq {a n : Nat} : a ≤ isq n ↔ a * a ≤ n := by
  obtain ⟨h3, h4⟩ := isq_both n
  constructor
  · intro h
    exact Nat.le_trans (Nat.mul_le_mul h h) h3
  · intro h
    have a := sq_lt (Nat.lt_of_le_of_lt h h4)
    omega
theorem isq_le (n : Nat) : isq n ≤ n := by
  obtain ⟨h3, _⟩ := isq_both n
  rcases Nat.eq_zero_or_pos (isq n) with h | h
  · omega
  · exact Nat.le_trans (Nat.le_mul_of_pos_left _ h) h3

/-! ### the floor of q √D, and signs -/
def Nsq (D q : Int) : Nat := (q * q * D).toNat
def F (D q : Int) : Int := if 0 ≤ q then (isq (Nsq D q) : Int) else -(isq (Nsq D q) : Int) - 1
/-- a + q √D ≥ 0 -/
def NN (D a q : Int) : Prop := if 0 ≤ q then 0 ≤ a ∨ a * a ≤ q * q * D else 0 < a ∧ q * q * D < a * a
theorem sq_nn (a : Int) : 0 ≤ a * a := by
  rcases Int.le_total 0 a with h | h
  · exact Int.mul_nonneg h h
  · exact Int.mul_nonneg_of_nonpos_of_nonpos h h
theorem Nsq_int {D : Int} (hD : 0 ≤ D) (q : Int) : ((Nsq D q : Nat) : Int) = q * q * D := Int.toNat_of_nonneg (Int.mul_nonneg (sq_nn q) hD)
theorem natAbs_sq (a : Int) : ((a.natAbs * a.natAbs : Nat) : Int) = a * a := by
  rw [Int.natCast_mul]
  rcases Int.natAbs_eq a with h | h
  · rw [← h]
  · have : ((a.natAbs : Nat) : Int) = -a := by omega
    rw [this, Int.neg_mul_neg]
theorem NN_F {D : Int} (hD : 0 ≤ D) (a q : Int) : NN D a q ↔ 0 ≤ a + F D q := by
  have h2 := Nsq_int hD q
  have key : a.natAbs ≤ isq (Nsq D q) ↔ a * a ≤ q * q * D := by
    rw [le_isq, ← h2, ← natAbs_sq]; omega
  unfold NN F
  split
  · constructor
    · intro h
      rcases h with h | h
      · omega
      · have := key.mpr h; omega
    · intro h
      by_cases ha : 0 ≤ a
      · exact .inl ha
      · exact .inr (key.mp (by omega))
  · constructor
    · rintro ⟨h1, h3⟩
      have : ¬ a.natAbs ≤ isq (Nsq D q) := fun h => by have := key.mp h; omega
      omega
    · intro h
      have ha : 0 < a := by omega
      refine ⟨ha, ?_⟩
      have : ¬ a * a ≤ q * q * D := fun h' => by have := key.mpr h'; omega
      omega
theorem NN_scale {D g : Int} (hg : 0 < g) (a q : Int) : NN D (g * a) (g * q) ↔ NN D a q := by
  have e1 : g * a * (g * a) = g * g * (a * a) := by grind
  have e2 : g * q * (g * q) * D = g * g * (q * q * D) := by grind
  have hgg : 0 < g * g := Int.mul_pos hg hg
  have hq : 0 ≤ g * q ↔ 0 ≤ q := ⟨fun h => by
    refine Int.not_lt.mp fun h' => ?_
    have := Int.mul_neg_of_pos_of_neg hg h'
    omega, fun h => Int.mul_nonneg (Int.le_of_lt hg) h⟩
  have ha : 0 ≤ g * a ↔ 0 ≤ a := ⟨fun h => by
    refine Int.not_lt.mp fun h' => ?_
    have := Int.mul_neg_of_pos_of_neg hg h'
    omega, fun h => Int.mul_nonneg (Int.le_of_lt hg) h⟩
  have ha' : 0 < g * a ↔ 0 < a := ⟨fun h => by
    refine Int.lt_of_not_ge fun h' => ?_
    have : g * a ≤ 0 := Int.mul_nonpos_of_nonneg_of_nonpos (Int.le_of_lt hg) h'
    omega, fun h => Int.mul_pos hg h⟩
  have hle : g * a * (g * a) ≤ g * q * (g * q) * D ↔ a * a ≤ q * q * D := by
    rw [e1, e2]
    exact ⟨fun h => Int.le_of_mul_le_mul_left h hgg, fun h => Int.mul_le_mul_of_nonneg_left h (Int.le_of_lt hgg)⟩
  have hlt : g * q * (g * q) * D < g * a * (g * a) ↔ q * q * D < a * a := by
    rw [e1, e2]
    exact ⟨fun h => Int.lt_of_mul_lt_mul_left h (Int.le_of_lt hgg), fun h => Int.mul_lt_mul_of_pos_left h hgg⟩
  unfold NN
  by_cases h : 0 ≤ q
  · rw [if_pos h, if_pos (hq.mpr h), ha, hle]
  · rw [if_neg h, if_neg (fun z => h (hq.mp z)), ha', hlt]

/-- the sign as the program finds it -/
def sg (D f q : Int) : Int :=
  if q = 0 ∨ f = 0 ∨ (decide (0 < f) = decide (0 < q)) then
    (if 0 < (if q = 0 then f else q) then 1 else 0) - (if (if q = 0 then f else q) < 0 then 1 else 0)
  else if decide (0 < f) = decide (q * q * D < f * f) then 1 else -1
theorem sg_neg {D : Int} (hD : 0 ≤ D) (f q : Int) : sg D f q < 0 ↔ ¬ NN D f q := by
  unfold sg NN
  have hqD : 0 ≤ q * q * D := Int.mul_nonneg (sq_nn q) hD
  by_cases hq0 : q = 0
  · subst hq0
    have : ¬ 0 < f * f ∨ 0 < f * f := by omega
    have hf : f < 0 → 0 < f * f := fun h => Int.mul_pos_of_neg_of_neg h h
    simp only [true_or, if_true, Int.le_refl]
    by_cases h1 : 0 < f
    · simp [h1, show ¬ f < 0 by omega, show 0 ≤ f by omega]
    · by_cases h2 : f < 0
      · have h3 := hf h2
        simp [h1, h2, show ¬ 0 ≤ f by omega]
        omega
      · simp [h1, h2, show 0 ≤ f by omega]
  · by_cases hf0 : f = 0
    · subst hf0
      simp only [hq0, true_or, or_true, if_true, if_false]
      by_cases h1 : 0 < q
      · simp [h1, show ¬ q < 0 by omega, show 0 ≤ q by omega]
      · simp [h1, show q < 0 by omega, show ¬ 0 ≤ q by omega]
    · by_cases h1 : 0 < q
      · by_cases h2 : 0 < f
        · simp [h1, h2, hq0, show ¬ q < 0 by omega, show 0 ≤ q by omega, show 0 ≤ f by omega]
        · by_cases h3 : q * q * D < f * f
          · simp [h1, h2, hq0, hf0, h3, show 0 ≤ q by omega, show ¬ 0 ≤ f by omega]
          · simp [h1, h2, hq0, hf0, h3, show 0 ≤ q by omega, show ¬ 0 ≤ f by omega]
      · by_cases h2 : 0 < f
        · by_cases h3 : q * q * D < f * f
          · simp [h1, h2, hq0, hf0, h3, show ¬ 0 ≤ q by omega]
          · simp [h1, h2, hq0, hf0, h3, show ¬ 0 ≤ q by omega]
        · simp [h1, h2, hq0, hf0, show q < 0 by omega, show ¬ 0 ≤ q by omega]

/-! ### triples in lowest terms -/
def G3 (a b c : Int) : Nat := Nat.gcd (Nat.gcd a.natAbs b.natAbs) c.natAbs
abbrev T3 := Int × Int × Int
def red (a b c : Int) : T3 := (a / (G3 a b c : Int), b / (G3 a b c : Int), c / (G3 a b c : Int))
theorem G3_pos {a b c : Int} (h : 0 < c) : 0 < G3 a b c := Nat.gcd_pos_of_pos_right _ (by omega)
theorem G3_dvd1 (a b c : Int) : ((G3 a b c : Nat) : Int) ∣ a := Int.ofNat_dvd_left.mpr (Nat.dvd_trans (Nat.gcd_dvd_left _ _) (Nat.gcd_dvd_left _ _))
theorem G3_dvd2 (a b c : Int) : ((G3 a b c : Nat) : Int) ∣ b := Int.ofNat_dvd_left.mpr (Nat.dvd_trans (Nat.gcd_dvd_left _ _) (Nat.gcd_dvd_right _ _))
theorem G3_dvd3 (a b c : Int) : ((G3 a b c : Nat) : Int) ∣ c := Int.ofNat_dvd_left.mpr (Nat.gcd_dvd_right _ _)
theorem G3_mul {s : Int} (_ : 0 ≤ s) (a b c : Int) : G3 (s * a) (s * b) (s * c) = s.natAbs * G3 a b c := by
  unfold G3
  rw [Int.natAbs_mul, Int.natAbs_mul, Int.natAbs_mul, Nat.gcd_mul_left, Nat.gcd_mul_left]
/-- the parts of a triple, told by its measure -/
theorem red_parts {a b c : Int} (hc : 0 < c) : ∃ g p q r : Int, 0 < g ∧ a = g * p ∧ b = g * q ∧ c = g * r ∧ 0 < r ∧ G3 p q r = 1 ∧ red a b c = (p, q, r) := by
  have hg := G3_pos (a := a) (b := b) hc
  have hg' : (0 : Int) < (G3 a b c : Nat) := by omega
  have e1 := Int.mul_ediv_cancel' (G3_dvd1 a b c)
  have e2 := Int.mul_ediv_cancel' (G3_dvd2 a b c)
  have e3 := Int.mul_ediv_cancel' (G3_dvd3 a b c)
  have hr : 0 < c / (G3 a b c : Int) := by
    refine Int.not_le.mp fun h => ?_
    have : (G3 a b c : Int) * (c / (G3 a b c : Int)) ≤ 0 := Int.mul_nonpos_of_nonneg_of_nonpos (Int.le_of_lt hg') h
    omega
  refine ⟨G3 a b c, _, _, _, hg', e1.symm, e2.symm, e3.symm, hr, ?_, rfl⟩
  have := G3_mul (Int.le_of_lt hg') (a / (G3 a b c : Int)) (b / (G3 a b c : Int)) (c / (G3 a b c : Int))
  rw [e1, e2, e3] at this
  have h2 : ((G3 a b c : Nat) : Int).natAbs = G3 a b c := by omega
  rw [h2] at this
  have h3 : G3 a b c * G3 (a / ↑(G3 a b c)) (b / ↑(G3 a b c)) (c / ↑(G3 a b c)) = G3 a b c * 1 := by omega
  exact Nat.eq_of_mul_eq_mul_left hg h3
theorem red_uniq {a b c p q r s h : Int} (hs : 0 < s) (hh : 0 < h) (hc : 0 < c) (g1 : G3 p q r = 1) (e1 : s * a = h * p) (e2 : s * b = h * q) (e3 : s * c = h * r) : red a b c = (p, q, r) := by
  obtain ⟨g, p', q', r', hg, f1, f2, f3, hr', g1', hred⟩ := red_parts (a := a) (b := b) hc
  rw [hred]
  have k1 := G3_mul (Int.le_of_lt hs) a b c
  rw [e1, e2, e3, G3_mul (Int.le_of_lt hh), g1] at k1
  have k2 := G3_mul (Int.le_of_lt hg) p' q' r'
  rw [← f1, ← f2, ← f3, g1'] at k2
  have k3 : h = s * g := by
    have : h.natAbs = s.natAbs * g.natAbs := by
      rw [k2, Nat.mul_one, Nat.mul_one] at k1
      exact k1
    have h1 : ((h.natAbs : Nat) : Int) = h := by omega
    have h2 : ((s.natAbs : Nat) : Int) = s := by omega
    have h3 : ((g.natAbs : Nat) : Int) = g := by omega
    rw [← h1, this, Int.natCast_mul, h2, h3]
  subst k3
  have can : ∀ {x y : Int}, s * (g * x) = s * g * y → x = y := fun {x y} hxy => by
    have h1 : s * g * x = s * g * y := by rw [Int.mul_assoc]; exact hxy
    exact Int.eq_of_mul_eq_mul_left (Int.ne_of_gt (Int.mul_pos hs hg)) h1
  have c1 : p' = p := can (by rw [← f1]; exact e1)
  have c2 : q' = q := can (by rw [← f2]; exact e2)
  have c3 : r' = r := can (by rw [← f3]; exact e3)
  rw [c1, c2, c3]

/-! ### points -/
def Wn (t D n : Int) : Int := (n * t + F D n) / 2
def Pt (t D m n : Int) : T3 := red (-(m * (Wn t D n / m))) n m
def InU (t D : Int) (x : T3) : Prop := NN D (2 * x.1 + x.2.1 * t) x.2.1 ∧ ¬ NN D (2 * (x.1 - x.2.2) + x.2.1 * t) x.2.1
def met (m : Int) (x : T3) : Option Int := if x.1 % x.2.2 ≠ 0 ∨ (m * x.2.1) % x.2.2 ≠ 0 then none else some (m * x.2.1 / x.2.2)
theorem Wn_bd (t D n : Int) : 2 * Wn t D n ≤ n * t + F D n ∧ n * t + F D n < 2 * Wn t D n + 2 := by unfold Wn; omega
theorem div_bd {a m : Int} (hm : 0 < m) : m * (a / m) ≤ a ∧ a < m * (a / m) + m := by
  have h1 := Int.mul_ediv_add_emod a m
  have h2 := Int.emod_nonneg a (Int.ne_of_gt hm)
  have h3 := Int.emod_lt_of_pos a hm
  omega
theorem InU_scale {t D g p q r : Int} (hg : 0 < g) : (NN D (2 * (g * p) + g * q * t) (g * q) ∧ ¬ NN D (2 * (g * p - g * r) + g * q * t) (g * q)) ↔ InU t D (p, q, r) := by
  have e1 : 2 * (g * p) + g * q * t = g * (2 * p + q * t) := by grind
  have e2 : 2 * (g * p - g * r) + g * q * t = g * (2 * (p - r) + q * t) := by grind
  rw [e1, e2, NN_scale hg, NN_scale hg]
  exact Iff.rfl
theorem Pt_spec {t D m : Int} (hD : 0 ≤ D) (hm : 0 < m) (n : Int) : ∃ p q r, Pt t D m n = (p, q, r) ∧ 0 < r ∧ G3 p q r = 1 ∧ InU t D (p, q, r) ∧ met m (p, q, r) = some n := by
  obtain ⟨g, p, q, r, hg, e1, e2, e3, hr, g1, hred⟩ := red_parts (a := -(m * (Wn t D n / m))) (b := n) hm
  refine ⟨p, q, r, hred, hr, g1, (InU_scale hg).mp ?_, ?_⟩
  · rw [← e1, ← e2, ← e3]
    obtain ⟨w1, w2⟩ := Wn_bd t D n
    obtain ⟨d1, d2⟩ := div_bd (a := Wn t D n) hm
    rw [NN_F hD, NN_F hD]
    constructor <;> omega
  · have hp : p % r = 0 := by
      have : g * p = g * (r * -(Wn t D n / m)) := by rw [← e1, e3]; grind
      have h2 := Int.eq_of_mul_eq_mul_left (Int.ne_of_gt hg) this
      rw [h2]; exact Int.mul_emod_right _ _
    have hq : m * q = r * n := by
      rw [e2]
      have : m * q = g * r * q := by rw [← e3]
      rw [this]; grind
    unfold met
    rw [if_neg (by
      show ¬ (p % r ≠ 0 ∨ m * q % r ≠ 0)
      rw [hq, Int.mul_emod_right]; omega)]
    show some (m * q / r) = some n
    rw [hq, Int.mul_ediv_cancel_left _ (Int.ne_of_gt hr)]
theorem NN_mono {D a b q : Int} (hD : 0 ≤ D) (h : a ≤ b) : NN D a q → NN D b q := by
  rw [NN_F hD, NN_F hD]; omega
/-- a c-th part of a point -/
theorem in_part {t D p q r c : Int} (hD : 0 ≤ D) (hr : 0 < r) (hc : 0 < c) (h : InU t D (p, q, r)) : ∃ p' q' r', red p q (r * c) = (p', q', r') ∧ 0 < r' ∧ G3 p' q' r' = 1 ∧ InU t D (p', q', r') := by
  obtain ⟨g, p', q', r', hg, e1, e2, e3, hr', g1, hred⟩ := red_parts (a := p) (b := q) (Int.mul_pos hr hc)
  refine ⟨p', q', r', hred, hr', g1, (InU_scale hg).mp ?_⟩
  rw [← e1, ← e2, ← e3]
  refine ⟨h.1, fun k => h.2 (NN_mono hD ?_ k)⟩
  have : r * 1 ≤ r * c := Int.mul_le_mul_of_nonneg_left (by omega) (Int.le_of_lt hr)
  show 2 * (p - r * c) + q * t ≤ 2 * (p - r) + q * t
  omega
/-- what is met is the point of that number -/
theorem met_back {t D m p q r n : Int} (hD : 0 ≤ D) (hm : 0 < m) (hr : 0 < r) (g1 : G3 p q r = 1) (hi : InU t D (p, q, r)) (h : met m (p, q, r) = some n) : Pt t D m n = (p, q, r) := by
  unfold met at h
  split at h
  · cases h
  · rename_i hc
    have h1 : p % r = 0 := by
      refine Decidable.byContradiction fun z => hc (.inl z)
    have h2 : m * q % r = 0 := by
      refine Decidable.byContradiction fun z => hc (.inr z)
    have hn : m * q / r = n := Option.some.inj h
    have e1 := Int.mul_ediv_cancel' (Int.dvd_of_emod_eq_zero h1)
    have e2 := Int.mul_ediv_cancel' (Int.dvd_of_emod_eq_zero h2)
    rw [hn] at e2
    generalize p / r = k at e1
    -- the same, m times as large
    have hs := (InU_scale (t := t) (D := D) (p := p) (q := q) (r := r) hm).mpr hi
    have a1 : 2 * (m * p) + m * q * t = r * (2 * (m * k) + n * t) := by rw [← e1, ← e2]; grind
    have a2 : 2 * (m * p - m * r) + m * q * t = r * (2 * (m * k - m) + n * t) := by rw [← e1, ← e2]; grind
    rw [a1, a2, ← e2, NN_scale hr, NN_scale hr, NN_F hD, NN_F hD] at hs
    obtain ⟨s1, s2⟩ := hs
    obtain ⟨w1, w2⟩ := Wn_bd t D n
    have hk : Wn t D n / m = -k := by
      obtain ⟨d1, d2⟩ := div_bd (a := Wn t D n) hm
      generalize hj : Wn t D n / m = j at d1 d2
      have u1 : m * (j + k) < m := by
        have : m * (j + k) = m * j + m * k := Int.mul_add ..
        omega
      have u2 : -m < m * (j + k) := by
        have : m * (j + k) = m * j + m * k := Int.mul_add ..
        omega
      have : j + k = 0 := by
        refine Decidable.byContradiction fun z => ?_
        rcases Int.lt_or_gt_of_ne z with z | z
        · have : m * (j + k) ≤ m * (-1) := Int.mul_le_mul_of_nonneg_left (by omega) (Int.le_of_lt hm)
          omega
        · have : m * 1 ≤ m * (j + k) := Int.mul_le_mul_of_nonneg_left (by omega) (Int.le_of_lt hm)
          omega
      omega
    unfold Pt
    rw [hk]
    refine red_uniq hr hm hm g1 ?_ e2 (Int.mul_comm ..)
    rw [← e1]; grind
/-- top/bottom -/
theorem ratio_spec {t D top bot : Int} (hD : 0 ≤ D) (h0 : 0 ≤ top) (h1 : top < bot) : ∃ p r, red top 0 bot = (p, 0, r) ∧ 0 < r ∧ G3 p 0 r = 1 ∧ InU t D (p, 0, r) ∧ ∀ m, met m (p, 0, r) = if top = 0 then some 0 else none := by
  obtain ⟨g, p, q, r, hg, e1, e2, e3, hr, g1, hred⟩ := red_parts (a := top) (b := 0) (show 0 < bot by omega)
  have hq : q = 0 := by
    rcases Int.mul_eq_zero.mp e2.symm with z | z
    · omega
    · exact z
  subst hq
  have hp0 : 0 ≤ p := by
    refine Int.not_lt.mp fun z => ?_
    have := Int.mul_neg_of_pos_of_neg hg z
    omega
  have hpr : p < r := by
    rw [e1, e3] at h1
    exact Int.lt_of_mul_lt_mul_left h1 (Int.le_of_lt hg)
  refine ⟨p, r, hred, hr, g1, ?_, fun m => ?_⟩
  · unfold InU
    rw [NN_F hD, NN_F hD]
    have : F D 0 = 0 := by unfold F Nsq; simp [isq]
    rw [this]
    constructor <;> (dsimp only; omega)
  · unfold met
    dsimp only
    rw [Int.mul_zero, Int.zero_emod, Int.zero_ediv, Int.emod_eq_of_lt hp0 hpr]
    by_cases ht : top = 0
    · have : p = 0 := by
        rw [ht] at e1
        rcases Int.mul_eq_zero.mp e1.symm with z | z
        · omega
        · exact z
      simp [ht, this]
    · have : p ≠ 0 := fun z => ht (by rw [e1, z, Int.mul_zero])
      simp [ht, this]
end K13
end

section
set_option maxRecDepth 100000
set_option maxHeartbeats 1000000
namespace L_k13
open MP K13
abbrev Gk (k : Nat) : Gm := gm prg FU k
theorem gfn {k i : Nat} {ds : List D} {S : Store} {f : FnI} (h : prg.fns[i]? = some f) : (Gk (k + 1)).fn i ds S = runF (Gk k) FU f ds S := by
  show (match prg.fns[i]? with
    | some fi => runF (gm prg FU k) FU fi ds S
    | none => .bad) = _
  rw [h]
theorem gc0 (k : Nat) : (Gk k).gc 0 = .int (10 ^ 3000) := by cases k <;> rfl
theorem gc1 (k : Nat) : (Gk k).gc 1 = .tup [.int 0, .int 0, .int 1] := by cases k <;> rfl
theorem gc2 (k : Nat) : (Gk k).gc 2 = .tup [.int 1, .int 0, .int 1] := by cases k <;> rfl
theorem gc3 (k : Nat) : (Gk k).gc 3 = .int 99 := by cases k <;> rfl
theorem gc4 (k : Nat) : (Gk k).gc 4 = .int 3600 := by cases k <;> rfl
theorem dfl0 (k : Nat) (j : Nat) (h : prg.dfl.getD j [] = []) (n : Nat) : ((Gk k).dfl j).drop n = [] := by
  have : (Gk k).dfl j = prg.dfl.getD j [] := by cases k <;> rfl
  rw [this, h, List.drop_nil]
theorem bindok {α β : Type} (a : α) (S : Store) (f : α → Store → Res β) : (Res.ok a S).bind f = f a S := rfl
theorem toSok {α : Type} (a : α) (S : Store) (ρ : Env') (f : α → Store → RS) : (Res.ok a S).toS ρ f = f a S := rfl
theorem rbnx (ρ : Env') (S : Store) (f : Env' → Store → RS) : (RS.ok .nx ρ S).bind f = f ρ S := rfl
theorem rbrt (d : D) (ρ : Env') (S : Store) (f : Env' → Store → RS) : (RS.ok (.rt d) ρ S).bind f = .ok (.rt d) ρ S := rfl
theorem ofsome {α : Type} (a : α) (S : Store) : Res.of (some a) S = .ok a S := rfl
theorem ofPsome {α : Type} (a : α) (S : Store) : Res.ofP (some (a, S)) = .ok a S := rfl
theorem dlim {n : Nat} (h : n ≤ 100) : (n ≤ lim) = True := eq_true (Nat.le_trans h (by decide))
theorem mk_len : True := trivial
theorem ss_nx {G : Gm} {w : Nat} {s : IS} {ss : List IS} {ρ ρ1 : Env'} {S S1 : Store} {r : RS} (h1 : evS G w s ρ S = .ok .nx ρ1 S1) (h2 : evSs G w ss ρ1 S1 = r) : evSs G w (s :: ss) ρ S = r := by
  rw [evSs, h1, rbnx, h2]
theorem ss_rt {G : Gm} {w : Nat} {s : IS} {ss : List IS} {ρ ρ1 : Env'} {S S1 : Store} {d : D} (h1 : evS G w s ρ S = .ok (.rt d) ρ1 S1) : evSs G w (s :: ss) ρ S = .ok (.rt d) ρ1 S1 := by
  rw [evSs, h1, rbrt]
theorem ss_ret {G : Gm} {w : Nat} {e : IE} {ss : List IS} {ρ : Env'} {S S1 : Store} {d : D} (h1 : evE G e ρ S = .ok d S1) : evSs G w (.ret e :: ss) ρ S = .ok (.rt d) ρ S1 := by
  rw [evSs, evS, h1, toSok, rbrt]
theorem ss_nl {G : Gm} {w : Nat} {ρ : Env'} {S : Store} : evSs G w [] ρ S = .ok .nx ρ S := by rw [evSs]
theorem run_rt {G : Gm} {w : Nat} {f : FnI} {ds : List D} {S S' : Store} {ρ0 ρ : Env'} {d : D} (hl : ds.length = f.ps) (h0 : startD f.n ds = ρ0) (h : evSs G w f.body ρ0 S = .ok (.rt d) ρ S') : runF G w f ds S = .ok d S' := by
  unfold runF
  rw [if_pos hl, h0, h]
theorem run_nx {G : Gm} {w : Nat} {f : FnI} {ds : List D} {S S' : Store} {ρ0 ρ : Env'} (hl : ds.length = f.ps) (h0 : startD f.n ds = ρ0) (h : evSs G w f.body ρ0 S = .ok .nx ρ S') : runF G w f ds S = .ok .non S' := by
  unfold runF
  rw [if_pos hl, h0, h]
theorem ifabs (i : Int) : (if i < 0 then -i else i) = (i.natAbs : Int) := by split <;> omega
theorem b_add (i j : Int) (S : Store) : binD .add (.int i) (.int j) S = some (.int (i + j), S) := rfl
theorem b_sub (i j : Int) (S : Store) : binD .sub (.int i) (.int j) S = some (.int (i - j), S) := rfl
theorem b_subb (i j : Bool) (S : Store) : binD .sub (.bl i) (.bl j) S = some (.int (b2i i - b2i j), S) := rfl
theorem b_mul {i j : Int} {S : Store} (h : mulOk i j = true) : binD .mul (.int i) (.int j) S = some (.int (i * j), S) := if_pos h
theorem b_fdiv {i j : Int} {S : Store} (h : divOk i j = true) : binD .fdiv (.int i) (.int j) S = some (.int (i.fdiv j), S) := if_pos h
theorem b_mod {i j : Int} {S : Store} (h : (j ≠ 0) = True) : binD .mod (.int i) (.int j) S = some (.int (i.fmod j), S) := if_pos (of_eq_true h)
theorem b_shl {i j : Int} {S : Store} (h : (0 ≤ j ∧ (lgI i : Int) + j < 100000000) = True) : binD .shl (.int i) (.int j) S = some (.int (i * 2 ^ j.toNat), S) := if_pos (of_eq_true h)
theorem b_pow {i j : Int} {S : Store} (h : (0 ≤ j ∧ j ≤ 1000000 ∧ i.natAbs < 2 ^ 64) = True) : binD .pow (.int i) (.int j) S = some (.int (i ^ j.toNat), S) := if_pos (of_eq_true h)
theorem bi_abs (i : Int) (S : Store) : biD .abs [.int i] S = some (.int (if i < 0 then -i else i), S) := rfl
theorem bi_int (i : Int) (S : Store) : biD .int [.int i] S = some (.int i, S) := rfl
theorem bi_intb (b : Bool) (S : Store) : biD .int [.bl b] S = some (.int (if b then 1 else 0), S) := rfl
theorem bi_lent (ds : List D) (S : Store) : biD .len [.tup ds] S = some (.int ds.length, S) := rfl
theorem bm_bits (i : Int) (S : Store) : bmD .bits (.int i) [] S = some (.int (PySem.Builtin.Int.intBits i : Nat), S) := rfl
theorem cmp_lt (i j : Int) (S : Store) : cmpD .lt (.int i) (.int j) S = some (decide (i < j)) := rfl
theorem cmp_le (i j : Int) (S : Store) : cmpD .le (.int i) (.int j) S = some (decide (i ≤ j)) := rfl
theorem cmp_gt (i j : Int) (S : Store) : cmpD .gt (.int i) (.int j) S = some (decide (j < i)) := rfl
theorem cmp_ge (i j : Int) (S : Store) : cmpD .ge (.int i) (.int j) S = some (decide (j ≤ i)) := rfl
theorem cmp_eq (i j : Int) (S : Store) : cmpD .eq (.int i) (.int j) S = some (decide (i = j)) := rfl
theorem cmp_ne (i j : Int) (S : Store) : cmpD .ne (.int i) (.int j) S = some (!decide (i = j)) := rfl
theorem cmp_eqb (a b : Bool) (S : Store) : cmpD .eq (.bl a) (.bl b) S = some (a == b) := rfl
/-! ### bounds -/
def Bd (n : Nat) (i : Int) : Prop := i.natAbs < 2 ^ n
instance (n : Nat) (i : Int) : Decidable (Bd n i) := inferInstanceAs (Decidable (i.natAbs < 2 ^ n))
theorem Bd.mono {n m : Nat} {i : Int} (h : Bd n i) (hm : n ≤ m) : Bd m i := Nat.lt_of_lt_of_le h (Nat.pow_le_pow_right (by decide) hm)
theorem Bd.mul {a b : Nat} {i j : Int} (h : Bd a i) (h' : Bd b j) : Bd (a + b) (i * j) := by
  unfold Bd at *
  rw [Int.natAbs_mul, Nat.pow_add]
  exact Nat.mul_lt_mul_of_lt_of_lt h h'
theorem Bd.add {a b : Nat} {i j : Int} (h : Bd a i) (h' : Bd b j) : Bd (a + b + 1) (i + j) := by
  unfold Bd at *
  have h1 : 2 ^ a ≤ 2 ^ (a + b) := Nat.pow_le_pow_right (by decide) (by omega)
  have h2 : 2 ^ b ≤ 2 ^ (a + b) := Nat.pow_le_pow_right (by decide) (by omega)
  rw [Nat.pow_succ]
  omega
theorem Bd.neg {a : Nat} {i : Int} (h : Bd a i) : Bd a (-i) := by unfold Bd at *; omega
theorem Bd.sub {a b : Nat} {i j : Int} (h : Bd a i) (h' : Bd b j) : Bd (a + b + 1) (i - j) := by
  rw [Int.sub_eq_add_neg]; exact h.add h'.neg
theorem Bd.lg {a : Nat} {i : Int} (h : Bd a i) : lgI i ≤ a := by
  unfold lgI
  unfold Bd at h
  rcases Nat.eq_zero_or_pos i.natAbs with z | z
  · rw [z, show Nat.log2 0 = 0 by decide]; omega
  · have := (Nat.log2_lt (Nat.ne_of_gt z)).mpr h
    omega
theorem mk_ok {a b : Nat} {i j : Int} (h : Bd a i) (h' : Bd b j) (hl : a + b < 100000000 := by decide) : mulOk i j = true := by
  have := h.lg
  have := h'.lg
  unfold mulOk
  exact decide_eq_true (by omega)
theorem dv_ok {b : Nat} {i j : Int} (h' : Bd b j) (hn : j ≠ 0) (hl : b < 9000 := by decide) : divOk i j = true := by
  have := h'.lg
  unfold divOk
  simp only [hn, ne_eq, not_false_eq_true, decide_true, Bool.true_and, Bool.or_eq_true, decide_eq_true_eq]
  left; omega
theorem Bd.of_le {a : Nat} {i j : Int} (h : Bd a i) (h' : j.natAbs ≤ i.natAbs) : Bd a j := Nat.lt_of_le_of_lt h' h
/-! ### small ones -/
theorem w0 (k : Nat) (i : Int) (S : Store) : (Gk (k + 1)).fn 0 [.int i] S = .ok (.bl true) S := by
  rw [gfn rfl]; rfl
theorem w1 (k : Nat) (i a b : Int) (S : Store) : (Gk (k + 2)).fn 1 [.int i, .int a, .int b] S = .ok (.bl (decide (a ≤ i) && decide (i ≤ b))) S := by
  rw [gfn rfl]
  refine run_rt (ρ0 := [some (.int i), some (.int a), some (.int b)]) rfl rfl (ss_ret ?_)
  simp only [evS, evE, evT, evEs, evIfs, evP, slot, asG, asT, asTs, List.getElem?_cons_zero, List.getElem?_cons_succ, bindok, toSok, ofsome, ofPsome, b_add, b_sub, b_subb, b_mul, b_fdiv, b_mod, b_shl, b_pow, cmp_lt, cmp_le, cmp_gt, cmp_ge, cmp_eq, cmp_ne, cmp_eqb, bi_abs, bi_int, bi_intb, bi_lent, bm_bits, bmT, setsI, List.set_cons_zero, List.set_cons_succ, rbnx, rbrt, Option.map, gc0, gc1, gc2, gc3, gc4, if_true, List.length_cons, List.length_nil, Nat.reduceAdd, dlim, mk_len, evSs, truthD, List.nil_append, List.cons_append, dfl0 _ 0 rfl, List.append_nil, w0]
  by_cases h : a ≤ i
  · simp only [h, decide_true, evS, evE, evT, evEs, evIfs, evP, slot, asG, asT, asTs, List.getElem?_cons_zero, List.getElem?_cons_succ, bindok, toSok, ofsome, ofPsome, b_add, b_sub, b_subb, b_mul, b_fdiv, b_mod, b_shl, b_pow, cmp_lt, cmp_le, cmp_gt, cmp_ge, cmp_eq, cmp_ne, cmp_eqb, bi_abs, bi_int, bi_intb, bi_lent, bm_bits, bmT, setsI, List.set_cons_zero, List.set_cons_succ, rbnx, rbrt, Option.map, gc0, gc1, gc2, gc3, gc4, if_true, List.length_cons, List.length_nil, Nat.reduceAdd, dlim, mk_len, evSs, truthD, List.nil_append, List.cons_append, Bool.true_and]
  · simp only [h, decide_false, evS, evE, evT, evEs, evIfs, evP, slot, asG, asT, asTs, List.getElem?_cons_zero, List.getElem?_cons_succ, bindok, toSok, ofsome, ofPsome, b_add, b_sub, b_subb, b_mul, b_fdiv, b_mod, b_shl, b_pow, cmp_lt, cmp_le, cmp_gt, cmp_ge, cmp_eq, cmp_ne, cmp_eqb, bi_abs, bi_int, bi_intb, bi_lent, bm_bits, bmT, setsI, List.set_cons_zero, List.set_cons_succ, rbnx, rbrt, Option.map, gc0, gc1, gc2, gc3, gc4, if_true, List.length_cons, List.length_nil, Nat.reduceAdd, dlim, mk_len, evSs, truthD, List.nil_append, List.cons_append, Bool.false_and]
theorem w2 (k : Nat) (i : Int) (S : Store) (h : i < 10 ^ 3000) (h2 : -10 ^ 3000 < i) : (Gk (k + 1)).fn 2 [.int i] S = .ok (.bl false) S := by
  rw [gfn rfl]
  refine run_rt (ρ0 := [some (.int i)]) rfl rfl (ss_ret ?_)
  simp only [evS, evE, evT, evEs, evIfs, evP, slot, asG, asT, asTs, List.getElem?_cons_zero, List.getElem?_cons_succ, bindok, toSok, ofsome, ofPsome, b_add, b_sub, b_subb, b_mul, b_fdiv, b_mod, b_shl, b_pow, cmp_lt, cmp_le, cmp_gt, cmp_ge, cmp_eq, cmp_ne, cmp_eqb, bi_abs, bi_int, bi_intb, bi_lent, bm_bits, bmT, setsI, List.set_cons_zero, List.set_cons_succ, rbnx, rbrt, Option.map, gc0, gc1, gc2, gc3, gc4, if_true, List.length_cons, List.length_nil, Nat.reduceAdd, dlim, mk_len, evSs, truthD, List.nil_append, List.cons_append]
  rw [decide_eq_false (by generalize (10 : Int) ^ 3000 = z at *; split <;> omega)]
theorem loop6 (G : Gm) (S : Store) : ∀ (n : Nat) (x y : Nat), y < n →
    whlL (evT G (.tr (.v 1))) (fun ρ S => evSs G FU [.par [0, 1] [.v 1, .bin .mod (.v 0) (.v 1)]] ρ S) n [some (.int x), some (.int y)] S = .ok .nx [some (.int (Nat.gcd x y)), some (.int 0)] S
  | 0, _, _, h => by omega
  | n + 1, x, y, h => by
    rw [whlL]
    simp only [evS, evE, evT, evEs, evIfs, evP, slot, asG, asT, asTs, List.getElem?_cons_zero, List.getElem?_cons_succ, bindok, toSok, ofsome, ofPsome, b_add, b_sub, b_subb, b_mul, b_fdiv, b_mod, b_shl, b_pow, cmp_lt, cmp_le, cmp_gt, cmp_ge, cmp_eq, cmp_ne, cmp_eqb, bi_abs, bi_int, bi_intb, bi_lent, bm_bits, bmT, setsI, List.set_cons_zero, List.set_cons_succ, rbnx, rbrt, Option.map, gc0, gc1, gc2, gc3, gc4, if_true, List.length_cons, List.length_nil, Nat.reduceAdd, dlim, mk_len, evSs, truthD, List.nil_append, List.cons_append]
    by_cases hy : y = 0
    · subst hy
      simp
    · have : ((y : Int) != 0) = true := by simp; omega
      have h0 : (y : Int) ≠ 0 := by omega
      simp only [this, h0, ne_eq, not_false_eq_true, evS, evE, evT, evEs, evIfs, evP, slot, asG, asT, asTs, List.getElem?_cons_zero, List.getElem?_cons_succ, bindok, toSok, ofsome, ofPsome, b_add, b_sub, b_subb, b_mul, b_fdiv, b_mod, b_shl, b_pow, cmp_lt, cmp_le, cmp_gt, cmp_ge, cmp_eq, cmp_ne, cmp_eqb, bi_abs, bi_int, bi_intb, bi_lent, bm_bits, bmT, setsI, List.set_cons_zero, List.set_cons_succ, rbnx, rbrt, Option.map, gc0, gc1, gc2, gc3, gc4, if_true, List.length_cons, List.length_nil, Nat.reduceAdd, dlim, mk_len, evSs, truthD, List.nil_append, List.cons_append]
      have e : (x : Int).fmod (y : Int) = ((x % y : Nat) : Int) := by
        rw [Int.fmod_eq_emod_of_nonneg _ (by omega)]; rfl
      have ih := loop6 G S n y (x % y) (by have := Nat.mod_lt x (Nat.pos_of_ne_zero hy); omega)
      simp only [evS, evE, evT, evEs, evIfs, evP, slot, asG, asT, asTs, List.getElem?_cons_zero, List.getElem?_cons_succ, bindok, toSok, ofsome, ofPsome, b_add, b_sub, b_subb, b_mul, b_fdiv, b_mod, b_shl, b_pow, cmp_lt, cmp_le, cmp_gt, cmp_ge, cmp_eq, cmp_ne, cmp_eqb, bi_abs, bi_int, bi_intb, bi_lent, bm_bits, bmT, setsI, List.set_cons_zero, List.set_cons_succ, rbnx, rbrt, Option.map, gc0, gc1, gc2, gc3, gc4, if_true, List.length_cons, List.length_nil, Nat.reduceAdd, dlim, mk_len, evSs, truthD, List.nil_append, List.cons_append] at ih
      rw [e, ih, Nat.gcd_comm x y, Nat.gcd_rec y x, Nat.gcd_comm y (x % y)]
theorem w6 (k : Nat) (a b : Int) (S : Store) (h : b.natAbs < FU) : (Gk (k + 1)).fn 6 [.int a, .int b] S = .ok (.int (Nat.gcd a.natAbs b.natAbs)) S := by
  rw [gfn rfl]
  refine run_rt (ρ0 := [some (.int a), some (.int b)]) rfl rfl (ss_nx (ρ1 := [some (.int a.natAbs), some (.int b.natAbs)]) (S1 := S) ?_ (ss_nx (ρ1 := [some (.int (Nat.gcd a.natAbs b.natAbs)), some (.int 0)]) (S1 := S) ?_ (ss_ret ?_)))
  · simp only [evS, evE, evT, evEs, evIfs, evP, slot, asG, asT, asTs, List.getElem?_cons_zero, List.getElem?_cons_succ, bindok, toSok, ofsome, ofPsome, b_add, b_sub, b_subb, b_mul, b_fdiv, b_mod, b_shl, b_pow, cmp_lt, cmp_le, cmp_gt, cmp_ge, cmp_eq, cmp_ne, cmp_eqb, bi_abs, bi_int, bi_intb, bi_lent, bm_bits, bmT, setsI, List.set_cons_zero, List.set_cons_succ, rbnx, rbrt, Option.map, gc0, gc1, gc2, gc3, gc4, if_true, List.length_cons, List.length_nil, Nat.reduceAdd, dlim, mk_len, evSs, truthD, List.nil_append, List.cons_append, ifabs]
  · rw [evS]; exact loop6 _ _ _ _ _ h
  · simp only [evS, evE, evT, evEs, evIfs, evP, slot, asG, asT, asTs, List.getElem?_cons_zero, List.getElem?_cons_succ, bindok, toSok, ofsome, ofPsome, b_add, b_sub, b_subb, b_mul, b_fdiv, b_mod, b_shl, b_pow, cmp_lt, cmp_le, cmp_gt, cmp_ge, cmp_eq, cmp_ne, cmp_eqb, bi_abs, bi_int, bi_intb, bi_lent, bm_bits, bmT, setsI, List.set_cons_zero, List.set_cons_succ, rbnx, rbrt, Option.map, gc0, gc1, gc2, gc3, gc4, if_true, List.length_cons, List.length_nil, Nat.reduceAdd, dlim, mk_len, evSs, truthD, List.nil_append, List.cons_append]
end L_k13
end

section
set_option maxRecDepth 100000
set_option maxHeartbeats 1000000
namespace L_k13
open MP K13
/-! ### integer roots by Newton -/
theorem newton {N x : Nat} (hx : 0 < x) : isq N ≤ (x + N / x) / 2 := by
  have h1 := (isq_both N).1
  have h2 : 2 * isq N ≤ x + N / x := by
    have h0 := Nat.zero_le (N / x)
    by_cases h : 2 * isq N ≤ x
    · generalize N / x = e at *
      omega
    · have h3 : 2 * isq N - x ≤ N / x := by
        rw [Nat.le_div_iff_mul_le hx]
        refine Nat.le_trans ?_ h1
        have e : ((2 * isq N - x : Nat) : Int) = 2 * (isq N : Int) - x := by omega
        have : (((2 * isq N - x) * x : Nat) : Int) ≤ ((isq N * isq N : Nat) : Int) := by
          rw [Int.natCast_mul, Int.natCast_mul, e]
          have h4 := sq_nn ((isq N : Int) - x)
          have e2 : ((isq N : Int) - x) * ((isq N : Int) - x) = (isq N : Int) * (isq N : Int) - (2 * (isq N : Int) - x) * x := by grind
          omega
        omega
      omega
  omega
theorem newton_end {N x : Nat} (hx : 0 < x) (hs : isq N ≤ x) (h : x ≤ (x + N / x) / 2) : x = isq N := by
  have h1 : x ≤ N / x := by omega
  rw [Nat.le_div_iff_mul_le hx] at h1
  have := le_isq.mpr h1
  omega
theorem nfdiv (x y : Nat) : (x : Int).fdiv (y : Int) = ((x / y : Nat) : Int) := by
  rw [Int.fdiv_eq_ediv_of_nonneg _ (by omega)]; rfl
theorem nstep (N x : Nat) : ((x : Int) + (N : Int).fdiv (x : Int)).fdiv 2 = (((x + N / x) / 2 : Nat) : Int) := by
  rw [nfdiv]
  have : (x : Int) + ((N / x : Nat) : Int) = ((x + N / x : Nat) : Int) := by omega
  rw [this]
  exact nfdiv _ 2
theorem bd600 {x : Nat} (h : x < FU) : Bd 600 (x : Int) := by
  unfold Bd
  rw [Int.natAbs_natCast, ← FU_eq]
  exact h
theorem loopS (G : Gm) (S : Store) (N : Nat) (hN : 0 < N) : ∀ (n x : Nat), 0 < x → isq N ≤ x → x < n → x < FU →
    ∃ z, whlL (evT G (.cmp .lt (.v 2) (.v 1))) (fun ρ S => evSs G FU [.asg (.t (.nm 1)) (.v 2), .asg (.t (.nm 2)) (.bin .fdiv (.bin .add (.v 1) (.bin .fdiv (.v 0) (.v 1))) (.c (.int (2))))] ρ S) n [some (.int N), some (.int x), some (.int (((x + N / x) / 2 : Nat) : Int))] S = .ok .nx [some (.int N), some (.int (isq N)), z] S
  | 0, _, _, _, h, _ => by omega
  | n + 1, x, hx, hs, hn, hf => by
    rw [whlL]
    simp only [evS, evE, evT, evEs, evIfs, evP, slot, asG, asT, asTs, List.getElem?_cons_zero, List.getElem?_cons_succ, bindok, toSok, ofsome, ofPsome, b_add, b_sub, b_subb, b_mul, b_fdiv, b_mod, b_shl, b_pow, cmp_lt, cmp_le, cmp_gt, cmp_ge, cmp_eq, cmp_ne, cmp_eqb, bi_abs, bi_int, bi_intb, bi_lent, bm_bits, bmT, setsI, List.set_cons_zero, List.set_cons_succ, rbnx, rbrt, Option.map, gc0, gc1, gc2, gc3, gc4, if_true, List.length_cons, List.length_nil, Nat.reduceAdd, dlim, mk_len, evSs, truthD, List.nil_append, List.cons_append]
    by_cases hy : (x + N / x) / 2 < x
    · have hd : decide ((((x + N / x) / 2 : Nat) : Int) < (x : Int)) = true := decide_eq_true (by omega)
      have hnw := newton (N := N) hx
      have hy0 : 0 < (x + N / x) / 2 := by
        rcases Nat.eq_zero_or_pos ((x + N / x) / 2) with z | z
        · exfalso
          have h1 : isq N = 0 := by omega
          have := (isq_both N).2
          rw [h1] at this
          omega
        · exact z
      have ok1 : divOk (N : Int) (((x + N / x) / 2 : Nat) : Int) = true := dv_ok (bd600 (x := (x + N / x) / 2) (by omega)) (by omega)
      have ok2 : ∀ i : Int, divOk i 2 = true := fun i => dv_ok (b := 2) (by decide) (by decide)
      obtain ⟨z, ih⟩ := loopS G S N hN n ((x + N / x) / 2) hy0 hnw (by omega) (by omega)
      simp only [evS, evE, evT, evEs, evIfs, evP, slot, asG, asT, asTs, List.getElem?_cons_zero, List.getElem?_cons_succ, bindok, toSok, ofsome, ofPsome, b_add, b_sub, b_subb, b_mul, b_fdiv, b_mod, b_shl, b_pow, cmp_lt, cmp_le, cmp_gt, cmp_ge, cmp_eq, cmp_ne, cmp_eqb, bi_abs, bi_int, bi_intb, bi_lent, bm_bits, bmT, setsI, List.set_cons_zero, List.set_cons_succ, rbnx, rbrt, Option.map, gc0, gc1, gc2, gc3, gc4, if_true, List.length_cons, List.length_nil, Nat.reduceAdd, dlim, mk_len, evSs, truthD, List.nil_append, List.cons_append] at ih
      refine ⟨z, ?_⟩
      simp only [hd, ok1, ok2, evS, evE, evT, evEs, evIfs, evP, slot, asG, asT, asTs, List.getElem?_cons_zero, List.getElem?_cons_succ, bindok, toSok, ofsome, ofPsome, b_add, b_sub, b_subb, b_mul, b_fdiv, b_mod, b_shl, b_pow, cmp_lt, cmp_le, cmp_gt, cmp_ge, cmp_eq, cmp_ne, cmp_eqb, bi_abs, bi_int, bi_intb, bi_lent, bm_bits, bmT, setsI, List.set_cons_zero, List.set_cons_succ, rbnx, rbrt, Option.map, gc0, gc1, gc2, gc3, gc4, if_true, List.length_cons, List.length_nil, Nat.reduceAdd, dlim, mk_len, evSs, truthD, List.nil_append, List.cons_append, nstep]
      exact ih
    · have hd : decide ((((x + N / x) / 2 : Nat) : Int) < (x : Int)) = false := decide_eq_false (by omega)
      simp only [hd]
      have := newton_end hx hs (by omega)
      rw [← this]
      exact ⟨_, rfl⟩
end L_k13
end

section
set_option maxRecDepth 100000
set_option maxHeartbeats 1000000
set_option exponentiation.threshold 200
namespace L_k13
open MP K13
def Builtin_bits (N : Nat) : Nat := if N = 0 then 0 else N.log2 + 1
theorem bits_lt (N : Nat) : N < 2 ^ (Builtin_bits N) := by
  unfold Builtin_bits
  split
  · omega
  · exact Nat.lt_log2_self
theorem shl_a (h : Nat) (S : Store) (c : ((0 : Int) ≤ (h : Int) ∧ ((lgI 1 : Nat) : Int) + (h : Int) < 100000000)) : binD .shl (.int 1) (.int (h : Int)) S = some (.int (1 * 2 ^ ((h : Int)).toNat), S) := by
  have := @b_shl 1 (h : Int) S (eq_true c)
  exact this
theorem shl_b (h : Nat) : (1 : Int) * 2 ^ ((h : Int)).toNat = ((2 ^ h : Nat) : Int) := by
  rw [Int.one_mul, Int.toNat_natCast, Int.natCast_pow]
  rfl
theorem shl_c (h : Nat) (hh : h ≤ 601) : ((0 : Int) ≤ (h : Int) ∧ ((lgI 1 : Nat) : Int) + (h : Int) < 100000000) := by
  have l1 : lgI 1 = 0 := by decide
  omega
theorem shl_ok (h : Nat) (S : Store) (hh : h ≤ 601) : binD .shl (.int 1) (.int (h : Int)) S = some (.int ((2 ^ h : Nat) : Int), S) := by
  rw [shl_a h S (shl_c h hh), shl_b]
theorem sq_a1 (G : Gm) (N : Int) (bl : Nat) (S : Store) (hbl2 : PySem.Builtin.Int.intBits N = bl) : evE G (.bm .bits (.v 0) []) [some (.int N), none, none] S = .ok (.int (bl : Int)) S := by
    simp only [evE, evEs, slot, List.getElem?_cons_zero, bindok, ofsome, ofPsome, bmT, if_true, bm_bits, hbl2]
theorem sq_a2 (G : Gm) (N : Int) (bl : Nat) (S : Store) (hbl2 : PySem.Builtin.Int.intBits N = bl) : evE G (.bin .add (.bm .bits (.v 0) []) (.c (.int (1)))) [some (.int N), none, none] S = .ok (.int ((bl : Int) + 1)) S := by
    rw [evE, sq_a1 G N bl S hbl2]
    simp only [bindok, evE, b_add, ofPsome]
theorem sq_a3 (G : Gm) (N : Int) (bl : Nat) (S : Store) (hbl2 : PySem.Builtin.Int.intBits N = bl) : evE G (.bin .fdiv (.bin .add (.bm .bits (.v 0) []) (.c (.int (1)))) (.c (.int (2)))) [some (.int N), none, none] S = .ok (.int (((bl + 1) / 2 : Nat) : Int)) S := by
    have e2 : ((bl : Int) + 1).fdiv 2 = (((bl + 1) / 2 : Nat) : Int) := nfdiv (bl + 1) 2
    have ok2 : divOk ((bl : Int) + 1) 2 = true := dv_ok (b := 2) (by decide) (by decide)
    rw [evE, sq_a2 G N bl S hbl2]
    simp only [bindok, evE, b_fdiv ok2, ofPsome, e2]
theorem sq_a4 (G : Gm) (N : Int) (h : Nat) (S : Store) (hh : h ≤ 601) (e : IE) (he : evE G e [some (.int N), none, none] S = .ok (.int (h : Int)) S) : evE G (.bin .shl (.c (.int (1))) e) [some (.int N), none, none] S = .ok (.int ((2 ^ h : Nat) : Int)) S := by
  have hc : evE G (.c (.int (1))) [some (.int N), none, none] S = .ok (.int 1) S := by rw [evE]
  rw [evE, hc, bindok, he, bindok, shl_ok h S hh, ofPsome]
theorem wsq {f : FnI} (hf : f = f7) (k : Nat) (N : Nat) (S : Store) (hN : N < FU) : runF (Gk k) FU f [.int N] S = .ok (.int (isq N)) S := by
  subst hf
  by_cases h2 : N < 2
  · refine run_rt (ρ0 := [some (.int N), none, none]) rfl rfl (ss_rt (ρ1 := [some (.int N), none, none]) ?_)
    have hd : decide ((N : Int) < 2) = true := decide_eq_true (by omega)
    simp only [evS, evE, evT, evEs, evIfs, evP, slot, asG, asT, asTs, List.getElem?_cons_zero, List.getElem?_cons_succ, bindok, toSok, ofsome, ofPsome, b_add, b_sub, b_subb, b_mul, b_fdiv, b_mod, b_shl, b_pow, cmp_lt, cmp_le, cmp_gt, cmp_ge, cmp_eq, cmp_ne, cmp_eqb, bi_abs, bi_int, bi_intb, bi_lent, bm_bits, bmT, setsI, List.set_cons_zero, List.set_cons_succ, rbnx, rbrt, Option.map, gc0, gc1, gc2, gc3, gc4, if_true, List.length_cons, List.length_nil, Nat.reduceAdd, dlim, mk_len, evSs, truthD, List.nil_append, List.cons_append, hd]
    have : isq N = N := by
      have : N = 0 ∨ N = 1 := by omega
      rcases this with rfl | rfl <;> decide
    rw [this]
  · have hd : decide ((N : Int) < 2) = false := decide_eq_false (by omega)
    have hb := bits_lt N
    have hN0 : ((N : Int) == 0) = false := by simp; omega
    generalize hbl : Builtin_bits N = bl at hb
    have hbl2 : PySem.Builtin.Int.intBits (N : Int) = bl := by
      rw [← hbl]
      unfold PySem.Builtin.Int.intBits Builtin_bits
      simp only [hN0]
      rw [if_neg (by omega : ¬ N = 0)]
      simp
    have hx0 : N < 2 ^ ((bl + 1) / 2) * 2 ^ ((bl + 1) / 2) := by
      rw [← Nat.pow_add]
      exact Nat.lt_of_lt_of_le hb (Nat.pow_le_pow_right (by decide) (by omega))
    have hble : bl ≤ 600 := by
      rw [← hbl]
      unfold Builtin_bits
      rw [if_neg (by omega)]
      have : N.log2 < 600 := (Nat.log2_lt (by omega)).mpr (by rw [← FU_eq]; exact hN)
      omega
    have hs : isq N ≤ 2 ^ ((bl + 1) / 2) := by
      have := (isq_both N).1
      have := sq_lt (Nat.lt_of_le_of_lt this hx0)
      omega
    have hp : 0 < 2 ^ ((bl + 1) / 2) := Nat.pow_pos (by decide)
    have hFU : 2 ^ ((bl + 1) / 2) < FU := by rw [FU_eq]; exact Nat.pow_lt_pow_right (by decide) (by omega)
    obtain ⟨z, hl⟩ := loopS (Gk k) S N (by omega) FU (2 ^ ((bl + 1) / 2)) hp hs hFU hFU
    have e2 : ((bl : Int) + 1).fdiv 2 = (((bl + 1) / 2 : Nat) : Int) := nfdiv (bl + 1) 2
    have ok2 : ∀ i : Int, divOk i 2 = true := fun i => dv_ok (b := 2) (by decide) (by decide)
    have he := sq_a4 (Gk k) (N : Int) ((bl + 1) / 2) S (by omega) _ (sq_a3 (Gk k) (N : Int) bl S hbl2)
    have ok1 : divOk (N : Int) ((2 ^ ((bl + 1) / 2) : Nat) : Int) = true := dv_ok (bd600 hFU) (by omega)
    refine run_rt (ρ0 := [some (.int N), none, none]) rfl rfl (ss_nx (ρ1 := [some (.int N), none, none]) (S1 := S) ?_ (ss_nx (ρ1 := [some (.int N), some (.int ((2 ^ ((bl + 1) / 2) : Nat) : Int)), none]) (S1 := S) ?_ (ss_nx (ρ1 := [some (.int N), some (.int ((2 ^ ((bl + 1) / 2) : Nat) : Int)), some (.int (((2 ^ ((bl + 1) / 2) + N / 2 ^ ((bl + 1) / 2)) / 2 : Nat) : Int))]) (S1 := S) ?_ (ss_nx (ρ1 := [some (.int N), some (.int (isq N)), z]) (S1 := S) ?_ (ss_ret ?_)))))
    · simp only [evS, evE, evT, evEs, evIfs, evP, slot, asG, asT, asTs, List.getElem?_cons_zero, List.getElem?_cons_succ, bindok, toSok, ofsome, ofPsome, b_add, b_sub, b_subb, b_mul, b_fdiv, b_mod, b_shl, b_pow, cmp_lt, cmp_le, cmp_gt, cmp_ge, cmp_eq, cmp_ne, cmp_eqb, bi_abs, bi_int, bi_intb, bi_lent, bm_bits, bmT, setsI, List.set_cons_zero, List.set_cons_succ, rbnx, rbrt, Option.map, gc0, gc1, gc2, gc3, gc4, if_true, List.length_cons, List.length_nil, Nat.reduceAdd, dlim, mk_len, evSs, truthD, List.nil_append, List.cons_append, hd]
      rfl
    · rw [evS, he, toSok, asG, asT]
      rfl
    · simp only [evS, evE, evT, evEs, evIfs, evP, slot, asG, asT, asTs, List.getElem?_cons_zero, List.getElem?_cons_succ, bindok, toSok, ofsome, ofPsome, b_add, b_sub, b_subb, b_mul, b_fdiv, b_mod, b_shl, b_pow, cmp_lt, cmp_le, cmp_gt, cmp_ge, cmp_eq, cmp_ne, cmp_eqb, bi_abs, bi_int, bi_intb, bi_lent, bm_bits, bmT, setsI, List.set_cons_zero, List.set_cons_succ, rbnx, rbrt, Option.map, gc0, gc1, gc2, gc3, gc4, if_true, List.length_cons, List.length_nil, Nat.reduceAdd, dlim, mk_len, evSs, truthD, List.nil_append, List.cons_append, ok1, ok2, nstep]
    · rw [evS]; exact hl
    · simp only [evS, evE, evT, evEs, evIfs, evP, slot, asG, asT, asTs, List.getElem?_cons_zero, List.getElem?_cons_succ, bindok, toSok, ofsome, ofPsome, b_add, b_sub, b_subb, b_mul, b_fdiv, b_mod, b_shl, b_pow, cmp_lt, cmp_le, cmp_gt, cmp_ge, cmp_eq, cmp_ne, cmp_eqb, bi_abs, bi_int, bi_intb, bi_lent, bm_bits, bmT, setsI, List.set_cons_zero, List.set_cons_succ, rbnx, rbrt, Option.map, gc0, gc1, gc2, gc3, gc4, if_true, List.length_cons, List.length_nil, Nat.reduceAdd, dlim, mk_len, evSs, truthD, List.nil_append, List.cons_append]
theorem w7 (k : Nat) (N : Nat) (S : Store) (hN : N < FU) : (Gk (k + 1)).fn 7 [.int N] S = .ok (.int (isq N)) S := by
  rw [gfn rfl]; exact wsq rfl k N S hN
theorem w26 (k : Nat) (N : Nat) (S : Store) (hN : N < FU) : (Gk (k + 1)).fn 26 [.int N] S = .ok (.int (isq N)) S := by
  rw [gfn rfl]; exact wsq rfl k N S hN

/-! ### the law's gcd -/
theorem loop29 (G : Gm) (S : Store) : ∀ (n : Nat) (x y : Nat), y < n →
    whlL (evT G (.cmp .ne (.v 1) (.c (.int (0))))) (fun ρ S => evSs G FU [.par [0, 1] [.v 1, .bin .mod (.bi .int [.v 0]) (.v 1)]] ρ S) n [some (.int x), some (.int y)] S = .ok .nx [some (.int (Nat.gcd x y)), some (.int 0)] S
  | 0, _, _, h => by omega
  | n + 1, x, y, h => by
    rw [whlL]
    simp only [evS, evE, evT, evEs, evIfs, evP, slot, asG, asT, asTs, List.getElem?_cons_zero, List.getElem?_cons_succ, bindok, toSok, ofsome, ofPsome, b_add, b_sub, b_subb, b_mul, b_fdiv, b_mod, b_shl, b_pow, cmp_lt, cmp_le, cmp_gt, cmp_ge, cmp_eq, cmp_ne, cmp_eqb, bi_abs, bi_int, bi_intb, bi_lent, bm_bits, bmT, setsI, List.set_cons_zero, List.set_cons_succ, rbnx, rbrt, Option.map, gc0, gc1, gc2, gc3, gc4, if_true, List.length_cons, List.length_nil, Nat.reduceAdd, dlim, mk_len, evSs, truthD, List.nil_append, List.cons_append]
    by_cases hy : y = 0
    · subst hy
      have h0 : (!decide (((0 : Nat) : Int) = 0)) = false := by decide
      rw [h0, if_neg Bool.false_ne_true, Nat.gcd_zero_right]
      rfl
    · have : (!decide ((y : Int) = 0)) = true := by simp; omega
      have h0 : (y : Int) ≠ 0 := by omega
      have h1 := eq_true h0
      simp only [this, h1, evS, evE, evT, evEs, evIfs, evP, slot, asG, asT, asTs, List.getElem?_cons_zero, List.getElem?_cons_succ, bindok, toSok, ofsome, ofPsome, b_add, b_sub, b_subb, b_mul, b_fdiv, b_mod, b_shl, b_pow, cmp_lt, cmp_le, cmp_gt, cmp_ge, cmp_eq, cmp_ne, cmp_eqb, bi_abs, bi_int, bi_intb, bi_lent, bm_bits, bmT, setsI, List.set_cons_zero, List.set_cons_succ, rbnx, rbrt, Option.map, gc0, gc1, gc2, gc3, gc4, if_true, List.length_cons, List.length_nil, Nat.reduceAdd, dlim, mk_len, evSs, truthD, List.nil_append, List.cons_append]
      have e : (x : Int).fmod (y : Int) = ((x % y : Nat) : Int) := by
        rw [Int.fmod_eq_emod_of_nonneg _ (by omega)]; rfl
      have ih := loop29 G S n y (x % y) (by have := Nat.mod_lt x (Nat.pos_of_ne_zero hy); omega)
      simp only [evS, evE, evT, evEs, evIfs, evP, slot, asG, asT, asTs, List.getElem?_cons_zero, List.getElem?_cons_succ, bindok, toSok, ofsome, ofPsome, b_add, b_sub, b_subb, b_mul, b_fdiv, b_mod, b_shl, b_pow, cmp_lt, cmp_le, cmp_gt, cmp_ge, cmp_eq, cmp_ne, cmp_eqb, bi_abs, bi_int, bi_intb, bi_lent, bm_bits, bmT, setsI, List.set_cons_zero, List.set_cons_succ, rbnx, rbrt, Option.map, gc0, gc1, gc2, gc3, gc4, if_true, List.length_cons, List.length_nil, Nat.reduceAdd, dlim, mk_len, evSs, truthD, List.nil_append, List.cons_append] at ih
      rw [e, ih, Nat.gcd_comm x y, Nat.gcd_rec y x, Nat.gcd_comm y (x % y)]
theorem w29 (k : Nat) (a b : Int) (S : Store) (h : b.natAbs < FU) : (Gk (k + 1)).fn 29 [.int a, .int b] S = .ok (.int (Nat.gcd a.natAbs b.natAbs)) S := by
  rw [gfn rfl]
  refine run_rt (ρ0 := [some (.int a), some (.int b)]) rfl rfl (ss_nx (ρ1 := [some (.int a.natAbs), some (.int b.natAbs)]) (S1 := S) ?_ (ss_nx (ρ1 := [some (.int (Nat.gcd a.natAbs b.natAbs)), some (.int 0)]) (S1 := S) ?_ (ss_ret ?_)))
  · simp only [evS, evE, evT, evEs, evIfs, evP, slot, asG, asT, asTs, List.getElem?_cons_zero, List.getElem?_cons_succ, bindok, toSok, ofsome, ofPsome, b_add, b_sub, b_subb, b_mul, b_fdiv, b_mod, b_shl, b_pow, cmp_lt, cmp_le, cmp_gt, cmp_ge, cmp_eq, cmp_ne, cmp_eqb, bi_abs, bi_int, bi_intb, bi_lent, bm_bits, bmT, setsI, List.set_cons_zero, List.set_cons_succ, rbnx, rbrt, Option.map, gc0, gc1, gc2, gc3, gc4, if_true, List.length_cons, List.length_nil, Nat.reduceAdd, dlim, mk_len, evSs, truthD, List.nil_append, List.cons_append, ifabs]
  · rw [evS]; exact loop29 _ _ _ _ _ h
  · simp only [evS, evE, evT, evEs, evIfs, evP, slot, asG, asT, asTs, List.getElem?_cons_zero, List.getElem?_cons_succ, bindok, toSok, ofsome, ofPsome, b_add, b_sub, b_subb, b_mul, b_fdiv, b_mod, b_shl, b_pow, cmp_lt, cmp_le, cmp_gt, cmp_ge, cmp_eq, cmp_ne, cmp_eqb, bi_abs, bi_int, bi_intb, bi_lent, bm_bits, bmT, setsI, List.set_cons_zero, List.set_cons_succ, rbnx, rbrt, Option.map, gc0, gc1, gc2, gc3, gc4, if_true, List.length_cons, List.length_nil, Nat.reduceAdd, dlim, mk_len, evSs, truthD, List.nil_append, List.cons_append]
/-! ### lowest terms -/
def D3 (x : T3) : D := .tup [.int x.1, .int x.2.1, .int x.2.2]
theorem fu_of {i : Int} (h : Bd 600 i) : i.natAbs < FU := by rw [FU_eq]; exact h
theorem g3_bd {a b c : Int} (hc : 0 < c) (h : Bd 600 c) : Bd 600 ((G3 a b c : Nat) : Int) := by
  unfold Bd at *
  rw [Int.natAbs_natCast]
  exact Nat.lt_of_le_of_lt (Nat.le_of_dvd (by omega) (Nat.gcd_dvd_right _ _)) h
theorem fdiv_g (a : Int) (g : Nat) : a.fdiv (g : Int) = a / (g : Int) := Int.fdiv_eq_ediv_of_nonneg _ (by omega)
theorem w8 (k : Nat) (a b c : Int) (S : Store) (hc : 0 < c) (hb : Bd 600 b) (hcb : Bd 600 c) : (Gk (k + 2)).fn 8 [.int a, .int b, .int c] S = .ok (D3 (red a b c)) S := by
  rw [gfn rfl]
  have hg := G3_pos (a := a) (b := b) hc
  have ok : ∀ i : Int, divOk i ((G3 a b c : Nat) : Int) = true := fun i => dv_ok (g3_bd hc hcb) (by omega)
  have hd : decide (c < 0) = false := decide_eq_false (by omega)
  refine run_rt (ρ0 := [some (.int a), some (.int b), some (.int c), none]) rfl rfl (ss_nx (ρ1 := [some (.int a), some (.int b), some (.int c), some (.int (G3 a b c))]) (S1 := S) ?_ (ss_nx (ρ1 := [some (.int a), some (.int b), some (.int c), some (.int (G3 a b c))]) (S1 := S) ?_ (ss_ret ?_)))
  · simp only [evS, evE, evT, evEs, evIfs, evP, slot, asG, asT, asTs, List.getElem?_cons_zero, List.getElem?_cons_succ, bindok, toSok, ofsome, ofPsome, b_add, b_sub, b_subb, b_mul, b_fdiv, b_mod, b_shl, b_pow, cmp_lt, cmp_le, cmp_gt, cmp_ge, cmp_eq, cmp_ne, cmp_eqb, bi_abs, bi_int, bi_intb, bi_lent, bm_bits, bmT, setsI, List.set_cons_zero, List.set_cons_succ, rbnx, rbrt, Option.map, gc0, gc1, gc2, gc3, gc4, if_true, List.length_cons, List.length_nil, Nat.reduceAdd, dlim, mk_len, evSs, truthD, List.nil_append, List.cons_append, dfl0 _ 6 rfl, List.append_nil, w6 k a b S (fu_of hb), w6 k _ c S (fu_of hcb), Int.natAbs_natCast]
    rfl
  · simp only [evS, evE, evT, evEs, evIfs, evP, slot, asG, asT, asTs, List.getElem?_cons_zero, List.getElem?_cons_succ, bindok, toSok, ofsome, ofPsome, b_add, b_sub, b_subb, b_mul, b_fdiv, b_mod, b_shl, b_pow, cmp_lt, cmp_le, cmp_gt, cmp_ge, cmp_eq, cmp_ne, cmp_eqb, bi_abs, bi_int, bi_intb, bi_lent, bm_bits, bmT, setsI, List.set_cons_zero, List.set_cons_succ, rbnx, rbrt, Option.map, gc0, gc1, gc2, gc3, gc4, if_true, List.length_cons, List.length_nil, Nat.reduceAdd, dlim, mk_len, evSs, truthD, List.nil_append, List.cons_append, hd]
    rfl
  · simp only [evS, evE, evT, evEs, evIfs, evP, slot, asG, asT, asTs, List.getElem?_cons_zero, List.getElem?_cons_succ, bindok, toSok, ofsome, ofPsome, b_add, b_sub, b_subb, b_mul, b_fdiv, b_mod, b_shl, b_pow, cmp_lt, cmp_le, cmp_gt, cmp_ge, cmp_eq, cmp_ne, cmp_eqb, bi_abs, bi_int, bi_intb, bi_lent, bm_bits, bmT, setsI, List.set_cons_zero, List.set_cons_succ, rbnx, rbrt, Option.map, gc0, gc1, gc2, gc3, gc4, if_true, List.length_cons, List.length_nil, Nat.reduceAdd, dlim, mk_len, evSs, truthD, List.nil_append, List.cons_append, ok, fdiv_g]
    rw [if_pos (by decide)]
    rfl
theorem w30 (k : Nat) (a b c : Int) (S : Store) (hc : 0 < c) (hb : Bd 600 b) (hcb : Bd 600 c) : (Gk (k + 2)).fn 30 [.int a, .int b, .int c] S = .ok (D3 (red a b c)) S := by
  rw [gfn rfl]
  have hg := G3_pos (a := a) (b := b) hc
  have ok : ∀ i : Int, divOk i ((G3 a b c : Nat) : Int) = true := fun i => dv_ok (g3_bd hc hcb) (by omega)
  have hd : decide (0 < c) = true := decide_eq_true (by omega)
  refine run_rt (ρ0 := [some (.int a), some (.int b), some (.int c), none]) rfl rfl (ss_nx (ρ1 := [some (.int a), some (.int b), some (.int c), some (.int (G3 a b c))]) (S1 := S) ?_ (ss_nx (ρ1 := [some (.int a), some (.int b), some (.int c), some (.int (G3 a b c))]) (S1 := S) ?_ (ss_ret ?_)))
  · simp only [evS, evE, evT, evEs, evIfs, evP, slot, asG, asT, asTs, List.getElem?_cons_zero, List.getElem?_cons_succ, bindok, toSok, ofsome, ofPsome, b_add, b_sub, b_subb, b_mul, b_fdiv, b_mod, b_shl, b_pow, cmp_lt, cmp_le, cmp_gt, cmp_ge, cmp_eq, cmp_ne, cmp_eqb, bi_abs, bi_int, bi_intb, bi_lent, bm_bits, bmT, setsI, List.set_cons_zero, List.set_cons_succ, rbnx, rbrt, Option.map, gc0, gc1, gc2, gc3, gc4, if_true, List.length_cons, List.length_nil, Nat.reduceAdd, dlim, mk_len, evSs, truthD, List.nil_append, List.cons_append, dfl0 _ 29 rfl, List.append_nil, w29 k a b S (fu_of hb), w29 k _ c S (fu_of hcb), Int.natAbs_natCast]
    rfl
  · simp only [evS, evE, evT, evEs, evIfs, evP, slot, asG, asT, asTs, List.getElem?_cons_zero, List.getElem?_cons_succ, bindok, toSok, ofsome, ofPsome, b_add, b_sub, b_subb, b_mul, b_fdiv, b_mod, b_shl, b_pow, cmp_lt, cmp_le, cmp_gt, cmp_ge, cmp_eq, cmp_ne, cmp_eqb, bi_abs, bi_int, bi_intb, bi_lent, bm_bits, bmT, setsI, List.set_cons_zero, List.set_cons_succ, rbnx, rbrt, Option.map, gc0, gc1, gc2, gc3, gc4, if_true, List.length_cons, List.length_nil, Nat.reduceAdd, dlim, mk_len, evSs, truthD, List.nil_append, List.cons_append, hd]
  · simp only [evS, evE, evT, evEs, evIfs, evP, slot, asG, asT, asTs, List.getElem?_cons_zero, List.getElem?_cons_succ, bindok, toSok, ofsome, ofPsome, b_add, b_sub, b_subb, b_mul, b_fdiv, b_mod, b_shl, b_pow, cmp_lt, cmp_le, cmp_gt, cmp_ge, cmp_eq, cmp_ne, cmp_eqb, bi_abs, bi_int, bi_intb, bi_lent, bm_bits, bmT, setsI, List.set_cons_zero, List.set_cons_succ, rbnx, rbrt, Option.map, gc0, gc1, gc2, gc3, gc4, if_true, List.length_cons, List.length_nil, Nat.reduceAdd, dlim, mk_len, evSs, truthD, List.nil_append, List.cons_append, ok, fdiv_g]
    rw [if_pos (by decide)]
    rfl
end L_k13
end

section
set_option maxRecDepth 100000
set_option maxHeartbeats 1000000
set_option exponentiation.threshold 200
namespace L_k13
open MP K13
def RootAt (S : Store) (ro : Nat) (t u : Int) : Prop := S[ro]? = some (.ins 0 [("t", .int t), ("u", .int u)])
theorem fld_t {S : Store} {ro : Nat} {t u : Int} (h : RootAt S ro t u) : fldD (.obj ro) "t" S = some (.int t) := by
  show (match S[ro]? with
    | some (.ins _ fs) => fs.lookup ("t" : PySem.Str)
    | _ => none) = _
  rw [h]
  rfl
theorem fld_u {S : Store} {ro : Nat} {t u : Int} (h : RootAt S ro t u) : fldD (.obj ro) "u" S = some (.int u) := by
  show (match S[ro]? with
    | some (.ins _ fs) => fs.lookup ("u" : PySem.Str)
    | _ => none) = _
  rw [h]
  rfl
abbrev Dd (t u : Int) : Int := t * t + 4 * u
theorem dd_bd {t u : Int} (ht : Bd 8 t) (hu : Bd 8 u) : Bd 28 (Dd t u) := ((ht.mul ht).add ((show Bd 3 4 by decide).mul hu)).mono (by decide)
theorem qqd_bd {t u q : Int} (ht : Bd 8 t) (hu : Bd 8 u) (hq : Bd 200 q) : Bd 428 (q * q * Dd t u) := ((hq.mul hq).mul (dd_bd ht hu)).mono (by decide)
theorem nsq_fu {t u q : Int} (hD : 0 ≤ Dd t u) (ht : Bd 8 t) (hu : Bd 8 u) (hq : Bd 200 q) : Nsq (Dd t u) q < FU := by
  have h1 := (qqd_bd ht hu hq).mono (show 428 ≤ 600 by decide)
  have h2 := Nsq_int hD q
  have := fu_of h1
  omega
theorem Bd.add1 {a : Nat} {i j : Int} (h : Bd a i) (h' : Bd a j) : Bd (a + 1) (i + j) := by
  unfold Bd at *
  rw [Nat.pow_succ]
  omega
theorem f_bd {t u q : Int} (hD : 0 ≤ Dd t u) (ht : Bd 8 t) (hu : Bd 8 u) (hq : Bd 200 q) : Bd 215 (F (Dd t u) q) := by
  have h1 := qqd_bd ht hu hq
  have h2 := Nsq_int hD q
  have h3 := (isq_both (Nsq (Dd t u) q)).1
  unfold Bd at *
  have h4 : Nsq (Dd t u) q < 2 ^ 214 * 2 ^ 214 := by
    rw [← Nat.pow_add]
    omega
  have h6 := sq_lt (Nat.lt_of_le_of_lt h3 h4)
  have h5 : (2 : Nat) ^ 215 = 2 ^ 214 * 2 := Nat.pow_succ ..
  unfold F
  rw [h5]
  generalize (2 : Nat) ^ 214 = z at *
  split <;> omega
theorem fl_of {a b r : Int} (hr : 0 < r) : a.fdiv (2 * r) = a / (2 * r) := Int.fdiv_eq_ediv_of_nonneg _ (by omega)
theorem two_bd : Bd 2 2 := by decide
theorem four_bd : Bd 3 4 := by decide
theorem w10 (k ro : Nat) (t u p q r : Int) (S : Store) (h : RootAt S ro t u) (hD : 0 ≤ Dd t u) (ht : Bd 8 t) (hu : Bd 8 u) (hp : Bd 600 p) (hq : Bd 200 q) (hr : 0 < r) (hrb : Bd 600 r) :
    (Gk (k + 2)).fn 10 [.obj ro, .int p, .int q, .int r] S = .ok (.int ((2 * p + q * t + F (Dd t u) q) / (2 * r))) S := by
  rw [gfn rfl]
  have m1 : mulOk q q = true := mk_ok hq hq
  have m2 : mulOk t t = true := mk_ok ht ht
  have m3 : mulOk 4 u = true := mk_ok four_bd hu
  have m4 : mulOk (q * q) (t * t + 4 * u) = true := mk_ok (hq.mul hq) (dd_bd ht hu)
  have m5 : mulOk 2 p = true := mk_ok two_bd hp
  have m6 : mulOk q t = true := mk_ok hq ht
  have m7 : mulOk 2 r = true := mk_ok two_bd hrb
  have d1 : ∀ i, divOk i (2 * r) = true := fun i => dv_ok (two_bd.mul hrb) (by omega)
  have e1 : q * q * (t * t + 4 * u) = ((Nsq (Dd t u) q : Nat) : Int) := (Nsq_int hD q).symm
  have c7 := w7 k (Nsq (Dd t u) q) S (nsq_fu hD ht hu hq)
  have ft := fld_t h
  have fuu := fld_u h
  refine run_rt (ρ0 := [some (.obj ro), some (.int p), some (.int q), some (.int r), none]) rfl rfl (ss_nx (ρ1 := [some (.obj ro), some (.int p), some (.int q), some (.int r), some (.int (isq (Nsq (Dd t u) q)))]) (S1 := S) ?_ (ss_nx (ρ1 := [some (.obj ro), some (.int p), some (.int q), some (.int r), some (.int (F (Dd t u) q))]) (S1 := S) ?_ (ss_ret ?_)))
  · simp only [evS, evE, evT, evEs, evIfs, evP, slot, asG, asT, asTs, List.getElem?_cons_zero, List.getElem?_cons_succ, bindok, toSok, ofsome, ofPsome, b_add, b_sub, b_subb, b_mul, b_fdiv, b_mod, b_shl, b_pow, cmp_lt, cmp_le, cmp_gt, cmp_ge, cmp_eq, cmp_ne, cmp_eqb, bi_abs, bi_int, bi_intb, bi_lent, bm_bits, bmT, setsI, List.set_cons_zero, List.set_cons_succ, rbnx, rbrt, Option.map, gc0, gc1, gc2, gc3, gc4, if_true, List.length_cons, List.length_nil, Nat.reduceAdd, dlim, mk_len, evSs, truthD, List.nil_append, List.cons_append, ft, fuu, m1, m2, m3, m4, e1, c7, dfl0 _ 7 rfl, List.append_nil]
  · by_cases hq0 : q < 0
    · have hd : decide (q < 0) = true := decide_eq_true hq0
      have e2 : F (Dd t u) q = -((isq (Nsq (Dd t u) q) : Nat) : Int) - 1 := by unfold F; rw [if_neg (by omega)]
      simp only [evS, evE, evT, evEs, evIfs, evP, slot, asG, asT, asTs, List.getElem?_cons_zero, List.getElem?_cons_succ, bindok, toSok, ofsome, ofPsome, b_add, b_sub, b_subb, b_mul, b_fdiv, b_mod, b_shl, b_pow, cmp_lt, cmp_le, cmp_gt, cmp_ge, cmp_eq, cmp_ne, cmp_eqb, bi_abs, bi_int, bi_intb, bi_lent, bm_bits, bmT, setsI, List.set_cons_zero, List.set_cons_succ, rbnx, rbrt, Option.map, gc0, gc1, gc2, gc3, gc4, if_true, List.length_cons, List.length_nil, Nat.reduceAdd, dlim, mk_len, evSs, truthD, List.nil_append, List.cons_append, hd, e2]
    · have hd : decide (q < 0) = false := decide_eq_false hq0
      have e2 : F (Dd t u) q = ((isq (Nsq (Dd t u) q) : Nat) : Int) := by unfold F; rw [if_pos (by omega)]
      simp only [evS, evE, evT, evEs, evIfs, evP, slot, asG, asT, asTs, List.getElem?_cons_zero, List.getElem?_cons_succ, bindok, toSok, ofsome, ofPsome, b_add, b_sub, b_subb, b_mul, b_fdiv, b_mod, b_shl, b_pow, cmp_lt, cmp_le, cmp_gt, cmp_ge, cmp_eq, cmp_ne, cmp_eqb, bi_abs, bi_int, bi_intb, bi_lent, bm_bits, bmT, setsI, List.set_cons_zero, List.set_cons_succ, rbnx, rbrt, Option.map, gc0, gc1, gc2, gc3, gc4, if_true, List.length_cons, List.length_nil, Nat.reduceAdd, dlim, mk_len, evSs, truthD, List.nil_append, List.cons_append, hd, e2]
      rfl
  · simp only [evS, evE, evT, evEs, evIfs, evP, slot, asG, asT, asTs, List.getElem?_cons_zero, List.getElem?_cons_succ, bindok, toSok, ofsome, ofPsome, b_add, b_sub, b_subb, b_mul, b_fdiv, b_mod, b_shl, b_pow, cmp_lt, cmp_le, cmp_gt, cmp_ge, cmp_eq, cmp_ne, cmp_eqb, bi_abs, bi_int, bi_intb, bi_lent, bm_bits, bmT, setsI, List.set_cons_zero, List.set_cons_succ, rbnx, rbrt, Option.map, gc0, gc1, gc2, gc3, gc4, if_true, List.length_cons, List.length_nil, Nat.reduceAdd, dlim, mk_len, evSs, truthD, List.nil_append, List.cons_append, ft, m5, m6, m7, d1, fl_of (b := 0) hr]
theorem ix0 (a b : D) (S : Store) : ixD (.tup [a, b]) (.int 0) S = some a := rfl
theorem ix1 (a b : D) (S : Store) : ixD (.tup [a, b]) (.int 1) S = some b := rfl
theorem jx0 (a b c : D) (S : Store) : ixD (.tup [a, b, c]) (.int 0) S = some a := rfl
theorem jx1 (a b c : D) (S : Store) : ixD (.tup [a, b, c]) (.int 1) S = some b := rfl
theorem jx2 (a b c : D) (S : Store) : ixD (.tup [a, b, c]) (.int 2) S = some c := rfl
theorem w27 (k : Nat) (t u p q r : Int) (S : Store) (hD : 0 ≤ Dd t u) (ht : Bd 8 t) (hu : Bd 8 u) (hp : Bd 600 p) (hq : Bd 200 q) (hr : 0 < r) (hrb : Bd 600 r) :
    (Gk (k + 2)).fn 27 [.tup [.int t, .int u], .int p, .int q, .int r] S = .ok (.int ((2 * p + q * t + F (Dd t u) q) / (2 * r))) S := by
  rw [gfn rfl]
  have m1 : mulOk q q = true := mk_ok hq hq
  have m2 : mulOk t t = true := mk_ok ht ht
  have m3 : mulOk 4 u = true := mk_ok four_bd hu
  have m4 : mulOk (q * q) (t * t + 4 * u) = true := mk_ok (hq.mul hq) (dd_bd ht hu)
  have m5 : mulOk 2 p = true := mk_ok two_bd hp
  have m6 : mulOk q t = true := mk_ok hq ht
  have m7 : mulOk 2 r = true := mk_ok two_bd hrb
  have d1 : ∀ i, divOk i (2 * r) = true := fun i => dv_ok (two_bd.mul hrb) (by omega)
  have e1 : q * q * (t * t + 4 * u) = ((Nsq (Dd t u) q : Nat) : Int) := (Nsq_int hD q).symm
  have c7 := w26 k (Nsq (Dd t u) q) S (nsq_fu hD ht hu hq)
  refine run_rt (ρ0 := [some (.tup [.int t, .int u]), some (.int p), some (.int q), some (.int r), none]) rfl rfl (ss_nx (ρ1 := [some (.tup [.int t, .int u]), some (.int p), some (.int q), some (.int r), some (.int (isq (Nsq (Dd t u) q)))]) (S1 := S) ?_ (ss_nx (ρ1 := [some (.tup [.int t, .int u]), some (.int p), some (.int q), some (.int r), some (.int (F (Dd t u) q))]) (S1 := S) ?_ (ss_ret ?_)))
  · simp only [evS, evE, evT, evEs, evIfs, evP, slot, asG, asT, asTs, List.getElem?_cons_zero, List.getElem?_cons_succ, bindok, toSok, ofsome, ofPsome, b_add, b_sub, b_subb, b_mul, b_fdiv, b_mod, b_shl, b_pow, cmp_lt, cmp_le, cmp_gt, cmp_ge, cmp_eq, cmp_ne, cmp_eqb, bi_abs, bi_int, bi_intb, bi_lent, bm_bits, bmT, setsI, List.set_cons_zero, List.set_cons_succ, rbnx, rbrt, Option.map, gc0, gc1, gc2, gc3, gc4, if_true, List.length_cons, List.length_nil, Nat.reduceAdd, dlim, mk_len, evSs, truthD, List.nil_append, List.cons_append, ix0, ix1, m1, m2, m3, m4, e1, c7, dfl0 _ 26 rfl, List.append_nil]
  · by_cases hq0 : q < 0
    · have hd : decide (q < 0) = true := decide_eq_true hq0
      have e2 : F (Dd t u) q = 0 - ((isq (Nsq (Dd t u) q) : Nat) : Int) - 1 := by unfold F; rw [if_neg (by omega)]; omega
      simp only [evS, evE, evT, evEs, evIfs, evP, slot, asG, asT, asTs, List.getElem?_cons_zero, List.getElem?_cons_succ, bindok, toSok, ofsome, ofPsome, b_add, b_sub, b_subb, b_mul, b_fdiv, b_mod, b_shl, b_pow, cmp_lt, cmp_le, cmp_gt, cmp_ge, cmp_eq, cmp_ne, cmp_eqb, bi_abs, bi_int, bi_intb, bi_lent, bm_bits, bmT, setsI, List.set_cons_zero, List.set_cons_succ, rbnx, rbrt, Option.map, gc0, gc1, gc2, gc3, gc4, if_true, List.length_cons, List.length_nil, Nat.reduceAdd, dlim, mk_len, evSs, truthD, List.nil_append, List.cons_append, hd, e2]
    · have hd : decide (q < 0) = false := decide_eq_false hq0
      have e2 : F (Dd t u) q = ((isq (Nsq (Dd t u) q) : Nat) : Int) := by unfold F; rw [if_pos (by omega)]
      simp only [evS, evE, evT, evEs, evIfs, evP, slot, asG, asT, asTs, List.getElem?_cons_zero, List.getElem?_cons_succ, bindok, toSok, ofsome, ofPsome, b_add, b_sub, b_subb, b_mul, b_fdiv, b_mod, b_shl, b_pow, cmp_lt, cmp_le, cmp_gt, cmp_ge, cmp_eq, cmp_ne, cmp_eqb, bi_abs, bi_int, bi_intb, bi_lent, bm_bits, bmT, setsI, List.set_cons_zero, List.set_cons_succ, rbnx, rbrt, Option.map, gc0, gc1, gc2, gc3, gc4, if_true, List.length_cons, List.length_nil, Nat.reduceAdd, dlim, mk_len, evSs, truthD, List.nil_append, List.cons_append, hd, e2]
      rfl
  · simp only [evS, evE, evT, evEs, evIfs, evP, slot, asG, asT, asTs, List.getElem?_cons_zero, List.getElem?_cons_succ, bindok, toSok, ofsome, ofPsome, b_add, b_sub, b_subb, b_mul, b_fdiv, b_mod, b_shl, b_pow, cmp_lt, cmp_le, cmp_gt, cmp_ge, cmp_eq, cmp_ne, cmp_eqb, bi_abs, bi_int, bi_intb, bi_lent, bm_bits, bmT, setsI, List.set_cons_zero, List.set_cons_succ, rbnx, rbrt, Option.map, gc0, gc1, gc2, gc3, gc4, if_true, List.length_cons, List.length_nil, Nat.reduceAdd, dlim, mk_len, evSs, truthD, List.nil_append, List.cons_append, ix0, m5, m6, m7, d1, fl_of (b := 0) hr]
theorem wn_eq (t D n : Int) : (2 * 0 + n * t + F D n) / (2 * 1) = Wn t D n := by
  unfold Wn
  rw [Int.mul_zero, Int.zero_add, Int.mul_one]
theorem w15 (k ro : Nat) (t u n : Int) (S : Store) (h : RootAt S ro t u) (hD : 0 ≤ Dd t u) (ht : Bd 8 t) (hu : Bd 8 u) (hn : Bd 200 n) : (Gk (k + 3)).fn 15 [.obj ro, .int n] S = .ok (.int (Wn t (Dd t u) n)) S := by
  rw [gfn rfl]
  have c := w10 k ro t u 0 n 1 S h hD ht hu (by decide) hn (by decide) (by decide)
  rw [wn_eq] at c
  refine run_rt (ρ0 := [some (.obj ro), some (.int n)]) rfl rfl (ss_ret ?_)
  simp only [evS, evE, evT, evEs, evIfs, evP, slot, asG, asT, asTs, List.getElem?_cons_zero, List.getElem?_cons_succ, bindok, toSok, ofsome, ofPsome, b_add, b_sub, b_subb, b_mul, b_fdiv, b_mod, b_shl, b_pow, cmp_lt, cmp_le, cmp_gt, cmp_ge, cmp_eq, cmp_ne, cmp_eqb, bi_abs, bi_int, bi_intb, bi_lent, bm_bits, bmT, setsI, List.set_cons_zero, List.set_cons_succ, rbnx, rbrt, Option.map, gc0, gc1, gc2, gc3, gc4, if_true, List.length_cons, List.length_nil, Nat.reduceAdd, dlim, mk_len, evSs, truthD, List.nil_append, List.cons_append, c, dfl0 _ 10 rfl, List.append_nil]
theorem w28 (k : Nat) (t u n : Int) (S : Store) (hD : 0 ≤ Dd t u) (ht : Bd 8 t) (hu : Bd 8 u) (hn : Bd 200 n) : (Gk (k + 3)).fn 28 [.tup [.int t, .int u], .int n] S = .ok (.int (Wn t (Dd t u) n)) S := by
  rw [gfn rfl]
  have c := w27 k t u 0 n 1 S hD ht hu (by decide) hn (by decide) (by decide)
  rw [wn_eq] at c
  refine run_rt (ρ0 := [some (.tup [.int t, .int u]), some (.int n)]) rfl rfl (ss_ret ?_)
  simp only [evS, evE, evT, evEs, evIfs, evP, slot, asG, asT, asTs, List.getElem?_cons_zero, List.getElem?_cons_succ, bindok, toSok, ofsome, ofPsome, b_add, b_sub, b_subb, b_mul, b_fdiv, b_mod, b_shl, b_pow, cmp_lt, cmp_le, cmp_gt, cmp_ge, cmp_eq, cmp_ne, cmp_eqb, bi_abs, bi_int, bi_intb, bi_lent, bm_bits, bmT, setsI, List.set_cons_zero, List.set_cons_succ, rbnx, rbrt, Option.map, gc0, gc1, gc2, gc3, gc4, if_true, List.length_cons, List.length_nil, Nat.reduceAdd, dlim, mk_len, evSs, truthD, List.nil_append, List.cons_append, c, dfl0 _ 27 rfl, List.append_nil]
theorem wn_bd {t u n : Int} (hD : 0 ≤ Dd t u) (ht : Bd 8 t) (hu : Bd 8 u) (hn : Bd 200 n) : Bd 216 (Wn t (Dd t u) n) := by
  have h1 : Bd 216 (n * t + F (Dd t u) n) := ((hn.mul ht).mono (by decide)).add1 (f_bd hD ht hu hn)
  unfold Wn
  refine Bd.of_le h1 ?_
  generalize n * t + F (Dd t u) n = z
  omega
/-- a modulus -/
structure Md (m : Int) : Prop where
  pos : 0 < m
  le : m ≤ 12
theorem Md.bd {m : Int} (h : Md m) : Bd 4 m := by
  have := h.pos
  have := h.le
  unfold Bd
  have : (2 : Nat) ^ 4 = 16 := by decide
  omega
theorem md_fdiv {a m : Int} (h : Md m) : a.fdiv m = a / m := Int.fdiv_eq_ediv_of_nonneg _ (by have := h.pos; omega)
theorem w16 (k ro : Nat) (t u m n : Int) (S : Store) (h : RootAt S ro t u) (hD : 0 ≤ Dd t u) (ht : Bd 8 t) (hu : Bd 8 u) (hn : Bd 200 n) (hm : Md m) : (Gk (k + 4)).fn 16 [.obj ro, .int m, .int n] S = .ok (D3 (Pt t (Dd t u) m n)) S := by
  rw [gfn rfl]
  have hm0 := hm.pos
  have hwb := wn_bd hD ht hu hn
  have hdb : Bd 216 (Wn t (Dd t u) n / m) := Bd.of_le hwb (by
    have h1 := Int.natAbs_ediv_le_natAbs (Wn t (Dd t u) n) m
    exact h1)
  have c1 := w15 k ro t u n S h hD ht hu hn
  have c2 := w8 (k + 1) (-(m * (Wn t (Dd t u) n / m))) n m S hm0 (hn.mono (by decide)) (hm.bd.mono (by decide))
  have ok : divOk (Wn t (Dd t u) n) m = true := dv_ok hm.bd (by omega)
  have ok2 : mulOk (-m) (Wn t (Dd t u) n / m) = true := mk_ok hm.bd.neg hdb
  have e : -m * (Wn t (Dd t u) n / m) = -(m * (Wn t (Dd t u) n / m)) := Int.neg_mul ..
  refine run_rt (ρ0 := [some (.obj ro), some (.int m), some (.int n)]) rfl rfl (ss_ret ?_)
  simp only [evS, evE, evT, evEs, evIfs, evP, slot, asG, asT, asTs, List.getElem?_cons_zero, List.getElem?_cons_succ, bindok, toSok, ofsome, ofPsome, b_add, b_sub, b_subb, b_mul, b_fdiv, b_mod, b_shl, b_pow, cmp_lt, cmp_le, cmp_gt, cmp_ge, cmp_eq, cmp_ne, cmp_eqb, bi_abs, bi_int, bi_intb, bi_lent, bm_bits, bmT, setsI, List.set_cons_zero, List.set_cons_succ, rbnx, rbrt, Option.map, gc0, gc1, gc2, gc3, gc4, if_true, List.length_cons, List.length_nil, Nat.reduceAdd, dlim, mk_len, evSs, truthD, List.nil_append, List.cons_append, c1, dfl0 _ 15 rfl, dfl0 _ 8 rfl, List.append_nil, ok, md_fdiv hm, ok2, e, c2]
  rfl
theorem w31 (k : Nat) (t u m n : Int) (S : Store) (hD : 0 ≤ Dd t u) (ht : Bd 8 t) (hu : Bd 8 u) (hn : Bd 200 n) (hm : Md m) : (Gk (k + 4)).fn 31 [.tup [.int t, .int u], .int m, .int n] S = .ok (D3 (Pt t (Dd t u) m n)) S := by
  rw [gfn rfl]
  have hm0 := hm.pos
  have hwb := wn_bd hD ht hu hn
  have hdb : Bd 216 (Wn t (Dd t u) n / m) := Bd.of_le hwb (by
    have h1 := Int.natAbs_ediv_le_natAbs (Wn t (Dd t u) n) m
    exact h1)
  have c1 := w28 k t u n S hD ht hu hn
  have c2 := w30 (k + 1) (-(m * (Wn t (Dd t u) n / m))) n m S hm0 (hn.mono (by decide)) (hm.bd.mono (by decide))
  have ok : divOk (Wn t (Dd t u) n) m = true := dv_ok hm.bd (by omega)
  have ok2 : mulOk m (Wn t (Dd t u) n / m) = true := mk_ok hm.bd hdb
  have e : 0 - m * (Wn t (Dd t u) n / m) = -(m * (Wn t (Dd t u) n / m)) := Int.zero_sub ..
  refine run_rt (ρ0 := [some (.tup [.int t, .int u]), some (.int m), some (.int n)]) rfl rfl (ss_ret ?_)
  simp only [evS, evE, evT, evEs, evIfs, evP, slot, asG, asT, asTs, List.getElem?_cons_zero, List.getElem?_cons_succ, bindok, toSok, ofsome, ofPsome, b_add, b_sub, b_subb, b_mul, b_fdiv, b_mod, b_shl, b_pow, cmp_lt, cmp_le, cmp_gt, cmp_ge, cmp_eq, cmp_ne, cmp_eqb, bi_abs, bi_int, bi_intb, bi_lent, bm_bits, bmT, setsI, List.set_cons_zero, List.set_cons_succ, rbnx, rbrt, Option.map, gc0, gc1, gc2, gc3, gc4, if_true, List.length_cons, List.length_nil, Nat.reduceAdd, dlim, mk_len, evSs, truthD, List.nil_append, List.cons_append, c1, dfl0 _ 28 rfl, dfl0 _ 30 rfl, List.append_nil, ok, md_fdiv hm, ok2, e, c2]
  rfl
end L_k13
end

section
set_option maxRecDepth 100000
set_option maxHeartbeats 1000000
set_option exponentiation.threshold 200
namespace L_k13
open MP K13
theorem b2i_d (p : Prop) [Decidable p] : b2i (decide p) = if p then 1 else 0 := by
  by_cases h : p <;> simp [h, b2i]
theorem w9 (k ro : Nat) (t u p q : Int) (S : Store) (h : RootAt S ro t u) (ht : Bd 8 t) (hu : Bd 8 u) (hp : Bd 600 p) (hq : Bd 600 q) :
    (Gk (k + 1)).fn 9 [.obj ro, .int p, .int q] S = .ok (.int (sg (Dd t u) (2 * p + q * t) q)) S := by
  rw [gfn rfl]
  have m1 : mulOk q q = true := mk_ok hq hq
  have m2 : mulOk t t = true := mk_ok ht ht
  have m3 : mulOk 4 u = true := mk_ok four_bd hu
  have m4 : mulOk (q * q) (t * t + 4 * u) = true := mk_ok (hq.mul hq) (dd_bd ht hu)
  have m5 : mulOk 2 p = true := mk_ok two_bd hp
  have m6 : mulOk q t = true := mk_ok hq ht
  have m7 : mulOk (2 * p + q * t) (2 * p + q * t) = true := mk_ok ((two_bd.mul hp).add (hq.mul ht)) ((two_bd.mul hp).add (hq.mul ht))
  have ft := fld_t h
  have fuu := fld_u h
  have first : evS (Gk k) FU (.asg (.t (.nm 3)) (.bin .add (.bin .mul (.c (.int (2))) (.v 1)) (.bin .mul (.v 2) (.fld (.v 0) "t")))) [some (.obj ro), some (.int p), some (.int q), none, none, none] S = .ok .nx [some (.obj ro), some (.int p), some (.int q), some (.int (2 * p + q * t)), none, none] S := by
    simp only [evS, evE, evT, evEs, evIfs, evP, slot, asG, asT, asTs, List.getElem?_cons_zero, List.getElem?_cons_succ, bindok, toSok, ofsome, ofPsome, b_add, b_sub, b_subb, b_mul, b_fdiv, b_mod, b_shl, b_pow, cmp_lt, cmp_le, cmp_gt, cmp_ge, cmp_eq, cmp_ne, cmp_eqb, bi_abs, bi_int, bi_intb, bi_lent, bm_bits, bmT, setsI, List.set_cons_zero, List.set_cons_succ, rbnx, rbrt, Option.map, gc0, gc1, gc2, gc3, gc4, if_true, List.length_cons, List.length_nil, Nat.reduceAdd, dlim, mk_len, evSs, truthD, List.nil_append, List.cons_append, ft, m5, m6]
  by_cases hc : q = 0 ∨ 2 * p + q * t = 0 ∨ (decide (0 < 2 * p + q * t) = decide (0 < q))
  · have hsg : sg (Dd t u) (2 * p + q * t) q = (if 0 < (if q = 0 then 2 * p + q * t else q) then 1 else 0) - (if (if q = 0 then 2 * p + q * t else q) < 0 then 1 else 0) := by
      unfold sg; rw [if_pos hc]
    rw [hsg]
    generalize hf : 2 * p + q * t = f at *
    refine run_rt (ρ0 := [some (.obj ro), some (.int p), some (.int q), none, none, none]) rfl rfl (ss_nx first (ss_rt (ρ1 := [some (.obj ro), some (.int p), some (.int q), some (.int f), some (.int (if q = 0 then f else q)), none]) ?_))
    by_cases h1 : q = 0
    · subst h1
      simp only [evS, evE, evT, evEs, evIfs, evP, slot, asG, asT, asTs, List.getElem?_cons_zero, List.getElem?_cons_succ, bindok, toSok, ofsome, ofPsome, b_add, b_sub, b_subb, b_mul, b_fdiv, b_mod, b_shl, b_pow, cmp_lt, cmp_le, cmp_gt, cmp_ge, cmp_eq, cmp_ne, cmp_eqb, bi_abs, bi_int, bi_intb, bi_lent, bm_bits, bmT, setsI, List.set_cons_zero, List.set_cons_succ, rbnx, rbrt, Option.map, gc0, gc1, gc2, gc3, gc4, if_true, List.length_cons, List.length_nil, Nat.reduceAdd, dlim, mk_len, evSs, truthD, List.nil_append, List.cons_append, decide_true, if_true, b2i_d]
    · have d1 : decide (q = 0) = false := decide_eq_false h1
      by_cases h2 : f = 0
      · have d2 : decide (f = 0) = true := decide_eq_true h2
        simp only [evS, evE, evT, evEs, evIfs, evP, slot, asG, asT, asTs, List.getElem?_cons_zero, List.getElem?_cons_succ, bindok, toSok, ofsome, ofPsome, b_add, b_sub, b_subb, b_mul, b_fdiv, b_mod, b_shl, b_pow, cmp_lt, cmp_le, cmp_gt, cmp_ge, cmp_eq, cmp_ne, cmp_eqb, bi_abs, bi_int, bi_intb, bi_lent, bm_bits, bmT, setsI, List.set_cons_zero, List.set_cons_succ, rbnx, rbrt, Option.map, gc0, gc1, gc2, gc3, gc4, if_true, List.length_cons, List.length_nil, Nat.reduceAdd, dlim, mk_len, evSs, truthD, List.nil_append, List.cons_append, d1, d2, if_true, b2i_d, h1, if_false, Bool.false_eq_true, decide_false]
      · have d2 : decide (f = 0) = false := decide_eq_false h2
        have d3 : (decide (0 < f) == decide (0 < q)) = true := by
          rcases hc with z | z | z
          · exact absurd z h1
          · exact absurd z h2
          · rw [z]; exact beq_self_eq_true _
        simp only [evS, evE, evT, evEs, evIfs, evP, slot, asG, asT, asTs, List.getElem?_cons_zero, List.getElem?_cons_succ, bindok, toSok, ofsome, ofPsome, b_add, b_sub, b_subb, b_mul, b_fdiv, b_mod, b_shl, b_pow, cmp_lt, cmp_le, cmp_gt, cmp_ge, cmp_eq, cmp_ne, cmp_eqb, bi_abs, bi_int, bi_intb, bi_lent, bm_bits, bmT, setsI, List.set_cons_zero, List.set_cons_succ, rbnx, rbrt, Option.map, gc0, gc1, gc2, gc3, gc4, if_true, List.length_cons, List.length_nil, Nat.reduceAdd, dlim, mk_len, evSs, truthD, List.nil_append, List.cons_append, d1, d2, d3, if_true, b2i_d, h1, if_false, Bool.false_eq_true, decide_false]
  · have hsg : sg (Dd t u) (2 * p + q * t) q = if decide (0 < 2 * p + q * t) = decide (q * q * Dd t u < (2 * p + q * t) * (2 * p + q * t)) then 1 else -1 := by
      unfold sg; rw [if_neg hc]
    rw [hsg]
    generalize hf : 2 * p + q * t = f at *
    rw [not_or, not_or] at hc
    have d1 : decide (q = 0) = false := decide_eq_false hc.1
    have d2 : decide (f = 0) = false := decide_eq_false hc.2.1
    have d3 : (decide (0 < f) == decide (0 < q)) = false := beq_eq_false_iff_ne.mpr hc.2.2
    refine run_rt (ρ0 := [some (.obj ro), some (.int p), some (.int q), none, none, none]) rfl rfl (ss_nx first (ss_nx (ρ1 := [some (.obj ro), some (.int p), some (.int q), some (.int f), none, none]) (S1 := S) ?_ (ss_nx (ρ1 := [some (.obj ro), some (.int p), some (.int q), some (.int f), none, some (.bl (decide (q * q * Dd t u < f * f)))]) (S1 := S) ?_ (ss_ret ?_))))
    · simp only [evS, evE, evT, evEs, evIfs, evP, slot, asG, asT, asTs, List.getElem?_cons_zero, List.getElem?_cons_succ, bindok, toSok, ofsome, ofPsome, b_add, b_sub, b_subb, b_mul, b_fdiv, b_mod, b_shl, b_pow, cmp_lt, cmp_le, cmp_gt, cmp_ge, cmp_eq, cmp_ne, cmp_eqb, bi_abs, bi_int, bi_intb, bi_lent, bm_bits, bmT, setsI, List.set_cons_zero, List.set_cons_succ, rbnx, rbrt, Option.map, gc0, gc1, gc2, gc3, gc4, if_true, List.length_cons, List.length_nil, Nat.reduceAdd, dlim, mk_len, evSs, truthD, List.nil_append, List.cons_append, d1, d2, d3, Bool.false_eq_true, if_false]
    · simp only [evS, evE, evT, evEs, evIfs, evP, slot, asG, asT, asTs, List.getElem?_cons_zero, List.getElem?_cons_succ, bindok, toSok, ofsome, ofPsome, b_add, b_sub, b_subb, b_mul, b_fdiv, b_mod, b_shl, b_pow, cmp_lt, cmp_le, cmp_gt, cmp_ge, cmp_eq, cmp_ne, cmp_eqb, bi_abs, bi_int, bi_intb, bi_lent, bm_bits, bmT, setsI, List.set_cons_zero, List.set_cons_succ, rbnx, rbrt, Option.map, gc0, gc1, gc2, gc3, gc4, if_true, List.length_cons, List.length_nil, Nat.reduceAdd, dlim, mk_len, evSs, truthD, List.nil_append, List.cons_append, ft, fuu, m1, m2, m3, m4, m7]
    · by_cases h1 : decide (0 < f) = decide (q * q * Dd t u < f * f)
      · have d4 : (decide (0 < f) == decide (q * q * Dd t u < f * f)) = true := by rw [h1]; exact beq_self_eq_true _
        rw [if_pos h1]
        simp only [evS, evE, evT, evEs, evIfs, evP, slot, asG, asT, asTs, List.getElem?_cons_zero, List.getElem?_cons_succ, bindok, toSok, ofsome, ofPsome, b_add, b_sub, b_subb, b_mul, b_fdiv, b_mod, b_shl, b_pow, cmp_lt, cmp_le, cmp_gt, cmp_ge, cmp_eq, cmp_ne, cmp_eqb, bi_abs, bi_int, bi_intb, bi_lent, bm_bits, bmT, setsI, List.set_cons_zero, List.set_cons_succ, rbnx, rbrt, Option.map, gc0, gc1, gc2, gc3, gc4, if_true, List.length_cons, List.length_nil, Nat.reduceAdd, dlim, mk_len, evSs, truthD, List.nil_append, List.cons_append, d4]
      · have d4 : (decide (0 < f) == decide (q * q * Dd t u < f * f)) = false := beq_eq_false_iff_ne.mpr h1
        rw [if_neg h1]
        simp only [evS, evE, evT, evEs, evIfs, evP, slot, asG, asT, asTs, List.getElem?_cons_zero, List.getElem?_cons_succ, bindok, toSok, ofsome, ofPsome, b_add, b_sub, b_subb, b_mul, b_fdiv, b_mod, b_shl, b_pow, cmp_lt, cmp_le, cmp_gt, cmp_ge, cmp_eq, cmp_ne, cmp_eqb, bi_abs, bi_int, bi_intb, bi_lent, bm_bits, bmT, setsI, List.set_cons_zero, List.set_cons_succ, rbnx, rbrt, Option.map, gc0, gc1, gc2, gc3, gc4, if_true, List.length_cons, List.length_nil, Nat.reduceAdd, dlim, mk_len, evSs, truthD, List.nil_append, List.cons_append, d4, Bool.false_eq_true, if_false]
theorem w11 (k ro : Nat) (t u a0 a1 a2 b0 b1 b2 : Int) (S : Store) (h : RootAt S ro t u) (ht : Bd 8 t) (hu : Bd 8 u) (ha0 : Bd 280 a0) (ha1 : Bd 280 a1) (ha2 : Bd 280 a2) (hb0 : Bd 8 b0) (hb1 : Bd 8 b1) (hb2 : Bd 8 b2) :
    (Gk (k + 2)).fn 11 [.obj ro, .tup [.int a0, .int a1, .int a2], .tup [.int b0, .int b1, .int b2]] S = .ok (.bl (decide (sg (Dd t u) (2 * (a0 * b2 - b0 * a2) + (a1 * b2 - b1 * a2) * t) (a1 * b2 - b1 * a2) < 0))) S := by
  rw [gfn rfl]
  have c := w9 k ro t u (a0 * b2 - b0 * a2) (a1 * b2 - b1 * a2) S h ht hu (((ha0.mul hb2).sub (hb0.mul ha2)).mono (by decide)) (((ha1.mul hb2).sub (hb1.mul ha2)).mono (by decide))
  have m1 : mulOk a0 b2 = true := mk_ok ha0 hb2
  have m2 : mulOk b0 a2 = true := mk_ok hb0 ha2
  have m3 : mulOk a1 b2 = true := mk_ok ha1 hb2
  have m4 : mulOk b1 a2 = true := mk_ok hb1 ha2
  refine run_rt (ρ0 := [some (.obj ro), some (.tup [.int a0, .int a1, .int a2]), some (.tup [.int b0, .int b1, .int b2])]) rfl rfl (ss_ret ?_)
  simp only [evS, evE, evT, evEs, evIfs, evP, slot, asG, asT, asTs, List.getElem?_cons_zero, List.getElem?_cons_succ, bindok, toSok, ofsome, ofPsome, b_add, b_sub, b_subb, b_mul, b_fdiv, b_mod, b_shl, b_pow, cmp_lt, cmp_le, cmp_gt, cmp_ge, cmp_eq, cmp_ne, cmp_eqb, bi_abs, bi_int, bi_intb, bi_lent, bm_bits, bmT, setsI, List.set_cons_zero, List.set_cons_succ, rbnx, rbrt, Option.map, gc0, gc1, gc2, gc3, gc4, if_true, List.length_cons, List.length_nil, Nat.reduceAdd, dlim, mk_len, evSs, truthD, List.nil_append, List.cons_append, jx0, jx1, jx2, m1, m2, m3, m4, c, dfl0 _ 9 rfl, List.append_nil]
structure TOk (x : T3) : Prop where
  b0 : Bd 280 x.1
  b1 : Bd 280 x.2.1
  b2 : Bd 280 x.2.2
theorem w11n (k ro : Nat) (t u : Int) (x : T3) (S : Store) (h : RootAt S ro t u) (ht : Bd 8 t) (hu : Bd 8 u) (hx : TOk x) :
    (Gk (k + 2)).fn 11 [.obj ro, D3 x, .tup [.int 0, .int 0, .int 1]] S = .ok (.bl (decide (sg (Dd t u) (2 * x.1 + x.2.1 * t) x.2.1 < 0))) S := by
  have := w11 k ro t u x.1 x.2.1 x.2.2 0 0 1 S h ht hu hx.b0 hx.b1 hx.b2 (by decide) (by decide) (by decide)
  rw [Int.zero_mul, Int.sub_zero, Int.sub_zero, Int.mul_one, Int.mul_one] at this
  exact this
theorem w11u (k ro : Nat) (t u : Int) (x : T3) (S : Store) (h : RootAt S ro t u) (ht : Bd 8 t) (hu : Bd 8 u) (hx : TOk x) :
    (Gk (k + 2)).fn 11 [.obj ro, D3 x, .tup [.int 1, .int 0, .int 1]] S = .ok (.bl (decide (sg (Dd t u) (2 * (x.1 - x.2.2) + x.2.1 * t) x.2.1 < 0))) S := by
  have := w11 k ro t u x.1 x.2.1 x.2.2 1 0 1 S h ht hu hx.b0 hx.b1 hx.b2 (by decide) (by decide) (by decide)
  rw [Int.zero_mul, Int.sub_zero, Int.mul_one, Int.mul_one, Int.one_mul] at this
  exact this
theorem great {i : Int} (h : Bd 600 i) : i < 10 ^ 3000 ∧ -10 ^ 3000 < i := by
  have h1 : (2 : Nat) ^ 600 ≤ 10 ^ 3000 := Nat.le_trans (Nat.pow_le_pow_left (by decide) 600) (Nat.pow_le_pow_right (by decide) (by decide))
  have h2 : i.natAbs < 10 ^ 3000 := Nat.lt_of_lt_of_le h h1
  have h3 : ((10 ^ 3000 : Nat) : Int) = (10 : Int) ^ 3000 := Int.natCast_pow 10 3000
  rw [← h3]
  generalize (10 : Nat) ^ 3000 = z at *
  omega
theorem w2b (k : Nat) (i : Int) (S : Store) (h : Bd 600 i) : (Gk (k + 1)).fn 2 [.int i] S = .ok (.bl false) S := w2 k i S (great h).1 (great h).2
theorem isi_tup (ds : List D) (S : Store) : isiD (.tup ds) "tuple" S = some true := rfl
theorem gok_nil (S : Store) : gOk [] S = true := rfl
theorem w12 (k : Nat) (x : T3) (S : Store) (hx : TOk x) (hr : 0 < x.2.2) (hg : G3 x.1 x.2.1 x.2.2 = 1) : (Gk (k + 2)).fn 12 [D3 x] S = .ok (.bl true) S := by
  rw [gfn rfl]
  obtain ⟨p, q, r⟩ := x
  obtain ⟨b0, b1, b2⟩ := hx
  dsimp only at b0 b1 b2 hr hg
  have c0 := w2b k p S (b0.mono (by decide))
  have c1 := w2b k q S (b1.mono (by decide))
  have c2 := w2b k r S (b2.mono (by decide))
  have g1 := w6 k p q S (fu_of (b1.mono (by decide)))
  have g2 := w6 k (Nat.gcd p.natAbs q.natAbs : Nat) r S (fu_of (b2.mono (by decide)))
  have e : Nat.gcd (Nat.gcd p.natAbs q.natAbs) r.natAbs = 1 := hg
  have d1 : decide (1 ≤ r) = true := decide_eq_true (by omega)
  have step : ∀ (z : Option D) (i : Int), Bd 600 i → evSs (Gk (k + 1)) FU [.ite (.or_ (.not (.tr (.call 0 [.v 1] 0))) (.tr (.call 2 [.v 1] 0))) [.ret (.c (.bl false))] []] [some (D3 (p, q, r)), some (.int i)] S = .ok .nx [some (D3 (p, q, r)), some (.int i)] S := fun z i hi => by
    simp only [evS, evE, evT, evEs, evIfs, evP, slot, asG, asT, asTs, List.getElem?_cons_zero, List.getElem?_cons_succ, bindok, toSok, ofsome, ofPsome, b_add, b_sub, b_subb, b_mul, b_fdiv, b_mod, b_shl, b_pow, cmp_lt, cmp_le, cmp_gt, cmp_ge, cmp_eq, cmp_ne, cmp_eqb, bi_abs, bi_int, bi_intb, bi_lent, bm_bits, bmT, setsI, List.set_cons_zero, List.set_cons_succ, rbnx, rbrt, Option.map, gc0, gc1, gc2, gc3, gc4, if_true, List.length_cons, List.length_nil, Nat.reduceAdd, dlim, mk_len, evSs, truthD, List.nil_append, List.cons_append, w0, w2b k i S hi, dfl0 _ 0 rfl, dfl0 _ 2 rfl, List.append_nil, Bool.not_true, Bool.false_eq_true, if_false]
  refine run_rt (ρ0 := [some (D3 (p, q, r)), none]) rfl rfl (ss_nx (ρ1 := [some (D3 (p, q, r)), none]) (S1 := S) ?_ (ss_nx (ρ1 := [some (D3 (p, q, r)), some (.int r)]) (S1 := S) ?_ (ss_ret ?_)))
  · show evS _ _ _ [some (.tup [.int p, .int q, .int r]), none] S = .ok .nx [some (.tup [.int p, .int q, .int r]), none] S
    simp only [evS, evE, evT, evEs, evIfs, evP, slot, asG, asT, asTs, List.getElem?_cons_zero, List.getElem?_cons_succ, bindok, toSok, ofsome, ofPsome, b_add, b_sub, b_subb, b_mul, b_fdiv, b_mod, b_shl, b_pow, cmp_lt, cmp_le, cmp_gt, cmp_ge, cmp_eq, cmp_ne, cmp_eqb, bi_abs, bi_int, bi_intb, bi_lent, bm_bits, bmT, setsI, List.set_cons_zero, List.set_cons_succ, rbnx, rbrt, Option.map, gc0, gc1, gc2, gc3, gc4, if_true, List.length_cons, List.length_nil, Nat.reduceAdd, dlim, mk_len, evSs, truthD, List.nil_append, List.cons_append, isi_tup, Bool.not_true, Bool.false_eq_true, if_false]
    rfl
  · rw [evS]
    simp only [evEs, evE, slot, List.getElem?_cons_zero, bindok, toSok, ofsome]
    show (match itD .sq [D3 (p, q, r)] S with
      | some (items, g) => forL (asT (.nm 1)) (fun ρ S => evSs (Gk (k + 1)) FU [.ite (.or_ (.not (.tr (.call 0 [.v 1] 0))) (.tr (.call 2 [.v 1] 0))) [.ret (.c (.bl false))] []] ρ S) g items [some (D3 (p, q, r)), none] S
      | none => .bad) = _
    show forL (asT (.nm 1)) (fun ρ S => evSs (Gk (k + 1)) FU [.ite (.or_ (.not (.tr (.call 0 [.v 1] 0))) (.tr (.call 2 [.v 1] 0))) [.ret (.c (.bl false))] []] ρ S) [] [.int p, .int q, .int r] [some (D3 (p, q, r)), none] S = _
    simp only [forL, gok_nil, if_true, asT, List.set_cons_zero, List.set_cons_succ, step none p (b0.mono (by decide)), step none q (b1.mono (by decide)), step none r (b2.mono (by decide))]
  · show evE _ _ [some (.tup [.int p, .int q, .int r]), some (.int r)] S = _
    simp only [evS, evE, evT, evEs, evIfs, evP, slot, asG, asT, asTs, List.getElem?_cons_zero, List.getElem?_cons_succ, bindok, toSok, ofsome, ofPsome, b_add, b_sub, b_subb, b_mul, b_fdiv, b_mod, b_shl, b_pow, cmp_lt, cmp_le, cmp_gt, cmp_ge, cmp_eq, cmp_ne, cmp_eqb, bi_abs, bi_int, bi_intb, bi_lent, bm_bits, bmT, setsI, List.set_cons_zero, List.set_cons_succ, rbnx, rbrt, Option.map, gc0, gc1, gc2, gc3, gc4, if_true, List.length_cons, List.length_nil, Nat.reduceAdd, dlim, mk_len, evSs, truthD, List.nil_append, List.cons_append, jx0, jx1, jx2, d1, g1, g2, dfl0 _ 6 rfl, List.append_nil, Int.natAbs_natCast, e]
    rfl
end L_k13
end

section
set_option maxRecDepth 100000
set_option maxHeartbeats 1000000
set_option exponentiation.threshold 200
namespace L_k13
open MP K13
/-- a point of the root in lowest terms -/
structure PtOk (t u : Int) (x : T3) : Prop where
  b : TOk x
  pos : 0 < x.2.2
  g1 : G3 x.1 x.2.1 x.2.2 = 1
  inu : InU t (Dd t u) x
theorem dfl1 (k j : Nat) (h : prg.dfl.getD j [] = [.int (-1)]) : ((Gk k).dfl j).drop 0 = [.int (-1)] := by
  have : (Gk k).dfl j = prg.dfl.getD j [] := by cases k <;> rfl
  rw [this, h, List.drop_zero]
theorem w18 (k ro : Nat) (t u : Int) (x : T3) (S : Store) (h : RootAt S ro t u) (hD : 0 ≤ Dd t u) (ht : Bd 8 t) (hu : Bd 8 u) (hx : PtOk t u x) : (Gk (k + 3)).fn 18 [.obj ro, D3 x] S = .ok (.bl true) S := by
  rw [gfn rfl]
  have c1 := w12 k x S hx.b hx.pos hx.g1
  have c2 := w11n k ro t u x S h ht hu hx.b
  have c3 := w11u k ro t u x S h ht hu hx.b
  have s1 : decide (sg (Dd t u) (2 * x.1 + x.2.1 * t) x.2.1 < 0) = false := decide_eq_false fun z => (sg_neg hD _ _).mp z hx.inu.1
  have s2 : decide (sg (Dd t u) (2 * (x.1 - x.2.2) + x.2.1 * t) x.2.1 < 0) = true := decide_eq_true ((sg_neg hD _ _).mpr hx.inu.2)
  rw [s1] at c2
  rw [s2] at c3
  refine run_rt (ρ0 := [some (.obj ro), some (D3 x)]) rfl rfl (ss_ret ?_)
  simp only [evS, evE, evT, evEs, evIfs, evP, slot, asG, asT, asTs, List.getElem?_cons_zero, List.getElem?_cons_succ, bindok, toSok, ofsome, ofPsome, b_add, b_sub, b_subb, b_mul, b_fdiv, b_mod, b_shl, b_pow, cmp_lt, cmp_le, cmp_gt, cmp_ge, cmp_eq, cmp_ne, cmp_eqb, bi_abs, bi_int, bi_intb, bi_lent, bm_bits, bmT, setsI, List.set_cons_zero, List.set_cons_succ, rbnx, rbrt, Option.map, gc0, gc1, gc2, gc3, gc4, if_true, List.length_cons, List.length_nil, Nat.reduceAdd, dlim, mk_len, evSs, truthD, List.nil_append, List.cons_append, c1, c2, c3, dfl0 _ 12 rfl, dfl0 _ 11 rfl, List.append_nil, Bool.not_false]
theorem w19 (k ro : Nat) (t u : Int) (x : T3) (S : Store) (h : RootAt S ro t u) (hD : 0 ≤ Dd t u) (ht : Bd 8 t) (hu : Bd 8 u) (hx : PtOk t u x) : (Gk (k + 4)).fn 19 [.obj ro, D3 x, .int (-1)] S = .ok .non S := by
  rw [gfn rfl]
  have c1 := w18 k ro t u x S h hD ht hu hx
  refine run_nx (ρ0 := [some (.obj ro), some (D3 x), some (.int (-1))]) (ρ := [some (.obj ro), some (D3 x), some (.int (-1))]) rfl rfl (ss_nx (ρ1 := [some (.obj ro), some (D3 x), some (.int (-1))]) (S1 := S) ?_ ss_nl)
  simp only [evS, evE, evT, evEs, evIfs, evP, slot, asG, asT, asTs, List.getElem?_cons_zero, List.getElem?_cons_succ, bindok, toSok, ofsome, ofPsome, b_add, b_sub, b_subb, b_mul, b_fdiv, b_mod, b_shl, b_pow, cmp_lt, cmp_le, cmp_gt, cmp_ge, cmp_eq, cmp_ne, cmp_eqb, bi_abs, bi_int, bi_intb, bi_lent, bm_bits, bmT, setsI, List.set_cons_zero, List.set_cons_succ, rbnx, rbrt, Option.map, gc0, gc1, gc2, gc3, gc4, if_true, List.length_cons, List.length_nil, Nat.reduceAdd, dlim, mk_len, evSs, truthD, List.nil_append, List.cons_append, c1, dfl0 _ 18 rfl, List.append_nil, Bool.not_true, Bool.false_eq_true, if_false]
theorem ins_root {S : Store} {ro : Nat} {t u : Int} (h : RootAt S ro t u) : insD (.obj ro) S = some 0 := by
  show (match S[ro]? with
    | some (.ins c _) => some c
    | _ => none) = _
  rw [h]
theorem w14 (k ro : Nat) (t u : Int) (S : Store) (h : RootAt S ro t u) : (Gk (k + 1)).fn 14 [.obj ro, .int (-1)] S = .ok .non S := by
  rw [gfn rfl]
  have e : decide (insD (.obj ro) S = some 0) = true := decide_eq_true (ins_root h)
  refine run_nx (ρ0 := [some (.obj ro), some (.int (-1))]) (ρ := [some (.obj ro), some (.int (-1))]) rfl rfl (ss_nx (ρ1 := [some (.obj ro), some (.int (-1))]) (S1 := S) ?_ ss_nl)
  simp only [evS, evE, evT, evEs, evIfs, evP, slot, asG, asT, asTs, List.getElem?_cons_zero, List.getElem?_cons_succ, bindok, toSok, ofsome, ofPsome, b_add, b_sub, b_subb, b_mul, b_fdiv, b_mod, b_shl, b_pow, cmp_lt, cmp_le, cmp_gt, cmp_ge, cmp_eq, cmp_ne, cmp_eqb, bi_abs, bi_int, bi_intb, bi_lent, bm_bits, bmT, setsI, List.set_cons_zero, List.set_cons_succ, rbnx, rbrt, Option.map, gc0, gc1, gc2, gc3, gc4, if_true, List.length_cons, List.length_nil, Nat.reduceAdd, dlim, mk_len, evSs, truthD, List.nil_append, List.cons_append, e, Bool.not_true, Bool.false_eq_true, if_false]
theorem w5 (k : Nat) (m : Int) (S : Store) (hm : Md m) : (Gk (k + 3)).fn 5 [.int m, .int 1, .int 3600, .int (-1)] S = .ok .non S := by
  rw [gfn rfl]
  have c1 := w1 k m 1 3600 S
  have h1 := hm.pos
  have h2 := hm.le
  have e : (decide ((1 : Int) ≤ m) && decide (m ≤ 3600)) = true := by
    rw [decide_eq_true (show (1 : Int) ≤ m by omega), decide_eq_true (show m ≤ 3600 by omega)]
    rfl
  rw [e] at c1
  refine run_nx (ρ0 := [some (.int m), some (.int 1), some (.int 3600), some (.int (-1))]) (ρ := [some (.int m), some (.int 1), some (.int 3600), some (.int (-1))]) rfl rfl (ss_nx (ρ1 := [some (.int m), some (.int 1), some (.int 3600), some (.int (-1))]) (S1 := S) ?_ ss_nl)
  simp only [evS, evE, evT, evEs, evIfs, evP, slot, asG, asT, asTs, List.getElem?_cons_zero, List.getElem?_cons_succ, bindok, toSok, ofsome, ofPsome, b_add, b_sub, b_subb, b_mul, b_fdiv, b_mod, b_shl, b_pow, cmp_lt, cmp_le, cmp_gt, cmp_ge, cmp_eq, cmp_ne, cmp_eqb, bi_abs, bi_int, bi_intb, bi_lent, bm_bits, bmT, setsI, List.set_cons_zero, List.set_cons_succ, rbnx, rbrt, Option.map, gc0, gc1, gc2, gc3, gc4, if_true, List.length_cons, List.length_nil, Nat.reduceAdd, dlim, mk_len, evSs, truthD, List.nil_append, List.cons_append, c1, dfl0 _ 1 rfl, List.append_nil, Bool.not_true, Bool.false_eq_true, if_false]
theorem w3 (k : Nat) (i : Int) (S : Store) (h : Bd 600 i) : (Gk (k + 2)).fn 3 [.int i] S = .ok (.bl true) S := by
  rw [gfn rfl]
  have c1 := w0 k i S
  have c2 := w2b k i S h
  refine run_rt (ρ0 := [some (.int i)]) rfl rfl (ss_ret ?_)
  simp only [evS, evE, evT, evEs, evIfs, evP, slot, asG, asT, asTs, List.getElem?_cons_zero, List.getElem?_cons_succ, bindok, toSok, ofsome, ofPsome, b_add, b_sub, b_subb, b_mul, b_fdiv, b_mod, b_shl, b_pow, cmp_lt, cmp_le, cmp_gt, cmp_ge, cmp_eq, cmp_ne, cmp_eqb, bi_abs, bi_int, bi_intb, bi_lent, bm_bits, bmT, setsI, List.set_cons_zero, List.set_cons_succ, rbnx, rbrt, Option.map, gc0, gc1, gc2, gc3, gc4, if_true, List.length_cons, List.length_nil, Nat.reduceAdd, dlim, mk_len, evSs, truthD, List.nil_append, List.cons_append, c1, c2, dfl0 _ 0 rfl, dfl0 _ 2 rfl, List.append_nil, Bool.not_false]
theorem w4 (k : Nat) (i : Int) (S : Store) (h : Bd 600 i) : (Gk (k + 3)).fn 4 [.int i, .int (-1)] S = .ok .non S := by
  rw [gfn rfl]
  have c1 := w3 k i S h
  refine run_nx (ρ0 := [some (.int i), some (.int (-1))]) (ρ := [some (.int i), some (.int (-1))]) rfl rfl (ss_nx (ρ1 := [some (.int i), some (.int (-1))]) (S1 := S) ?_ ss_nl)
  simp only [evS, evE, evT, evEs, evIfs, evP, slot, asG, asT, asTs, List.getElem?_cons_zero, List.getElem?_cons_succ, bindok, toSok, ofsome, ofPsome, b_add, b_sub, b_subb, b_mul, b_fdiv, b_mod, b_shl, b_pow, cmp_lt, cmp_le, cmp_gt, cmp_ge, cmp_eq, cmp_ne, cmp_eqb, bi_abs, bi_int, bi_intb, bi_lent, bm_bits, bmT, setsI, List.set_cons_zero, List.set_cons_succ, rbnx, rbrt, Option.map, gc0, gc1, gc2, gc3, gc4, if_true, List.length_cons, List.length_nil, Nat.reduceAdd, dlim, mk_len, evSs, truthD, List.nil_append, List.cons_append, c1, dfl0 _ 3 rfl, List.append_nil, Bool.not_true, Bool.false_eq_true, if_false]
/-- what is met, as the program tells it -/
def DO : Option Int → D
  | none => .non
  | some i => .int i
theorem fm_pos {a r : Int} (h : 0 < r) : a.fmod r = a % r := Int.fmod_eq_emod_of_nonneg _ (by omega)
theorem fd_pos {a r : Int} (h : 0 < r) : a.fdiv r = a / r := Int.fdiv_eq_ediv_of_nonneg _ (by omega)
theorem w17 (k : Nat) (m : Int) (x : T3) (S : Store) (hm : Bd 12 m) (hx : TOk x) (hr : 0 < x.2.2) : (Gk (k + 1)).fn 17 [.int m, D3 x] S = .ok (DO (met m x)) S := by
  rw [gfn rfl]
  obtain ⟨p, q, r⟩ := x
  obtain ⟨b0, b1, b2⟩ := hx
  dsimp only at b0 b1 b2 hr
  have m1 : mulOk m q = true := mk_ok hm b1
  have d1 : ∀ i, divOk i r = true := fun i => dv_ok b2 (by omega)
  have n1 := eq_true (show r ≠ 0 by omega)
  have st : evS (Gk k) FU (.asg (.t (.tp [.nm 2, .nm 3, .nm 4])) (.v 1)) [some (.int m), some (D3 (p, q, r)), none, none, none] S = .ok .nx [some (.int m), some (D3 (p, q, r)), some (.int p), some (.int q), some (.int r)] S := by
    show evS (Gk k) FU (.asg (.t (.tp [.nm 2, .nm 3, .nm 4])) (.v 1)) [some (.int m), some (.tup [.int p, .int q, .int r]), none, none, none] S = .ok .nx [some (.int m), some (.tup [.int p, .int q, .int r]), some (.int p), some (.int q), some (.int r)] S
    simp only [evS, evE, evT, evEs, evIfs, evP, slot, asG, asT, asTs, List.getElem?_cons_zero, List.getElem?_cons_succ, bindok, toSok, ofsome, ofPsome, b_add, b_sub, b_subb, b_mul, b_fdiv, b_mod, b_shl, b_pow, cmp_lt, cmp_le, cmp_gt, cmp_ge, cmp_eq, cmp_ne, cmp_eqb, bi_abs, bi_int, bi_intb, bi_lent, bm_bits, bmT, setsI, List.set_cons_zero, List.set_cons_succ, rbnx, rbrt, Option.map, gc0, gc1, gc2, gc3, gc4, if_true, List.length_cons, List.length_nil, Nat.reduceAdd, dlim, mk_len, evSs, truthD, List.nil_append, List.cons_append]
  by_cases h1 : p % r = 0
  · have e1 : (p % r != 0) = false := by rw [h1]; rfl
    by_cases h2 : m * q % r = 0
    · have e2 : (m * q % r != 0) = false := by rw [h2]; rfl
      have em : met m (p, q, r) = some (m * q / r) := by
        unfold met
        rw [if_neg (by rw [not_or]; exact ⟨fun z => z h1, fun z => z h2⟩)]
      rw [em]
      refine run_rt (ρ0 := [some (.int m), some (D3 (p, q, r)), none, none, none]) rfl rfl (ss_nx st (ss_nx (ρ1 := [some (.int m), some (D3 (p, q, r)), some (.int p), some (.int q), some (.int r)]) (S1 := S) ?_ (ss_ret ?_)))
      · simp only [evS, evE, evT, evEs, evIfs, evP, slot, asG, asT, asTs, List.getElem?_cons_zero, List.getElem?_cons_succ, bindok, toSok, ofsome, ofPsome, b_add, b_sub, b_subb, b_mul, b_fdiv, b_mod, b_shl, b_pow, cmp_lt, cmp_le, cmp_gt, cmp_ge, cmp_eq, cmp_ne, cmp_eqb, bi_abs, bi_int, bi_intb, bi_lent, bm_bits, bmT, setsI, List.set_cons_zero, List.set_cons_succ, rbnx, rbrt, Option.map, gc0, gc1, gc2, gc3, gc4, if_true, List.length_cons, List.length_nil, Nat.reduceAdd, dlim, mk_len, evSs, truthD, List.nil_append, List.cons_append, m1, n1, fm_pos hr, e1, e2, Bool.false_eq_true, if_false]
      · simp only [evS, evE, evT, evEs, evIfs, evP, slot, asG, asT, asTs, List.getElem?_cons_zero, List.getElem?_cons_succ, bindok, toSok, ofsome, ofPsome, b_add, b_sub, b_subb, b_mul, b_fdiv, b_mod, b_shl, b_pow, cmp_lt, cmp_le, cmp_gt, cmp_ge, cmp_eq, cmp_ne, cmp_eqb, bi_abs, bi_int, bi_intb, bi_lent, bm_bits, bmT, setsI, List.set_cons_zero, List.set_cons_succ, rbnx, rbrt, Option.map, gc0, gc1, gc2, gc3, gc4, if_true, List.length_cons, List.length_nil, Nat.reduceAdd, dlim, mk_len, evSs, truthD, List.nil_append, List.cons_append, m1, d1, fd_pos hr]
        rfl
    · have e2 : (m * q % r != 0) = true := bne_iff_ne.mpr h2
      have em : met m (p, q, r) = none := by
        unfold met
        rw [if_pos (.inr h2)]
      rw [em]
      refine run_rt (ρ0 := [some (.int m), some (D3 (p, q, r)), none, none, none]) rfl rfl (ss_nx st (ss_rt (ρ1 := [some (.int m), some (D3 (p, q, r)), some (.int p), some (.int q), some (.int r)]) ?_))
      simp only [evS, evE, evT, evEs, evIfs, evP, slot, asG, asT, asTs, List.getElem?_cons_zero, List.getElem?_cons_succ, bindok, toSok, ofsome, ofPsome, b_add, b_sub, b_subb, b_mul, b_fdiv, b_mod, b_shl, b_pow, cmp_lt, cmp_le, cmp_gt, cmp_ge, cmp_eq, cmp_ne, cmp_eqb, bi_abs, bi_int, bi_intb, bi_lent, bm_bits, bmT, setsI, List.set_cons_zero, List.set_cons_succ, rbnx, rbrt, Option.map, gc0, gc1, gc2, gc3, gc4, if_true, List.length_cons, List.length_nil, Nat.reduceAdd, dlim, mk_len, evSs, truthD, List.nil_append, List.cons_append, m1, n1, fm_pos hr, e1, e2, Bool.false_eq_true, if_false]
      rfl
  · have e1 : (p % r != 0) = true := bne_iff_ne.mpr h1
    have em : met m (p, q, r) = none := by
      unfold met
      rw [if_pos (.inl h1)]
    rw [em]
    refine run_rt (ρ0 := [some (.int m), some (D3 (p, q, r)), none, none, none]) rfl rfl (ss_nx st (ss_rt (ρ1 := [some (.int m), some (D3 (p, q, r)), some (.int p), some (.int q), some (.int r)]) ?_))
    simp only [evS, evE, evT, evEs, evIfs, evP, slot, asG, asT, asTs, List.getElem?_cons_zero, List.getElem?_cons_succ, bindok, toSok, ofsome, ofPsome, b_add, b_sub, b_subb, b_mul, b_fdiv, b_mod, b_shl, b_pow, cmp_lt, cmp_le, cmp_gt, cmp_ge, cmp_eq, cmp_ne, cmp_eqb, bi_abs, bi_int, bi_intb, bi_lent, bm_bits, bmT, setsI, List.set_cons_zero, List.set_cons_succ, rbnx, rbrt, Option.map, gc0, gc1, gc2, gc3, gc4, if_true, List.length_cons, List.length_nil, Nat.reduceAdd, dlim, mk_len, evSs, truthD, List.nil_append, List.cons_append, m1, n1, fm_pos hr, e1, Bool.false_eq_true, if_false]
    rfl
theorem w21 (k ro : Nat) (t u m : Int) (x : T3) (S : Store) (h : RootAt S ro t u) (hD : 0 ≤ Dd t u) (ht : Bd 8 t) (hu : Bd 8 u) (hm : Md m) (hx : PtOk t u x) : (Gk (k + 5)).fn 21 [.obj ro, .int m, D3 x] S = .ok (DO (met m x)) S := by
  rw [gfn rfl]
  have c1 := w14 (k + 3) ro t u S h
  have c2 := w5 (k + 1) m S hm
  have c3 := w19 k ro t u x S h hD ht hu hx
  have c4 := w17 (k + 3) m x S (hm.bd.mono (by decide)) hx.b hx.pos
  refine run_rt (ρ0 := [some (.obj ro), some (.int m), some (D3 x)]) rfl rfl (ss_nx (ρ1 := [some (.obj ro), some (.int m), some (D3 x)]) (S1 := S) ?_ (ss_nx (ρ1 := [some (.obj ro), some (.int m), some (D3 x)]) (S1 := S) ?_ (ss_nx (ρ1 := [some (.obj ro), some (.int m), some (D3 x)]) (S1 := S) ?_ (ss_ret ?_))))
  · simp only [evS, evE, evT, evEs, evIfs, evP, slot, asG, asT, asTs, List.getElem?_cons_zero, List.getElem?_cons_succ, bindok, toSok, ofsome, ofPsome, b_add, b_sub, b_subb, b_mul, b_fdiv, b_mod, b_shl, b_pow, cmp_lt, cmp_le, cmp_gt, cmp_ge, cmp_eq, cmp_ne, cmp_eqb, bi_abs, bi_int, bi_intb, bi_lent, bm_bits, bmT, setsI, List.set_cons_zero, List.set_cons_succ, rbnx, rbrt, Option.map, gc0, gc1, gc2, gc3, gc4, if_true, List.length_cons, List.length_nil, Nat.reduceAdd, dlim, mk_len, evSs, truthD, List.nil_append, List.cons_append, c1, dfl1 _ 14 rfl]
  · simp only [evS, evE, evT, evEs, evIfs, evP, slot, asG, asT, asTs, List.getElem?_cons_zero, List.getElem?_cons_succ, bindok, toSok, ofsome, ofPsome, b_add, b_sub, b_subb, b_mul, b_fdiv, b_mod, b_shl, b_pow, cmp_lt, cmp_le, cmp_gt, cmp_ge, cmp_eq, cmp_ne, cmp_eqb, bi_abs, bi_int, bi_intb, bi_lent, bm_bits, bmT, setsI, List.set_cons_zero, List.set_cons_succ, rbnx, rbrt, Option.map, gc0, gc1, gc2, gc3, gc4, if_true, List.length_cons, List.length_nil, Nat.reduceAdd, dlim, mk_len, evSs, truthD, List.nil_append, List.cons_append, c2, dfl1 _ 5 rfl]
  · simp only [evS, evE, evT, evEs, evIfs, evP, slot, asG, asT, asTs, List.getElem?_cons_zero, List.getElem?_cons_succ, bindok, toSok, ofsome, ofPsome, b_add, b_sub, b_subb, b_mul, b_fdiv, b_mod, b_shl, b_pow, cmp_lt, cmp_le, cmp_gt, cmp_ge, cmp_eq, cmp_ne, cmp_eqb, bi_abs, bi_int, bi_intb, bi_lent, bm_bits, bmT, setsI, List.set_cons_zero, List.set_cons_succ, rbnx, rbrt, Option.map, gc0, gc1, gc2, gc3, gc4, if_true, List.length_cons, List.length_nil, Nat.reduceAdd, dlim, mk_len, evSs, truthD, List.nil_append, List.cons_append, c3, dfl1 _ 19 rfl]
  · simp only [evS, evE, evT, evEs, evIfs, evP, slot, asG, asT, asTs, List.getElem?_cons_zero, List.getElem?_cons_succ, bindok, toSok, ofsome, ofPsome, b_add, b_sub, b_subb, b_mul, b_fdiv, b_mod, b_shl, b_pow, cmp_lt, cmp_le, cmp_gt, cmp_ge, cmp_eq, cmp_ne, cmp_eqb, bi_abs, bi_int, bi_intb, bi_lent, bm_bits, bmT, setsI, List.set_cons_zero, List.set_cons_succ, rbnx, rbrt, Option.map, gc0, gc1, gc2, gc3, gc4, if_true, List.length_cons, List.length_nil, Nat.reduceAdd, dlim, mk_len, evSs, truthD, List.nil_append, List.cons_append, c4, dfl0 _ 17 rfl, List.append_nil]
theorem w20 (k ro : Nat) (t u m n : Int) (S : Store) (h : RootAt S ro t u) (hD : 0 ≤ Dd t u) (ht : Bd 8 t) (hu : Bd 8 u) (hm : Md m) (hn : Bd 200 n) : (Gk (k + 5)).fn 20 [.obj ro, .int m, .int n] S = .ok (.tup [.int (n % m), D3 (Pt t (Dd t u) m n)]) S := by
  rw [gfn rfl]
  have c1 := w14 (k + 3) ro t u S h
  have c2 := w5 (k + 1) m S hm
  have c3 := w4 (k + 1) n S (hn.mono (by decide))
  have c4 := w16 k ro t u m n S h hD ht hu hn hm
  have n1 := eq_true (show m ≠ 0 by have := hm.pos; omega)
  refine run_rt (ρ0 := [some (.obj ro), some (.int m), some (.int n)]) rfl rfl (ss_nx (ρ1 := [some (.obj ro), some (.int m), some (.int n)]) (S1 := S) ?_ (ss_nx (ρ1 := [some (.obj ro), some (.int m), some (.int n)]) (S1 := S) ?_ (ss_nx (ρ1 := [some (.obj ro), some (.int m), some (.int n)]) (S1 := S) ?_ (ss_ret ?_))))
  · simp only [evS, evE, evT, evEs, evIfs, evP, slot, asG, asT, asTs, List.getElem?_cons_zero, List.getElem?_cons_succ, bindok, toSok, ofsome, ofPsome, b_add, b_sub, b_subb, b_mul, b_fdiv, b_mod, b_shl, b_pow, cmp_lt, cmp_le, cmp_gt, cmp_ge, cmp_eq, cmp_ne, cmp_eqb, bi_abs, bi_int, bi_intb, bi_lent, bm_bits, bmT, setsI, List.set_cons_zero, List.set_cons_succ, rbnx, rbrt, Option.map, gc0, gc1, gc2, gc3, gc4, if_true, List.length_cons, List.length_nil, Nat.reduceAdd, dlim, mk_len, evSs, truthD, List.nil_append, List.cons_append, c1, dfl1 _ 14 rfl]
  · simp only [evS, evE, evT, evEs, evIfs, evP, slot, asG, asT, asTs, List.getElem?_cons_zero, List.getElem?_cons_succ, bindok, toSok, ofsome, ofPsome, b_add, b_sub, b_subb, b_mul, b_fdiv, b_mod, b_shl, b_pow, cmp_lt, cmp_le, cmp_gt, cmp_ge, cmp_eq, cmp_ne, cmp_eqb, bi_abs, bi_int, bi_intb, bi_lent, bm_bits, bmT, setsI, List.set_cons_zero, List.set_cons_succ, rbnx, rbrt, Option.map, gc0, gc1, gc2, gc3, gc4, if_true, List.length_cons, List.length_nil, Nat.reduceAdd, dlim, mk_len, evSs, truthD, List.nil_append, List.cons_append, c2, dfl1 _ 5 rfl]
  · simp only [evS, evE, evT, evEs, evIfs, evP, slot, asG, asT, asTs, List.getElem?_cons_zero, List.getElem?_cons_succ, bindok, toSok, ofsome, ofPsome, b_add, b_sub, b_subb, b_mul, b_fdiv, b_mod, b_shl, b_pow, cmp_lt, cmp_le, cmp_gt, cmp_ge, cmp_eq, cmp_ne, cmp_eqb, bi_abs, bi_int, bi_intb, bi_lent, bm_bits, bmT, setsI, List.set_cons_zero, List.set_cons_succ, rbnx, rbrt, Option.map, gc0, gc1, gc2, gc3, gc4, if_true, List.length_cons, List.length_nil, Nat.reduceAdd, dlim, mk_len, evSs, truthD, List.nil_append, List.cons_append, c3, dfl1 _ 4 rfl]
  · simp only [evS, evE, evT, evEs, evIfs, evP, slot, asG, asT, asTs, List.getElem?_cons_zero, List.getElem?_cons_succ, bindok, toSok, ofsome, ofPsome, b_add, b_sub, b_subb, b_mul, b_fdiv, b_mod, b_shl, b_pow, cmp_lt, cmp_le, cmp_gt, cmp_ge, cmp_eq, cmp_ne, cmp_eqb, bi_abs, bi_int, bi_intb, bi_lent, bm_bits, bmT, setsI, List.set_cons_zero, List.set_cons_succ, rbnx, rbrt, Option.map, gc0, gc1, gc2, gc3, gc4, if_true, List.length_cons, List.length_nil, Nat.reduceAdd, dlim, mk_len, evSs, truthD, List.nil_append, List.cons_append, c4, dfl0 _ 16 rfl, List.append_nil, n1, fm_pos hm.pos]
    rfl
/-! ### the class -/
structure RtOk (t u : Int) : Prop where
  ht : Bd 8 t
  hu : Bd 8 u
  at_ : t.natAbs ≤ 99
  au : u.natAbs ≤ 99
  d1 : 1 ≤ Dd t u
  sq : (isq (Dd t u).toNat : Int) * (isq (Dd t u).toNat : Int) ≠ Dd t u
theorem RtOk.hD {t u : Int} (h : RtOk t u) : 0 ≤ Dd t u := by have := h.d1; omega
theorem w13 (k ro : Nat) (t u : Int) (S : Store) (h : RtOk t u) (hS : S[ro]? = some (.ins 0 [])) : (Gk (k + 2)).fn 13 [.obj ro, .int t, .int u] S = .ok .non (S.set ro (.ins 0 [("t", .int t), ("u", .int u)])) := by
  rw [gfn rfl]
  have m2 : mulOk t t = true := mk_ok h.ht h.ht
  have m3 : mulOk 4 u = true := mk_ok four_bd h.hu
  have hD := h.hD
  have hdn : ((Dd t u).toNat : Int) = Dd t u := Int.toNat_of_nonneg hD
  have hfu : (Dd t u).toNat < FU := by
    have := fu_of ((dd_bd h.ht h.hu).mono (show 28 ≤ 600 by decide))
    omega
  have c7 := w7 k (Dd t u).toNat S hfu
  rw [hdn] at c7
  have hib : Bd 28 ((isq (Dd t u).toNat : Nat) : Int) := Bd.of_le (dd_bd h.ht h.hu) (by have := isq_le (Dd t u).toNat; omega)
  have m4 : mulOk ((isq (Dd t u).toNat : Nat) : Int) ((isq (Dd t u).toNat : Nat) : Int) = true := mk_ok hib hib
  have e1 : decide (Dd t u < 1) = false := decide_eq_false (by have := h.d1; omega)
  have e2 : decide ((isq (Dd t u).toNat : Int) * (isq (Dd t u).toNat : Int) = Dd t u) = false := decide_eq_false h.sq
  have hr : ro < S.length := (List.getElem?_eq_some_iff.mp hS).1
  have step : ∀ (a b : Option D) (at_ i : Int), i.natAbs ≤ 99 → evSs (Gk (k + 1)) FU [.ite (.or_ (.not (.tr (.call 0 [.v 4] 0))) (.cmp .gt (.bi .abs [.v 4]) (.g 3))) [.never] []] [some (.obj ro), some (.int t), some (.int u), some (.int at_), some (.int i), none] S = .ok .nx [some (.obj ro), some (.int t), some (.int u), some (.int at_), some (.int i), none] S := fun a b at_ i hi => by
    have d : decide ((99 : Int) < (i.natAbs : Int)) = false := decide_eq_false (by omega)
    simp only [evS, evE, evT, evEs, evIfs, evP, slot, asG, asT, asTs, List.getElem?_cons_zero, List.getElem?_cons_succ, bindok, toSok, ofsome, ofPsome, b_add, b_sub, b_subb, b_mul, b_fdiv, b_mod, b_shl, b_pow, cmp_lt, cmp_le, cmp_gt, cmp_ge, cmp_eq, cmp_ne, cmp_eqb, bi_abs, bi_int, bi_intb, bi_lent, bm_bits, bmT, setsI, List.set_cons_zero, List.set_cons_succ, rbnx, rbrt, Option.map, gc0, gc1, gc2, gc3, gc4, if_true, List.length_cons, List.length_nil, Nat.reduceAdd, dlim, mk_len, evSs, truthD, List.nil_append, List.cons_append, w0, dfl0 _ 0 rfl, List.append_nil, Bool.not_true, Bool.false_eq_true, if_false, ifabs, d]
  refine run_nx (ρ0 := [some (.obj ro), some (.int t), some (.int u), none, none, none]) (ρ := [some (.obj ro), some (.int t), some (.int u), some (.int 1), some (.int u), some (.int (Dd t u))]) rfl rfl (ss_nx (ρ1 := [some (.obj ro), some (.int t), some (.int u), some (.int 1), some (.int u), none]) (S1 := S) ?_ (ss_nx (ρ1 := [some (.obj ro), some (.int t), some (.int u), some (.int 1), some (.int u), some (.int (Dd t u))]) (S1 := S) ?_ (ss_nx (ρ1 := [some (.obj ro), some (.int t), some (.int u), some (.int 1), some (.int u), some (.int (Dd t u))]) (S1 := S) ?_ (ss_nx (ρ1 := [some (.obj ro), some (.int t), some (.int u), some (.int 1), some (.int u), some (.int (Dd t u))]) (S1 := S.set ro (.ins 0 [("t", .int t), ("u", .int u)])) ?_ ss_nl))))
  · rw [evS]
    simp only [evEs, evE, slot, List.getElem?_cons_zero, List.getElem?_cons_succ, bindok, toSok, ofsome, dlim (show 2 ≤ 100 by decide), if_true, List.length_cons, List.length_nil, Nat.reduceAdd]
    show forL (asT (.tp [.nm 3, .nm 4])) (fun ρ S => evSs (Gk (k + 1)) FU [.ite (.or_ (.not (.tr (.call 0 [.v 4] 0))) (.cmp .gt (.bi .abs [.v 4]) (.g 3))) [.never] []] ρ S) [] [.tup [.int ((0 : Nat) : Int), .int t], .tup [.int ((1 : Nat) : Int), .int u]] [some (.obj ro), some (.int t), some (.int u), none, none, none] S = _
    simp only [forL, gok_nil, if_true, asT, asTs, List.set_cons_zero, List.set_cons_succ, step none none _ t h.at_, step none none _ u h.au]
    rfl
  · simp only [evS, evE, evT, evEs, evIfs, evP, slot, asG, asT, asTs, List.getElem?_cons_zero, List.getElem?_cons_succ, bindok, toSok, ofsome, ofPsome, b_add, b_sub, b_subb, b_mul, b_fdiv, b_mod, b_shl, b_pow, cmp_lt, cmp_le, cmp_gt, cmp_ge, cmp_eq, cmp_ne, cmp_eqb, bi_abs, bi_int, bi_intb, bi_lent, bm_bits, bmT, setsI, List.set_cons_zero, List.set_cons_succ, rbnx, rbrt, Option.map, gc0, gc1, gc2, gc3, gc4, if_true, List.length_cons, List.length_nil, Nat.reduceAdd, dlim, mk_len, evSs, truthD, List.nil_append, List.cons_append, m2, m3]
  · simp only [evS, evE, evT, evEs, evIfs, evP, slot, asG, asT, asTs, List.getElem?_cons_zero, List.getElem?_cons_succ, bindok, toSok, ofsome, ofPsome, b_add, b_sub, b_subb, b_mul, b_fdiv, b_mod, b_shl, b_pow, cmp_lt, cmp_le, cmp_gt, cmp_ge, cmp_eq, cmp_ne, cmp_eqb, bi_abs, bi_int, bi_intb, bi_lent, bm_bits, bmT, setsI, List.set_cons_zero, List.set_cons_succ, rbnx, rbrt, Option.map, gc0, gc1, gc2, gc3, gc4, if_true, List.length_cons, List.length_nil, Nat.reduceAdd, dlim, mk_len, evSs, truthD, List.nil_append, List.cons_append, e1, c7, dfl0 _ 7 rfl, List.append_nil, m4, e2, Bool.false_eq_true, if_false]
  · rw [evS]
    simp only [evE, evEs, slot, List.getElem?_cons_zero, List.getElem?_cons_succ, bindok, toSok, ofsome, dlim (show 2 ≤ 100 by decide), if_true, List.length_cons, List.length_nil, Nat.reduceAdd, asG, asGs]
    have f1 : setF (.obj ro) "t" (.int t) S = some (S.set ro (.ins 0 [("t", .int t)])) := by
      show (match S[ro]? with
        | some (.ins c fs) => if fs.length < 900 then some (S.set ro (.ins c (putD ("t" : PySem.Str) (.int t) fs))) else none
        | _ => none) = _
      rw [hS]
      rfl
    have hS1 : (S.set ro (.ins 0 [(("t" : PySem.Str), D.int t)]))[ro]? = some (.ins 0 [("t", .int t)]) := List.getElem?_set_self hr
    have f2 : setF (.obj ro) "u" (.int u) (S.set ro (.ins 0 [("t", .int t)])) = some (S.set ro (.ins 0 [("t", .int t), ("u", .int u)])) := by
      show (match (S.set ro (.ins 0 [(("t" : PySem.Str), D.int t)]))[ro]? with
        | some (.ins c fs) => if fs.length < 900 then some ((S.set ro (.ins 0 [(("t" : PySem.Str), D.int t)])).set ro (.ins c (putD ("u" : PySem.Str) (.int u) fs))) else none
        | _ => none) = _
      rw [hS1]
      refine Eq.trans (b := some ((S.set ro (.ins 0 [(("t" : PySem.Str), D.int t)])).set ro (.ins 0 [("t", .int t), ("u", .int u)]))) rfl ?_
      rw [List.set_set]
    simp only [f1, f2, ofsome, bindok, toSok, rbnx, evE, slot, List.getElem?_cons_zero]
theorem wnew (k : Nat) (t u : Int) (S : Store) (h : RtOk t u) : (Gk (k + 2)).new 0 [.int t, .int u] S = .ok (.obj S.length) (S ++ [.ins 0 [("t", .int t), ("u", .int u)]]) := by
  have hS : (S ++ [SO.ins 0 []])[S.length]? = some (.ins 0 []) := by
    rw [List.getElem?_append_right (Nat.le_refl _), Nat.sub_self]; rfl
  have c := w13 k S.length t u (S ++ [.ins 0 []]) h hS
  have e : (S ++ [SO.ins 0 []]).set S.length (.ins 0 [("t", .int t), ("u", .int u)]) = S ++ [.ins 0 [("t", .int t), ("u", .int u)]] := by
    rw [List.set_append_right _ _ (Nat.le_refl _), Nat.sub_self]; rfl
  rw [e, gfn rfl] at c
  show (runF (Gk (k + 1)) FU f13 (.obj S.length :: [.int t, .int u]) (S ++ [.ins 0 []])).bind _ = _
  rw [c]
  rfl
end L_k13
end

section
set_option maxRecDepth 100000
set_option maxHeartbeats 1000000
set_option exponentiation.threshold 200
namespace L_k13
open MP K13
/-! ### stores -/
def Keep (b : Nat) (S S' : Store) : Prop := S.length ≤ S'.length ∧ ∀ n, n < S.length → n ≠ b → S'[n]? = S[n]?
theorem Keep.refl (b : Nat) (S : Store) : Keep b S S := ⟨Nat.le_refl _, fun _ _ _ => rfl⟩
theorem Keep.trans {b : Nat} {S S' S'' : Store} (h : Keep b S S') (h' : Keep b S' S'') : Keep b S S'' :=
  ⟨Nat.le_trans h.1 h'.1, fun n hn hb => (h'.2 n (Nat.lt_of_lt_of_le hn h.1) hb).trans (h.2 n hn hb)⟩
theorem Keep.app (b : Nat) (S T : Store) : Keep b S (S ++ T) := ⟨by simp, fun n hn _ => List.getElem?_append_left hn⟩
theorem Keep.at_ {b : Nat} {S S' : Store} (h : Keep b S S') {n : Nat} {o : SO} (hn : S[n]? = some o) (hb : n ≠ b) : S'[n]? = some o := by
  rw [h.2 n (List.getElem?_eq_some_iff.mp hn).1 hb, hn]
theorem Keep.set {b : Nat} {S : Store} (o : SO) : Keep b S (S.set b o) := ⟨by simp, fun n _ hb => List.getElem?_set_ne (Ne.symm hb)⟩
def App (S S' : Store) : Prop := ∃ T, S' = S ++ T
theorem App.refl (S : Store) : App S S := ⟨[], by simp⟩
theorem App.trans {S S' S'' : Store} : App S S' → App S' S'' → App S S'' := fun ⟨T, h⟩ ⟨T', h'⟩ => ⟨T ++ T', by rw [h', h, List.append_assoc]⟩
theorem App.one (S : Store) (o : SO) : App S (S ++ [o]) := ⟨[o], rfl⟩
theorem App.at_ {S S' : Store} (h : App S S') {n : Nat} {o : SO} (hn : S[n]? = some o) : S'[n]? = some o := by
  obtain ⟨T, rfl⟩ := h
  rw [List.getElem?_append_left (List.getElem?_eq_some_iff.mp hn).1, hn]
theorem App.keep {S S' : Store} (h : App S S') (b : Nat) : Keep b S S' := by
  obtain ⟨T, rfl⟩ := h; exact Keep.app b S T
theorem last_at (S : Store) (o : SO) : (S ++ [o])[S.length]? = some o := by
  rw [List.getElem?_append_right (Nat.le_refl _), Nat.sub_self]; rfl
theorem lst_of {S : Store} {n : Nat} {ds : List D} (h : S[n]? = some (.lst ds)) : lstAt S n = some ds := by unfold lstAt; rw [h]
/-! ### data of ints -/
theorem toPs_ints (S : Store) (n : Nat) : ∀ cs : List Int, allS (toP S n) (cs.map D.int) = some (cs.map PySem.PyData.int)
  | [] => rfl
  | c :: cs => by
    rw [List.map_cons, allS]
    have : toP S n (.int c) = some (.int c) := by cases n <;> rfl
    rw [this, toPs_ints S n cs]
    rfl
theorem lay_ints : ∀ cs : List Int, PySem.PyData.canLayAll0 (cs.map PySem.PyData.int) = true
  | [] => rfl
  | c :: cs => by
    rw [List.map_cons, PySem.PyData.canLayAll0, lay_ints cs]; rfl
theorem dep_ints : ∀ cs : List Int, PySem.PyData.depthAll (cs.map PySem.PyData.int) = 0
  | [] => rfl
  | c :: cs => by
    rw [List.map_cons, PySem.PyData.depthAll, dep_ints cs]; rfl
theorem shp_ints (cs : List Int) : shp (.list (cs.map PySem.PyData.int)) = true := by
  show (PySem.PyData.canLayAll0 (cs.map PySem.PyData.int) && decide (PySem.PyData.depthAll (cs.map PySem.PyData.int) + 1 ≤ 64)) = true
  rw [lay_ints, dep_ints]; rfl
theorem toP_lst {S : Store} {n : Nat} {cs : List Int} (h : S[n]? = some (.lst (cs.map D.int))) : toP S 60 (.obj n) = some (.list (cs.map PySem.PyData.int)) := by
  show (match lstAt S n with
    | some ds => (allS (toP S 59) ds).map PySem.PyData.list
    | none => none) = _
  rw [lst_of h]
  show (allS (toP S 59) (cs.map D.int)).map PySem.PyData.list = _
  rw [toPs_ints]; rfl
theorem eq_nil {S : Store} {n m : Nat} {cs : List Int} (h : S[n]? = some (.lst (cs.map D.int))) (h' : S[m]? = some (.lst [])) : eqD (.obj n) (.obj m) S = some cs.isEmpty := by
  have h'' : S[m]? = some (.lst (([] : List Int).map D.int)) := h'
  unfold eqD
  rw [toP_lst h, toP_lst h'']
  show (if (shp _ && shp _) = true then some (PySem.PyData.eqv _ _) else none) = _
  rw [shp_ints, shp_ints]
  cases cs <;> rfl
theorem ix_lst {S : Store} {n : Nat} {ds : List D} (h : S[n]? = some (.lst ds)) (i : Int) : ixD (.obj n) (.int i) S = L2.atI ds i := by
  show (match lstAt S n with
    | some ds => L2.atI ds i
    | none => none) = _
  rw [lst_of h]
theorem at_nat {α : Type} (xs : List α) (i : Int) (h0 : 0 ≤ i) (h : i < xs.length) : L2.atI xs i = xs[i.toNat]? := by
  unfold L2.atI L2.ixN
  rw [if_pos h0, if_pos h]
  rfl
theorem at0 (a : D) (l : List D) : L2.atI (a :: l) 0 = some a := by
  rw [at_nat _ _ (by decide) (by simp only [List.length_cons]; omega)]
  rfl
theorem at1 (a b : D) (l : List D) : L2.atI (a :: b :: l) 1 = some b := by
  rw [at_nat _ _ (by decide) (by simp only [List.length_cons]; omega)]
  rfl
/-! ### the box -/
structure BoxOk (S : Store) (b rb : Nat) (st : Int) (cells : List Int) : Prop where
  hb : S[b]? = some (.lst [.obj rb, .int st])
  hr : S[rb]? = some (.lst (cells.map .int))
  ne : rb ≠ b
  s0 : 0 ≤ st
  s1 : st < 8589934592
  hc : ∀ c ∈ cells, 0 ≤ c
  len : cells.length ≤ 63
def Bx (S : Store) (b : Nat) : Prop := ∃ rb st cells, BoxOk S b rb st cells
theorem Bx.app {S S' : Store} {b : Nat} (h : Bx S b) (a : App S S') : Bx S' b := by
  obtain ⟨rb, st, cells, o⟩ := h
  exact ⟨rb, st, cells, a.at_ o.hb, a.at_ o.hr, o.ne, o.s0, o.s1, o.hc, o.len⟩
theorem cut1 (a : D) (l : List D) : cutD (a :: l) (some 1) none = l := by
  have h1 : HT.sIx (a :: l).length 0 (some 1) = 1 := by
    rw [show (1 : Int) = ((1 : Nat) : Int) from rfl, HT.sIx_nat, List.length_cons]
    omega
  unfold cutD
  rw [h1]
  show (l).take ((a :: l).length - 1) = l
  rw [List.length_cons, Nat.add_sub_cancel, List.take_length]
theorem cut63 (l : List D) (h : l.length ≤ 63) : cutD l none (some 63) = l := by
  have h1 : HT.sIx l.length l.length (some 63) = l.length := by
    rw [show (63 : Int) = ((63 : Nat) : Int) from rfl, HT.sIx_nat]
    omega
  unfold cutD
  rw [h1]
  show l.take (l.length - 0) = l
  rw [Nat.sub_zero, List.take_length]
theorem sl_lst {S : Store} {n : Nat} {ds : List D} (h : S[n]? = some (.lst ds)) (lo hi : Option Int) : slD (.obj n) lo hi S = some (.obj S.length, S ++ [.lst (cutD ds lo hi)]) := by
  show (match lstAt S n with
    | some ds => some (D.obj S.length, S ++ [SO.lst (cutD ds lo hi)])
    | none => none) = _
  rw [lst_of h]
theorem set_lst {S : Store} {n : Nat} {a b v : D} (h : S[n]? = some (.lst [a, b])) : setI (.obj n) (.int 0) v S = some (S.set n (.lst [v, b])) ∧ setI (.obj n) (.int 1) v S = some (S.set n (.lst [a, v])) := by
  constructor
  · show (match lstAt S n with
    | some ds => match L2.ixN ds.length 0 with
      | some j => some (S.set n (.lst (ds.set j v)))
      | none => none
    | none => none) = _
    rw [lst_of h]
    rfl
  · show (match lstAt S n with
    | some ds => match L2.ixN ds.length 1 with
      | some j => some (S.set n (.lst (ds.set j v)))
      | none => none
    | none => none) = _
    rw [lst_of h]
    rfl
theorem add_lst {S : Store} {m n : Nat} {xs ys : List D} (h : S[m]? = some (.lst xs)) (h' : S[n]? = some (.lst ys)) (hl : xs.length + ys.length ≤ 100) : binD .add (.obj m) (.obj n) S = some (.obj S.length, S ++ [.lst (xs ++ ys)]) := by
  show (match lstAt S m, lstAt S n with
    | some xs, some ys => if xs.length + ys.length ≤ lim then some (D.obj S.length, S ++ [SO.lst (xs ++ ys)]) else none
    | _, _ => none) = _
  rw [lst_of h, lst_of h']
  exact if_pos (Nat.le_trans hl (by decide))
theorem ev_nil (G : Gm) (ρ : Env') (S : Store) : evE G (.lst []) ρ S = .ok (.obj S.length) (S ++ [.lst []]) := by
  rw [evE, evEs, bindok, if_pos (by decide)]
theorem ne_lst {S : Store} {n m : Nat} {cs : List Int} (h : S[n]? = some (.lst (cs.map D.int))) (h' : S[m]? = some (.lst [])) : cmpD .ne (.obj n) (.obj m) S = some (!cs.isEmpty) := by
  show (eqD (.obj n) (.obj m) S).map (fun b => !b) = _
  rw [eq_nil h h']; rfl
theorem take_spec (k b : Nat) (m : Int) (S : Store) (hb : Bx S b) (h1 : 1 ≤ m) (h2 : m ≤ 1000000000) : ∃ v S', (Gk (k + 1)).fn 23 [.obj b, .int m] S = .ok (.int v) S' ∧ 0 ≤ v ∧ v < m ∧ Bx S' b ∧ Keep b S S' := by
  obtain ⟨rb, st, cells, o⟩ := hb
  rw [gfn rfl]
  have hmb : Bd 30 m := by unfold Bd; have : (2 : Nat) ^ 30 = 1073741824 := by decide
                           omega
  have n1 := eq_true (show m ≠ 0 by omega)
  have hbl : b < S.length := (List.getElem?_eq_some_iff.mp o.hb).1
  have a1 : App S (S ++ [.lst []]) := App.one _ _
  have hb1 := a1.at_ o.hb
  have hr1 := a1.at_ o.hr
  have hne := ne_lst hr1 (last_at S (.lst []))
  cases cells with
  | nil =>
    have e0 : (!(([] : List Int).isEmpty)) = false := rfl
    rw [e0] at hne
    have hstb : Bd 33 st := by unfold Bd; have := o.s0; have := o.s1; have : (2 : Nat) ^ 33 = 8589934592 := by decide
                               omega
    have m1 : mulOk st 48271 = true := mk_ok hstb (show Bd 16 48271 by decide)
    have n2 := eq_true (show (2147483647 : Int) ≠ 0 by decide)
    generalize hst : (st * 48271).fmod 2147483647 = st' at *
    have hs0 : 0 ≤ st' := by rw [← hst, fm_pos (by decide)]; exact Int.emod_nonneg _ (by decide)
    have hs1 : st' < 2147483647 := by rw [← hst, fm_pos (by decide)]; exact Int.emod_lt_of_pos _ (by decide)
    have hstb' : Bd 33 st' := by unfold Bd; have : (2 : Nat) ^ 33 = 8589934592 := by decide
                                 omega
    have m2 : mulOk st' 69623 = true := mk_ok hstb' (show Bd 17 69623 by decide)
    have d2 : ∀ i, divOk i 1019 = true := fun i => dv_ok (show Bd 10 1019 by decide) (by decide)
    have hset := (set_lst (v := .int st') hb1).2
    generalize hS1 : S ++ [SO.lst []] = S1 at a1 hb1 hr1 hne hset
    have hlen1 : S1.length = S.length + 1 := by rw [← hS1]; simp
    have hb2 : (S1.set b (.lst [.obj rb, .int st']))[b]? = some (.lst [.obj rb, .int st']) := List.getElem?_set_self (by omega)
    have hr2 : (S1.set b (.lst [.obj rb, .int st']))[rb]? = some (.lst []) := by rw [List.getElem?_set_ne (Ne.symm o.ne)]; exact hr1
    refine ⟨(((st' * 69623 + 5).fdiv 1019)).fmod m, S1.set b (.lst [.obj rb, .int st']), run_rt (ρ0 := [some (.obj b), some (.int m), none]) rfl rfl (ss_nx (ρ1 := [some (.obj b), some (.int m), none]) (S1 := S1) ?_ (ss_nx (ρ1 := [some (.obj b), some (.int m), none]) (S1 := S1.set b (.lst [.obj rb, .int st'])) ?_ (ss_ret ?_))), ?_, ?_, ⟨rb, st', [], hb2, hr2, o.ne, hs0, by omega, by simp, by simp⟩, (a1.keep b).trans (Keep.set _)⟩
    · have t1 : evE (Gk k) (.ix (.v 0) (.c (.int (0)))) [some (.obj b), some (.int m), none] S = .ok (.obj rb) S := by simp only [evS, evE, evT, evEs, evIfs, evP, slot, asG, asT, asTs, List.getElem?_cons_zero, List.getElem?_cons_succ, bindok, toSok, ofsome, ofPsome, b_add, b_sub, b_subb, b_mul, b_fdiv, b_mod, b_shl, b_pow, cmp_lt, cmp_le, cmp_gt, cmp_ge, cmp_eq, cmp_ne, cmp_eqb, bi_abs, bi_int, bi_intb, bi_lent, bm_bits, bmT, setsI, List.set_cons_zero, List.set_cons_succ, rbnx, rbrt, Option.map, gc0, gc1, gc2, gc3, gc4, if_true, List.length_cons, List.length_nil, Nat.reduceAdd, dlim, mk_len, evSs, truthD, List.nil_append, List.cons_append, ix_lst o.hb, at0]
      have t2 := ev_nil (Gk k) [some (.obj b), some (.int m), none] S
      rw [hS1] at t2
      rw [evS, evT, t1, bindok, t2, bindok, hne]
      simp only [evS, evE, evT, evEs, evIfs, evP, slot, asG, asT, asTs, List.getElem?_cons_zero, List.getElem?_cons_succ, bindok, toSok, ofsome, ofPsome, b_add, b_sub, b_subb, b_mul, b_fdiv, b_mod, b_shl, b_pow, cmp_lt, cmp_le, cmp_gt, cmp_ge, cmp_eq, cmp_ne, cmp_eqb, bi_abs, bi_int, bi_intb, bi_lent, bm_bits, bmT, setsI, List.set_cons_zero, List.set_cons_succ, rbnx, rbrt, Option.map, gc0, gc1, gc2, gc3, gc4, if_true, List.length_cons, List.length_nil, Nat.reduceAdd, dlim, mk_len, evSs, truthD, List.nil_append, List.cons_append, Bool.false_eq_true, if_false]
    · simp only [evS, evE, evT, evEs, evIfs, evP, slot, asG, asT, asTs, List.getElem?_cons_zero, List.getElem?_cons_succ, bindok, toSok, ofsome, ofPsome, b_add, b_sub, b_subb, b_mul, b_fdiv, b_mod, b_shl, b_pow, cmp_lt, cmp_le, cmp_gt, cmp_ge, cmp_eq, cmp_ne, cmp_eqb, bi_abs, bi_int, bi_intb, bi_lent, bm_bits, bmT, setsI, List.set_cons_zero, List.set_cons_succ, rbnx, rbrt, Option.map, gc0, gc1, gc2, gc3, gc4, if_true, List.length_cons, List.length_nil, Nat.reduceAdd, dlim, mk_len, evSs, truthD, List.nil_append, List.cons_append, ix_lst hb1, at1, m1, n2, hst, asG, hset]
    · simp only [evS, evE, evT, evEs, evIfs, evP, slot, asG, asT, asTs, List.getElem?_cons_zero, List.getElem?_cons_succ, bindok, toSok, ofsome, ofPsome, b_add, b_sub, b_subb, b_mul, b_fdiv, b_mod, b_shl, b_pow, cmp_lt, cmp_le, cmp_gt, cmp_ge, cmp_eq, cmp_ne, cmp_eqb, bi_abs, bi_int, bi_intb, bi_lent, bm_bits, bmT, setsI, List.set_cons_zero, List.set_cons_succ, rbnx, rbrt, Option.map, gc0, gc1, gc2, gc3, gc4, if_true, List.length_cons, List.length_nil, Nat.reduceAdd, dlim, mk_len, evSs, truthD, List.nil_append, List.cons_append, ix_lst hb2, at1, m2, d2, n1]
    · rw [fm_pos (by omega)]; exact Int.emod_nonneg _ (by omega)
    · rw [fm_pos (by omega)]; exact Int.emod_lt_of_pos _ (by omega)
  | cons c cs =>
    have e0 : (!((c :: cs).isEmpty)) = true := rfl
    rw [e0] at hne
    have hc0 : 0 ≤ c := o.hc c (List.mem_cons_self ..)
    have hcl : cs.length ≤ 62 := by have := o.len; simp only [List.length_cons] at this; omega
    have d1 : ∀ i, divOk i m = true := fun i => dv_ok hmb (by omega)
    generalize hS1 : S ++ [SO.lst []] = S1 at a1 hb1 hr1 hne
    have hlen1 : S1.length = S.length + 1 := by rw [← hS1]; simp
    -- the new head
    obtain ⟨hd, hhd, hdn⟩ : ∃ hd : List Int, evE (Gk k) (.ife (.cmp .ge (.v 2) (.v 1)) (.lst [.bin .fdiv (.v 2) (.v 1)]) (.lst [])) [some (.obj b), some (.int m), some (.int c)] S1 = .ok (.obj S1.length) (S1 ++ [.lst (hd.map .int)]) ∧ hd.length ≤ 1 ∧ ∀ z ∈ hd, 0 ≤ z := by
      by_cases hge : m ≤ c
      · refine ⟨[c.fdiv m], ?_, by simp, fun z hz => ?_⟩
        · have dd : decide (m ≤ c) = true := decide_eq_true hge
          simp only [evS, evE, evT, evEs, evIfs, evP, slot, asG, asT, asTs, List.getElem?_cons_zero, List.getElem?_cons_succ, bindok, toSok, ofsome, ofPsome, b_add, b_sub, b_subb, b_mul, b_fdiv, b_mod, b_shl, b_pow, cmp_lt, cmp_le, cmp_gt, cmp_ge, cmp_eq, cmp_ne, cmp_eqb, bi_abs, bi_int, bi_intb, bi_lent, bm_bits, bmT, setsI, List.set_cons_zero, List.set_cons_succ, rbnx, rbrt, Option.map, gc0, gc1, gc2, gc3, gc4, if_true, List.length_cons, List.length_nil, Nat.reduceAdd, dlim, mk_len, evSs, truthD, List.nil_append, List.cons_append, dd, d1, dlim (show 1 ≤ 100 by decide)]
          rfl
        · rw [List.mem_singleton] at hz
          rw [hz, fd_pos (by omega)]
          exact Int.ediv_nonneg hc0 (by omega)
      · refine ⟨[], ?_, by simp, by simp⟩
        have dd : decide (m ≤ c) = false := decide_eq_false hge
        rw [evE, evT]
        simp only [evS, evE, evT, evEs, evIfs, evP, slot, asG, asT, asTs, List.getElem?_cons_zero, List.getElem?_cons_succ, bindok, toSok, ofsome, ofPsome, b_add, b_sub, b_subb, b_mul, b_fdiv, b_mod, b_shl, b_pow, cmp_lt, cmp_le, cmp_gt, cmp_ge, cmp_eq, cmp_ne, cmp_eqb, bi_abs, bi_int, bi_intb, bi_lent, bm_bits, bmT, setsI, List.set_cons_zero, List.set_cons_succ, rbnx, rbrt, Option.map, gc0, gc1, gc2, gc3, gc4, if_true, List.length_cons, List.length_nil, Nat.reduceAdd, dlim, mk_len, evSs, truthD, List.nil_append, List.cons_append, dd, Bool.false_eq_true, if_false, dlim (show 0 ≤ 100 by decide)]
        rfl
    generalize hS2 : S1 ++ [SO.lst (hd.map D.int)] = S2 at hhd
    have a2 : App S1 S2 := hS2 ▸ App.one _ _
    have hb2 := a2.at_ hb1
    have hr2 := a2.at_ hr1
    have hsl := sl_lst hr2 (some 1) none
    rw [List.map_cons, cut1] at hsl
    generalize hS3 : S2 ++ [SO.lst (cs.map D.int)] = S3 at hsl
    have a3 : App S2 S3 := hS3 ▸ App.one _ _
    have hL : S3[S1.length]? = some (.lst (hd.map D.int)) := a3.at_ (hS2 ▸ last_at _ _)
    have hR : S3[S2.length]? = some (.lst (cs.map D.int)) := hS3 ▸ last_at _ _
    have hadd := add_lst hL hR (by rw [List.length_map, List.length_map]; omega)
    rw [← List.map_append] at hadd
    generalize hS4 : S3 ++ [SO.lst ((hd ++ cs).map D.int)] = S4 at hadd
    have a4 : App S3 S4 := hS4 ▸ App.one _ _
    have hb4 := a4.at_ (a3.at_ hb2)
    have hN : S4[S3.length]? = some (.lst ((hd ++ cs).map D.int)) := hS4 ▸ last_at _ _
    have hset := (set_lst (v := .obj S3.length) hb4).1
    have l2 : S2.length = S1.length + 1 := by rw [← hS2]; simp
    have l3 : S3.length = S2.length + 1 := by rw [← hS3]; simp
    have l4 : S4.length = S3.length + 1 := by rw [← hS4]; simp
    have hb5 : (S4.set b (.lst [.obj S3.length, .int st]))[b]? = some (.lst [.obj S3.length, .int st]) := List.getElem?_set_self (by omega)
    have hn5 : S3.length ≠ b := by omega
    have hr5 : (S4.set b (.lst [.obj S3.length, .int st]))[S3.length]? = some (.lst ((hd ++ cs).map D.int)) := by rw [List.getElem?_set_ne (Ne.symm hn5)]; exact hN
    refine ⟨c.fmod m, S4.set b (.lst [.obj S3.length, .int st]), run_rt (ρ0 := [some (.obj b), some (.int m), none]) rfl rfl (ss_rt (ρ1 := [some (.obj b), some (.int m), some (.int c)]) ?_), ?_, ?_, ⟨S3.length, st, hd ++ cs, hb5, hr5, hn5, o.s0, o.s1, fun z hz => ?_, by rw [List.length_append]; omega⟩,
      (((a1.trans a2).trans a3).trans a4).keep b |>.trans (Keep.set _)⟩
    · have t1 : evE (Gk k) (.ix (.v 0) (.c (.int (0)))) [some (.obj b), some (.int m), none] S = .ok (.obj rb) S := by simp only [evS, evE, evT, evEs, evIfs, evP, slot, asG, asT, asTs, List.getElem?_cons_zero, List.getElem?_cons_succ, bindok, toSok, ofsome, ofPsome, b_add, b_sub, b_subb, b_mul, b_fdiv, b_mod, b_shl, b_pow, cmp_lt, cmp_le, cmp_gt, cmp_ge, cmp_eq, cmp_ne, cmp_eqb, bi_abs, bi_int, bi_intb, bi_lent, bm_bits, bmT, setsI, List.set_cons_zero, List.set_cons_succ, rbnx, rbrt, Option.map, gc0, gc1, gc2, gc3, gc4, if_true, List.length_cons, List.length_nil, Nat.reduceAdd, dlim, mk_len, evSs, truthD, List.nil_append, List.cons_append, ix_lst o.hb, at0]
      have t2 := ev_nil (Gk k) [some (.obj b), some (.int m), none] S
      rw [hS1] at t2
      have s1 : evS (Gk k) FU (.asg (.t (.nm 2)) (.ix (.ix (.v 0) (.c (.int (0)))) (.c (.int (0))))) [some (.obj b), some (.int m), none] S1 = .ok .nx [some (.obj b), some (.int m), some (.int c)] S1 := by
        simp only [evS, evE, evT, evEs, evIfs, evP, slot, asG, asT, asTs, List.getElem?_cons_zero, List.getElem?_cons_succ, bindok, toSok, ofsome, ofPsome, b_add, b_sub, b_subb, b_mul, b_fdiv, b_mod, b_shl, b_pow, cmp_lt, cmp_le, cmp_gt, cmp_ge, cmp_eq, cmp_ne, cmp_eqb, bi_abs, bi_int, bi_intb, bi_lent, bm_bits, bmT, setsI, List.set_cons_zero, List.set_cons_succ, rbnx, rbrt, Option.map, gc0, gc1, gc2, gc3, gc4, if_true, List.length_cons, List.length_nil, Nat.reduceAdd, dlim, mk_len, evSs, truthD, List.nil_append, List.cons_append, ix_lst hb1, ix_lst hr1, at0, List.map_cons]
      have v1 : evE (Gk k) (.sl (.ix (.v 0) (.c (.int (0)))) (.pr (.c (.int (1)))) .np) [some (.obj b), some (.int m), some (.int c)] S2 = .ok (.obj S2.length) S3 := by
        simp only [evS, evE, evT, evEs, evIfs, evP, slot, asG, asT, asTs, List.getElem?_cons_zero, List.getElem?_cons_succ, bindok, toSok, ofsome, ofPsome, b_add, b_sub, b_subb, b_mul, b_fdiv, b_mod, b_shl, b_pow, cmp_lt, cmp_le, cmp_gt, cmp_ge, cmp_eq, cmp_ne, cmp_eqb, bi_abs, bi_int, bi_intb, bi_lent, bm_bits, bmT, setsI, List.set_cons_zero, List.set_cons_succ, rbnx, rbrt, Option.map, gc0, gc1, gc2, gc3, gc4, if_true, List.length_cons, List.length_nil, Nat.reduceAdd, dlim, mk_len, evSs, truthD, List.nil_append, List.cons_append, ix_lst hb2, at0, hsl]
      have s2 : evS (Gk k) FU (.asg (.ix (.v 0) (.c (.int (0)))) (.bin .add (.ife (.cmp .ge (.v 2) (.v 1)) (.lst [.bin .fdiv (.v 2) (.v 1)]) (.lst [])) (.sl (.ix (.v 0) (.c (.int (0)))) (.pr (.c (.int (1)))) .np))) [some (.obj b), some (.int m), some (.int c)] S1 = .ok .nx [some (.obj b), some (.int m), some (.int c)] (S4.set b (.lst [.obj S3.length, .int st])) := by
        rw [evS, evE, hhd, bindok, v1, bindok, hadd, ofPsome, toSok]
        simp only [asG, evS, evE, evT, evEs, evIfs, evP, slot, asG, asT, asTs, List.getElem?_cons_zero, List.getElem?_cons_succ, bindok, toSok, ofsome, ofPsome, b_add, b_sub, b_subb, b_mul, b_fdiv, b_mod, b_shl, b_pow, cmp_lt, cmp_le, cmp_gt, cmp_ge, cmp_eq, cmp_ne, cmp_eqb, bi_abs, bi_int, bi_intb, bi_lent, bm_bits, bmT, setsI, List.set_cons_zero, List.set_cons_succ, rbnx, rbrt, Option.map, gc0, gc1, gc2, gc3, gc4, if_true, List.length_cons, List.length_nil, Nat.reduceAdd, dlim, mk_len, evSs, truthD, List.nil_append, List.cons_append, hset]
      rw [evS, evT, t1, bindok, t2, bindok, hne]
      simp only [ofsome, toSok, if_true]
      refine ss_nx s1 (ss_nx s2 (ss_ret ?_))
      simp only [evS, evE, evT, evEs, evIfs, evP, slot, asG, asT, asTs, List.getElem?_cons_zero, List.getElem?_cons_succ, bindok, toSok, ofsome, ofPsome, b_add, b_sub, b_subb, b_mul, b_fdiv, b_mod, b_shl, b_pow, cmp_lt, cmp_le, cmp_gt, cmp_ge, cmp_eq, cmp_ne, cmp_eqb, bi_abs, bi_int, bi_intb, bi_lent, bm_bits, bmT, setsI, List.set_cons_zero, List.set_cons_succ, rbnx, rbrt, Option.map, gc0, gc1, gc2, gc3, gc4, if_true, List.length_cons, List.length_nil, Nat.reduceAdd, dlim, mk_len, evSs, truthD, List.nil_append, List.cons_append, n1]
    · rw [fm_pos (by omega)]; exact Int.emod_nonneg _ (by omega)
    · rw [fm_pos (by omega)]; exact Int.emod_lt_of_pos _ (by omega)
    · rcases List.mem_append.mp hz with q | q
      · exact hdn.2 z q
      · exact o.hc z (List.mem_cons_of_mem _ q)
end L_k13
end

section
set_option maxRecDepth 100000
set_option maxHeartbeats 1000000
set_option exponentiation.threshold 200
namespace L_k13
open MP K13
theorem len_lst {S : Store} {n : Nat} {ds : List D} (h : S[n]? = some (.lst ds)) : biD .len [.obj n] S = some (.int ds.length, S) := by
  show (match seqD (.obj n) S with
    | some ds => some (D.int ds.length, S)
    | none => none) = _
  show (match lstAt S n with
    | some ds => some (D.int ds.length, S)
    | none => none) = _
  rw [lst_of h]
theorem pick_spec (k b n : Nat) (ds : List D) (S : Store) (hb : Bx S b) (hn : S[n]? = some (.lst ds)) (hnb : n ≠ b) (h0 : 0 < ds.length) (h1 : ds.length ≤ 100) :
    ∃ d S', (Gk (k + 2)).fn 24 [.obj b, .obj n] S = .ok d S' ∧ d ∈ ds ∧ Bx S' b ∧ Keep b S S' := by
  obtain ⟨v, S', hv, h2, h3, h4, h5⟩ := take_spec k b ds.length S hb (by omega) (by omega)
  have hn' := h5.at_ hn hnb
  rw [gfn rfl]
  have hvl : v.toNat < ds.length := by omega
  refine ⟨ds[v.toNat], S', run_rt (ρ0 := [some (.obj b), some (.obj n)]) rfl rfl (ss_ret ?_), List.getElem_mem hvl, h4, h5⟩
  simp only [evS, evE, evT, evEs, evIfs, evP, slot, asG, asT, asTs, List.getElem?_cons_zero, List.getElem?_cons_succ, bindok, toSok, ofsome, ofPsome, b_add, b_sub, b_subb, b_mul, b_fdiv, b_mod, b_shl, b_pow, cmp_lt, cmp_le, cmp_gt, cmp_ge, cmp_eq, cmp_ne, cmp_eqb, bi_abs, bi_int, bi_intb, bi_lent, bm_bits, bmT, setsI, List.set_cons_zero, List.set_cons_succ, rbnx, rbrt, Option.map, gc0, gc1, gc2, gc3, gc4, if_true, List.length_cons, List.length_nil, Nat.reduceAdd, dlim, mk_len, evSs, truthD, List.nil_append, List.cons_append, len_lst hn, hv, dfl0 _ 23 rfl, List.append_nil, ix_lst hn', at_nat ds v h2 h3, List.getElem?_eq_getElem hvl]
/-! ### the law's likeness of what is like itself -/
inductive Pl : Nat → D → Prop
  | int (n : Nat) (i : Int) : Pl n (.int i)
  | non (n : Nat) : Pl n .non
  | tup {n : Nat} {ds : List D} (h : ∀ d ∈ ds, Pl n d) : Pl (n + 1) (.tup ds)
theorem zip_self : ∀ ds : List D, zipL ds ds = ds.map fun d => .tup [d, d]
  | [] => rfl
  | d :: ds => by rw [zipL, zip_self ds]; rfl
theorem is_non (x : D) (S : Store) : cmpD .is_ .non .non S = some true := rfl
theorem is_int_non (i : Int) (S : Store) : cmpD .is_ (.int i) .non S = some false := rfl
theorem is_int_bl (i : Int) (b : Bool) (S : Store) : cmpD .is_ (.int i) (.bl b) S = some false := rfl
theorem isi_int_tup (i : Int) (S : Store) : isiD (.int i) "tuple" S = some false := rfl
theorem isi_non_tup (S : Store) : isiD .non "tuple" S = some false := rfl
theorem isi_int_int (i : Int) (S : Store) : isiD (.int i) "int" S = some true := rfl
theorem isi_int_bool (i : Int) (S : Store) : isiD (.int i) "bool" S = some false := rfl
theorem is_self : ∀ (n : Nat) (d : D), Pl n d → ∀ (k : Nat) (S : Store), ∃ S', (Gk (k + n + 1)).fn 25 [d, d] S = .ok (.bl true) S' ∧ App S S' := by
  intro n d h
  induction h with
  | int n i =>
    intro k S
    refine ⟨S, ?_, App.refl S⟩
    rw [gfn rfl]
    refine run_rt (ρ0 := [some (.int i), some (.int i), none, none]) rfl rfl (ss_nx (ρ1 := [some (.int i), some (.int i), none, none]) (S1 := S) ?_ (ss_nx (ρ1 := [some (.int i), some (.int i), none, none]) (S1 := S) ?_ (ss_rt (ρ1 := [some (.int i), some (.int i), none, none]) ?_)))
    · simp only [evS, evE, evT, evEs, evIfs, evP, slot, asG, asT, asTs, List.getElem?_cons_zero, List.getElem?_cons_succ, bindok, toSok, ofsome, ofPsome, b_add, b_sub, b_subb, b_mul, b_fdiv, b_mod, b_shl, b_pow, cmp_lt, cmp_le, cmp_gt, cmp_ge, cmp_eq, cmp_ne, cmp_eqb, bi_abs, bi_int, bi_intb, bi_lent, bm_bits, bmT, setsI, List.set_cons_zero, List.set_cons_succ, rbnx, rbrt, Option.map, gc0, gc1, gc2, gc3, gc4, if_true, List.length_cons, List.length_nil, Nat.reduceAdd, dlim, mk_len, evSs, truthD, List.nil_append, List.cons_append, isi_int_tup, Bool.false_eq_true, if_false]
    · simp only [evS, evE, evT, evEs, evIfs, evP, slot, asG, asT, asTs, List.getElem?_cons_zero, List.getElem?_cons_succ, bindok, toSok, ofsome, ofPsome, b_add, b_sub, b_subb, b_mul, b_fdiv, b_mod, b_shl, b_pow, cmp_lt, cmp_le, cmp_gt, cmp_ge, cmp_eq, cmp_ne, cmp_eqb, bi_abs, bi_int, bi_intb, bi_lent, bm_bits, bmT, setsI, List.set_cons_zero, List.set_cons_succ, rbnx, rbrt, Option.map, gc0, gc1, gc2, gc3, gc4, if_true, List.length_cons, List.length_nil, Nat.reduceAdd, dlim, mk_len, evSs, truthD, List.nil_append, List.cons_append, is_int_non, is_int_bl, Bool.false_eq_true, if_false]
    · simp only [evS, evE, evT, evEs, evIfs, evP, slot, asG, asT, asTs, List.getElem?_cons_zero, List.getElem?_cons_succ, bindok, toSok, ofsome, ofPsome, b_add, b_sub, b_subb, b_mul, b_fdiv, b_mod, b_shl, b_pow, cmp_lt, cmp_le, cmp_gt, cmp_ge, cmp_eq, cmp_ne, cmp_eqb, bi_abs, bi_int, bi_intb, bi_lent, bm_bits, bmT, setsI, List.set_cons_zero, List.set_cons_succ, rbnx, rbrt, Option.map, gc0, gc1, gc2, gc3, gc4, if_true, List.length_cons, List.length_nil, Nat.reduceAdd, dlim, mk_len, evSs, truthD, List.nil_append, List.cons_append, isi_int_int, isi_int_bool, Bool.not_false, decide_true]
  | non n =>
    intro k S
    refine ⟨S, ?_, App.refl S⟩
    rw [gfn rfl]
    refine run_rt (ρ0 := [some .non, some .non, none, none]) rfl rfl (ss_nx (ρ1 := [some .non, some .non, none, none]) (S1 := S) ?_ (ss_rt (ρ1 := [some .non, some .non, none, none]) ?_))
    · simp only [evS, evE, evT, evEs, evIfs, evP, slot, asG, asT, asTs, List.getElem?_cons_zero, List.getElem?_cons_succ, bindok, toSok, ofsome, ofPsome, b_add, b_sub, b_subb, b_mul, b_fdiv, b_mod, b_shl, b_pow, cmp_lt, cmp_le, cmp_gt, cmp_ge, cmp_eq, cmp_ne, cmp_eqb, bi_abs, bi_int, bi_intb, bi_lent, bm_bits, bmT, setsI, List.set_cons_zero, List.set_cons_succ, rbnx, rbrt, Option.map, gc0, gc1, gc2, gc3, gc4, if_true, List.length_cons, List.length_nil, Nat.reduceAdd, dlim, mk_len, evSs, truthD, List.nil_append, List.cons_append, isi_non_tup, Bool.false_eq_true, if_false]
    · simp only [evS, evE, evT, evEs, evIfs, evP, slot, asG, asT, asTs, List.getElem?_cons_zero, List.getElem?_cons_succ, bindok, toSok, ofsome, ofPsome, b_add, b_sub, b_subb, b_mul, b_fdiv, b_mod, b_shl, b_pow, cmp_lt, cmp_le, cmp_gt, cmp_ge, cmp_eq, cmp_ne, cmp_eqb, bi_abs, bi_int, bi_intb, bi_lent, bm_bits, bmT, setsI, List.set_cons_zero, List.set_cons_succ, rbnx, rbrt, Option.map, gc0, gc1, gc2, gc3, gc4, if_true, List.length_cons, List.length_nil, Nat.reduceAdd, dlim, mk_len, evSs, truthD, List.nil_append, List.cons_append, is_non .non]
  | @tup n ds h ih =>
    intro k S
    -- the turns
    have loop : ∀ (es : List D), (∀ d ∈ es, d ∈ ds) → ∀ S : Store, ∃ S', lcL (fun d S => match asT (.tp [.nm 2, .nm 3]) d (wipeD [some (.tup ds), some (.tup ds), none, none] [2, 3]) with
        | some ρ' => (evIfs (Gk (k + n + 1)) [.not (.tr (.call 25 [.v 2, .v 3] 0))] ρ' S).bind fun b S' => if b = true then (evE (Gk (k + n + 1)) (.c (.int (1))) ρ' S').bind fun y S'' => .ok (some y) S'' else .ok none S'
        | none => .bad) [] (es.map fun d => .tup [d, d]) [] S = .ok [] S' ∧ App S S' := by
      intro es
      induction es with
      | nil => intro _ S; exact ⟨S, by rw [List.map_nil, lcL, if_pos (gok_nil S)], App.refl S⟩
      | cons e es ih2 =>
        intro hes S
        obtain ⟨S1, h1, a1⟩ := ih e (hes e (List.mem_cons_self ..)) k S
        obtain ⟨S2, h2, a2⟩ := ih2 (fun d hd => hes d (List.mem_cons_of_mem _ hd)) S1
        refine ⟨S2, ?_, a1.trans a2⟩
        rw [List.map_cons, lcL, if_pos (gok_nil S)]
        have hif : evIfs (Gk (k + n + 1)) [.not (.tr (.call 25 [.v 2, .v 3] 0))] [some (.tup ds), some (.tup ds), some e, some e] S = .ok false S1 := by
          simp only [evIfs, evT, evS, evE, evT, evEs, evIfs, evP, slot, asG, asT, asTs, List.getElem?_cons_zero, List.getElem?_cons_succ, bindok, toSok, ofsome, ofPsome, b_add, b_sub, b_subb, b_mul, b_fdiv, b_mod, b_shl, b_pow, cmp_lt, cmp_le, cmp_gt, cmp_ge, cmp_eq, cmp_ne, cmp_eqb, bi_abs, bi_int, bi_intb, bi_lent, bm_bits, bmT, setsI, List.set_cons_zero, List.set_cons_succ, rbnx, rbrt, Option.map, gc0, gc1, gc2, gc3, gc4, if_true, List.length_cons, List.length_nil, Nat.reduceAdd, dlim, mk_len, evSs, truthD, List.nil_append, List.cons_append, h1, dfl0 _ 25 rfl, List.append_nil, Bool.not_true, Bool.false_eq_true, if_false]
        have has : asT (.tp [.nm 2, .nm 3]) (.tup [e, e]) (wipeD [some (.tup ds), some (.tup ds), none, none] [2, 3]) = some [some (.tup ds), some (.tup ds), some e, some e] := rfl
        rw [has]
        dsimp only
        rw [hif, bindok, if_neg Bool.false_ne_true, bindok]
        exact h2
    obtain ⟨S1, h1, a1⟩ := loop ds (fun _ h => h) S
    generalize hS2 : S1 ++ [SO.lst []] = S2
    have a2 : App S1 S2 := hS2 ▸ App.one _ _
    have l1 : S2[S1.length]? = some (.lst (([] : List Int).map D.int)) := hS2 ▸ last_at _ _
    generalize hS3 : S2 ++ [SO.lst []] = S3
    have a3 : App S2 S3 := hS3 ▸ App.one _ _
    refine ⟨S3, ?_, (a1.trans a2).trans a3⟩
    rw [show k + (n + 1) + 1 = (k + n + 1) + 1 from by omega, gfn rfl]
    refine run_rt (ρ0 := [some (.tup ds), some (.tup ds), none, none]) rfl rfl (ss_rt (ρ1 := [some (.tup ds), some (.tup ds), none, none]) ?_)
    have e1 : evE (Gk (k + n + 1)) (.lc (.tp [.nm 2, .nm 3]) .zip [.v 0, .v 1] [.not (.tr (.call 25 [.v 2, .v 3] 0))] (.c (.int (1))) [2, 3]) [some (.tup ds), some (.tup ds), none, none] S = .ok (.obj S1.length) S2 := by
      rw [evE]
      simp only [evEs, evE.eq_2, slot, List.getElem?_cons_zero, List.getElem?_cons_succ, bindok, ofsome]
      show ((lcL _ [] (zipL ds ds) [] S).calm.bind fun ys S2 => Res.ok (D.obj S2.length) (S2 ++ [SO.lst ys])) = _
      rw [zip_self]
      refine (congrArg (fun z => Res.bind (Res.calm z) fun ys S2 => Res.ok (D.obj S2.length) (S2 ++ [SO.lst ys])) h1).trans ?_
      show Res.ok (D.obj S1.length) (S1 ++ [SO.lst []]) = _
      rw [hS2]
    have e2 := ev_nil (Gk (k + n + 1)) [some (.tup ds), some (.tup ds), none, none] S2
    rw [hS3] at e2
    have e3 : eqD (.obj S1.length) (.obj S2.length) S3 = some true := by
      rw [eq_nil (cs := []) (a3.at_ l1) (hS3 ▸ last_at _ _)]; rfl
    have e4 : cmpD .eq (.obj S1.length) (.obj S2.length) S3 = some true := e3
    have t1 : evE (Gk (k + n + 1)) (.cmp .eq (.lc (.tp [.nm 2, .nm 3]) .zip [.v 0, .v 1] [.not (.tr (.call 25 [.v 2, .v 3] 0))] (.c (.int (1))) [2, 3]) (.lst [])) [some (.tup ds), some (.tup ds), none, none] S = .ok (.bl true) S3 := by
      rw [evE, e1, bindok, e2, bindok, e4]; rfl
    have t2 : evS (Gk (k + n + 1)) FU (.ite (.or_ (.not (.tr (.isi (.v 0) "tuple"))) (.cmp .ne (.bi .len [.v 0]) (.bi .len [.v 1]))) [.ret (.c (.bl false))] []) [some (.tup ds), some (.tup ds), none, none] S = .ok .nx [some (.tup ds), some (.tup ds), none, none] S := by
      simp only [evS, evE, evT, evEs, evIfs, evP, slot, asG, asT, asTs, List.getElem?_cons_zero, List.getElem?_cons_succ, bindok, toSok, ofsome, ofPsome, b_add, b_sub, b_subb, b_mul, b_fdiv, b_mod, b_shl, b_pow, cmp_lt, cmp_le, cmp_gt, cmp_ge, cmp_eq, cmp_ne, cmp_eqb, bi_abs, bi_int, bi_intb, bi_lent, bm_bits, bmT, setsI, List.set_cons_zero, List.set_cons_succ, rbnx, rbrt, Option.map, gc0, gc1, gc2, gc3, gc4, if_true, List.length_cons, List.length_nil, Nat.reduceAdd, dlim, mk_len, evSs, truthD, List.nil_append, List.cons_append, isi_tup, Bool.not_true, Bool.false_eq_true, if_false, decide_true]
    rw [evS, evT, evE, evE, slot]
    simp only [List.getElem?_cons_zero, List.getElem?_cons_succ, ofsome, bindok, isi_tup, Option.map, truthD, toSok, if_true]
    exact ss_nx t2 (ss_ret t1)
end L_k13
end

section
set_option maxRecDepth 100000
set_option maxHeartbeats 1000000
set_option exponentiation.threshold 200
namespace L_k13
open MP K13
/-! ### the roots -/
def rootsD : List D := [.tup [.int 1, .int 1], .tup [.int 0, .int 2], .tup [.int 2, .int 2], .tup [.int 4, .int (-1)], .tup [.int 0, .int 3], .tup [.int 1, .int 3], .tup [.int 3, .int (-1)], .tup [.int (-1), .int 1], .tup [.int (-5), .int (-1)], .tup [.int 99, .int 1], .tup [.int 99, .int (-1)], .tup [.int 99, .int 99], .tup [.int 0, .int 98]]
theorem w32 (k : Nat) (S : Store) : (Gk (k + 1)).fn 32 [] S = .ok (.obj S.length) (S ++ [.lst rootsD]) := by
  rw [gfn rfl]
  refine run_rt (ρ0 := []) rfl rfl (ss_ret ?_)
  simp only [evS, evE, evT, evEs, evIfs, evP, slot, asG, asT, asTs, List.getElem?_cons_zero, List.getElem?_cons_succ, bindok, toSok, ofsome, ofPsome, b_add, b_sub, b_subb, b_mul, b_fdiv, b_mod, b_shl, b_pow, cmp_lt, cmp_le, cmp_gt, cmp_ge, cmp_eq, cmp_ne, cmp_eqb, bi_abs, bi_int, bi_intb, bi_lent, bm_bits, bmT, setsI, List.set_cons_zero, List.set_cons_succ, rbnx, rbrt, Option.map, gc0, gc1, gc2, gc3, gc4, if_true, List.length_cons, List.length_nil, Nat.reduceAdd, dlim, mk_len, evSs, truthD, List.nil_append, List.cons_append, dlim (show 2 ≤ 100 by decide), dlim (show 13 ≤ 100 by decide)]
  rfl
theorem rt_of {t u : Int} (s : Nat) (ht : t.natAbs ≤ 99) (hu : u.natAbs ≤ 99) (h0 : 1 ≤ Dd t u) (h1 : ((s * s : Nat) : Int) ≤ Dd t u) (h2 : Dd t u < (((s + 1) * (s + 1) : Nat) : Int)) (h3 : ((s * s : Nat) : Int) ≠ Dd t u) : RtOk t u := by
  have e : s = isq (Dd t u).toNat := isq_uniq (by omega) (by omega)
  have hb : (2 : Nat) ^ 8 = 256 := by decide
  refine ⟨by unfold Bd; omega, by unfold Bd; omega, ht, hu, h0, ?_⟩
  rw [← e, ← Int.natCast_mul]
  exact h3
theorem roots_ok : ∀ d ∈ rootsD, ∃ t u, d = .tup [.int t, .int u] ∧ RtOk t u := by
  intro d hd
  simp only [rootsD, List.mem_cons, List.mem_nil_iff, or_false] at hd
  rcases hd with rfl | rfl | rfl | rfl | rfl | rfl | rfl | rfl | rfl | rfl | rfl | rfl | rfl
  · exact ⟨_, _, rfl, rt_of 2 (by decide) (by decide) (by decide) (by decide) (by decide) (by decide)⟩
  · exact ⟨_, _, rfl, rt_of 2 (by decide) (by decide) (by decide) (by decide) (by decide) (by decide)⟩
  · exact ⟨_, _, rfl, rt_of 3 (by decide) (by decide) (by decide) (by decide) (by decide) (by decide)⟩
  · exact ⟨_, _, rfl, rt_of 3 (by decide) (by decide) (by decide) (by decide) (by decide) (by decide)⟩
  · exact ⟨_, _, rfl, rt_of 3 (by decide) (by decide) (by decide) (by decide) (by decide) (by decide)⟩
  · exact ⟨_, _, rfl, rt_of 3 (by decide) (by decide) (by decide) (by decide) (by decide) (by decide)⟩
  · exact ⟨_, _, rfl, rt_of 2 (by decide) (by decide) (by decide) (by decide) (by decide) (by decide)⟩
  · exact ⟨_, _, rfl, rt_of 2 (by decide) (by decide) (by decide) (by decide) (by decide) (by decide)⟩
  · exact ⟨_, _, rfl, rt_of 4 (by decide) (by decide) (by decide) (by decide) (by decide) (by decide)⟩
  · exact ⟨_, _, rfl, rt_of 99 (by decide) (by decide) (by decide) (by decide) (by decide) (by decide)⟩
  · exact ⟨_, _, rfl, rt_of 98 (by decide) (by decide) (by decide) (by decide) (by decide) (by decide)⟩
  · exact ⟨_, _, rfl, rt_of 100 (by decide) (by decide) (by decide) (by decide) (by decide) (by decide)⟩
  · exact ⟨_, _, rfl, rt_of 19 (by decide) (by decide) (by decide) (by decide) (by decide) (by decide)⟩
theorem it_rng1 (n : Int) (S : Store) (h : big62 n = true) : itD .rng [.int n] S = some (rngL 0 n.toNat, []) := if_pos h
theorem it_rng2 (a b : Int) (S : Store) (h : (big62 a && big62 b) = true) : itD .rng [.int a, .int b] S = some (rngL a (b - a).toNat, []) := if_pos h
theorem big_ok {n : Int} (h : -1000000 ≤ n) (h' : n ≤ 1000000) : big62 n = true := by
  unfold big62
  exact decide_eq_true (by omega)
theorem pow9 (S : Store) : binD .pow (.int 10) (.int 9) S = some (.int 1000000000, S) := by
  have h := @b_pow 10 9 S (eq_true (by decide))
  have e : (10 : Int) ^ (9 : Int).toNat = 1000000000 := by decide
  rw [e] at h
  exact h
theorem pow18 (S : Store) : binD .pow (.int 10) (.int 18) S = some (.int 1000000000000000000, S) := by
  have h := @b_pow 10 18 S (eq_true (by decide))
  have e : (10 : Int) ^ (18 : Int).toNat = 1000000000000000000 := by decide
  rw [e] at h
  exact h
/-! ### great numbers -/
theorem loop33 (G : Gm) (b : Nat) (S : Store) : ∀ (ds : List D) (i : Nat) (z : Option D), i + ds.length ≤ 39 →
    ∃ z', forL (asT (.nm 2)) (fun ρ S => evSs G FU [.asg (.t (.nm 1)) (.bin .mul (.v 1) (.c (.int (10))))] ρ S) [] ds [some (.obj b), some (.int ((10 ^ i : Nat) : Int)), z] S = .ok .nx [some (.obj b), some (.int ((10 ^ (i + ds.length) : Nat) : Int)), z'] S
  | [], i, z, _ => ⟨z, by rw [forL, if_pos (gok_nil S)]; rfl⟩
  | d :: ds, i, z, h => by
    simp only [List.length_cons] at h
    obtain ⟨z', ih⟩ := loop33 G b S ds (i + 1) (some d) (by omega)
    refine ⟨z', ?_⟩
    have hb : Bd 200 ((10 ^ i : Nat) : Int) := by
      unfold Bd
      rw [Int.natAbs_natCast]
      exact Nat.lt_of_le_of_lt (Nat.pow_le_pow_right (by decide) (show i ≤ 39 by omega)) (by decide)
    have m1 : mulOk ((10 ^ i : Nat) : Int) 10 = true := mk_ok hb (show Bd 4 10 by decide)
    have e : ((10 ^ i : Nat) : Int) * 10 = ((10 ^ (i + 1) : Nat) : Int) := by rw [Nat.pow_succ, Int.natCast_mul]; rfl
    rw [forL, if_pos (gok_nil S)]
    have st : evSs G FU [.asg (.t (.nm 1)) (.bin .mul (.v 1) (.c (.int (10))))] [some (.obj b), some (.int ((10 ^ i : Nat) : Int)), some d] S = .ok .nx [some (.obj b), some (.int ((10 ^ (i + 1) : Nat) : Int)), some d] S := by
      simp only [evS, evE, evT, evEs, evIfs, evP, slot, asG, asT, asTs, List.getElem?_cons_zero, List.getElem?_cons_succ, bindok, toSok, ofsome, ofPsome, b_add, b_sub, b_subb, b_mul, b_fdiv, b_mod, b_shl, b_pow, cmp_lt, cmp_le, cmp_gt, cmp_ge, cmp_eq, cmp_ne, cmp_eqb, bi_abs, bi_int, bi_intb, bi_lent, bm_bits, bmT, setsI, List.set_cons_zero, List.set_cons_succ, rbnx, rbrt, Option.map, gc0, gc1, gc2, gc3, gc4, if_true, List.length_cons, List.length_nil, Nat.reduceAdd, dlim, mk_len, evSs, truthD, List.nil_append, List.cons_append, m1, e]
    have ha : asT (.nm 2) d [some (.obj b), some (.int ((10 ^ i : Nat) : Int)), z] = some [some (.obj b), some (.int ((10 ^ i : Nat) : Int)), some d] := rfl
    rw [ha]
    dsimp only
    rw [st]
    dsimp only
    rw [ih, List.length_cons, show i + 1 + ds.length = i + (ds.length + 1) by omega]
theorem big_spec (k b : Nat) (S : Store) (hb : Bx S b) : ∃ v S', (Gk (k + 3)).fn 33 [.obj b] S = .ok (.int v) S' ∧ Bd 140 v ∧ Bx S' b ∧ Keep b S S' := by
  have hbl : b < S.length := by obtain ⟨_, _, _, o⟩ := hb; exact (List.getElem?_eq_some_iff.mp o.hb).1
  generalize hS1 : S ++ [SO.lst [.int 10, .int 20, .int 39]] = S1
  have a1 : App S S1 := hS1 ▸ App.one _ _
  have l1 : S1.length = S.length + 1 := by rw [← hS1]; simp
  obtain ⟨d, S2, h2, hd, hb2, k2⟩ := pick_spec k b S.length _ S1 (hb.app a1) (hS1 ▸ last_at _ _) (by omega) (by decide) (by decide)
  have hn : ∃ n : Nat, d = .int n ∧ n ≤ 39 := by
    simp only [List.mem_cons, List.mem_nil_iff, or_false] at hd
    rcases hd with rfl | rfl | rfl
    · exact ⟨10, rfl, by decide⟩
    · exact ⟨20, rfl, by decide⟩
    · exact ⟨39, rfl, by decide⟩
  obtain ⟨n, rfl, hn⟩ := hn
  obtain ⟨z', hl⟩ := loop33 (Gk (k + 2)) b S2 (rngL 0 n) 0 none (by rw [rngL, List.length_map, List.length_range]; omega)
  rw [rngL, List.length_map, List.length_range, Nat.zero_add, ← rngL] at hl
  generalize hS3 : S2 ++ [SO.lst [.int 1, .int (-1)]] = S3
  have a3 : App S2 S3 := hS3 ▸ App.one _ _
  have hbl2 : b < S2.length := by have := k2.1; omega
  obtain ⟨d4, S4, h4, hd4, hb4, k4⟩ := pick_spec k b S2.length _ S3 (hb2.app a3) (hS3 ▸ last_at _ _) (by omega) (by decide) (by decide)
  have hs : ∃ s : Int, d4 = .int s ∧ s.natAbs ≤ 1 := by
    simp only [List.mem_cons, List.mem_nil_iff, or_false] at hd4
    rcases hd4 with rfl | rfl
    · exact ⟨1, rfl, by decide⟩
    · exact ⟨-1, rfl, by decide⟩
  obtain ⟨s, rfl, hs⟩ := hs
  obtain ⟨v, S5, h5, v0, v1, hb5, k5⟩ := take_spec (k + 1) b 1000000000 S4 hb4 (by decide) (by decide)
  have hf : (10 : Nat) ^ n ≤ 10 ^ 39 := Nat.pow_le_pow_right (by decide) hn
  have hf1 : 0 < (10 : Nat) ^ n := Nat.pow_pos (by decide)
  have hcb : Bd 136 (((10 ^ n : Nat) : Int) - 1 - v) := by
    unfold Bd
    have e1 : (10 : Nat) ^ 39 = 1000000000000000000000000000000000000000 := by decide
    have e2 : (2 : Nat) ^ 136 = 87112285931760246646623899502532662132736 := by decide
    omega
  have hsb : Bd 1 s := by unfold Bd; have : (2 : Nat) ^ 1 = 2 := by decide
                          omega
  have m1 := mk_ok hsb hcb
  refine ⟨s * (((10 ^ n : Nat) : Int) - 1 - v), S5, ?_, (hsb.mul hcb).mono (by decide), hb5, ((((a1.keep b).trans k2).trans (a3.keep b)).trans k4).trans k5⟩
  rw [gfn rfl]
  refine run_rt (ρ0 := [some (.obj b), none, none]) rfl rfl (ss_nx (ρ1 := [some (.obj b), some (.int ((10 ^ 0 : Nat) : Int)), none]) (S1 := S) ?_ (ss_nx (ρ1 := [some (.obj b), some (.int ((10 ^ n : Nat) : Int)), z']) (S1 := S2) ?_ (ss_ret ?_)))
  · simp only [evS, evE, evT, evEs, evIfs, evP, slot, asG, asT, asTs, List.getElem?_cons_zero, List.getElem?_cons_succ, bindok, toSok, ofsome, ofPsome, b_add, b_sub, b_subb, b_mul, b_fdiv, b_mod, b_shl, b_pow, cmp_lt, cmp_le, cmp_gt, cmp_ge, cmp_eq, cmp_ne, cmp_eqb, bi_abs, bi_int, bi_intb, bi_lent, bm_bits, bmT, setsI, List.set_cons_zero, List.set_cons_succ, rbnx, rbrt, Option.map, gc0, gc1, gc2, gc3, gc4, if_true, List.length_cons, List.length_nil, Nat.reduceAdd, dlim, mk_len, evSs, truthD, List.nil_append, List.cons_append]
    rfl
  · have t1 : evE (Gk (k + 2)) (.call 24 [.v 0, .lst [.c (.int (10)), .c (.int (20)), .c (.int (39))]] 0) [some (.obj b), some (.int ((10 ^ 0 : Nat) : Int)), none] S = .ok (.int n) S2 := by
      simp only [evS, evE, evT, evEs, evIfs, evP, slot, asG, asT, asTs, List.getElem?_cons_zero, List.getElem?_cons_succ, bindok, toSok, ofsome, ofPsome, b_add, b_sub, b_subb, b_mul, b_fdiv, b_mod, b_shl, b_pow, cmp_lt, cmp_le, cmp_gt, cmp_ge, cmp_eq, cmp_ne, cmp_eqb, bi_abs, bi_int, bi_intb, bi_lent, bm_bits, bmT, setsI, List.set_cons_zero, List.set_cons_succ, rbnx, rbrt, Option.map, gc0, gc1, gc2, gc3, gc4, if_true, List.length_cons, List.length_nil, Nat.reduceAdd, dlim, mk_len, evSs, truthD, List.nil_append, List.cons_append, dlim (show 3 ≤ 100 by decide), hS1, h2, dfl0 _ 24 rfl, List.append_nil]
    rw [evS, evEs, t1, bindok, evEs, bindok, toSok]
    have hi : itD .rng [.int (n : Int)] S2 = some (rngL 0 n, []) := by
      rw [it_rng1 (n : Int) S2 (big_ok (by omega) (by omega)), Int.toNat_natCast]
    rw [hi]
    exact hl
  · have t1 : evE (Gk (k + 2)) (.call 24 [.v 0, .lst [.c (.int (1)), .neg (.c (.int (1)))]] 0) [some (.obj b), some (.int ((10 ^ n : Nat) : Int)), z'] S2 = .ok (.int s) S4 := by
      simp only [evS, evE, evT, evEs, evIfs, evP, slot, asG, asT, asTs, List.getElem?_cons_zero, List.getElem?_cons_succ, bindok, toSok, ofsome, ofPsome, b_add, b_sub, b_subb, b_mul, b_fdiv, b_mod, b_shl, b_pow, cmp_lt, cmp_le, cmp_gt, cmp_ge, cmp_eq, cmp_ne, cmp_eqb, bi_abs, bi_int, bi_intb, bi_lent, bm_bits, bmT, setsI, List.set_cons_zero, List.set_cons_succ, rbnx, rbrt, Option.map, gc0, gc1, gc2, gc3, gc4, if_true, List.length_cons, List.length_nil, Nat.reduceAdd, dlim, mk_len, evSs, truthD, List.nil_append, List.cons_append, dlim (show 2 ≤ 100 by decide), hS3, h4, dfl0 _ 24 rfl, List.append_nil]
    have t2 : evE (Gk (k + 2)) (.bin .pow (.c (.int (10))) (.c (.int (9)))) [some (.obj b), some (.int ((10 ^ n : Nat) : Int)), z'] S4 = .ok (.int 1000000000) S4 := by
      rw [evE, evE, bindok, evE, bindok, pow9, ofPsome]
    have t3 : evE (Gk (k + 2)) (.call 23 [.v 0, .bin .pow (.c (.int (10))) (.c (.int (9)))] 0) [some (.obj b), some (.int ((10 ^ n : Nat) : Int)), z'] S4 = .ok (.int v) S5 := by
      rw [evE, evEs, evE, slot]
      simp only [List.getElem?_cons_zero, ofsome, bindok]
      rw [evEs, t2, bindok, evEs]
      simp only [bindok, dfl0 _ 23 rfl, List.append_nil]
      exact h5
    have t4 : evE (Gk (k + 2)) (.bin .sub (.v 1) (.c (.int (1)))) [some (.obj b), some (.int ((10 ^ n : Nat) : Int)), z'] S4 = .ok (.int (((10 ^ n : Nat) : Int) - 1)) S4 := by
      generalize ((10 ^ n : Nat) : Int) = w
      simp only [evS, evE, evT, evEs, evIfs, evP, slot, asG, asT, asTs, List.getElem?_cons_zero, List.getElem?_cons_succ, bindok, toSok, ofsome, ofPsome, b_add, b_sub, b_subb, b_mul, b_fdiv, b_mod, pow9, pow18, cmp_lt, cmp_le, cmp_gt, cmp_ge, cmp_eq, cmp_ne, cmp_eqb, bi_abs, bi_int, bi_intb, bi_lent, bm_bits, bmT, setsI, List.set_cons_zero, List.set_cons_succ, rbnx, rbrt, Option.map, gc0, gc1, gc2, gc3, gc4, if_true, List.length_cons, List.length_nil, Nat.reduceAdd, dlim, mk_len, evSs, truthD, List.nil_append, List.cons_append]
    rw [evE, t1, bindok, evE, t4, bindok, t3, bindok, b_sub, ofPsome, bindok, b_mul m1, ofPsome]
/-! ### the box made -/
theorem gok1 {S : Store} {n : Nat} {ds : List D} (h : S[n]? = some (.lst ds)) : gOk [(n, ds)] S = true := by
  unfold gOk
  rw [List.all_cons, lst_of h]
  simp
theorem app_lst {S : Store} {n : Nat} {ds : List D} (h : S[n]? = some (.lst ds)) (hl : ds.length < 200) (y : D) : bmD .append (.obj n) [y] S = some (.non, S.set n (.lst (ds ++ [y]))) := by
  show (match lstAt S n with
    | some ds => if ds.length < lim then some (D.non, S.set n (.lst (ds ++ [y]))) else none
    | none => none) = _
  rw [lst_of h]
  exact if_pos (Nat.lt_of_lt_of_le hl (by decide))
def boxBody : List IS := [.asg (.t (.nm 6)) (.bin .add (.bin .mul (.bi .abs [.v 5]) (.c (.int (2)))) (.bi .int [.cmp .lt (.v 5) (.c (.int (0)))])), .ite (.cmp .ge (.bi .abs [.v 5]) (.bin .pow (.c (.int (10))) (.c (.int (18))))) [.ex (.bm .append (.v 2) [.bi .abs [.v 5]])] [], .asg (.t (.nm 3)) (.bin .add (.bin .mod (.bi .int [.bin .add (.bin .add (.bin .mul (.v 3) (.c (.int (48271)))) (.bin .mul (.bin .mod (.bi .int [.v 6]) (.c (.int (2147483629)))) (.bin .add (.bin .mul (.c (.int (2))) (.v 4)) (.c (.int (38921)))))) (.c (.int (29)))]) (.c (.int (2147483629)))) (.c (.int (1))))]
theorem box_loop (G : Gm) (sc : D) (ds0 : List D) : ∀ (cs : List Int) (k : Nat) (st : Int) (cells : List Int) (x y z : Option D), (∀ c ∈ cs, PySem.Builtin.Int.intBits c ≤ 1048576) → k + cs.length ≤ 63 → cells.length ≤ k → (∀ c ∈ cells, 0 ≤ c) → 0 ≤ st → st < 4294967296 →
    ∃ (st' : Int) (cells' : List Int) (x' y' z' : Option D), forL (asT (.tp [.nm 4, .nm 5])) (fun ρ S => evSs G FU boxBody ρ S) [(1, ds0)] (enumL k (cs.map D.int)) [some sc, some (.int 13), some (.obj 0), some (.int st), x, y, z] [.lst (cells.map .int), .lst ds0] =
      .ok .nx [some sc, some (.int 13), some (.obj 0), some (.int st'), x', y', z'] [.lst (cells'.map .int), .lst ds0] ∧ cells'.length ≤ 63 ∧ (∀ c ∈ cells', 0 ≤ c) ∧ 0 ≤ st' ∧ st' < 4294967296
  | [], k, st, cells, x, y, z, hb, hk, hc, hn, s0, s1 => ⟨st, cells, x, y, z, by rw [List.map_nil, enumL, forL, if_pos (gok1 rfl)], by omega, hn, s0, s1⟩
  | c :: cs, k, st, cells, x, y, z, hb, hk, hc, hn, s0, s1 => by
    simp only [List.length_cons] at hk
    have hcb := hb c (List.mem_cons_self ..)
    have m1 : mulOk ((c.natAbs : Nat) : Int) 2 = true := by
      unfold mulOk lgI
      have h2 : (2 : Int).natAbs.log2 = 1 := by decide
      unfold PySem.Builtin.Int.intBits at hcb
      rw [Int.natAbs_natCast, h2]
      refine decide_eq_true ?_
      by_cases hz : c = 0
      · rw [hz]; decide
      · rw [if_neg (by simpa using hz)] at hcb
        omega
    have n1 := eq_true (show (2147483629 : Int) ≠ 0 by decide)
    generalize hsz : ((c.natAbs : Nat) : Int) * 2 + (if decide (c < 0) = true then 1 else 0) = sz
    generalize hr : sz.fmod 2147483629 = r
    have r0 : 0 ≤ r := by rw [← hr, fm_pos (by decide)]; exact Int.emod_nonneg _ (by decide)
    have r1 : r < 2147483629 := by rw [← hr, fm_pos (by decide)]; exact Int.emod_lt_of_pos _ (by decide)
    have e33 : (2 : Nat) ^ 33 = 8589934592 := by decide
    have sb : Bd 33 st := by unfold Bd; omega
    have rb : Bd 33 r := by unfold Bd; omega
    have kb : Bd 33 (k : Int) := by unfold Bd; omega
    have kb2 : Bd 33 (2 * (k : Int) + 38921) := by unfold Bd; omega
    have m2 : mulOk st 48271 = true := mk_ok sb (show Bd 16 48271 by decide)
    have m3 : mulOk 2 (k : Int) = true := mk_ok two_bd kb
    have m4 : mulOk r (2 * (k : Int) + 38921) = true := mk_ok rb kb2
    generalize hst : (st * 48271 + r * (2 * (k : Int) + 38921) + 29).fmod 2147483629 + 1 = st'
    have t0 : 0 ≤ st' := by rw [← hst, fm_pos (by decide)]; have := Int.emod_nonneg (st * 48271 + r * (2 * (k : Int) + 38921) + 29) (show (2147483629 : Int) ≠ 0 by decide); omega
    have t1 : st' < 4294967296 := by rw [← hst, fm_pos (by decide)]; have := Int.emod_lt_of_pos (st * 48271 + r * (2 * (k : Int) + 38921) + 29) (show (0 : Int) < 2147483629 by decide); omega
    -- the cells behind the turn
    obtain ⟨cells2, hcl, hcn, hite⟩ : ∃ cells2 : List Int, cells2.length ≤ k + 1 ∧ (∀ c ∈ cells2, 0 ≤ c) ∧ evS G FU (.ite (.cmp .ge (.bi .abs [.v 5]) (.bin .pow (.c (.int (10))) (.c (.int (18))))) [.ex (.bm .append (.v 2) [.bi .abs [.v 5]])] []) [some sc, some (.int 13), some (.obj 0), some (.int st), some (.int k), some (.int c), some (.int sz)] [.lst (cells.map .int), .lst ds0] = .ok .nx [some sc, some (.int 13), some (.obj 0), some (.int st), some (.int k), some (.int c), some (.int sz)] [.lst (cells2.map .int), .lst ds0] := by
      by_cases hge : (1000000000000000000 : Int) ≤ (c.natAbs : Int)
      · have dd : decide ((1000000000000000000 : Int) ≤ (c.natAbs : Int)) = true := decide_eq_true hge
        refine ⟨cells ++ [(c.natAbs : Int)], by simp; omega, fun z hz => ?_, ?_⟩
        · rcases List.mem_append.mp hz with q | q
          · exact hn z q
          · rw [List.mem_singleton] at q; omega
        · have ha := app_lst (S := [.lst (cells.map .int), .lst ds0]) (n := 0) (ds := cells.map .int) rfl (by rw [List.length_map]; omega) (.int (c.natAbs : Int))
          have hbt : bmT .append (.obj 0) [.lst (cells.map .int), .lst ds0] = true := rfl
          rw [evS, evT]
          simp only [evE, evEs, slot, List.getElem?_cons_zero, List.getElem?_cons_succ, bindok, toSok, ofsome, ofPsome, bi_abs, ifabs, pow18, cmp_ge, dd, if_true, evSs, evS, hbt, ha, rbnx]
          rw [List.map_append]
          rfl
      · have dd : decide ((1000000000000000000 : Int) ≤ (c.natAbs : Int)) = false := decide_eq_false hge
        refine ⟨cells, by omega, hn, ?_⟩
        rw [evS, evT]
        simp only [evE, evEs, slot, List.getElem?_cons_zero, List.getElem?_cons_succ, bindok, toSok, ofsome, ofPsome, bi_abs, ifabs, pow18, cmp_ge, dd, Bool.false_eq_true, if_false, evSs]
    obtain ⟨st2, cells3, x', y', z', ih, h1, h2, h3, h4⟩ := box_loop G sc ds0 cs (k + 1) st' cells2 (some (.int k)) (some (.int c)) (some (.int sz)) (fun d hd => hb d (List.mem_cons_of_mem _ hd)) (by omega) hcl hcn t0 t1
    refine ⟨st2, cells3, x', y', z', ?_, h1, h2, h3, h4⟩
    rw [List.map_cons, enumL, forL, if_pos (gok1 rfl)]
    have ha : asT (.tp [.nm 4, .nm 5]) (.tup [.int (k : Nat), .int c]) [some sc, some (.int 13), some (.obj 0), some (.int st), x, y, z] = some [some sc, some (.int 13), some (.obj 0), some (.int st), some (.int (k : Nat)), some (.int c), z] := rfl
    rw [ha]
    dsimp only
    have hbody : evSs G FU boxBody [some sc, some (.int 13), some (.obj 0), some (.int st), some (.int (k : Nat)), some (.int c), z] [.lst (cells.map .int), .lst ds0] = .ok .nx [some sc, some (.int 13), some (.obj 0), some (.int st'), some (.int k), some (.int c), some (.int sz)] [.lst (cells2.map .int), .lst ds0] := by
      refine ss_nx (ρ1 := [some sc, some (.int 13), some (.obj 0), some (.int st), some (.int k), some (.int c), some (.int sz)]) ?_ (ss_nx hite (ss_nx (S1 := [.lst (cells2.map .int), .lst ds0]) (ρ1 := [some sc, some (.int 13), some (.obj 0), some (.int st'), some (.int k), some (.int c), some (.int sz)]) ?_ ss_nl))
      · simp only [evS, evE, evT, evEs, evIfs, evP, slot, asG, asT, asTs, List.getElem?_cons_zero, List.getElem?_cons_succ, bindok, toSok, ofsome, ofPsome, b_add, b_sub, b_subb, b_mul, b_fdiv, b_mod, b_shl, b_pow, cmp_lt, cmp_le, cmp_gt, cmp_ge, cmp_eq, cmp_ne, cmp_eqb, bi_abs, bi_int, bi_intb, bi_lent, bm_bits, bmT, setsI, List.set_cons_zero, List.set_cons_succ, rbnx, rbrt, Option.map, gc0, gc1, gc2, gc3, gc4, if_true, List.length_cons, List.length_nil, Nat.reduceAdd, dlim, mk_len, evSs, truthD, List.nil_append, List.cons_append, bi_intb, ifabs, m1, hsz]
      · simp only [evS, evE, evT, evEs, evIfs, evP, slot, asG, asT, asTs, List.getElem?_cons_zero, List.getElem?_cons_succ, bindok, toSok, ofsome, ofPsome, b_add, b_sub, b_subb, b_mul, b_fdiv, b_mod, b_shl, b_pow, cmp_lt, cmp_le, cmp_gt, cmp_ge, cmp_eq, cmp_ne, cmp_eqb, bi_abs, bi_int, bi_intb, bi_lent, bm_bits, bmT, setsI, List.set_cons_zero, List.set_cons_succ, rbnx, rbrt, Option.map, gc0, gc1, gc2, gc3, gc4, if_true, List.length_cons, List.length_nil, Nat.reduceAdd, dlim, mk_len, evSs, truthD, List.nil_append, List.cons_append, m2, m3, m4, n1, hr, hst]
    rw [hbody]
    dsimp only
    exact ih
theorem box_spec (k : Nat) (ns : List Int) (hl : ns.length ≤ 63) (hb : ∀ z ∈ ns, PySem.Builtin.Int.intBits z ≤ 1048576) : ∃ S, (Gk (k + 1)).fn 22 [.lsf (ns.map D.int), .int 13] [] = .ok (.obj 2) S ∧ Bx S 2 ∧ S.length = 3 := by
  obtain ⟨st', cells', x', y', z', h, h1, h2, h3, h4⟩ := box_loop (Gk k) (.lsf (ns.map D.int)) (ns.map D.int) ns 0 102594 [] none none none hb (by omega) (by simp) (by simp) (by decide) (by decide)
  refine ⟨[.lst (cells'.map .int), .lst (ns.map D.int), .lst [.obj 0, .int st']], ?_, ⟨0, st', cells', rfl, rfl, by decide, h3, by omega, h2, h1⟩, rfl⟩
  rw [gfn rfl]
  refine run_rt (ρ0 := [some (.lsf (ns.map D.int)), some (.int 13), none, none, none, none, none]) rfl rfl (ss_nx (ρ1 := [some (.lsf (ns.map D.int)), some (.int 13), some (.obj 0), some (.int 102594), none, none, none]) (S1 := [.lst []]) ?_ (ss_nx (ρ1 := [some (.lsf (ns.map D.int)), some (.int 13), some (.obj 0), some (.int st'), x', y', z']) (S1 := [.lst (cells'.map .int), .lst (ns.map D.int)]) ?_ (ss_ret ?_)))
  · have m1 : mulOk 3907 13 = true := mk_ok (show Bd 12 3907 by decide) (show Bd 4 13 by decide)
    simp only [evS, evE, evT, evEs, evIfs, evP, slot, asG, asT, asTs, List.getElem?_cons_zero, List.getElem?_cons_succ, bindok, toSok, ofsome, ofPsome, b_add, b_sub, b_subb, b_mul, b_fdiv, b_mod, b_shl, b_pow, cmp_lt, cmp_le, cmp_gt, cmp_ge, cmp_eq, cmp_ne, cmp_eqb, bi_abs, bi_int, bi_intb, bi_lent, bm_bits, bmT, setsI, List.set_cons_zero, List.set_cons_succ, rbnx, rbrt, Option.map, gc0, gc1, gc2, gc3, gc4, if_true, List.length_cons, List.length_nil, Nat.reduceAdd, dlim, mk_len, evSs, truthD, List.nil_append, List.cons_append, dlim (show 0 ≤ 100 by decide), m1]
    rfl
  · rw [evS]
    have hs : slD (.lsf (ns.map D.int)) none (some 63) [.lst []] = some (.obj 1, [.lst [], .lst (ns.map D.int)]) := by
      show some (D.obj 1, [SO.lst [], SO.lst (cutD (ns.map D.int) none (some 63))]) = _
      rw [cut63 _ (by rw [List.length_map]; exact hl)]
    simp only [evEs, evE, evP, slot, List.getElem?_cons_zero, List.getElem?_cons_succ, bindok, toSok, ofsome, ofPsome, hs]
    exact h
  · simp only [evS, evE, evT, evEs, evIfs, evP, slot, asG, asT, asTs, List.getElem?_cons_zero, List.getElem?_cons_succ, bindok, toSok, ofsome, ofPsome, b_add, b_sub, b_subb, b_mul, b_fdiv, b_mod, b_shl, b_pow, cmp_lt, cmp_le, cmp_gt, cmp_ge, cmp_eq, cmp_ne, cmp_eqb, bi_abs, bi_int, bi_intb, bi_lent, bm_bits, bmT, setsI, List.set_cons_zero, List.set_cons_succ, rbnx, rbrt, Option.map, gc0, gc1, gc2, gc3, gc4, if_true, List.length_cons, List.length_nil, Nat.reduceAdd, dlim, mk_len, evSs, truthD, List.nil_append, List.cons_append, dlim (show 2 ≤ 100 by decide)]
end L_k13
end

section
set_option maxRecDepth 100000
set_option maxHeartbeats 1000000
set_option exponentiation.threshold 200
namespace L_k13
open MP K13
/-! ### points as data -/
def PT (x : T3) : PySem.PyData := .tuple [.int x.1, .int x.2.1, .int x.2.2]
theorem toP_T3 (x : T3) (S : Store) : toP S 60 (D3 x) = some (PT x) := rfl
theorem toPs_T3 (S : Store) : ∀ xs : List T3, toPs S 60 (xs.map D3) = some (xs.map PT)
  | [] => rfl
  | x :: xs => by
    show allS (toP S 60) (D3 x :: xs.map D3) = _
    rw [allS, toP_T3]
    have := toPs_T3 S xs
    unfold toPs at this
    rw [this]
    rfl
theorem eqv_T3 (x y : T3) : PySem.PyData.eqv (PT x) (PT y) = decide (x = y) := by
  obtain ⟨a, b, c⟩ := x
  obtain ⟨a', b', c'⟩ := y
  show ((a == a') && ((b == b') && ((c == c') && true))) = _
  by_cases h1 : a = a'
  · by_cases h2 : b = b'
    · by_cases h3 : c = c' <;> simp [h1, h2, h3]
    · simp [h1, h2]
  · simp [h1]
theorem shp_T3 (x : T3) : shp (PT x) = true := rfl
theorem lay_T3 : ∀ xs : List T3, PySem.PyData.canLayAll0 (xs.map PT) = true
  | [] => rfl
  | x :: xs => by
    rw [List.map_cons, PySem.PyData.canLayAll0, lay_T3 xs]; rfl
theorem dep_T3 : ∀ xs : List T3, PySem.PyData.depthAll (xs.map PT) ≤ 1
  | [] => by decide
  | x :: xs => by
    rw [List.map_cons, PySem.PyData.depthAll]
    have := dep_T3 xs
    have h : PySem.PyData.depth (PT x) = 1 := rfl
    rw [h]
    omega
theorem shps_T3 (xs : List T3) : shp (.list (xs.map PT)) = true := by
  show (PySem.PyData.canLayAll0 (xs.map PT) && decide (PySem.PyData.depthAll (xs.map PT) + 1 ≤ 64)) = true
  rw [lay_T3, decide_eq_true (by have := dep_T3 xs; omega)]
  rfl
theorem ne_T3 (x y : T3) (S : Store) : cmpD .ne (D3 x) (D3 y) S = some (!decide (x = y)) := by
  have : eqD (D3 x) (D3 y) S = some (decide (x = y)) := by
    unfold eqD
    rw [toP_T3, toP_T3]
    show (if (shp (PT x) && shp (PT y)) = true then some (PySem.PyData.eqv (PT x) (PT y)) else none) = _
    rw [eqv_T3]
    rfl
  show (eqD (D3 x) (D3 y) S).map (fun b => !b) = _
  rw [this]
  rfl
theorem in_T3 {S : Store} {n : Nat} {xs : List T3} (h : S[n]? = some (.lst (xs.map D3))) (x : T3) : cmpD .in_ (D3 x) (.obj n) S = some (xs.any fun z => decide (z = x)) := by
  show (match lstAt S n with
    | some ds => match toP S 60 (D3 x), toPs S 60 ds with
      | some p, some ps => if (shp p && shp (.list ps)) = true then some (ps.any fun z => PySem.PyData.eqv z p) else none
      | _, _ => none
    | none => none) = _
  rw [lst_of h, toP_T3]
  dsimp only
  rw [toPs_T3]
  dsimp only
  rw [shps_T3, shp_T3]
  rw [if_pos (by rfl), List.any_map]
  congr 1
  congr 1
  funext z
  exact eqv_T3 z x
theorem first_T3 : ∀ (xs : List T3) (k i : Nat) (x : T3), xs[i]? = some x → xs.Nodup → firstIx (PT x) (xs.map PT) k = some (k + i)
  | [], _, _, _, h, _ => by simp at h
  | y :: ys, k, 0, x, h, _ => by
    simp at h
    subst h
    rw [List.map_cons, firstIx, eqv_T3]
    simp
  | y :: ys, k, i + 1, x, h, nd => by
    have h' : ys[i]? = some x := by simpa using h
    have hne : ¬ y = x := fun e => (List.nodup_cons.mp nd).1 (by rw [e]; exact List.mem_of_getElem? h')
    rw [List.map_cons, firstIx, eqv_T3, if_neg (by simp [hne]), first_T3 ys (k + 1) i x h' (List.nodup_cons.mp nd).2]
    rw [show k + 1 + i = k + (i + 1) by omega]
theorem first_int : ∀ (xs : List Int) (k i : Nat) (x : Int), xs[i]? = some x → xs.Nodup → firstIx (.int x) (xs.map PySem.PyData.int) k = some (k + i)
  | [], _, _, _, h, _ => by simp at h
  | y :: ys, k, 0, x, h, _ => by
    simp at h
    subst h
    rw [List.map_cons, firstIx]
    have : PySem.PyData.eqv (.int y) (.int y) = true := by show (y == y) = true; simp
    rw [if_pos this]
    rfl
  | y :: ys, k, i + 1, x, h, nd => by
    have h' : ys[i]? = some x := by simpa using h
    have hne : ¬ y = x := fun e => (List.nodup_cons.mp nd).1 (by rw [e]; exact List.mem_of_getElem? h')
    have : PySem.PyData.eqv (.int y) (.int x) = false := by show (y == x) = false; simp [hne]
    rw [List.map_cons, firstIx, this, if_neg Bool.false_ne_true, first_int ys (k + 1) i x h' (List.nodup_cons.mp nd).2]
    rw [show k + 1 + i = k + (i + 1) by omega]
theorem index_T3 {S : Store} {n : Nat} {xs : List T3} (h : S[n]? = some (.lst (xs.map D3))) {i : Nat} {x : T3} (hx : xs[i]? = some x) (nd : xs.Nodup) : bmD .index (.obj n) [D3 x] S = some (.int (i : Nat), S) := by
  show (match lstAt S n with
    | some ds => match toPs S 60 ds, toP S 60 (D3 x) with
      | some ps, some p => if (shp p && shp (.list ps)) = true then (match firstIx p ps 0 with
        | some k => some (D.int (k : Nat), S)
        | none => none) else none
      | _, _ => none
    | none => none) = _
  rw [lst_of h, toP_T3]
  dsimp only
  rw [toPs_T3]
  dsimp only
  rw [shps_T3, shp_T3, if_pos (by rfl), first_T3 xs 0 i x hx nd, Nat.zero_add]
theorem index_int {S : Store} {n : Nat} {xs : List Int} (h : S[n]? = some (.lst (xs.map D.int))) {i : Nat} {x : Int} (hx : xs[i]? = some x) (nd : xs.Nodup) : bmD .index (.obj n) [.int x] S = some (.int (i : Nat), S) := by
  show (match lstAt S n with
    | some ds => match toPs S 60 ds, toP S 60 (.int x) with
      | some ps, some p => if (shp p && shp (.list ps)) = true then (match firstIx p ps 0 with
        | some k => some (D.int (k : Nat), S)
        | none => none) else none
      | _, _ => none
    | none => none) = _
  rw [lst_of h]
  dsimp only
  unfold toPs
  rw [toPs_ints]
  show (if (shp (.int x) && shp (.list (xs.map PySem.PyData.int))) = true then (match firstIx (.int x) (xs.map PySem.PyData.int) 0 with
        | some k => some (D.int (k : Nat), S)
        | none => none) else none) = _
  rw [shp_ints, if_pos (by rfl), first_int xs 0 i x hx nd, Nat.zero_add]
/-! ### points in bounds -/
theorem red_bd {a b c : Int} {n1 n2 n3 : Nat} (h1 : Bd n1 a) (h2 : Bd n2 b) (h3 : Bd n3 c) : Bd n1 (red a b c).1 ∧ Bd n2 (red a b c).2.1 ∧ Bd n3 (red a b c).2.2 :=
  ⟨Bd.of_le h1 (Int.natAbs_ediv_le_natAbs _ _), Bd.of_le h2 (Int.natAbs_ediv_le_natAbs _ _), Bd.of_le h3 (Int.natAbs_ediv_le_natAbs _ _)⟩
theorem pt_ok {t u m n : Int} (hR : RtOk t u) (hm : Md m) (hn : Bd 200 n) : PtOk t u (Pt t (Dd t u) m n) ∧ met m (Pt t (Dd t u) m n) = some n ∧ Bd 220 (Pt t (Dd t u) m n).1 ∧ Bd 200 (Pt t (Dd t u) m n).2.1 ∧ Bd 4 (Pt t (Dd t u) m n).2.2 := by
  obtain ⟨p, q, r, e, h1, h2, h3, h4⟩ := Pt_spec (t := t) hR.hD hm.pos n
  have hw := wn_bd hR.hD hR.ht hR.hu hn
  have hdb : Bd 216 (Wn t (Dd t u) n / m) := Bd.of_le hw (Int.natAbs_ediv_le_natAbs _ _)
  obtain ⟨b1, b2, b3⟩ := red_bd (hm.bd.mul hdb).neg hn hm.bd
  have b1' : Bd 220 (Pt t (Dd t u) m n).1 := b1.mono (by decide)
  have b2' : Bd 200 (Pt t (Dd t u) m n).2.1 := b2
  have b3' : Bd 4 (Pt t (Dd t u) m n).2.2 := b3
  rw [e] at b1' b2' b3' ⊢
  exact ⟨⟨⟨b1'.mono (by decide), b2'.mono (by decide), b3'.mono (by decide)⟩, h1, h2, h3⟩, h4, b1', b2', b3'⟩
theorem part_ok {t u c : Int} {x : T3} (hR : RtOk t u) (hx : PtOk t u x) (b1 : Bd 220 x.1) (b2 : Bd 150 x.2.1) (b3 : Bd 4 x.2.2) (hc : 0 < c) (hcb : Bd 10 c) : PtOk t u (red x.1 x.2.1 (x.2.2 * c)) ∧ Bd 150 (red x.1 x.2.1 (x.2.2 * c)).2.1 := by
  obtain ⟨p', q', r', e, h1, h2, h3⟩ := in_part hR.hD hx.pos hc hx.inu
  obtain ⟨d1, d2, d3⟩ := red_bd b1 b2 (b3.mul hcb)
  rw [e] at d1 d2 d3 ⊢
  exact ⟨⟨⟨d1.mono (by decide), d2.mono (by decide), d3.mono (by decide)⟩, h1, h2, h3⟩, d2⟩
theorem ratio_ok {t u top bot : Int} (hR : RtOk t u) (h0 : 0 ≤ top) (h1 : top < bot) (hb : bot ≤ 100) : PtOk t u (red top 0 bot) ∧ ∀ m, met m (red top 0 bot) = if top = 0 then some 0 else none := by
  obtain ⟨p, r, e, h2, h3, h4, h5⟩ := ratio_spec (t := t) hR.hD h0 h1
  have e7 : (2 : Nat) ^ 7 = 128 := by decide
  obtain ⟨d1, d2, d3⟩ := red_bd (show Bd 7 top by unfold Bd; omega) (show Bd 7 (0 : Int) by decide) (show Bd 7 bot by unfold Bd; omega)
  rw [e] at d1 d2 d3 ⊢
  exact ⟨⟨⟨d1.mono (by decide), d2.mono (by decide), d3.mono (by decide)⟩, h2, h3, h4⟩, h5⟩
/-! ### the numbers near nought -/
def nearL : List Int := (List.range 25).map fun i => -12 + (i : Nat)
def nearT (t u m : Int) : List T3 := nearL.map fun n => Pt t (Dd t u) m n
theorem near_bd : ∀ n ∈ nearL, Bd 5 n := by decide
theorem near_nd : nearL.Nodup := by decide
theorem nearT_nd {t u m : Int} (hR : RtOk t u) (hm : Md m) : (nearT t u m).Nodup := by
  unfold nearT
  rw [List.Nodup, List.pairwise_map]
  refine List.Pairwise.imp_of_mem (fun {a b} ha hb hab e => hab ?_) near_nd
  have h1 := (pt_ok hR hm ((near_bd a ha).mono (by decide))).2.1
  have h2 := (pt_ok hR hm ((near_bd b hb).mono (by decide))).2.1
  rw [e, h2] at h1
  exact (Option.some.inj h1).symm
theorem near_rng : nearL.map D.int = rngL (-12) 25 := by
  unfold nearL rngL
  rw [List.map_map]
  rfl
end L_k13
end

section
set_option maxRecDepth 100000
set_option maxHeartbeats 1000000
set_option exponentiation.threshold 200
namespace L_k13
open MP K13
/-! ### the law's turn -/
theorem slot_eq {ρ : Env'} {i : Nat} {d : D} (h : i < ρ.length) : slot (ρ.set i (some d)) i = some d := by
  unfold slot
  rw [List.getElem?_set_self h]
theorem slot_ne {ρ : Env'} {i j : Nat} {x : Option D} (h : i ≠ j) : slot (ρ.set i x) j = slot ρ j := by
  unfold slot
  rw [List.getElem?_set_ne h]
structure St (ρ : Env') (S : Store) (t u m : Int) (ro nr : Nat) : Prop where
  len : ρ.length = 21
  s1 : slot ρ 1 = some (.obj 2)
  s3 : slot ρ 3 = some (.tup [.int t, .int u])
  s4 : slot ρ 4 = some (.int m)
  s5 : slot ρ 5 = some (.obj ro)
  s6 : slot ρ 6 = some (.obj nr)
  bx : Bx S 2
  rt : RootAt S ro t u
  ro2 : ro ≠ 2
  nrAt : S[nr]? = some (.lst ((nearT t u m).map D3))
  nr2 : nr ≠ 2
theorem St.step {ρ : Env'} {S S' : Store} {t u m : Int} {ro nr : Nat} (h : St ρ S t u m ro nr) (k : Keep 2 S S') (b : Bx S' 2) : St ρ S' t u m ro nr :=
  { h with bx := b, rt := k.at_ h.rt h.ro2, nrAt := k.at_ h.nrAt h.nr2 }
theorem St.app {ρ : Env'} {S S' : Store} {t u m : Int} {ro nr : Nat} (h : St ρ S t u m ro nr) (a : App S S') : St ρ S' t u m ro nr :=
  h.step (a.keep 2) (h.bx.app a)
theorem St.set {ρ : Env'} {S : Store} {t u m : Int} {ro nr : Nat} (h : St ρ S t u m ro nr) {i : Nat} (hi : 6 < i) (x : Option D) : St (ρ.set i x) S t u m ro nr :=
  { h with
    len := by rw [List.length_set]; exact h.len
    s1 := by rw [slot_ne (by omega)]; exact h.s1
    s3 := by rw [slot_ne (by omega)]; exact h.s3
    s4 := by rw [slot_ne (by omega)]; exact h.s4
    s5 := by rw [slot_ne (by omega)]; exact h.s5
    s6 := by rw [slot_ne (by omega)]; exact h.s6 }
theorem is_self' {n : Nat} {d : D} (h : Pl n d) {j : Nat} (hj : n + 1 ≤ j) (S : Store) : ∃ S', (Gk j).fn 25 [d, d] S = .ok (.bl true) S' ∧ App S S' := by
  obtain ⟨S', h1, h2⟩ := is_self n d h (j - n - 1) S
  rw [show j - n - 1 + n + 1 = j by omega] at h1
  exact ⟨S', h1, h2⟩
theorem pl_do (o : Option Int) : Pl 0 (DO o) := by
  cases o with
  | none => exact .non 0
  | some i => exact .int 0 i
theorem pl_T3 (x : T3) : Pl 1 (D3 x) := .tup fun d hd => by
  simp only [List.mem_cons, List.mem_nil_iff, or_false] at hd
  rcases hd with rfl | rfl | rfl <;> exact .int 0 _
section
variable {ρ : Env'} {S : Store} {t u m : Int} {ro nr : Nat} (k : Nat) (hR : RtOk t u) (hm : Md m)
include hR hm in
/-- end_met of a point, called -/
theorem c21 (h : St ρ S t u m ro nr) {x : T3} (hx : PtOk t u x) : (Gk (k + 19)).fn 21 [.obj ro, .int m, D3 x] S = .ok (DO (met m x)) S :=
  w21 (k + 14) ro t u m x S h.rt hR.hD hR.ht hR.hu hm hx
/-- one of the parts -/
def jBody : List IS := [.asg (.t (.nm 14)) (.c (.non)), .ite (.and_ (.cmp .eq (.bin .mod (.bi .int [.ix (.v 13) (.c (.int (0)))]) (.ix (.v 13) (.c (.int (2))))) (.c (.int (0)))) (.cmp .eq (.bin .mod (.bi .int [.bin .mul (.v 4) (.ix (.v 13) (.c (.int (1))))]) (.ix (.v 13) (.c (.int (2))))) (.c (.int (0))))) [.asg (.t (.nm 14)) (.bin .fdiv (.bin .mul (.v 4) (.ix (.v 13) (.c (.int (1))))) (.ix (.v 13) (.c (.int (2)))))] [], .ite (.not (.tr (.call 25 [.call 21 [.v 5, .v 4, .v 13] 0, .v 14] 0))) [.ret (.c (.bl false))] [], .ite (.and_ (.cmp .isn (.v 14) (.c (.non))) (.cmp .ne (.call 31 [.v 3, .v 4, .v 14] 0) (.v 13))) [.ret (.c (.bl false))] [], .ite (.and_ (.cmp .is_ (.v 14) (.c (.non))) (.cmp .in_ (.v 13) (.v 6))) [.ret (.c (.bl false))] []]
theorem isn_non (x : D) (S : Store) : cmpD .isn .non .non S = some false := rfl
theorem isn_int (i : Int) (S : Store) : cmpD .isn (.int i) .non S = some true := rfl
include hR hm in
theorem j_ok (h : St ρ S t u m ro nr) {x : T3} (hx : PtOk t u x) (hb : Bd 150 x.2.1) (h13 : slot ρ 13 = some (D3 x)) :
    ∃ ρ' S', evSs (Gk (k + 19)) FU jBody ρ S = .ok .nx ρ' S' ∧ St ρ' S' t u m ro nr ∧ App S S' ∧ ∀ i, 6 < i → i < 13 → slot ρ' i = slot ρ i := by
  obtain ⟨p, q, r⟩ := x
  have hr := hx.pos
  dsimp only at hr hb
  have hl := h.len
  have m1 : mulOk m q = true := mk_ok hm.bd hb
  have d1 : ∀ i, divOk i r = true := fun i => dv_ok hx.b.b2 (by omega)
  have n1 := eq_true (show r ≠ 0 by omega)
  obtain ⟨S1, hS1, a1⟩ := is_self' (pl_do (met m (p, q, r))) (show 0 + 1 ≤ k + 19 by omega) S
  have e14 : slot (ρ.set 14 (some (DO (met m (p, q, r))))) 14 = some (DO (met m (p, q, r))) := slot_eq (by omega)
  have f13 : ∀ y, slot (ρ.set 14 y) 13 = some (D3 (p, q, r)) := fun y => by rw [slot_ne (by decide)]; exact h13
  have f4 : ∀ y, slot (ρ.set 14 y) 4 = some (.int m) := fun y => by rw [slot_ne (by decide)]; exact h.s4
  have f3 : ∀ y, slot (ρ.set 14 y) 3 = some (.tup [.int t, .int u]) := fun y => by rw [slot_ne (by decide)]; exact h.s3
  have f5 : ∀ y, slot (ρ.set 14 y) 5 = some (.obj ro) := fun y => by rw [slot_ne (by decide)]; exact h.s5
  have f6 : ∀ y, slot (ρ.set 14 y) 6 = some (.obj nr) := fun y => by rw [slot_ne (by decide)]; exact h.s6
  have g13 : ∀ y, slot (ρ.set 14 y) 13 = some (.tup [.int p, .int q, .int r]) := f13
  refine ⟨ρ.set 14 (some (DO (met m (p, q, r)))), S1, ss_nx (ρ1 := ρ.set 14 (some .non)) (S1 := S) ?_ (ss_nx (ρ1 := ρ.set 14 (some (DO (met m (p, q, r))))) (S1 := S) ?_ (ss_nx (ρ1 := ρ.set 14 (some (DO (met m (p, q, r))))) (S1 := S1) ?_ (ss_nx (ρ1 := ρ.set 14 (some (DO (met m (p, q, r))))) (S1 := S1) ?_ (ss_nx (ρ1 := ρ.set 14 (some (DO (met m (p, q, r))))) (S1 := S1) ?_ ss_nl)))), (h.app a1).set (by decide) _, a1, fun i _ hi => slot_ne (by omega)⟩
  · simp only [evS, evE, evT, evEs, evIfs, evP, asG, asT, asTs, bindok, toSok, ofsome, ofPsome, b_add, b_sub, b_subb, b_mul, b_fdiv, b_mod, cmp_lt, cmp_le, cmp_gt, cmp_ge, cmp_eq, cmp_ne, cmp_eqb, bi_abs, bi_int, bi_intb, bi_lent, bm_bits, bmT, setsI, rbnx, rbrt, Option.map, gc0, gc1, gc2, gc3, gc4, if_true, List.length_cons, List.length_nil, Nat.reduceAdd, dlim, mk_len, evSs, truthD, List.nil_append, List.cons_append]
  · by_cases h1 : p % r = 0
    · have e1 : decide (p % r = 0) = true := decide_eq_true h1
      by_cases h2 : m * q % r = 0
      · have e2 : decide (m * q % r = 0) = true := decide_eq_true h2
        have em : met m (p, q, r) = some (m * q / r) := by
          unfold met
          rw [if_neg (by rw [not_or]; exact ⟨fun z => z h1, fun z => z h2⟩)]
        rw [em]
        simp only [evS, evE, evT, evEs, evIfs, evP, asG, asT, asTs, bindok, toSok, ofsome, ofPsome, b_add, b_sub, b_subb, b_mul, b_fdiv, b_mod, cmp_lt, cmp_le, cmp_gt, cmp_ge, cmp_eq, cmp_ne, cmp_eqb, bi_abs, bi_int, bi_intb, bi_lent, bm_bits, bmT, setsI, rbnx, rbrt, Option.map, gc0, gc1, gc2, gc3, gc4, if_true, List.length_cons, List.length_nil, Nat.reduceAdd, dlim, mk_len, evSs, truthD, List.nil_append, List.cons_append, g13, f4, jx0, jx1, jx2, n1, m1, d1, fm_pos hr, fd_pos hr, e1, e2, List.set_set]
        rfl
      · have e2 : decide (m * q % r = 0) = false := decide_eq_false h2
        have em : met m (p, q, r) = none := by
          unfold met
          rw [if_pos (.inr h2)]
        rw [em]
        simp only [evS, evE, evT, evEs, evIfs, evP, asG, asT, asTs, bindok, toSok, ofsome, ofPsome, b_add, b_sub, b_subb, b_mul, b_fdiv, b_mod, cmp_lt, cmp_le, cmp_gt, cmp_ge, cmp_eq, cmp_ne, cmp_eqb, bi_abs, bi_int, bi_intb, bi_lent, bm_bits, bmT, setsI, rbnx, rbrt, Option.map, gc0, gc1, gc2, gc3, gc4, if_true, List.length_cons, List.length_nil, Nat.reduceAdd, dlim, mk_len, evSs, truthD, List.nil_append, List.cons_append, g13, f4, jx0, jx1, jx2, n1, m1, fm_pos hr, e1, e2, Bool.false_eq_true, if_false]
        rfl
    · have e1 : decide (p % r = 0) = false := decide_eq_false h1
      have em : met m (p, q, r) = none := by
        unfold met
        rw [if_pos (.inl h1)]
      rw [em]
      simp only [evS, evE, evT, evEs, evIfs, evP, asG, asT, asTs, bindok, toSok, ofsome, ofPsome, b_add, b_sub, b_subb, b_mul, b_fdiv, b_mod, cmp_lt, cmp_le, cmp_gt, cmp_ge, cmp_eq, cmp_ne, cmp_eqb, bi_abs, bi_int, bi_intb, bi_lent, bm_bits, bmT, setsI, rbnx, rbrt, Option.map, gc0, gc1, gc2, gc3, gc4, if_true, List.length_cons, List.length_nil, Nat.reduceAdd, dlim, mk_len, evSs, truthD, List.nil_append, List.cons_append, g13, f4, jx0, jx1, jx2, n1, fm_pos hr, e1, Bool.false_eq_true, if_false]
      rfl
  · have c := c21 k hR hm h hx
    simp only [evS, evE, evT, evEs, evIfs, evP, asG, asT, asTs, bindok, toSok, ofsome, ofPsome, b_add, b_sub, b_subb, b_mul, b_fdiv, b_mod, cmp_lt, cmp_le, cmp_gt, cmp_ge, cmp_eq, cmp_ne, cmp_eqb, bi_abs, bi_int, bi_intb, bi_lent, bm_bits, bmT, setsI, rbnx, rbrt, Option.map, gc0, gc1, gc2, gc3, gc4, if_true, List.length_cons, List.length_nil, Nat.reduceAdd, dlim, mk_len, evSs, truthD, List.nil_append, List.cons_append, f5, f4, f13, e14, c, dfl0 _ 21 rfl, dfl0 _ 25 rfl, List.append_nil, hS1, Bool.not_true, Bool.false_eq_true, if_false]
  · cases hmet : met m (p, q, r) with
    | none =>
      have e14' : slot (ρ.set 14 (some (DO none))) 14 = some .non := slot_eq (by omega)
      simp only [evS, evE, evT, evEs, evIfs, evP, asG, asT, asTs, bindok, toSok, ofsome, ofPsome, b_add, b_sub, b_subb, b_mul, b_fdiv, b_mod, cmp_lt, cmp_le, cmp_gt, cmp_ge, cmp_eq, cmp_ne, cmp_eqb, bi_abs, bi_int, bi_intb, bi_lent, bm_bits, bmT, setsI, rbnx, rbrt, Option.map, gc0, gc1, gc2, gc3, gc4, if_true, List.length_cons, List.length_nil, Nat.reduceAdd, dlim, mk_len, evSs, truthD, List.nil_append, List.cons_append, e14', isn_non .non, Bool.false_eq_true, if_false]
    | some i =>
      have e14' : slot (ρ.set 14 (some (DO (some i)))) 14 = some (.int i) := slot_eq (by omega)
      have hback := met_back hR.hD hm.pos hr hx.g1 hx.inu hmet
      have hib : Bd 200 i := by
        unfold met at hmet
        split at hmet
        · cases hmet
        · cases hmet
          exact Bd.mono (n := 154) (Bd.of_le (hm.bd.mul hb) (Int.natAbs_ediv_le_natAbs _ _)) (by decide)
      have c := w31 (k + 15) t u m i S1 hR.hD hR.ht hR.hu hib hm
      rw [hback] at c
      have hne := ne_T3 (p, q, r) (p, q, r) S1
      rw [decide_eq_true rfl] at hne
      simp only [evS, evE, evT, evEs, evIfs, evP, asG, asT, asTs, bindok, toSok, ofsome, ofPsome, b_add, b_sub, b_subb, b_mul, b_fdiv, b_mod, cmp_lt, cmp_le, cmp_gt, cmp_ge, cmp_eq, cmp_ne, cmp_eqb, bi_abs, bi_int, bi_intb, bi_lent, bm_bits, bmT, setsI, rbnx, rbrt, Option.map, gc0, gc1, gc2, gc3, gc4, if_true, List.length_cons, List.length_nil, Nat.reduceAdd, dlim, mk_len, evSs, truthD, List.nil_append, List.cons_append, e14', isn_int, f3, f4, f13, c, dfl0 _ 31 rfl, List.append_nil, hne, Bool.not_true, Bool.false_eq_true, if_false]
  · cases hmet : met m (p, q, r) with
    | some i =>
      have e14' : slot (ρ.set 14 (some (DO (some i)))) 14 = some (.int i) := slot_eq (by omega)
      simp only [evS, evE, evT, evEs, evIfs, evP, asG, asT, asTs, bindok, toSok, ofsome, ofPsome, b_add, b_sub, b_subb, b_mul, b_fdiv, b_mod, cmp_lt, cmp_le, cmp_gt, cmp_ge, cmp_eq, cmp_ne, cmp_eqb, bi_abs, bi_int, bi_intb, bi_lent, bm_bits, bmT, setsI, rbnx, rbrt, Option.map, gc0, gc1, gc2, gc3, gc4, if_true, List.length_cons, List.length_nil, Nat.reduceAdd, dlim, mk_len, evSs, truthD, List.nil_append, List.cons_append, e14', is_int_non, Bool.false_eq_true, if_false]
    | none =>
      have e14' : slot (ρ.set 14 (some (DO none))) 14 = some .non := slot_eq (by omega)
      have hin := in_T3 (a1.at_ h.nrAt) (p, q, r)
      have hany : ((nearT t u m).any fun z => decide (z = (p, q, r))) = false := by
        rw [List.any_eq_false]
        intro z hz
        unfold nearT at hz
        obtain ⟨n, hn, rfl⟩ := List.mem_map.mp hz
        have h2 := (pt_ok hR hm ((near_bd n hn).mono (show 5 ≤ 200 by decide))).2.1
        simp only [decide_eq_true_eq]
        intro e
        rw [e, hmet] at h2
        cases h2
      rw [hany] at hin
      simp only [evS, evE, evT, evEs, evIfs, evP, asG, asT, asTs, bindok, toSok, ofsome, ofPsome, b_add, b_sub, b_subb, b_mul, b_fdiv, b_mod, cmp_lt, cmp_le, cmp_gt, cmp_ge, cmp_eq, cmp_ne, cmp_eqb, bi_abs, bi_int, bi_intb, bi_lent, bm_bits, bmT, setsI, rbnx, rbrt, Option.map, gc0, gc1, gc2, gc3, gc4, if_true, List.length_cons, List.length_nil, Nat.reduceAdd, dlim, mk_len, evSs, truthD, List.nil_append, List.cons_append, e14', is_non .non, f13, f6, hin, Bool.false_eq_true, if_false]
end
end L_k13
end

section
set_option maxRecDepth 100000
set_option maxHeartbeats 1000000
set_option exponentiation.threshold 200
namespace L_k13
open MP K13
theorem it_sq {S : Store} {n : Nat} {ds : List D} (h : S[n]? = some (.lst ds)) : itD .sq [.obj n] S = some (ds, [(n, ds)]) := by
  show (lstAt S n).map (fun ds => (ds, [(n, ds)])) = _
  rw [lst_of h]; rfl
theorem fl_end {tgt : D → Env' → Option Env'} {body : Env' → Store → RS} {g : Guard} {ρ : Env'} {S : Store} (hg : gOk g S = true) : forL tgt body g [] ρ S = .ok .nx ρ S := by
  rw [forL, if_pos hg]
theorem fl_nx {tgt : D → Env' → Option Env'} {body : Env' → Store → RS} {g : Guard} {d : D} {ds : List D} {ρ ρ1 ρ2 : Env'} {S S2 : Store} {r : RS} (hg : gOk g S = true) (ht : tgt d ρ = some ρ1) (hb : body ρ1 S = .ok .nx ρ2 S2) (h : forL tgt body g ds ρ2 S2 = r) : forL tgt body g (d :: ds) ρ S = r := by
  rw [forL, if_pos hg, ht]
  dsimp only
  rw [hb]
  exact h
def iBody : List IS := [.asg (.t (.nm 8)) (.call 31 [.v 3, .v 4, .v 7] 0), .ite (.not (.tr (.call 25 [.tup [.call 21 [.v 5, .v 4, .v 8] 0, .ix (.call 20 [.v 5, .v 4, .v 7] 0) (.c (.int (1)))], .tup [.v 7, .v 8]] 0))) [.ret (.c (.bl false))] [], .asg (.t (.tp [.nm 9, .nm 10, .nm 11])) (.v 8), .asg (.t (.nm 12)) (.call 24 [.v 1, .lst [.c (.int (2)), .c (.int (3)), .c (.int (5)), .c (.int (7))]] 0), .fr (.nm 13) .sq [.lst [.call 30 [.v 9, .v 10, .bin .mul (.bin .mul (.v 11) (.v 12)) (.v 4)] 0, .call 30 [.v 9, .v 10, .bin .mul (.v 11) (.v 12)] 0]] jBody]
section
variable {ρ : Env'} {S : Store} {t u m : Int} {ro nr : Nat} (k : Nat) (hR : RtOk t u) (hm : Md m)
include hR hm in
theorem i_ok (h : St ρ S t u m ro nr) {n : Int} (hn : Bd 140 n) (h7 : slot ρ 7 = some (.int n)) :
    ∃ ρ' S', evSs (Gk (k + 19)) FU iBody ρ S = .ok .nx ρ' S' ∧ St ρ' S' t u m ro nr ∧ Keep 2 S S' := by
  have hl := h.len
  have hn2 : Bd 200 n := hn.mono (by decide)
  obtain ⟨hx, hmet, b1, b2, b3⟩ := pt_ok hR hm hn2
  have b2' : Bd 140 (Pt t (Dd t u) m n).2.1 := by
    have hw := wn_bd hR.hD hR.ht hR.hu hn2
    have hdb : Bd 216 (Wn t (Dd t u) n / m) := Bd.of_le hw (Int.natAbs_ediv_le_natAbs _ _)
    exact (red_bd (hm.bd.mul hdb).neg hn hm.bd).2.1
  have c31 := w31 (k + 15) t u m n S hR.hD hR.ht hR.hu hn2 hm
  have c20 := w20 (k + 14) ro t u m n S h.rt hR.hD hR.ht hR.hu hm hn2
  have c21' := c21 k hR hm h hx
  rw [hmet] at c21'
  generalize hxx : Pt t (Dd t u) m n = x at *
  obtain ⟨p, q, r⟩ := x
  dsimp only at b1 b2 b3 b2'
  have hr := hx.pos
  dsimp only at hr
  -- 1, 2
  obtain ⟨S1, hS1, a1⟩ := is_self' (n := 2) (d := .tup [.int n, D3 (p, q, r)]) (.tup fun d hd => by
    simp only [List.mem_cons, List.mem_nil_iff, or_false] at hd
    rcases hd with rfl | rfl
    · exact .int 1 _
    · exact pl_T3 _) (show 2 + 1 ≤ k + 19 by omega) S
  have t1 := h.set (show 6 < 8 by decide) (some (D3 (p, q, r)))
  have l1 := t1.len
  have e8 : slot (ρ.set 8 (some (D3 (p, q, r)))) 8 = some (D3 (p, q, r)) := slot_eq (by omega)
  have e7 : slot (ρ.set 8 (some (D3 (p, q, r)))) 7 = some (.int n) := by rw [slot_ne (by decide)]; exact h7
  have s1 : evS (Gk (k + 19)) FU (.asg (.t (.nm 8)) (.call 31 [.v 3, .v 4, .v 7] 0)) ρ S = .ok .nx (ρ.set 8 (some (D3 (p, q, r)))) S := by
    simp only [evS, evE, evT, evEs, evIfs, evP, asG, asT, asTs, bindok, toSok, ofsome, ofPsome, b_add, b_sub, b_subb, b_mul, b_fdiv, b_mod, cmp_lt, cmp_le, cmp_gt, cmp_ge, cmp_eq, cmp_ne, cmp_eqb, bi_abs, bi_int, bi_intb, bi_lent, bm_bits, bmT, setsI, rbnx, rbrt, Option.map, gc0, gc1, gc2, gc3, gc4, if_true, List.length_cons, List.length_nil, Nat.reduceAdd, dlim, mk_len, evSs, truthD, List.nil_append, List.cons_append, h.s3, h.s4, h7, c31, dfl0 _ 31 rfl, List.append_nil]
  have s2 : evS (Gk (k + 19)) FU (.ite (.not (.tr (.call 25 [.tup [.call 21 [.v 5, .v 4, .v 8] 0, .ix (.call 20 [.v 5, .v 4, .v 7] 0) (.c (.int (1)))], .tup [.v 7, .v 8]] 0))) [.ret (.c (.bl false))] []) (ρ.set 8 (some (D3 (p, q, r)))) S = .ok .nx (ρ.set 8 (some (D3 (p, q, r)))) S1 := by
    have hS1' : (Gk (k + 19)).fn 25 [.tup [DO (some n), D3 (p, q, r)], .tup [.int n, D3 (p, q, r)]] S = .ok (.bl true) S1 := hS1
    simp only [evS, evE, evT, evEs, evIfs, evP, asG, asT, asTs, bindok, toSok, ofsome, ofPsome, b_add, b_sub, b_subb, b_mul, b_fdiv, b_mod, cmp_lt, cmp_le, cmp_gt, cmp_ge, cmp_eq, cmp_ne, cmp_eqb, bi_abs, bi_int, bi_intb, bi_lent, bm_bits, bmT, setsI, rbnx, rbrt, Option.map, gc0, gc1, gc2, gc3, gc4, if_true, List.length_cons, List.length_nil, Nat.reduceAdd, dlim, mk_len, evSs, truthD, List.nil_append, List.cons_append, t1.s5, t1.s4, e8, e7, c21', c20, ix1, dfl0 _ 21 rfl, dfl0 _ 20 rfl, dfl0 _ 25 rfl, List.append_nil, dlim (show 2 ≤ 100 by decide), hS1', Bool.not_true, Bool.false_eq_true, if_false]
  -- 3
  have t2 := ((t1.set (show 6 < 9 by decide) (some (.int p))).set (show 6 < 10 by decide) (some (.int q))).set (show 6 < 11 by decide) (some (.int r))
  have s3 : evS (Gk (k + 19)) FU (.asg (.t (.tp [.nm 9, .nm 10, .nm 11])) (.v 8)) (ρ.set 8 (some (D3 (p, q, r)))) S1 = .ok .nx ((((ρ.set 8 (some (D3 (p, q, r)))).set 9 (some (.int p))).set 10 (some (.int q))).set 11 (some (.int r))) S1 := by
    have e8' : slot (ρ.set 8 (some (D3 (p, q, r)))) 8 = some (.tup [.int p, .int q, .int r]) := e8
    rw [evS, evE, e8', ofsome, toSok, asG]
    rfl
  have f9 : slot ((((ρ.set 8 (some (D3 (p, q, r)))).set 9 (some (.int p))).set 10 (some (.int q))).set 11 (some (.int r))) 9 = some (.int p) := by
    rw [slot_ne (by decide), slot_ne (by decide), slot_eq (by omega)]
  have f10 : slot ((((ρ.set 8 (some (D3 (p, q, r)))).set 9 (some (.int p))).set 10 (some (.int q))).set 11 (some (.int r))) 10 = some (.int q) := by
    rw [slot_ne (by decide), slot_eq (by rw [List.length_set]; omega)]
  have f11 : slot ((((ρ.set 8 (some (D3 (p, q, r)))).set 9 (some (.int p))).set 10 (some (.int q))).set 11 (some (.int r))) 11 = some (.int r) := by
    rw [slot_eq (by rw [List.length_set, List.length_set]; omega)]
  generalize ((((ρ.set 8 (some (D3 (p, q, r)))).set 9 (some (.int p))).set 10 (some (.int q))).set 11 (some (.int r))) = ρ2 at *
  have t2' := t2.app a1
  -- 4
  generalize hSa : S1 ++ [SO.lst [.int 2, .int 3, .int 5, .int 7]] = Sa
  have aa : App S1 Sa := hSa ▸ App.one _ _
  have h2l : 2 < S1.length := by obtain ⟨_, _, _, o⟩ := t2'.bx; exact (List.getElem?_eq_some_iff.mp o.hb).1
  obtain ⟨dc, S2, hpick, hdc, hb2, k2⟩ := pick_spec (k + 17) 2 S1.length _ Sa (t2'.bx.app aa) (hSa ▸ last_at _ _) (by omega) (by decide) (by decide)
  obtain ⟨c, rfl, c0, c7⟩ : ∃ c : Int, dc = .int c ∧ 0 < c ∧ c ≤ 7 := by
    simp only [List.mem_cons, List.mem_nil_iff, or_false] at hdc
    rcases hdc with rfl | rfl | rfl | rfl
    · exact ⟨2, rfl, by decide, by decide⟩
    · exact ⟨3, rfl, by decide, by decide⟩
    · exact ⟨5, rfl, by decide, by decide⟩
    · exact ⟨7, rfl, by decide, by decide⟩
  have kk2 : Keep 2 S1 S2 := (aa.keep 2).trans k2
  have s4 : evS (Gk (k + 19)) FU (.asg (.t (.nm 12)) (.call 24 [.v 1, .lst [.c (.int (2)), .c (.int (3)), .c (.int (5)), .c (.int (7))]] 0)) ρ2 S1 = .ok .nx (ρ2.set 12 (some (.int c))) S2 := by
    simp only [evS, evE, evT, evEs, evIfs, evP, asG, asT, asTs, bindok, toSok, ofsome, ofPsome, b_add, b_sub, b_subb, b_mul, b_fdiv, b_mod, cmp_lt, cmp_le, cmp_gt, cmp_ge, cmp_eq, cmp_ne, cmp_eqb, bi_abs, bi_int, bi_intb, bi_lent, bm_bits, bmT, setsI, rbnx, rbrt, Option.map, gc0, gc1, gc2, gc3, gc4, if_true, List.length_cons, List.length_nil, Nat.reduceAdd, dlim, mk_len, evSs, truthD, List.nil_append, List.cons_append, t2.s1, dlim (show 4 ≤ 100 by decide), hSa, hpick, dfl0 _ 24 rfl, List.append_nil]
  have t3 := (t2'.step kk2 hb2).set (show 6 < 12 by decide) (some (.int c))
  have l3 := t3.len
  have g9 : slot (ρ2.set 12 (some (.int c))) 9 = some (.int p) := by rw [slot_ne (by decide)]; exact f9
  have g10 : slot (ρ2.set 12 (some (.int c))) 10 = some (.int q) := by rw [slot_ne (by decide)]; exact f10
  have g11 : slot (ρ2.set 12 (some (.int c))) 11 = some (.int r) := by rw [slot_ne (by decide)]; exact f11
  have g12 : slot (ρ2.set 12 (some (.int c))) 12 = some (.int c) := slot_eq (by have := t2.len; omega)
  generalize ρ2.set 12 (some (.int c)) = ρ3 at *
  -- 5
  have e3 : (2 : Nat) ^ 3 = 8 := by decide
  have cb : Bd 3 c := by unfold Bd; omega
  have m1 : mulOk r c = true := mk_ok b3 cb
  have m2 : mulOk (r * c) m = true := mk_ok (b3.mul cb) hm.bd
  have hm0 := hm.pos
  have rc : 0 < r * c := Int.mul_pos hr c0
  have x1 := part_ok hR hx b1 (b2'.mono (by decide)) b3 (Int.mul_pos c0 hm0) ((cb.mul hm.bd).mono (by decide))
  have x2 := part_ok hR hx b1 (b2'.mono (by decide)) b3 c0 (cb.mono (by decide))
  dsimp only at x1 x2
  rw [← Int.mul_assoc] at x1
  have c30 := w30 (k + 17) p q (r * c * m) S2 (Int.mul_pos rc hm0) (b2'.mono (by decide)) (((b3.mul cb).mul hm.bd).mono (by decide))
  have c30' := w30 (k + 17) p q (r * c) S2 rc (b2'.mono (by decide)) ((b3.mul cb).mono (by decide))
  generalize red p q (r * c * m) = y1 at *
  generalize red p q (r * c) = y2 at *
  generalize hS3 : S2 ++ [SO.lst [D3 y1, D3 y2]] = S3
  have a3 : App S2 S3 := hS3 ▸ App.one _ _
  have hL : S3[S2.length]? = some (.lst [D3 y1, D3 y2]) := hS3 ▸ last_at _ _
  have u3 := (t3.app a3).set (show 6 < 13 by decide) (some (D3 y1))
  obtain ⟨ρ4, S4, h4, t4, a4, _⟩ := j_ok k hR hm u3 x1.1 x1.2 (slot_eq (by omega))
  have u4 := t4.set (show 6 < 13 by decide) (some (D3 y2))
  obtain ⟨ρ5, S5, h5, t5, a5, _⟩ := j_ok k hR hm u4 x2.1 x2.2 (slot_eq (by have := t4.len; omega))
  refine ⟨ρ5, S5, ss_nx s1 (ss_nx s2 (ss_nx s3 (ss_nx s4 (ss_nx ?_ ss_nl)))), t5, (((((a1.keep 2).trans kk2).trans (a3.keep 2)).trans (a4.keep 2)).trans (a5.keep 2))⟩
  have ev : evE (Gk (k + 19)) (.lst [.call 30 [.v 9, .v 10, .bin .mul (.bin .mul (.v 11) (.v 12)) (.v 4)] 0, .call 30 [.v 9, .v 10, .bin .mul (.v 11) (.v 12)] 0]) ρ3 S2 = .ok (.obj S2.length) S3 := by
    simp only [evS, evE, evT, evEs, evIfs, evP, asG, asT, asTs, bindok, toSok, ofsome, ofPsome, b_add, b_sub, b_subb, b_mul, b_fdiv, b_mod, cmp_lt, cmp_le, cmp_gt, cmp_ge, cmp_eq, cmp_ne, cmp_eqb, bi_abs, bi_int, bi_intb, bi_lent, bm_bits, bmT, setsI, rbnx, rbrt, Option.map, gc0, gc1, gc2, gc3, gc4, if_true, List.length_cons, List.length_nil, Nat.reduceAdd, dlim, mk_len, evSs, truthD, List.nil_append, List.cons_append, g9, g10, g11, g12, t3.s4, m1, m2, c30, c30', dfl0 _ 30 rfl, List.append_nil, dlim (show 2 ≤ 100 by decide), hS3]
  rw [evS, evEs, ev, bindok, evEs, bindok, toSok, it_sq hL]
  exact fl_nx (gok1 hL) rfl h4 (fl_nx (gok1 (a4.at_ hL)) rfl h5 (fl_end (gok1 (a5.at_ (a4.at_ hL)))))
def bBody : List IS := [.asg (.t (.nm 16)) (.call 30 [.v 15, .c (.int (0)), .v 12] 0), .ite (.not (.tr (.call 25 [.call 21 [.v 5, .v 4, .v 16] 0, .ife (.cmp .eq (.v 15) (.c (.int (0)))) (.c (.int (0))) (.c (.non))] 0))) [.ret (.c (.bl false))] []]
include hR hm in
theorem b_ok (h : St ρ S t u m ro nr) {top bot : Int} (h0 : 0 ≤ top) (h1 : top < bot) (h2 : bot ≤ 100) (h15 : slot ρ 15 = some (.int top)) (h12 : slot ρ 12 = some (.int bot)) :
    ∃ S', evSs (Gk (k + 19)) FU bBody ρ S = .ok .nx (ρ.set 16 (some (D3 (red top 0 bot)))) S' ∧ App S S' := by
  have hl := h.len
  obtain ⟨hx, hmet⟩ := ratio_ok hR h0 h1 h2
  have e7 : (2 : Nat) ^ 7 = 128 := by decide
  have c30 := w30 (k + 17) top 0 bot S (by omega) (by decide) (Bd.mono (n := 7) (by unfold Bd; omega) (by decide))
  generalize red top 0 bot = y at *
  have t1 := h.set (show 6 < 16 by decide) (some (D3 y))
  have c21' := c21 k hR hm t1 hx
  rw [hmet] at c21'
  have e16 : slot (ρ.set 16 (some (D3 y))) 16 = some (D3 y) := slot_eq (by omega)
  have e15 : slot (ρ.set 16 (some (D3 y))) 15 = some (.int top) := by rw [slot_ne (by decide)]; exact h15
  have s1 : evS (Gk (k + 19)) FU (.asg (.t (.nm 16)) (.call 30 [.v 15, .c (.int (0)), .v 12] 0)) ρ S = .ok .nx (ρ.set 16 (some (D3 y))) S := by
    simp only [evS, evE, evT, evEs, evIfs, evP, asG, asT, asTs, bindok, toSok, ofsome, ofPsome, b_add, b_sub, b_subb, b_mul, b_fdiv, b_mod, cmp_lt, cmp_le, cmp_gt, cmp_ge, cmp_eq, cmp_ne, cmp_eqb, bi_abs, bi_int, bi_intb, bi_lent, bm_bits, bmT, setsI, rbnx, rbrt, Option.map, gc0, gc1, gc2, gc3, gc4, if_true, List.length_cons, List.length_nil, Nat.reduceAdd, dlim, mk_len, evSs, truthD, List.nil_append, List.cons_append, h15, h12, c30, dfl0 _ 30 rfl, List.append_nil]
  obtain ⟨S1, hS1, a1⟩ := is_self' (pl_do (if top = 0 then some 0 else none)) (show 0 + 1 ≤ k + 19 by omega) S
  refine ⟨S1, ss_nx s1 (ss_nx ?_ ss_nl), a1⟩
  by_cases ht : top = 0
  · have dd : decide (top = 0) = true := decide_eq_true ht
    rw [if_pos ht] at c21' hS1
    have hS1' : (Gk (k + 19)).fn 25 [DO (some 0), .int 0] S = .ok (.bl true) S1 := hS1
    simp only [evS, evE, evT, evEs, evIfs, evP, asG, asT, asTs, bindok, toSok, ofsome, ofPsome, b_add, b_sub, b_subb, b_mul, b_fdiv, b_mod, cmp_lt, cmp_le, cmp_gt, cmp_ge, cmp_eq, cmp_ne, cmp_eqb, bi_abs, bi_int, bi_intb, bi_lent, bm_bits, bmT, setsI, rbnx, rbrt, Option.map, gc0, gc1, gc2, gc3, gc4, if_true, List.length_cons, List.length_nil, Nat.reduceAdd, dlim, mk_len, evSs, truthD, List.nil_append, List.cons_append, t1.s5, t1.s4, e16, e15, c21', dd, dfl0 _ 21 rfl, dfl0 _ 25 rfl, List.append_nil, hS1', Bool.not_true, Bool.false_eq_true, if_false]
  · have dd : decide (top = 0) = false := decide_eq_false ht
    rw [if_neg ht] at c21' hS1
    have hS1' : (Gk (k + 19)).fn 25 [DO none, .non] S = .ok (.bl true) S1 := hS1
    simp only [evS, evE, evT, evEs, evIfs, evP, asG, asT, asTs, bindok, toSok, ofsome, ofPsome, b_add, b_sub, b_subb, b_mul, b_fdiv, b_mod, cmp_lt, cmp_le, cmp_gt, cmp_ge, cmp_eq, cmp_ne, cmp_eqb, bi_abs, bi_int, bi_intb, bi_lent, bm_bits, bmT, setsI, rbnx, rbrt, Option.map, gc0, gc1, gc2, gc3, gc4, if_true, List.length_cons, List.length_nil, Nat.reduceAdd, dlim, mk_len, evSs, truthD, List.nil_append, List.cons_append, t1.s5, t1.s4, e16, e15, c21', dd, dfl0 _ 21 rfl, dfl0 _ 25 rfl, List.append_nil, hS1', Bool.not_true, Bool.false_eq_true, if_false]
include hR hm in
theorem b_loop {bot : Int} (h2 : bot ≤ 100) : ∀ (ts : List Int) (ρ : Env') (S : Store), St ρ S t u m ro nr → slot ρ 12 = some (.int bot) → (∀ i ∈ ts, 0 ≤ i ∧ i < bot) →
    ∃ ρ' S', forL (asT (.nm 15)) (fun ρ S => evSs (Gk (k + 19)) FU bBody ρ S) [] (ts.map D.int) ρ S = .ok .nx ρ' S' ∧ St ρ' S' t u m ro nr ∧ App S S'
  | [], ρ, S, h, _, _ => ⟨ρ, S, fl_end (gok_nil S), h, App.refl S⟩
  | i :: ts, ρ, S, h, h12, hts => by
    have hl := h.len
    obtain ⟨i0, i1⟩ := hts i (List.mem_cons_self ..)
    have t1 := h.set (show 6 < 15 by decide) (some (.int i))
    obtain ⟨S1, hb, a1⟩ := b_ok k hR hm t1 i0 i1 h2 (slot_eq (by omega)) (by rw [slot_ne (by decide)]; exact h12)
    have t2 := (t1.app a1).set (show 6 < 16 by decide) (some (D3 (red i 0 bot)))
    obtain ⟨ρ', S', h3, h4, h5⟩ := b_loop h2 ts _ S1 t2 (by rw [slot_ne (by decide), slot_ne (by decide)]; exact h12) fun j hj => hts j (List.mem_cons_of_mem _ hj)
    exact ⟨ρ', S', fl_nx (gok_nil S) rfl hb h3, h4, a1.trans h5⟩
end
end L_k13
end

section
set_option maxRecDepth 100000
set_option maxHeartbeats 1000000
set_option exponentiation.threshold 200
namespace L_k13
open MP K13
/-! ### comprehensions -/
def lcf (G : Gm) (t : IT) (ifs : List IE) (el : IE) (ws : List Nat) (ρ : Env') : D → Store → Res (Option D) := fun d S => match asT t d (wipeD ρ ws) with
  | some ρ' => (evIfs G ifs ρ' S).bind fun b S' => if b = true then (evE G el ρ' S').bind fun y S'' => .ok (some y) S'' else .ok none S'
  | none => .bad
theorem lcf_of {G : Gm} {t : IT} {ifs : List IE} {el : IE} {ws : List Nat} {ρ ρ' : Env'} {d y : D} {S S' : Store} (ha : asT t d (wipeD ρ ws) = some ρ') (hi : evIfs G ifs ρ' S = .ok true S) (he : evE G el ρ' S = .ok y S') : lcf G t ifs el ws ρ d S = .ok (some y) S' := by
  unfold lcf
  rw [ha]
  dsimp only
  rw [hi, bindok, if_pos rfl, he, bindok]
theorem lcf_no {G : Gm} {t : IT} {ifs : List IE} {el : IE} {ws : List Nat} {ρ ρ' : Env'} {d : D} {S S' : Store} (ha : asT t d (wipeD ρ ws) = some ρ') (hi : evIfs G ifs ρ' S = .ok false S') : lcf G t ifs el ws ρ d S = .ok none S' := by
  unfold lcf
  rw [ha]
  dsimp only
  rw [hi, bindok, if_neg Bool.false_ne_true]
theorem lc_all {α : Type} {f : D → Store → Res (Option D)} {g : Guard} {S : Store} (hg : gOk g S = true) {a b : α → D} : ∀ (xs : List α) (acc : List D), (∀ x ∈ xs, f (a x) S = .ok (some (b x)) S) → acc.length + xs.length ≤ 200 → lcL f g (xs.map a) acc S = .ok (acc ++ xs.map b) S
  | [], acc, _, _ => by rw [List.map_nil, lcL, if_pos hg, List.map_nil, List.append_nil]
  | x :: xs, acc, h, hl => by
    simp only [List.length_cons] at hl
    rw [List.map_cons, lcL, if_pos hg, h x (List.mem_cons_self ..), bindok]
    dsimp only
    rw [if_pos (Nat.lt_of_lt_of_le (show acc.length < 200 by omega) (by decide)), lc_all hg xs (acc ++ [b x]) (fun y hy => h y (List.mem_cons_of_mem _ hy)) (by rw [List.length_append, List.length_singleton]; omega), List.append_assoc]
    rfl
theorem lc_none {α : Type} {f : D → Store → Res (Option D)} {g : Guard} {S : Store} (hg : gOk g S = true) {a : α → D} {acc : List D} : ∀ (xs : List α), (∀ x ∈ xs, f (a x) S = .ok none S) → lcL f g (xs.map a) acc S = .ok acc S
  | [], _ => by rw [List.map_nil, lcL, if_pos hg]
  | x :: xs, h => by
    rw [List.map_cons, lcL, if_pos hg, h x (List.mem_cons_self ..), bindok]
    exact lc_none hg xs fun y hy => h y (List.mem_cons_of_mem _ hy)
theorem ev_lc {G : Gm} {t : IT} {k : IK} {its ifs : List IE} {el : IE} {ws : List Nat} {ρ : Env'} {S S1 S2 : Store} {xs items ys : List D} {g : Guard} (h1 : evEs G its ρ S = .ok xs S1) (h2 : itD k xs S1 = some (items, g)) (h3 : lcL (lcf G t ifs el ws ρ) g items [] S1 = .ok ys S2) :
    evE G (.lc t k its ifs el ws) ρ S = .ok (.obj S2.length) (S2 ++ [.lst ys]) := by
  rw [evE, h1, bindok, h2]
  dsimp only
  show ((lcL (lcf G t ifs el ws ρ) g items [] S1).calm.bind fun ys S2 => Res.ok (D.obj S2.length) (S2 ++ [SO.lst ys])) = _
  rw [h3]
  rfl
theorem ev_tup {G : Gm} {es : List IE} {ρ : Env'} {S S' : Store} {ds : List D} (h : evEs G es ρ S = .ok ds S') (hl : Nat.ble ds.length 100 = true) : evE G (.tup es) ρ S = .ok (.tup ds) S' := by
  rw [evE, h, bindok, if_pos (Nat.le_trans (Nat.le_of_ble_eq_true hl) (by decide))]
def turnBody : List IS := [.asg (.t (.tp [.nm 3, .nm 4])) (.tup [.call 24 [.v 1, .call 32 [] 0] 0, .call 24 [.v 1, .lst [.c (.int (1)), .c (.int (2)), .c (.int (3)), .c (.int (4)), .c (.int (6)), .c (.int (12))]] 0]), .asg (.t (.nm 5)) (.mk 0 [.ix (.v 3) (.c (.int (0))), .ix (.v 3) (.c (.int (1)))]), .asg (.t (.nm 6)) (.lc (.nm 7) .rng [.neg (.c (.int (12))), .c (.int (13))] [] (.call 31 [.v 3, .v 4, .v 7] 0) [7]),
  .fr (.nm 7) .sq [.lst [.bin .sub (.call 23 [.v 1, .c (.int (25))] 0) (.c (.int (12))), .call 33 [.v 1] 0]] iBody,
  .asg (.t (.nm 12)) (.bin .add (.c (.int (2))) (.call 23 [.v 1, .c (.int (40))] 0)), .fr (.nm 15) .rng [.v 12] bBody,
  .asg (.t (.nm 17)) (.lc (.nm 8) .sq [.v 6] [] (.call 21 [.v 5, .v 4, .v 8] 0) [8]),
  .ite (.or_ (.not (.tr (.call 25 [.bi .tuple [.v 17], .trg [.neg (.c (.int (12))), .c (.int (13))]] 0))) (.cmp .ne (.bi .len [.lc (.nm 18) .sq [.v 6] [.cmp .ne (.bm .index (.v 6) [.v 18]) (.bm .index (.v 17) [.call 21 [.v 5, .v 4, .v 18] 0])] (.c (.int (1))) [18]]) (.c (.int (0))))) [.ret (.c (.bl false))] []]
theorem rng_map (n : Nat) : rngL 0 n = ((List.range n).map fun i => (0 : Int) + (i : Nat)).map D.int := by
  unfold rngL
  rw [List.map_map]
  rfl
theorem tup_lst {S : Store} {n : Nat} {ds : List D} (h : S[n]? = some (.lst ds)) : biD .tuple [.obj n] S = some (.tup ds, S) := by
  show (match lstAt S n with
    | some ds => some (D.tup ds, S)
    | none => none) = _
  rw [lst_of h]
theorem bmt_ix {S : Store} {n : Nat} {ds : List D} (h : S[n]? = some (.lst ds)) : bmT .index (.obj n) S = true := by
  show (lstAt S n).isSome = true
  rw [lst_of h]; rfl
section
variable {ρ : Env'} {S : Store} {t u m : Int} {ro nr : Nat} (k : Nat)
theorem near_ok (hR : RtOk t u) (hm : Md m) (hl : ρ.length = 21) (h3 : slot ρ 3 = some (.tup [.int t, .int u])) (h4 : slot ρ 4 = some (.int m)) :
    evE (Gk (k + 19)) (.lc (.nm 7) .rng [.neg (.c (.int (12))), .c (.int (13))] [] (.call 31 [.v 3, .v 4, .v 7] 0) [7]) ρ S = .ok (.obj S.length) (S ++ [.lst ((nearT t u m).map D3)]) := by
  have e0 : evEs (Gk (k + 19)) [.neg (.c (.int (12))), .c (.int (13))] ρ S = .ok [.int (-12), .int 13] S := by
    simp only [evS, evE, evT, evEs, evIfs, evP, asG, asT, asTs, bindok, toSok, ofsome, ofPsome, b_add, b_sub, b_subb, b_mul, b_fdiv, b_mod, cmp_lt, cmp_le, cmp_gt, cmp_ge, cmp_eq, cmp_ne, cmp_eqb, bi_abs, bi_int, bi_intb, bi_lent, bm_bits, bmT, setsI, rbnx, rbrt, Option.map, gc0, gc1, gc2, gc3, gc4, if_true, List.length_cons, List.length_nil, Nat.reduceAdd, dlim, mk_len, evSs, truthD, List.nil_append, List.cons_append]
  have e1 : itD .rng [.int (-12), .int 13] S = some (nearL.map D.int, []) := by
    rw [it_rng2 (-12) 13 S (by rw [big_ok (by decide) (by decide), big_ok (by decide) (by decide)]; rfl), near_rng]
    rfl
  refine ev_lc e0 e1 ?_
  have := lc_all (f := lcf (Gk (k + 19)) (.nm 7) [] (.call 31 [.v 3, .v 4, .v 7] 0) [7] ρ) (gok_nil S) (a := D.int) (b := fun n => D3 (Pt t (Dd t u) m n)) nearL [] (fun n hn => ?_) (by decide)
  · rw [List.nil_append] at this
    rw [this]
    unfold nearT
    rw [List.map_map]
    rfl
  · have hn2 : Bd 200 n := (near_bd n hn).mono (by decide)
    have c31 := w31 (k + 15) t u m n S hR.hD hR.ht hR.hu hn2 hm
    refine lcf_of (ρ' := (ρ.set 7 none).set 7 (some (.int n))) rfl (by rw [evIfs]) ?_
    have f3 : slot ((ρ.set 7 none).set 7 (some (.int n))) 3 = some (.tup [.int t, .int u]) := by rw [slot_ne (by decide), slot_ne (by decide)]; exact h3
    have f4 : slot ((ρ.set 7 none).set 7 (some (.int n))) 4 = some (.int m) := by rw [slot_ne (by decide), slot_ne (by decide)]; exact h4
    have f7 : slot ((ρ.set 7 none).set 7 (some (.int n))) 7 = some (.int n) := slot_eq (by rw [List.length_set]; omega)
    simp only [evS, evE, evT, evEs, evIfs, evP, asG, asT, asTs, bindok, toSok, ofsome, ofPsome, b_add, b_sub, b_subb, b_mul, b_fdiv, b_mod, cmp_lt, cmp_le, cmp_gt, cmp_ge, cmp_eq, cmp_ne, cmp_eqb, bi_abs, bi_int, bi_intb, bi_lent, bm_bits, bmT, setsI, rbnx, rbrt, Option.map, gc0, gc1, gc2, gc3, gc4, if_true, List.length_cons, List.length_nil, Nat.reduceAdd, dlim, mk_len, evSs, truthD, List.nil_append, List.cons_append, f3, f4, f7, c31, dfl0 _ 31 rfl, List.append_nil]
theorem spots_ok (hR : RtOk t u) (hm : Md m) (h : St ρ S t u m ro nr) :
    evE (Gk (k + 19)) (.lc (.nm 8) .sq [.v 6] [] (.call 21 [.v 5, .v 4, .v 8] 0) [8]) ρ S = .ok (.obj S.length) (S ++ [.lst (nearL.map D.int)]) := by
  have e0 : evEs (Gk (k + 19)) [.v 6] ρ S = .ok [.obj nr] S := by
    simp only [evS, evE, evT, evEs, evIfs, evP, asG, asT, asTs, bindok, toSok, ofsome, ofPsome, b_add, b_sub, b_subb, b_mul, b_fdiv, b_mod, cmp_lt, cmp_le, cmp_gt, cmp_ge, cmp_eq, cmp_ne, cmp_eqb, bi_abs, bi_int, bi_intb, bi_lent, bm_bits, bmT, setsI, rbnx, rbrt, Option.map, gc0, gc1, gc2, gc3, gc4, if_true, List.length_cons, List.length_nil, Nat.reduceAdd, dlim, mk_len, evSs, truthD, List.nil_append, List.cons_append, h.s6]
  have e1 := it_sq h.nrAt
  rw [show (nearT t u m).map D3 = nearL.map (fun n => D3 (Pt t (Dd t u) m n)) by unfold nearT; rw [List.map_map]; rfl] at e1
  refine ev_lc e0 e1 ?_
  have hg : gOk [(nr, nearL.map (fun n => D3 (Pt t (Dd t u) m n)))] S = true := by
    have := gok1 h.nrAt
    rw [show (nearT t u m).map D3 = nearL.map (fun n => D3 (Pt t (Dd t u) m n)) by unfold nearT; rw [List.map_map]; rfl] at this
    exact this
  have := lc_all (f := lcf (Gk (k + 19)) (.nm 8) [] (.call 21 [.v 5, .v 4, .v 8] 0) [8] ρ) hg (a := fun n => D3 (Pt t (Dd t u) m n)) (b := D.int) nearL [] (fun n hn => ?_) (by decide)
  · rw [List.nil_append] at this
    exact this
  · have hn2 : Bd 200 n := (near_bd n hn).mono (by decide)
    obtain ⟨hx, hmet, _⟩ := pt_ok hR hm hn2
    have h' := (h.set (show 6 < 8 by decide) none).set (show 6 < 8 by decide) (some (D3 (Pt t (Dd t u) m n)))
    have c := c21 k hR hm h' hx
    rw [hmet] at c
    refine lcf_of (ρ' := (ρ.set 8 none).set 8 (some (D3 (Pt t (Dd t u) m n)))) rfl (by rw [evIfs]) ?_
    have f8 : slot ((ρ.set 8 none).set 8 (some (D3 (Pt t (Dd t u) m n)))) 8 = some (D3 (Pt t (Dd t u) m n)) := slot_eq (by rw [List.length_set, h.len]; decide)
    have hl := h'.s4
    simp only [evS, evE, evT, evEs, evIfs, evP, asG, asT, asTs, bindok, toSok, ofsome, ofPsome, b_add, b_sub, b_subb, b_mul, b_fdiv, b_mod, cmp_lt, cmp_le, cmp_gt, cmp_ge, cmp_eq, cmp_ne, cmp_eqb, bi_abs, bi_int, bi_intb, bi_lent, bm_bits, bmT, setsI, rbnx, rbrt, Option.map, gc0, gc1, gc2, gc3, gc4, if_true, List.length_cons, List.length_nil, Nat.reduceAdd, dlim, mk_len, evSs, truthD, List.nil_append, List.cons_append, h'.s5, h'.s4, f8, c, dfl0 _ 21 rfl, List.append_nil]
    rfl
theorem once_ok (hR : RtOk t u) (hm : Md m) (h : St ρ S t u m ro nr) {sp : Nat} (h17 : slot ρ 17 = some (.obj sp)) (hsp : S[sp]? = some (.lst (nearL.map D.int))) :
    evE (Gk (k + 19)) (.lc (.nm 18) .sq [.v 6] [.cmp .ne (.bm .index (.v 6) [.v 18]) (.bm .index (.v 17) [.call 21 [.v 5, .v 4, .v 18] 0])] (.c (.int (1))) [18]) ρ S = .ok (.obj S.length) (S ++ [.lst []]) := by
  have e0 : evEs (Gk (k + 19)) [.v 6] ρ S = .ok [.obj nr] S := by
    simp only [evS, evE, evT, evEs, evIfs, evP, asG, asT, asTs, bindok, toSok, ofsome, ofPsome, b_add, b_sub, b_subb, b_mul, b_fdiv, b_mod, cmp_lt, cmp_le, cmp_gt, cmp_ge, cmp_eq, cmp_ne, cmp_eqb, bi_abs, bi_int, bi_intb, bi_lent, bm_bits, bmT, setsI, rbnx, rbrt, Option.map, gc0, gc1, gc2, gc3, gc4, if_true, List.length_cons, List.length_nil, Nat.reduceAdd, dlim, mk_len, evSs, truthD, List.nil_append, List.cons_append, h.s6]
  refine ev_lc e0 (it_sq h.nrAt) ?_
  refine lc_none (gok1 h.nrAt) (nearT t u m) fun x hx => ?_
  obtain ⟨i, hi⟩ := List.mem_iff_getElem?.mp hx
  have hi' := hi
  unfold nearT at hi'
  rw [List.getElem?_map, Option.map_eq_some_iff] at hi'
  obtain ⟨n, hn, rfl⟩ := hi'
  have hnm := List.mem_of_getElem? hn
  have hn2 : Bd 200 n := (near_bd n hnm).mono (by decide)
  obtain ⟨hxo, hmet, _⟩ := pt_ok hR hm hn2
  have h' := (h.set (show 6 < 18 by decide) none).set (show 6 < 18 by decide) (some (D3 (Pt t (Dd t u) m n)))
  have c := c21 k hR hm h' hxo
  rw [hmet] at c
  have i1 := index_T3 h.nrAt hi (nearT_nd hR hm)
  have i2 := index_int hsp hn near_nd
  have f18 : slot ((ρ.set 18 none).set 18 (some (D3 (Pt t (Dd t u) m n)))) 18 = some (D3 (Pt t (Dd t u) m n)) := slot_eq (by rw [List.length_set, h.len]; decide)
  have f17 : slot ((ρ.set 18 none).set 18 (some (D3 (Pt t (Dd t u) m n)))) 17 = some (.obj sp) := by rw [slot_ne (by decide), slot_ne (by decide)]; exact h17
  refine lcf_no (ρ' := (ρ.set 18 none).set 18 (some (D3 (Pt t (Dd t u) m n)))) (S' := S) rfl ?_
  have v1 : evE (Gk (k + 19)) (.bm .index (.v 6) [.v 18]) ((ρ.set 18 none).set 18 (some (D3 (Pt t (Dd t u) m n)))) S = .ok (.int (i : Nat)) S := by
    rw [evE, evE, h'.s6, ofsome, bindok, if_pos (bmt_ix h.nrAt), evEs, evE, f18, ofsome, bindok, evEs, bindok, bindok, i1, ofPsome]
  have v2 : evE (Gk (k + 19)) (.call 21 [.v 5, .v 4, .v 18] 0) ((ρ.set 18 none).set 18 (some (D3 (Pt t (Dd t u) m n)))) S = .ok (.int n) S := by
    simp only [evS, evE, evT, evEs, evIfs, evP, asG, asT, asTs, bindok, toSok, ofsome, ofPsome, b_add, b_sub, b_subb, b_mul, b_fdiv, b_mod, cmp_lt, cmp_le, cmp_gt, cmp_ge, cmp_eq, cmp_ne, cmp_eqb, bi_abs, bi_int, bi_intb, bi_lent, bm_bits, bmT, setsI, rbnx, rbrt, Option.map, gc0, gc1, gc2, gc3, gc4, if_true, List.length_cons, List.length_nil, Nat.reduceAdd, dlim, mk_len, evSs, truthD, List.nil_append, List.cons_append, h'.s5, h'.s4, f18, c, dfl0 _ 21 rfl, List.append_nil]
    rfl
  have v3 : evE (Gk (k + 19)) (.bm .index (.v 17) [.call 21 [.v 5, .v 4, .v 18] 0]) ((ρ.set 18 none).set 18 (some (D3 (Pt t (Dd t u) m n)))) S = .ok (.int (i : Nat)) S := by
    rw [evE, evE, f17, ofsome, bindok, if_pos (bmt_ix hsp), evEs, v2, bindok, evEs, bindok, bindok, i2, ofPsome]
  rw [evIfs, evT, v1, bindok, v3, bindok, cmp_ne, decide_eq_true rfl, ofsome, bindok]
  rfl
theorem turn_ok (hl : ρ.length = 21) (h1 : slot ρ 1 = some (.obj 2)) (hb : Bx S 2) : ∃ ρ' S', evSs (Gk (k + 19)) FU turnBody ρ S = .ok .nx ρ' S' ∧ ρ'.length = 21 ∧ slot ρ' 1 = some (.obj 2) ∧ Bx S' 2 := by
  have b3l : ∀ {S : Store}, Bx S 2 → 2 < S.length := fun ⟨_, _, _, o⟩ => (List.getElem?_eq_some_iff.mp o.hb).1
  -- the pair, the modulus
  generalize hS1 : S ++ [SO.lst rootsD] = S1
  have a1 : App S S1 := hS1 ▸ App.one _ _
  have l1 := b3l hb
  obtain ⟨dr, S2, p2, hdr, hb2, k2⟩ := pick_spec (k + 17) 2 S.length rootsD S1 (hb.app a1) (hS1 ▸ last_at _ _) (by omega) (by decide) (by decide)
  obtain ⟨t, u, rfl, hR⟩ := roots_ok dr hdr
  generalize hS3 : S2 ++ [SO.lst [.int 1, .int 2, .int 3, .int 4, .int 6, .int 12]] = S3
  have a3 : App S2 S3 := hS3 ▸ App.one _ _
  have l2 := b3l hb2
  obtain ⟨dm, S4, p4, hdm, hb4, k4⟩ := pick_spec (k + 17) 2 S2.length _ S3 (hb2.app a3) (hS3 ▸ last_at _ _) (by omega) (by decide) (by decide)
  obtain ⟨m, rfl, hm⟩ : ∃ m : Int, dm = .int m ∧ Md m := by
    simp only [List.mem_cons, List.mem_nil_iff, or_false] at hdm
    rcases hdm with rfl | rfl | rfl | rfl | rfl | rfl <;> exact ⟨_, rfl, by decide, by decide⟩
  have c32 := w32 (k + 18) S
  rw [hS1] at c32
  have s1 : evS (Gk (k + 19)) FU (.asg (.t (.tp [.nm 3, .nm 4])) (.tup [.call 24 [.v 1, .call 32 [] 0] 0, .call 24 [.v 1, .lst [.c (.int (1)), .c (.int (2)), .c (.int (3)), .c (.int (4)), .c (.int (6)), .c (.int (12))]] 0])) ρ S = .ok .nx ((ρ.set 3 (some (.tup [.int t, .int u]))).set 4 (some (.int m))) S4 := by
    have v1 : evE (Gk (k + 19)) (.call 24 [.v 1, .call 32 [] 0] 0) ρ S = .ok (.tup [.int t, .int u]) S2 := by
      simp only [evS, evE, evT, evEs, evIfs, evP, asG, asT, asTs, bindok, toSok, ofsome, ofPsome, b_add, b_sub, b_subb, b_mul, b_fdiv, b_mod, cmp_lt, cmp_le, cmp_gt, cmp_ge, cmp_eq, cmp_ne, cmp_eqb, bi_abs, bi_int, bi_intb, bi_lent, bm_bits, bmT, setsI, rbnx, rbrt, Option.map, gc0, gc1, gc2, gc3, gc4, if_true, List.length_cons, List.length_nil, Nat.reduceAdd, dlim, mk_len, evSs, truthD, List.nil_append, List.cons_append, h1, c32, dfl0 _ 32 rfl, dfl0 _ 24 rfl, List.append_nil, p2]
    have v2 : evE (Gk (k + 19)) (.call 24 [.v 1, .lst [.c (.int (1)), .c (.int (2)), .c (.int (3)), .c (.int (4)), .c (.int (6)), .c (.int (12))]] 0) ρ S2 = .ok (.int m) S4 := by
      simp only [evS, evE, evT, evEs, evIfs, evP, asG, asT, asTs, bindok, toSok, ofsome, ofPsome, b_add, b_sub, b_subb, b_mul, b_fdiv, b_mod, cmp_lt, cmp_le, cmp_gt, cmp_ge, cmp_eq, cmp_ne, cmp_eqb, bi_abs, bi_int, bi_intb, bi_lent, bm_bits, bmT, setsI, rbnx, rbrt, Option.map, gc0, gc1, gc2, gc3, gc4, if_true, List.length_cons, List.length_nil, Nat.reduceAdd, dlim, mk_len, evSs, truthD, List.nil_append, List.cons_append, h1, dlim (show 6 ≤ 100 by decide), hS3, dfl0 _ 24 rfl, List.append_nil, p4]
    rw [evS, ev_tup (ds := [.tup [.int t, .int u], .int m]) (S' := S4) (by rw [evEs, v1, bindok, evEs, v2, bindok, evEs, bindok, bindok]) rfl, toSok, asG]
    rfl
  generalize hρ1 : (ρ.set 3 (some (.tup [.int t, .int u]))).set 4 (some (.int m)) = ρ1 at s1
  have len1 : ρ1.length = 21 := by rw [← hρ1, List.length_set, List.length_set]; exact hl
  have q3 : slot ρ1 3 = some (.tup [.int t, .int u]) := by rw [← hρ1, slot_ne (by decide), slot_eq (by omega)]
  have q4 : slot ρ1 4 = some (.int m) := by rw [← hρ1, slot_eq (by rw [List.length_set]; omega)]
  have q1 : slot ρ1 1 = some (.obj 2) := by rw [← hρ1, slot_ne (by decide), slot_ne (by decide)]; exact h1
  -- the root
  have cn := wnew (k + 17) t u S4 hR
  have l4 := b3l hb4
  generalize hS5 : S4 ++ [SO.ins 0 [("t", .int t), ("u", .int u)]] = S5 at cn
  have a5 : App S4 S5 := hS5 ▸ App.one _ _
  have hrt : RootAt S5 S4.length t u := hS5 ▸ last_at _ _
  have s2 : evS (Gk (k + 19)) FU (.asg (.t (.nm 5)) (.mk 0 [.ix (.v 3) (.c (.int (0))), .ix (.v 3) (.c (.int (1)))])) ρ1 S4 = .ok .nx (ρ1.set 5 (some (.obj S4.length))) S5 := by
    simp only [evS, evE, evT, evEs, evIfs, evP, asG, asT, asTs, bindok, toSok, ofsome, ofPsome, b_add, b_sub, b_subb, b_mul, b_fdiv, b_mod, cmp_lt, cmp_le, cmp_gt, cmp_ge, cmp_eq, cmp_ne, cmp_eqb, bi_abs, bi_int, bi_intb, bi_lent, bm_bits, bmT, setsI, rbnx, rbrt, Option.map, gc0, gc1, gc2, gc3, gc4, if_true, List.length_cons, List.length_nil, Nat.reduceAdd, dlim, mk_len, evSs, truthD, List.nil_append, List.cons_append, q3, ix0, ix1, cn]
  -- the points near nought
  have r3 : slot (ρ1.set 5 (some (.obj S4.length))) 3 = some (.tup [.int t, .int u]) := by rw [slot_ne (by decide)]; exact q3
  have r4 : slot (ρ1.set 5 (some (.obj S4.length))) 4 = some (.int m) := by rw [slot_ne (by decide)]; exact q4
  have nk := near_ok (S := S5) k hR hm (ρ := ρ1.set 5 (some (.obj S4.length))) (by rw [List.length_set]; exact len1) r3 r4
  have hb5 := hb4.app a5
  have l5 := b3l hb5
  generalize hS6 : S5 ++ [SO.lst ((nearT t u m).map D3)] = S6 at nk
  have a6 : App S5 S6 := hS6 ▸ App.one _ _
  have s3 : evS (Gk (k + 19)) FU (.asg (.t (.nm 6)) (.lc (.nm 7) .rng [.neg (.c (.int (12))), .c (.int (13))] [] (.call 31 [.v 3, .v 4, .v 7] 0) [7])) (ρ1.set 5 (some (.obj S4.length))) S5 = .ok .nx ((ρ1.set 5 (some (.obj S4.length))).set 6 (some (.obj S5.length))) S6 := by
    rw [evS, nk, toSok, asG]
    rfl
  have t6 : St ((ρ1.set 5 (some (.obj S4.length))).set 6 (some (.obj S5.length))) S6 t u m S4.length S5.length :=
    { len := by rw [List.length_set, List.length_set]; exact len1
      s1 := by rw [slot_ne (by decide), slot_ne (by decide)]; exact q1
      s3 := by rw [slot_ne (by decide)]; exact r3
      s4 := by rw [slot_ne (by decide)]; exact r4
      s5 := by rw [slot_ne (by decide), slot_eq (by omega)]
      s6 := slot_eq (by rw [List.length_set]; omega)
      bx := hb5.app a6
      rt := a6.at_ hrt
      ro2 := by omega
      nrAt := hS6 ▸ last_at _ _
      nr2 := by omega }
  generalize (ρ1.set 5 (some (.obj S4.length))).set 6 (some (.obj S5.length)) = ρ6 at *
  -- the two numbers
  obtain ⟨v7, S7, h7, v70, v71, hb7, k7⟩ := take_spec (k + 18) 2 25 S6 t6.bx (by decide) (by decide)
  obtain ⟨v8, S8, h8, v8b, hb8, k8⟩ := big_spec (k + 16) 2 S7 hb7
  have t8 := t6.step (k7.trans k8) hb8
  generalize hS9 : S8 ++ [SO.lst [.int (v7 - 12), .int v8]] = S9
  have a9 : App S8 S9 := hS9 ▸ App.one _ _
  have hL : S9[S8.length]? = some (.lst [.int (v7 - 12), .int v8]) := hS9 ▸ last_at _ _
  have l8 := b3l hb8
  have hLb : S8.length ≠ 2 := by omega
  have ev9 : evE (Gk (k + 19)) (.lst [.bin .sub (.call 23 [.v 1, .c (.int (25))] 0) (.c (.int (12))), .call 33 [.v 1] 0]) ρ6 S6 = .ok (.obj S8.length) S9 := by
    simp only [evS, evE, evT, evEs, evIfs, evP, asG, asT, asTs, bindok, toSok, ofsome, ofPsome, b_add, b_sub, b_subb, b_mul, b_fdiv, b_mod, cmp_lt, cmp_le, cmp_gt, cmp_ge, cmp_eq, cmp_ne, cmp_eqb, bi_abs, bi_int, bi_intb, bi_lent, bm_bits, bmT, setsI, rbnx, rbrt, Option.map, gc0, gc1, gc2, gc3, gc4, if_true, List.length_cons, List.length_nil, Nat.reduceAdd, dlim, mk_len, evSs, truthD, List.nil_append, List.cons_append, t6.s1, h7, h8, dfl0 _ 23 rfl, dfl0 _ 33 rfl, List.append_nil, dlim (show 2 ≤ 100 by decide), hS9]
  have e140 : (2 : Nat) ^ 140 = 1393796574908163946345982392040522594123776 := by decide
  have u9 := (t8.app a9).set (show 6 < 7 by decide) (some (.int (v7 - 12)))
  obtain ⟨ρ10, S10, h10, t10, k10⟩ := i_ok k hR hm u9 (n := v7 - 12) (by unfold Bd; omega) (slot_eq (by have := t8.len; omega))
  have u10 := t10.set (show 6 < 7 by decide) (some (.int v8))
  obtain ⟨ρ11, S11, h11, t11, k11⟩ := i_ok k hR hm u10 (n := v8) v8b (slot_eq (by have := t10.len; omega))
  have s4 : evS (Gk (k + 19)) FU (.fr (.nm 7) .sq [.lst [.bin .sub (.call 23 [.v 1, .c (.int (25))] 0) (.c (.int (12))), .call 33 [.v 1] 0]] iBody) ρ6 S6 = .ok .nx ρ11 S11 := by
    rw [evS, evEs, ev9, bindok, evEs, bindok, toSok, it_sq hL]
    exact fl_nx (gok1 hL) rfl h10 (fl_nx (gok1 (k10.at_ hL hLb)) rfl h11 (fl_end (gok1 (k11.at_ (k10.at_ hL hLb) hLb))))
  -- the ratios
  obtain ⟨v12, S12, h12, v120, v121, hb12, k12⟩ := take_spec (k + 18) 2 40 S11 t11.bx (by decide) (by decide)
  have t12 := (t11.step k12 hb12).set (show 6 < 12 by decide) (some (.int (2 + v12)))
  have s5 : evS (Gk (k + 19)) FU (.asg (.t (.nm 12)) (.bin .add (.c (.int (2))) (.call 23 [.v 1, .c (.int (40))] 0))) ρ11 S11 = .ok .nx (ρ11.set 12 (some (.int (2 + v12)))) S12 := by
    simp only [evS, evE, evT, evEs, evIfs, evP, asG, asT, asTs, bindok, toSok, ofsome, ofPsome, b_add, b_sub, b_subb, b_mul, b_fdiv, b_mod, cmp_lt, cmp_le, cmp_gt, cmp_ge, cmp_eq, cmp_ne, cmp_eqb, bi_abs, bi_int, bi_intb, bi_lent, bm_bits, bmT, setsI, rbnx, rbrt, Option.map, gc0, gc1, gc2, gc3, gc4, if_true, List.length_cons, List.length_nil, Nat.reduceAdd, dlim, mk_len, evSs, truthD, List.nil_append, List.cons_append, t11.s1, h12, dfl0 _ 23 rfl, List.append_nil]
  have g12 : slot (ρ11.set 12 (some (.int (2 + v12)))) 12 = some (.int (2 + v12)) := slot_eq (by have := t11.len; omega)
  obtain ⟨ρ13, S13, h13, t13, a13⟩ := b_loop k hR hm (bot := 2 + v12) (by omega) ((List.range (2 + v12).toNat).map fun i => (0 : Int) + (i : Nat)) _ S12 t12 g12 (fun i hi => by
    obtain ⟨j, hj, rfl⟩ := List.mem_map.mp hi
    have := List.mem_range.mp hj
    omega)
  have s6 : evS (Gk (k + 19)) FU (.fr (.nm 15) .rng [.v 12] bBody) (ρ11.set 12 (some (.int (2 + v12)))) S12 = .ok .nx ρ13 S13 := by
    rw [evS, evEs, evE, g12, ofsome, bindok, evEs, bindok, toSok, it_rng1 _ _ (big_ok (by omega) (by omega)), rng_map]
    exact h13
  -- the spots
  have sk := spots_ok k hR hm t13
  have hb13 := t13.bx
  generalize hS14 : S13 ++ [SO.lst (nearL.map D.int)] = S14 at sk
  have a14 : App S13 S14 := hS14 ▸ App.one _ _
  have hsp : S14[S13.length]? = some (.lst (nearL.map D.int)) := hS14 ▸ last_at _ _
  have t14 := (t13.app a14).set (show 6 < 17 by decide) (some (.obj S13.length))
  have s7 : evS (Gk (k + 19)) FU (.asg (.t (.nm 17)) (.lc (.nm 8) .sq [.v 6] [] (.call 21 [.v 5, .v 4, .v 8] 0) [8])) ρ13 S13 = .ok .nx (ρ13.set 17 (some (.obj S13.length))) S14 := by
    rw [evS, sk, toSok, asG]
    rfl
  have g17 : slot (ρ13.set 17 (some (.obj S13.length))) 17 = some (.obj S13.length) := slot_eq (by have := t13.len; omega)
  obtain ⟨S15, h15, a15⟩ := is_self' (n := 1) (d := .tup (nearL.map D.int)) (.tup fun d hd => by
    obtain ⟨i, _, rfl⟩ := List.mem_map.mp hd
    exact .int 0 i) (show 1 + 1 ≤ k + 19 by omega) S14
  have t15 := t14.app a15
  have ok := once_ok k hR hm t15 g17 (a15.at_ hsp)
  generalize hS16 : S15 ++ [SO.lst []] = S16 at ok
  have a16 : App S15 S16 := hS16 ▸ App.one _ _
  have hnil : S16[S15.length]? = some (.lst []) := hS16 ▸ last_at _ _
  have t16 := t15.app a16
  refine ⟨ρ13.set 17 (some (.obj S13.length)), S16, ss_nx s1 (ss_nx s2 (ss_nx s3 (ss_nx s4 (ss_nx s5 (ss_nx s6 (ss_nx s7 (ss_nx ?_ ss_nl))))))), t16.len, t16.s1, t16.bx⟩
  have v1 : evE (Gk (k + 19)) (.trg [.neg (.c (.int (12))), .c (.int (13))]) (ρ13.set 17 (some (.obj S13.length))) S14 = .ok (.tup (nearL.map D.int)) S14 := by
    have e0 : evEs (Gk (k + 19)) [.neg (.c (.int (12))), .c (.int (13))] (ρ13.set 17 (some (.obj S13.length))) S14 = .ok [.int (-12), .int 13] S14 := by
      simp only [evS, evE, evT, evEs, evIfs, evP, asG, asT, asTs, bindok, toSok, ofsome, ofPsome, b_add, b_sub, b_subb, b_mul, b_fdiv, b_mod, cmp_lt, cmp_le, cmp_gt, cmp_ge, cmp_eq, cmp_ne, cmp_eqb, bi_abs, bi_int, bi_intb, bi_lent, bm_bits, bmT, setsI, rbnx, rbrt, Option.map, gc0, gc1, gc2, gc3, gc4, if_true, List.length_cons, List.length_nil, Nat.reduceAdd, dlim, mk_len, evSs, truthD, List.nil_append, List.cons_append]
    have e1 : rgOf [.int (-12), .int 13] = some (nearL.map D.int) := by
      rw [near_rng]
      rfl
    rw [evE, e0, bindok, e1]
  have v2 : evE (Gk (k + 19)) (.call 25 [.bi .tuple [.v 17], .trg [.neg (.c (.int (12))), .c (.int (13))]] 0) (ρ13.set 17 (some (.obj S13.length))) S14 = .ok (.bl true) S15 := by
    have v0 : evE (Gk (k + 19)) (.bi .tuple [.v 17]) (ρ13.set 17 (some (.obj S13.length))) S14 = .ok (.tup (nearL.map D.int)) S14 := by
      rw [evE, evEs, evE, g17, ofsome, bindok, evEs, bindok, bindok, tup_lst hsp, ofPsome]
    rw [evE, evEs, v0, bindok, evEs, v1, bindok, evEs, bindok, bindok, bindok, dfl0 _ 25 rfl, List.append_nil]
    exact h15
  have v3 : evE (Gk (k + 19)) (.bi .len [.lc (.nm 18) .sq [.v 6] [.cmp .ne (.bm .index (.v 6) [.v 18]) (.bm .index (.v 17) [.call 21 [.v 5, .v 4, .v 18] 0])] (.c (.int (1))) [18]]) (ρ13.set 17 (some (.obj S13.length))) S15 = .ok (.int 0) S16 := by
    rw [evE, evEs, ok, bindok, evEs, bindok, bindok, len_lst hnil, ofPsome]
    rfl
  have vt : evT (Gk (k + 19)) (.not (.tr (.call 25 [.bi .tuple [.v 17], .trg [.neg (.c (.int (12))), .c (.int (13))]] 0))) (ρ13.set 17 (some (.obj S13.length))) S14 = .ok false S15 := by
    rw [evT, evT, v2, bindok]
    rfl
  have vc : evT (Gk (k + 19)) (.cmp .ne (.bi .len [.lc (.nm 18) .sq [.v 6] [.cmp .ne (.bm .index (.v 6) [.v 18]) (.bm .index (.v 17) [.call 21 [.v 5, .v 4, .v 18] 0])] (.c (.int (1))) [18]]) (.c (.int (0)))) (ρ13.set 17 (some (.obj S13.length))) S15 = .ok false S16 := by
    rw [evT, v3, bindok, evE, bindok, cmp_ne]
    rfl
  rw [evS, evT, vt, bindok, if_neg Bool.false_ne_true, vc, toSok, if_neg Bool.false_ne_true, evSs]
end
theorem turns (k : Nat) : ∀ (ds : List D) (ρ : Env') (S : Store), ρ.length = 21 → slot ρ 1 = some (.obj 2) → Bx S 2 →
    ∃ ρ' S', forL (asT (.nm 2)) (fun ρ S => evSs (Gk (k + 19)) FU turnBody ρ S) [] ds ρ S = .ok .nx ρ' S' ∧ ρ'.length = 21 ∧ slot ρ' 1 = some (.obj 2) ∧ Bx S' 2
  | [], ρ, S, h1, h2, h3 => ⟨ρ, S, fl_end (gok_nil S), h1, h2, h3⟩
  | d :: ds, ρ, S, h1, h2, h3 => by
    obtain ⟨ρ1, S1, g1, g2, g3, g4⟩ := turn_ok k (ρ := ρ.set 2 (some d)) (by rw [List.length_set]; exact h1) (by rw [slot_ne (by decide)]; exact h2) h3
    obtain ⟨ρ2, S2, f1, f2, f3, f4⟩ := turns k ds ρ1 S1 g2 g3 g4
    exact ⟨ρ2, S2, fl_nx (gok_nil S) rfl g1 f1, f2, f3, f4⟩
end L_k13
end

section
set_option maxRecDepth 100000
set_option maxHeartbeats 1000000
set_option exponentiation.threshold 200
namespace L_k13
open MP K13
theorem rt11 : RtOk 1 1 := rt_of 2 (by decide) (by decide) (by decide) (by decide) (by decide) (by decide)
theorem rt02 : RtOk 0 2 := rt_of 2 (by decide) (by decide) (by decide) (by decide) (by decide) (by decide)
theorem p1_ok : PtOk 1 1 (2, -1, 1) := ⟨⟨by decide, by decide, by decide⟩, by decide, by decide, by unfold InU NN; decide⟩
theorem p2_ok : PtOk 1 1 (0, 1, 2) := ⟨⟨by decide, by decide, by decide⟩, by decide, by decide, by unfold InU NN; decide⟩
theorem p3_ok : PtOk 0 2 (0, 1, 2) := ⟨⟨by decide, by decide, by decide⟩, by decide, by decide, by unfold InU NN; decide⟩
theorem law_true (k : Nat) (ns : List Int) (hl : ns.length ≤ 63) (hb : ∀ z ∈ ns, PySem.Builtin.Int.intBits z ≤ 1048576) : ∃ S, (Gk (k + 20)).fn 34 [.lsf (ns.map D.int)] [] = .ok (.bl true) S := by
  obtain ⟨S1, h1, b1, l1⟩ := box_spec (k + 18) ns hl hb
  have hρ0 : startD 21 [.lsf (ns.map D.int)] = some (.lsf (ns.map D.int)) :: List.replicate 20 none := rfl
  generalize hρ : (some (D.lsf (ns.map D.int)) :: List.replicate 20 none : Env') = ρ0 at hρ0
  have len0 : ρ0.length = 21 := by rw [← hρ]; rfl
  have z0 : slot ρ0 0 = some (.lsf (ns.map D.int)) := by rw [← hρ]; rfl
  have s1 : evS (Gk (k + 19)) FU (.asg (.t (.nm 1)) (.call 22 [.v 0, .c (.int (13))] 0)) ρ0 [] = .ok .nx (ρ0.set 1 (some (.obj 2))) S1 := by
    simp only [evS, evE, evT, evEs, evIfs, evP, asG, asT, asTs, bindok, toSok, ofsome, ofPsome, b_add, b_sub, b_subb, b_mul, b_fdiv, b_mod, cmp_lt, cmp_le, cmp_gt, cmp_ge, cmp_eq, cmp_ne, cmp_eqb, bi_abs, bi_int, bi_intb, bi_lent, bm_bits, bmT, setsI, rbnx, rbrt, Option.map, gc0, gc1, gc2, gc3, gc4, if_true, List.length_cons, List.length_nil, Nat.reduceAdd, dlim, mk_len, evSs, truthD, List.nil_append, List.cons_append, z0, h1, dfl0 _ 22 rfl, List.append_nil]
  obtain ⟨ρ2, S2, h2, len2, q2, b2⟩ := turns k (rngL 0 8) (ρ0.set 1 (some (.obj 2))) S1 (by rw [List.length_set]; exact len0) (slot_eq (by omega)) b1
  have s2 : evS (Gk (k + 19)) FU (.fr (.nm 2) .rng [.c (.int (8))] turnBody) (ρ0.set 1 (some (.obj 2))) S1 = .ok .nx ρ2 S2 := by
    rw [evS, evEs, evE, bindok, evEs, bindok, toSok, it_rng1 8 S1 (big_ok (by decide) (by decide))]
    exact h2
  have c1 := wnew (k + 17) 1 1 S2 rt11
  generalize hS3 : S2 ++ [SO.ins 0 [("t", .int 1), ("u", .int 1)]] = S3 at c1
  have a3 : App S2 S3 := hS3 ▸ App.one _ _
  have r3 : RootAt S3 S2.length 1 1 := hS3 ▸ last_at _ _
  have c2 := wnew (k + 17) 0 2 S3 rt02
  generalize hS4 : S3 ++ [SO.ins 0 [("t", .int 0), ("u", .int 2)]] = S4 at c2
  have a4 : App S3 S4 := hS4 ▸ App.one _ _
  have r4 : RootAt S4 S3.length 0 2 := hS4 ▸ last_at _ _
  have r3' : RootAt S4 S2.length 1 1 := a4.at_ r3
  have s3 : evS (Gk (k + 19)) FU (.par [19, 20] [.mk 0 [.c (.int (1)), .c (.int (1))], .mk 0 [.c (.int (0)), .c (.int (2))]]) ρ2 S2 = .ok .nx ((ρ2.set 19 (some (.obj S2.length))).set 20 (some (.obj S3.length))) S4 := by
    simp only [evS, evE, evT, evEs, evIfs, evP, asG, asT, asTs, bindok, toSok, ofsome, ofPsome, b_add, b_sub, b_subb, b_mul, b_fdiv, b_mod, cmp_lt, cmp_le, cmp_gt, cmp_ge, cmp_eq, cmp_ne, cmp_eqb, bi_abs, bi_int, bi_intb, bi_lent, bm_bits, bmT, setsI, rbnx, rbrt, Option.map, gc0, gc1, gc2, gc3, gc4, if_true, List.length_cons, List.length_nil, Nat.reduceAdd, dlim, mk_len, evSs, truthD, List.nil_append, List.cons_append, c1, c2]
  have f19 : slot ((ρ2.set 19 (some (.obj S2.length))).set 20 (some (.obj S3.length))) 19 = some (.obj S2.length) := by rw [slot_ne (by decide), slot_eq (by omega)]
  have f20 : slot ((ρ2.set 19 (some (.obj S2.length))).set 20 (some (.obj S3.length))) 20 = some (.obj S3.length) := slot_eq (by rw [List.length_set]; omega)
  generalize (ρ2.set 19 (some (.obj S2.length))).set 20 (some (.obj S3.length)) = ρ4 at *
  have e1 := w21 (k + 14) S2.length 1 1 1 (2, -1, 1) S4 r3' rt11.hD rt11.ht rt11.hu ⟨by decide, by decide⟩ p1_ok
  have e2 := w21 (k + 14) S2.length 1 1 2 (0, 1, 2) S4 r3' rt11.hD rt11.ht rt11.hu ⟨by decide, by decide⟩ p2_ok
  have e3 := w21 (k + 14) S3.length 0 2 1 (0, 1, 2) S4 r4 rt02.hD rt02.ht rt02.hu ⟨by decide, by decide⟩ p3_ok
  have m1 : met 1 (2, -1, 1) = some (-1) := by decide
  have m2 : met 2 (0, 1, 2) = some 1 := by decide
  have m3 : met 1 (0, 1, 2) = none := by decide
  rw [m1] at e1
  rw [m2] at e2
  rw [m3] at e3
  obtain ⟨S5, h5, a5⟩ := is_self' (n := 1) (d := .tup [.int (-1), .int 1, .non]) (.tup fun d hd => by
    simp only [List.mem_cons, List.mem_nil_iff, or_false] at hd
    rcases hd with rfl | rfl | rfl
    · exact .int 0 _
    · exact .int 0 _
    · exact .non 0) (show 1 + 1 ≤ k + 19 by omega) S4
  refine ⟨S5, ?_⟩
  rw [gfn rfl]
  refine run_rt (f := f34) (ρ0 := ρ0) rfl hρ0 (ss_nx s1 (ss_nx s2 (ss_nx s3 (ss_ret ?_))))
  have g1 : evE (Gk (k + 19)) (.call 21 [.v 19, .c (.int (1)), .tup [.c (.int (2)), .neg (.c (.int (1))), .c (.int (1))]] 0) ρ4 S4 = .ok (.int (-1)) S4 := by
    have e1' : (Gk (k + 19)).fn 21 [.obj S2.length, .int 1, .tup [.int 2, .int (-1), .int 1]] S4 = .ok (.int (-1)) S4 := e1
    simp only [evS, evE, evT, evEs, evIfs, evP, asG, asT, asTs, bindok, toSok, ofsome, ofPsome, b_add, b_sub, b_subb, b_mul, b_fdiv, b_mod, cmp_lt, cmp_le, cmp_gt, cmp_ge, cmp_eq, cmp_ne, cmp_eqb, bi_abs, bi_int, bi_intb, bi_lent, bm_bits, bmT, setsI, rbnx, rbrt, Option.map, gc0, gc1, gc2, gc3, gc4, if_true, List.length_cons, List.length_nil, Nat.reduceAdd, dlim, mk_len, evSs, truthD, List.nil_append, List.cons_append, f19, dlim (show 3 ≤ 100 by decide), dfl0 _ 21 rfl, List.append_nil, e1']
  have g2 : evE (Gk (k + 19)) (.call 21 [.v 19, .c (.int (2)), .tup [.c (.int (0)), .c (.int (1)), .c (.int (2))]] 0) ρ4 S4 = .ok (.int 1) S4 := by
    have e2' : (Gk (k + 19)).fn 21 [.obj S2.length, .int 2, .tup [.int 0, .int 1, .int 2]] S4 = .ok (.int 1) S4 := e2
    simp only [evS, evE, evT, evEs, evIfs, evP, asG, asT, asTs, bindok, toSok, ofsome, ofPsome, b_add, b_sub, b_subb, b_mul, b_fdiv, b_mod, cmp_lt, cmp_le, cmp_gt, cmp_ge, cmp_eq, cmp_ne, cmp_eqb, bi_abs, bi_int, bi_intb, bi_lent, bm_bits, bmT, setsI, rbnx, rbrt, Option.map, gc0, gc1, gc2, gc3, gc4, if_true, List.length_cons, List.length_nil, Nat.reduceAdd, dlim, mk_len, evSs, truthD, List.nil_append, List.cons_append, f19, dlim (show 3 ≤ 100 by decide), dfl0 _ 21 rfl, List.append_nil, e2']
  have g3 : evE (Gk (k + 19)) (.call 21 [.v 20, .c (.int (1)), .tup [.c (.int (0)), .c (.int (1)), .c (.int (2))]] 0) ρ4 S4 = .ok .non S4 := by
    have e3' : (Gk (k + 19)).fn 21 [.obj S3.length, .int 1, .tup [.int 0, .int 1, .int 2]] S4 = .ok .non S4 := e3
    simp only [evS, evE, evT, evEs, evIfs, evP, asG, asT, asTs, bindok, toSok, ofsome, ofPsome, b_add, b_sub, b_subb, b_mul, b_fdiv, b_mod, cmp_lt, cmp_le, cmp_gt, cmp_ge, cmp_eq, cmp_ne, cmp_eqb, bi_abs, bi_int, bi_intb, bi_lent, bm_bits, bmT, setsI, rbnx, rbrt, Option.map, gc0, gc1, gc2, gc3, gc4, if_true, List.length_cons, List.length_nil, Nat.reduceAdd, dlim, mk_len, evSs, truthD, List.nil_append, List.cons_append, f20, dlim (show 3 ≤ 100 by decide), dfl0 _ 21 rfl, List.append_nil, e3']
  have g4 : evE (Gk (k + 19)) (.tup [.call 21 [.v 19, .c (.int (1)), .tup [.c (.int (2)), .neg (.c (.int (1))), .c (.int (1))]] 0, .call 21 [.v 19, .c (.int (2)), .tup [.c (.int (0)), .c (.int (1)), .c (.int (2))]] 0, .call 21 [.v 20, .c (.int (1)), .tup [.c (.int (0)), .c (.int (1)), .c (.int (2))]] 0]) ρ4 S4 = .ok (.tup [.int (-1), .int 1, .non]) S4 := by
    exact ev_tup (by rw [evEs, g1, bindok, evEs, g2, bindok, evEs, g3, bindok, evEs, bindok, bindok, bindok]) rfl
  have g5 : evE (Gk (k + 19)) (.tup [.neg (.c (.int (1))), .c (.int (1)), .c (.non)]) ρ4 S4 = .ok (.tup [.int (-1), .int 1, .non]) S4 := by
    simp only [evS, evE, evT, evEs, evIfs, evP, asG, asT, asTs, bindok, toSok, ofsome, ofPsome, b_add, b_sub, b_subb, b_mul, b_fdiv, b_mod, cmp_lt, cmp_le, cmp_gt, cmp_ge, cmp_eq, cmp_ne, cmp_eqb, bi_abs, bi_int, bi_intb, bi_lent, bm_bits, bmT, setsI, rbnx, rbrt, Option.map, gc0, gc1, gc2, gc3, gc4, if_true, List.length_cons, List.length_nil, Nat.reduceAdd, dlim, mk_len, evSs, truthD, List.nil_append, List.cons_append, dlim (show 3 ≤ 100 by decide)]
  rw [evE, evEs, g4, bindok, evEs, g5, bindok, evEs, bindok, bindok, bindok, dfl0 _ 25 rfl, List.append_nil]
  exact h5
end L_k13
end

theorem PySem.Challenge.cw_rootstairs_k13_whole_ends_met_once_holds : PySem.Challenge.rw_rootstairs_k13_whole_ends_met_once.Holds := by
  exact L_k13.fin fun ns hl hb => L_k13.law_true 0 ns hl hb
