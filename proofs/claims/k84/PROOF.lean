import PyProof.Rows.All
import Wide.All
import OpenK.AllK
import Wide.FinOn
import HandS.ForMost
import HandS.Style
import HandS.Walk
import HandS.TupAny
import HandS.Small
import PyProof.ReprRoads
import HandS.DictComp
import HandS.SortInts
import HandS.TupLen
import HandS.Conv
import HandS.Defaults
import HandS.HeadEnd
import HandS.Zip
import HandS.SetFor
import KE.GoesMore
import KE.GoesZip
import KE.GoesEnumKw
import PyProof.Rows.CallKwBuiltin
import HandS.Set
import HandS.More
import KE.SortKeyHeap
import KE.KDictSum
import PyProof.DictUpdate
import HandS.RaiseMore
import PyProof.Rows.StrJoinMade
import PySem.Challenge.RW_bitloom_k84_whole_clauses_of_graphs
import HandS.Base
import HandS.Call
import HandS.Ends
import HandS.Words
import HandS.WordsExc
import HandS.Head0
import HandS.Head1
import HandS.Head2
import HandS.HeadHook1
import HandS.HeadHook2
set_option Elab.async false
set_option linter.all false
set_option maxRecDepth 100000
set_option maxHeartbeats 4000000
/-! PyD: a layer of data over HandS: tuples are values, lists, dicts, instances stand in a store. -/
namespace PyD
open PySem PySem.Spec PyProof.Rows L2
abbrev Sl := L2.St

inductive D where
  | non | bl (b : Bool) | int (i : Int) | str (x : Str) | ref (a : Addr) | ty (n : String) | tup (ds : List D) | con (ds : List D)

/-- a list that nobody changes: frozen, or an object of the module -/
def ConL (K : PySem.W.Frag) (H : Hp) (a : Addr) (xs : List V) : Prop := (∃ o, H a = some (.frz o (.lst xs))) ∨
    ∃ (o : Obj) (its : Array Value) (n : Nat), K.lookup a = some o ∧ o.cls = .type "list" ∧ o.dict = none ∧ o.data = .seq its n ∧ its.size ≤ sizeLine ∧ Vals xs its.toList
mutual
inductive Rep (K : PySem.W.Frag) (H : Hp) : D → V → Prop
  | non : Rep K H .non .non
  | bl (b : Bool) : Rep K H (.bl b) (.bl b)
  | int (i : Int) : Rep K H (.int i) (.int i)
  | str (x : Str) : Rep K H (.str x) (.str x)
  | ref (a : Addr) : Rep K H (.ref a) (.ref a)
  | ty (n : String) : Rep K H (.ty n) (.ty n)
  | tup {a : Addr} {xs : List V} {ds : List D} : H a = some (.tup xs) → RepL K H ds xs → Rep K H (.tup ds) (.ref a)
  | con {a : Addr} {xs : List V} {ds : List D} : ConL K H a xs → RepL K H ds xs → Rep K H (.con ds) (.ref a)
inductive RepL (K : PySem.W.Frag) (H : Hp) : List D → List V → Prop
  | nil : RepL K H [] []
  | cons {d : D} {ds : List D} {v : V} {vs : List V} : Rep K H d v → RepL K H ds vs → RepL K H (d :: ds) (v :: vs)
end

/-- what goes on standing: tuples, frozen lists -/
structure KeepW (H H' : Hp) : Prop where
  tups : ∀ b xs, H b = some (.tup xs) → H' b = some (.tup xs)
  frzl : ∀ b o xs, H b = some (.frz o (.lst xs)) → H' b = some (.frz o (.lst xs))
/-- .. and all frozen things -/
structure Keep (H H' : Hp) : Prop where
  tups : ∀ b xs, H b = some (.tup xs) → H' b = some (.tup xs)
  frzs : ∀ b o u, H b = some (.frz o u) → H' b = some (.frz o u)
theorem Keep.w {H H' : Hp} (k : Keep H H') : KeepW H H' := ⟨k.tups, fun b o xs h => k.frzs b o _ h⟩
theorem Keep.refl (H : Hp) : Keep H H := ⟨fun _ _ h => h, fun _ _ _ h => h⟩
theorem Keep.trans {H H1 H2 : Hp} (a : Keep H H1) (b : Keep H1 H2) : Keep H H2 := ⟨fun c xs h => b.tups c xs (a.tups c xs h), fun c o u h => b.frzs c o u (a.frzs c o u h)⟩
theorem KeepW.con {K : PySem.W.Frag} {H H' : Hp} (k : KeepW H H') {a : Addr} {xs : List V} (h : ConL K H a xs) : ConL K H' a xs := by
  rcases h with ⟨o, h⟩ | h
  · exact .inl ⟨o, k.frzl _ _ _ h⟩
  · exact .inr h
theorem ConL.seq {K : PySem.W.Frag} {H : Hp} {a : Addr} {xs : List V} (h : ConL K H a xs) : SqL K H a xs := by
  rcases h with ⟨o, h⟩ | h
  · exact .inl (.inr ⟨o, h⟩)
  · exact .inr h
mutual
theorem Rep.keepW {K : PySem.W.Frag} {H H' : Hp} (k : KeepW H H') : ∀ {d : D} {v : V}, Rep K H d v → Rep K H' d v
  | _, _, .non => .non
  | _, _, .bl b => .bl b
  | _, _, .int i => .int i
  | _, _, .str x => .str x
  | _, _, .ref a => .ref a
  | _, _, .ty n => .ty n
  | _, _, .tup s r => .tup (k.tups _ _ s) (RepL.keepW k r)
  | _, _, .con s r => .con (k.con s) (RepL.keepW k r)
theorem RepL.keepW {K : PySem.W.Frag} {H H' : Hp} (k : KeepW H H') : ∀ {ds : List D} {vs : List V}, RepL K H ds vs → RepL K H' ds vs
  | _, _, .nil => .nil
  | _, _, .cons r t => .cons (Rep.keepW k r) (RepL.keepW k t)
end
theorem Rep.keep {K : PySem.W.Frag} {H H' : Hp} {d : D} {v : V} (r : Rep K H d v) (k : Keep H H') : Rep K H' d v := r.keepW k.w
theorem RepL.keep {K : PySem.W.Frag} {H H' : Hp} {d : List D} {v : List V} (r : RepL K H d v) (k : Keep H H') : RepL K H' d v := r.keepW k.w
theorem RepL.length {K : PySem.W.Frag} {H : Hp} : ∀ {ds : List D} {vs : List V}, RepL K H ds vs → ds.length = vs.length
  | _, _, .nil => rfl
  | _, _, .cons _ t => by simp [RepL.length t]
theorem RepL.get {K : PySem.W.Frag} {H : Hp} : ∀ {ds : List D} {vs : List V} {i : Nat} {d : D}, RepL K H ds vs → ds[i]? = some d → ∃ v, vs[i]? = some v ∧ Rep K H d v
  | _, _, _, _, .nil, e => by simp at e
  | _, _, 0, _, .cons r _, e => by simp at e; subst e; exact ⟨_, rfl, r⟩
  | _, _, i + 1, d, .cons _ t, e => by
    obtain ⟨v, h1, h2⟩ := RepL.get (i := i) (d := d) t (by simpa using e)
    exact ⟨v, by simpa using h1, h2⟩
theorem RepL.append {K : PySem.W.Frag} {H : Hp} : ∀ {ds es : List D} {vs ws : List V}, RepL K H ds vs → RepL K H es ws → RepL K H (ds ++ es) (vs ++ ws)
  | _, _, _, _, .nil, s => s
  | _, _, _, _, .cons r t, s => .cons r (RepL.append t s)
theorem RepL.set {K : PySem.W.Frag} {H : Hp} {d : D} {v : V} (r : Rep K H d v) : ∀ {ds : List D} {vs : List V} (i : Nat), RepL K H ds vs → RepL K H (ds.set i d) (vs.set i v)
  | _, _, _, .nil => .nil
  | _, _, 0, .cons _ t => .cons r t
  | _, _, i + 1, .cons q t => .cons q (RepL.set r i t)
theorem RepL.take {K : PySem.W.Frag} {H : Hp} : ∀ {ds : List D} {vs : List V} (n : Nat), RepL K H ds vs → RepL K H (ds.take n) (vs.take n)
  | _, _, 0, _ => .nil
  | _, _, _ + 1, .nil => .nil
  | _, _, n + 1, .cons r t => .cons r (RepL.take n t)
theorem RepL.drop {K : PySem.W.Frag} {H : Hp} : ∀ {ds : List D} {vs : List V} (n : Nat), RepL K H ds vs → RepL K H (ds.drop n) (vs.drop n)
  | _, _, 0, r => r
  | _, _, _ + 1, .nil => .nil
  | _, _, n + 1, .cons _ t => RepL.drop n t
theorem RepL.reverse {K : PySem.W.Frag} {H : Hp} : ∀ {ds : List D} {vs : List V}, RepL K H ds vs → RepL K H ds.reverse vs.reverse
  | _, _, .nil => .nil
  | _, _, .cons r t => by
    rw [List.reverse_cons, List.reverse_cons]
    exact (RepL.reverse t).append (.cons r .nil)
theorem RepL.eraseIdx {K : PySem.W.Frag} {H : Hp} : ∀ {ds : List D} {vs : List V} (i : Nat), RepL K H ds vs → RepL K H (ds.eraseIdx i) (vs.eraseIdx i)
  | _, _, _, .nil => .nil
  | _, _, 0, .cons _ t => t
  | _, _, i + 1, .cons q t => .cons q (RepL.eraseIdx i t)
theorem RepL.dropLast {K : PySem.W.Frag} {H : Hp} {ds : List D} {vs : List V} (h : RepL K H ds vs) : RepL K H ds.dropLast vs.dropLast := by
  rw [List.dropLast_eq_take, List.dropLast_eq_take, h.length]
  exact h.take _
/-- ints -/
theorem RepL.ints {K : PySem.W.Frag} {H : Hp} : ∀ {ns : List Int} {vs : List V}, RepL K H (ns.map D.int) vs → vs = ns.map V.int
  | [], _, .nil => rfl
  | _ :: _, _, .cons r t => by
    cases r
    rw [RepL.ints t]
    rfl
theorem RepL.of_ints {K : PySem.W.Frag} {H : Hp} : ∀ ns : List Int, RepL K H (ns.map D.int) (ns.map V.int)
  | [] => .nil
  | n :: r => .cons (.int n) (RepL.of_ints r)
theorem RepL.bls {K : PySem.W.Frag} {H : Hp} : ∀ {ns : List Bool} {vs : List V}, RepL K H (ns.map D.bl) vs → vs = ns.map V.bl
  | [], _, .nil => rfl
  | _ :: _, _, .cons r t => by
    cases r
    rw [RepL.bls t]
    rfl

/-! ### the store -/
inductive DO where
  | lst (ds : List D) | dK (kvs : List (Key × D)) | dT (kvs : List (List Key × D)) | ins (C : Addr) (fs : List (Str × D)) | fro (o : DO)
abbrev DM := Addr → Option DO
def updM (M : DM) (a : Addr) (o : DO) : DM := fun b => if b = a then some o else M b
@[simp] theorem updM_same {M : DM} {a : Addr} {o : DO} : updM M a o a = some o := by unfold updM; rw [if_pos rfl]
theorem updM_ne {M : DM} {a b : Addr} {o : DO} (h : b ≠ a) : updM M a o b = M b := by unfold updM; rw [if_neg h]
theorem updM_upd {M : DM} {a : Addr} {o u : DO} : updM (updM M a o) a u = updM M a u := by
  funext b; unfold updM; split <;> rfl
theorem ne_of_some_none {M : DM} {a b : Addr} {o : DO} (h : M a = some o) (h' : M b = none) : a ≠ b := by
  intro e; subst e; rw [h] at h'; cases h'
inductive RepKv (K : PySem.W.Frag) (H : Hp) {κ : Type} : List (κ × D) → List (κ × V) → Prop
  | nil : RepKv K H [] []
  | cons {k : κ} {d : D} {ds : List (κ × D)} {v : V} {vs : List (κ × V)} : Rep K H d v → RepKv K H ds vs → RepKv K H ((k, d) :: ds) ((k, v) :: vs)
theorem RepKv.keepW {κ : Type} {K : PySem.W.Frag} {H H' : Hp} (k : KeepW H H') : ∀ {ds : List (κ × D)} {vs : List (κ × V)}, RepKv K H ds vs → RepKv K H' ds vs
  | _, _, .nil => .nil
  | _, _, .cons r t => .cons (r.keepW k) (RepKv.keepW k t)
theorem RepKv.keep {κ : Type} {K : PySem.W.Frag} {H H' : Hp} (k : Keep H H') {ds : List (κ × D)} {vs : List (κ × V)} (r : RepKv K H ds vs) : RepKv K H' ds vs := r.keepW k.w
theorem RepKv.length {κ : Type} {K : PySem.W.Frag} {H : Hp} : ∀ {ds : List (κ × D)} {vs : List (κ × V)}, RepKv K H ds vs → ds.length = vs.length
  | _, _, .nil => rfl
  | _, _, .cons _ t => by simp [RepKv.length t]
theorem RepKv.keys {κ : Type} {K : PySem.W.Frag} {H : Hp} : ∀ {ds : List (κ × D)} {vs : List (κ × V)}, RepKv K H ds vs → vs.map (·.1) = ds.map (·.1)
  | _, _, .nil => rfl
  | _, _, .cons _ t => by simp [RepKv.keys t]
theorem RepKv.append {κ : Type} {K : PySem.W.Frag} {H : Hp} : ∀ {ds es : List (κ × D)} {vs ws : List (κ × V)}, RepKv K H ds vs → RepKv K H es ws → RepKv K H (ds ++ es) (vs ++ ws)
  | _, _, _, _, .nil, s => s
  | _, _, _, _, .cons r t, s => .cons r (RepKv.append t s)

def RepO (K : PySem.W.Frag) (H : Hp) : DO → HO → Prop
  | .lst ds, .lst xs => RepL K H ds xs
  | .dK ks, .dK ws => RepKv K H ks ws
  | .dT ks, .dT ws => RepKv K H ks ws
  | .ins C fs, .ins C' dx ws => C = C' ∧ RepKv K H fs ws
  | .fro o, .frz _ u => RepO K H o u
  | _, _ => False
theorem RepO.keepW {K : PySem.W.Frag} {H H' : Hp} (k : KeepW H H') : ∀ {o : DO} {u : HO}, RepO K H o u → RepO K H' o u := by
  intro o
  induction o with
  | lst ds => intro u h; cases u <;> first | exact RepL.keepW k h | exact h.elim
  | dK ks => intro u h; cases u <;> first | exact RepKv.keepW k h | exact h.elim
  | dT ks => intro u h; cases u <;> first | exact RepKv.keepW k h | exact h.elim
  | ins C fs => intro u h; cases u <;> first | exact ⟨h.1, RepKv.keepW k h.2⟩ | exact h.elim
  | fro o ih => intro u h; cases u <;> first | exact ih h | exact h.elim
theorem RepO.keep {K : PySem.W.Frag} {H H' : Hp} (k : Keep H H') {o : DO} {u : HO} (r : RepO K H o u) : RepO K H' o u := r.keepW k.w
def RelM (K : PySem.W.Frag) (H : Hp) (M : DM) : Prop := ∀ a o, M a = some o → ∃ u, H a = some u ∧ RepO K H o u

section
variable {K : PySem.W.Frag} {H H' : Hp} {M : DM} {a p : Addr}
theorem keep_new (o : HO) (h : H p = none) : Keep H (upd H p o) :=
  ⟨fun b xs e => by rw [upd_ne (ne_of_none e h)]; exact e, fun b x u e => by rw [upd_ne (ne_of_none e h)]; exact e⟩
theorem keep_write {u : HO} (o : HO) (h : H a = some u) (n1 : ∀ xs, u ≠ .tup xs) (n2 : ∀ x y, u ≠ .frz x y) : Keep H (upd H a o) :=
  ⟨fun b xs e => by rw [upd_ne (ne_of e h fun q => n1 _ q.symm)]; exact e, fun b x y e => by rw [upd_ne (ne_of e h fun q => n2 _ _ q.symm)]; exact e⟩
theorem RelM.free (r : RelM K H M) (h : H p = none) : M p = none := by
  cases e : M p with
  | none => rfl
  | some o =>
    obtain ⟨u, q, _⟩ := r p o e
    rw [h] at q
    cases q
/-- a new thing that the store doesn't have (a tuple) -/
theorem RelM.tup (r : RelM K H M) (o : HO) (h : H p = none) : RelM K (upd H p o) M := fun b x e => by
  obtain ⟨u, q, z⟩ := r b x e
  exact ⟨u, by rw [upd_ne (ne_of_none q h)]; exact q, z.keep (keep_new o h)⟩
theorem RelM.new (r : RelM K H M) {d : DO} {o : HO} (h : H p = none) (z : RepO K H d o) : RelM K (upd H p o) (updM M p d) := fun b x e => by
  by_cases hb : b = p
  · subst hb
    rw [updM_same] at e
    cases e
    exact ⟨o, upd_same, z.keep (keep_new o h)⟩
  · rw [updM_ne hb] at e
    exact r.tup o h b x e
theorem RelM.write (r : RelM K H M) {d : DO} {u o : HO} (h : H a = some u) (n1 : ∀ xs, u ≠ .tup xs) (n2 : ∀ x y, u ≠ .frz x y) (z : RepO K H d o) : RelM K (upd H a o) (updM M a d) := fun b x e => by
  have k := keep_write o h n1 n2
  by_cases hb : b = a
  · subst hb
    rw [updM_same] at e
    cases e
    exact ⟨o, upd_same, z.keep k⟩
  · rw [updM_ne hb] at e
    obtain ⟨y, q, t⟩ := r b x e
    exact ⟨y, by rw [upd_ne hb]; exact q, t.keep k⟩
theorem RelM.lst (r : RelM K H M) {ds : List D} (e : M a = some (.lst ds)) : ∃ xs, H a = some (.lst xs) ∧ RepL K H ds xs := by
  obtain ⟨u, q, z⟩ := r a _ e
  cases u <;> first | exact ⟨_, q, z⟩ | exact z.elim
theorem RelM.dk (r : RelM K H M) {ds : List (Key × D)} (e : M a = some (.dK ds)) : ∃ xs, H a = some (.dK xs) ∧ RepKv K H ds xs := by
  obtain ⟨u, q, z⟩ := r a _ e
  cases u <;> first | exact ⟨_, q, z⟩ | exact z.elim
theorem RelM.dt (r : RelM K H M) {ds : List (List Key × D)} (e : M a = some (.dT ds)) : ∃ xs, H a = some (.dT xs) ∧ RepKv K H ds xs := by
  obtain ⟨u, q, z⟩ := r a _ e
  cases u <;> first | exact ⟨_, q, z⟩ | exact z.elim
theorem RelM.ins (r : RelM K H M) {C : Addr} {fs : List (Str × D)} (e : M a = some (.ins C fs)) : ∃ dx xs, H a = some (.ins C dx xs) ∧ RepKv K H fs xs := by
  obtain ⟨u, q, z⟩ := r a _ e
  cases u <;> first | (obtain ⟨rfl, z⟩ := z; exact ⟨_, _, q, z⟩) | exact z.elim
/-- a list that is read -/
inductive RdL (M : DM) (a : Addr) (ds : List D) : Prop
  | at (h : M a = some (.lst ds)) : RdL M a ds
  | fro (h : M a = some (.fro (.lst ds))) : RdL M a ds
theorem RelM.rdL (r : RelM K H M) {ds : List D} (e : RdL M a ds) : ∃ xs, Rd H a (.lst xs) ∧ RepL K H ds xs := by
  rcases e with e | e
  · obtain ⟨xs, q, z⟩ := r.lst e
    exact ⟨xs, .inl q, z⟩
  · obtain ⟨u, q, z⟩ := r a _ e
    cases u with
    | frz o u =>
      cases u <;> first | exact ⟨_, .inr ⟨_, q⟩, z⟩ | exact False.elim z
    | _ => exact False.elim z
theorem RelM.rdK (r : RelM K H M) {ds : List (Key × D)} (e : M a = some (.fro (.dK ds))) : ∃ o xs, H a = some (.frz o (.dK xs)) ∧ RepKv K H ds xs := by
  obtain ⟨u, q, z⟩ := r a _ e
  cases u with
  | frz o u =>
    cases u <;> first | exact ⟨_, _, q, z⟩ | exact False.elim z
  | _ => exact False.elim z
theorem RelM.rdT (r : RelM K H M) {ds : List (List Key × D)} (e : M a = some (.fro (.dT ds))) : ∃ o xs, H a = some (.frz o (.dT xs)) ∧ RepKv K H ds xs := by
  obtain ⟨u, q, z⟩ := r a _ e
  cases u with
  | frz o u =>
    cases u <;> first | exact ⟨_, _, q, z⟩ | exact False.elim z
  | _ => exact False.elim z
end

/-! ### slots -/
abbrev DSt := List (Option D)
@[simp] def getS : DSt → Nat → Option D
  | [], _ => none
  | o :: _, 0 => o
  | _ :: l, i + 1 => getS l i
@[simp] def setS : DSt → Nat → D → DSt
  | [], _, _ => []
  | _ :: l, 0, d => some d :: l
  | o :: l, i + 1, d => o :: setS l i d
@[simp] def clrS : DSt → Nat → DSt
  | [], _ => []
  | _ :: l, 0 => none :: l
  | o :: l, i + 1 => o :: clrS l i
theorem setS_length : ∀ (S : DSt) (i : Nat) (d : D), (setS S i d).length = S.length
  | [], _, _ => rfl
  | _ :: _, 0, _ => rfl
  | _ :: l, i + 1, d => by simp [setS, setS_length l i d]
theorem clrS_length : ∀ (S : DSt) (i : Nat), (clrS S i).length = S.length
  | [], _ => rfl
  | _ :: _, 0 => rfl
  | _ :: l, i + 1 => by simp [clrS, clrS_length l i]
theorem getS_set : ∀ (S : DSt) (i j : Nat) (d e : D), getS (setS S i d) j = some e → (i = j ∧ e = d) ∨ (i ≠ j ∧ getS S j = some e)
  | [], _, _, _, _, h => by simp [setS, getS] at h
  | o :: l, 0, 0, d, e, h => by simp [setS, getS] at h; exact .inl ⟨rfl, h.symm⟩
  | o :: l, 0, j + 1, d, e, h => by simp [setS, getS] at h; exact .inr ⟨by omega, h⟩
  | o :: l, i + 1, 0, d, e, h => by simp [setS, getS] at h; exact .inr ⟨by omega, h⟩
  | o :: l, i + 1, j + 1, d, e, h => by
    simp only [setS, getS] at h ⊢
    rcases getS_set l i j d e h with ⟨h1, h2⟩ | ⟨h1, h2⟩
    · exact .inl ⟨by omega, h2⟩
    · exact .inr ⟨by omega, h2⟩
theorem getS_clr : ∀ (S : DSt) (i j : Nat) (e : D), getS (clrS S i) j = some e → i ≠ j ∧ getS S j = some e
  | [], _, _, _, h => by simp [clrS, getS] at h
  | o :: l, 0, 0, e, h => by simp [clrS, getS] at h
  | o :: l, 0, j + 1, e, h => by simp [clrS, getS] at h; exact ⟨by omega, h⟩
  | o :: l, i + 1, 0, e, h => by simp [clrS, getS] at h; exact ⟨by omega, h⟩
  | o :: l, i + 1, j + 1, e, h => by
    simp only [clrS, getS] at h ⊢
    obtain ⟨h1, h2⟩ := getS_clr l i j e h
    exact ⟨by omega, h2⟩
theorem getS_lt : ∀ {S : DSt} {i : Nat} {d : D}, getS S i = some d → i < S.length
  | [], _, _, h => by simp [getS] at h
  | _ :: _, 0, _, _ => by simp
  | _ :: l, i + 1, d, h => by
    have := getS_lt (S := l) (i := i) (d := d) h
    simp only [List.length_cons]; omega
structure RelS (K : PySem.W.Frag) (H : Hp) (S : DSt) (σ : Sl) : Prop where
  len : S.length = σ.length
  here : ∀ i d, getS S i = some d → ∃ v, σ[i]? = some (some v) ∧ Rep K H d v
section
variable {K : PySem.W.Frag} {H H' : Hp} {S : DSt} {σ : Sl}
theorem RelS.keep (r : RelS K H S σ) (k : Keep H H') : RelS K H' S σ := ⟨r.len, fun i d e => let ⟨v, h, z⟩ := r.here i d e; ⟨v, h, z.keep k⟩⟩
theorem RelS.set (r : RelS K H S σ) {d : D} {v : V} (z : Rep K H d v) (i : Nat) : RelS K H (setS S i d) (σ.set i (some v)) := by
  refine ⟨by rw [setS_length, List.length_set]; exact r.len, fun j e h => ?_⟩
  rcases getS_set S i j d e h with ⟨h1, h2⟩ | ⟨h1, h2⟩
  · subst h1; subst h2
    refine ⟨v, ?_, z⟩
    have : i < σ.length := by
      have := getS_lt h
      rw [setS_length, r.len] at this
      exact this
    simp [this]
  · obtain ⟨w, q, t⟩ := r.here j e h2
    exact ⟨w, by rw [List.getElem?_set_ne h1]; exact q, t⟩
end

/-! ### readings, lifts -/
abbrev DQ := D → DM → Prop
abbrev DE := DSt → DM → DQ → Prop
abbrev DT := DSt → DM → (Bool → DM → Prop) → Prop
abbrev DA := DSt → DM → (List D → DM → Prop) → Prop
/-- what follows is wanted of whatever stands for the answer -/
def Cl (K : PySem.W.Frag) (H : Hp) (R : DQ) (Q : VK) : Prop := ∀ d M' v H', Keep H H' → RelM K H' M' → Rep K H' d v → R d M' → Q v H'
def ClB (K : PySem.W.Frag) (H : Hp) (R : Bool → DM → Prop) (Q : Bool → Hp → Prop) : Prop := ∀ b M' H', Keep H H' → RelM K H' M' → R b M' → Q b H'
def ClA (K : PySem.W.Frag) (H : Hp) (R : List D → DM → Prop) (Q : List V → Hp → Prop) : Prop := ∀ ds M' vs H', Keep H H' → RelM K H' M' → RepL K H' ds vs → R ds M' → Q vs H'
theorem Cl.keep {K : PySem.W.Frag} {H H1 : Hp} {R : DQ} {Q : VK} (c : Cl K H R Q) (k : Keep H H1) : Cl K H1 R Q := fun d M' v H' k' => c d M' v H' (k.trans k')
theorem ClB.keep {K : PySem.W.Frag} {H H1 : Hp} {R : Bool → DM → Prop} {Q : Bool → Hp → Prop} (c : ClB K H R Q) (k : Keep H H1) : ClB K H1 R Q := fun d M' H' k' => c d M' H' (k.trans k')
theorem ClA.keep {K : PySem.W.Frag} {H H1 : Hp} {R : List D → DM → Prop} {Q : List V → Hp → Prop} (c : ClA K H R Q) (k : Keep H H1) : ClA K H1 R Q := fun d M' v H' k' => c d M' v H' (k.trans k')
def LE (K : PySem.W.Frag) (r : DE) : TE := fun σ H Q => ∃ S M R, RelS K H S σ ∧ RelM K H M ∧ r S M R ∧ Cl K H R Q
def LT (K : PySem.W.Frag) (r : DT) : TT := fun σ H Q => ∃ S M R, RelS K H S σ ∧ RelM K H M ∧ r S M R ∧ ClB K H R Q
def LA (K : PySem.W.Frag) (r : DA) : TA := fun σ H Q => ∃ S M R, RelS K H S σ ∧ RelM K H M ∧ r S M R ∧ ClA K H R Q
abbrev D2 := D → D → DM → DQ → Prop
abbrev D1 := D → DM → DQ → Prop
abbrev DC := List D → DM → DQ → Prop
def L2r (K : PySem.W.Frag) (r : D2) : R2 := fun x y H Q => ∃ d e M R, Rep K H d x ∧ Rep K H e y ∧ RelM K H M ∧ r d e M R ∧ Cl K H R Q
def L1r (K : PySem.W.Frag) (r : D1) : V → Hp → VK → Prop := fun x H Q => ∃ d M R, Rep K H d x ∧ RelM K H M ∧ r d M R ∧ Cl K H R Q
def LC (K : PySem.W.Frag) (r : DC) : List V → Hp → VK → Prop := fun xs H Q => ∃ ds M R, RepL K H ds xs ∧ RelM K H M ∧ r ds M R ∧ Cl K H R Q
abbrev DEx (X : Cx) (e : Expr) (r : DE) : Prop := PE X e (LE X.K r)
abbrev DTx (X : Cx) (e : Expr) (r : DT) : Prop := PT X e (LT X.K r)
abbrev DAx (X : Cx) (es : List Expr) (r : DA) : Prop := PA X es (LA X.K r)
abbrev DOp (X : Cx) (f : Value → Value → Sem Value) (r : D2) : Prop := OpR X f (L2r X.K r)
abbrev DUn (X : Cx) (f : Value → Sem Value) (r : D1) : Prop := UnR X f (L1r X.K r)
abbrev DCall (X : Cx) (f : Value) (r : DC) : Prop := CallR X f (LC X.K r)
section
variable {X : Cx}
theorem PE_weak {e : Expr} {t t' : TE} (p : PE X e t) (h : ∀ σ H Q, t' σ H Q → t σ H Q) : PE X e t' := ⟨fun pins s σ H Q I q => p.run pins s σ H Q I (h _ _ _ q)⟩
theorem PT_weak {e : Expr} {t t' : TT} (p : PT X e t) (h : ∀ σ H Q, t' σ H Q → t σ H Q) : PT X e t' := ⟨fun pins s σ H Q I q => p.run pins s σ H Q I (h _ _ _ q)⟩
theorem PW_weak {e : Expr} {t t' : TT} (p : PW X e t) (h : ∀ σ H Q, t' σ H Q → t σ H Q) : PW X e t' := ⟨fun wh pins s σ H Q I q => p.run wh pins s σ H Q I (h _ _ _ q)⟩
theorem PA_weak {e : List Expr} {t t' : TA} (p : PA X e t) (h : ∀ σ H Q, t' σ H Q → t σ H Q) : PA X e t' := ⟨fun pos pins s σ H Q I q => p.run pos pins s σ H Q I (h _ _ _ q)⟩
theorem PS_weak {e : Stmt} {t t' : TS} (p : PS X e t) (h : ∀ D σ H, t' D σ H → t D σ H) : PS X e t' := ⟨fun pins s σ H D I q => p.run pins s σ H D I (h _ _ _ q)⟩
theorem PSs_weak {e : List Stmt} {t t' : TS} (p : PSs X e t) (h : ∀ D σ H, t' D σ H → t D σ H) : PSs X e t' := ⟨fun pins s σ H D I q => p.run pins s σ H D I (h _ _ _ q)⟩
theorem Op_weak {f : Value → Value → Sem Value} {r r' : R2} (p : OpR X f r) (h : ∀ x y H Q, r' x y H Q → r x y H Q) : OpR X f r' := fun pins s σ H x y v u Q I rx ry q => p pins s σ H x y v u Q I rx ry (h _ _ _ _ q)
theorem Un_weak {f : Value → Sem Value} {r r' : V → Hp → VK → Prop} (p : UnR X f r) (h : ∀ x H Q, r' x H Q → r x H Q) : UnR X f r' := fun pins s σ H x v Q I rx q => p pins s σ H x v Q I rx (h _ _ _ q)
theorem Call_weak {f : Value} {r r' : List V → Hp → VK → Prop} (p : CallR X f r) (h : ∀ x H Q, r' x H Q → r x H Q) : CallR X f r' := fun pins s σ H x v Q I rx q => p pins s σ H x v Q I rx (h _ _ _ q)

/-! ### names, constants -/
@[simp] def dVar (i : Nat) : DE := fun S M Q => match getS S i with | some d => Q d M | none => False
@[simp] def dC (d : D) : DE := fun _ M Q => Q d M
theorem dv (i : Nat) {x : Str} {pos : Pos} (hN : X.N[i]? = some x := by rfl) (hv : Vis X.env.scope x := by first | exact Or.inl rfl | exact Or.inr (Or.inl rfl) | exact Or.inr (Or.inr rfl)) (hd : (x == ("__debug__" : Str)) = false := by decide) (hcd : (x == ("__classdict__" : Str)) = false := by decide) :
    DEx X (.Name x pos) (dVar i) := PE_weak (pe_var hN hv hd hcd) fun σ H Q ⟨S, M, R, hS, hM, hr, hc⟩ => by
  unfold dVar at hr
  cases e : getS S i with
  | none => rw [e] at hr; exact hr.elim
  | some d =>
    rw [e] at hr
    obtain ⟨v, q, z⟩ := hS.here i d e
    exact ⟨v, q, hc d M v H (.refl H) hM z hr⟩
theorem de_c {e : Expr} {v : V} {d : D} (p : PE X e (tC v)) (z : ∀ K H, Rep K H d v) : DEx X e (dC d) := PE_weak p fun σ H Q ⟨S, M, R, hS, hM, hr, hc⟩ => hc d M v H (.refl H) hM (z _ _) hr
theorem de_int {i : Int} {j pos} : DEx X (.Constant (.int i) j pos) (dC (.int i)) := de_c pe_int fun _ _ => .int i
theorem de_bl {b : Bool} {j pos} : DEx X (.Constant (.bool b) j pos) (dC (.bl b)) := de_c pe_bl fun _ _ => .bl b
theorem de_non {j pos} : DEx X (.Constant .none j pos) (dC .non) := de_c pe_non fun _ _ => .non
theorem de_str {x : Str} {j pos} : DEx X (.Constant (.str x) j pos) (dC (.str x)) := de_c pe_str fun _ _ => .str x
/-- a built-in type as a value -/
theorem de_ty {x : Str} {n : String} {pos : Pos} (hg : Gl X x) (hm : X.mg x = none) (hv : bootBuiltins x = some (.type n)) (hn : x ≠ "__name__" := by decide) (hd : (x == ("__debug__" : Str)) = false := by decide) : DEx X (.Name x pos) (dC (.ty n)) :=
  de_c (pe_bltn (v := .ty n) hg hm hv rfl hn hd) fun _ _ => .ty n
/-- a module's int -/
theorem de_gint {x : Str} {i : Int} {pos : Pos} (hg : Gl X x) (hm : ∃ t, X.mg x = some (.int i t)) (hd : (x == ("__debug__" : Str)) = false := by decide) : DEx X (.Name x pos) (dC (.int i)) := by
  obtain ⟨t, hm⟩ := hm
  exact de_c (pe_glob (v := .int i) hg hm ⟨t, rfl⟩ hd) fun _ _ => .int i

/-! ### operators -/
variable {a b c : Expr} {ra rb rc : DE} {pos : Pos}
@[simp] def dOp (r : D2) (ra rb : DE) : DE := fun S M Q => ra S M fun d M1 => rb S M1 fun e M2 => r d e M2 Q
@[simp] def dUn (r : D1) (ra : DE) : DE := fun S M Q => ra S M fun d M1 => r d M1 Q
theorem lift_op {r : D2} {σ : Sl} {H : Hp} {Q : VK} (h : LE X.K (dOp r ra rb) σ H Q) : tOp (L2r X.K r) (LE X.K ra) (LE X.K rb) σ H Q := by
  obtain ⟨S, M, R, hS, hM, hr, hc⟩ := h
  exact ⟨S, M, _, hS, hM, hr, fun d M1 v H1 k1 m1 z1 h1 => ⟨S, M1, _, hS.keep k1, m1, h1, fun e M2 w H2 k2 m2 z2 h2 => ⟨d, e, M2, R, z1.keep k2, z2, m2, h2, hc.keep (k1.trans k2)⟩⟩⟩
theorem de_op {op : Operator} {r : D2} (ho : DOp X (binaryOp op) r) (ha : DEx X a ra) (hb : DEx X b rb) : DEx X (.BinOp a op b pos) (dOp r ra rb) :=
  PE_weak (pe_op ho ha hb) fun _ _ _ h => lift_op h
theorem de_un {op : UnaryOp} {r : D1} (ho : DUn X (unaryOp op) r) (ha : DEx X a ra) : DEx X (.UnaryOp op a pos) (dUn r ra) :=
  PE_weak (pe_un ho ha) fun _ _ _ ⟨S, M, R, hS, hM, hr, hc⟩ => ⟨S, M, _, hS, hM, hr, fun d M1 v H1 k1 m1 z1 h1 => ⟨d, M1, R, z1, m1, h1, hc.keep k1⟩⟩
theorem de_cmp {op : CmpOp} {r : D2} (ho : DOp X (compareOp op) r) (ha : DEx X a ra) (hb : DEx X b rb) (hm : behindInMarks op b = false) : DEx X (.Compare a [op] [b] pos) (dOp r ra rb) :=
  PE_weak (pe_cmpR ho ha hb hm) fun _ _ _ h => lift_op h
/-- a bool's value as a test -/
@[simp] def dB (ra : DE) : DT := fun S M Q => ra S M fun d M1 => match d with | .bl b => Q b M1 | _ => False
theorem lift_b {σ : Sl} {H : Hp} {Q : Bool → Hp → Prop} (h : LT X.K (dB ra) σ H Q) : tB (LE X.K ra) σ H Q := by
  obtain ⟨S, M, R, hS, hM, hr, hc⟩ := h
  refine ⟨S, M, _, hS, hM, hr, fun d M1 v H1 k1 m1 z1 h1 => ?_⟩
  cases d <;> first | exact h1.elim | (cases z1; exact ⟨_, rfl, hc _ M1 H1 k1 m1 h1⟩)
theorem dt_b (ha : DEx X a ra) (he : ∀ whole, isTrue a X.env whole = (do let v ← whole; standAt a.pos; holding [v] (truthy v)) := by intro _; rfl) : DTx X a (dB ra) := PT_weak (pt_val ha he) fun _ _ _ h => lift_b h
theorem dt_cmp {op : CmpOp} {r : D2} (ho : DOp X (compareOp op) r) (ha : DEx X a ra) (hb : DEx X b rb) (hm : behindInMarks op b = false) : DTx X (.Compare a [op] [b] pos) (dB (dOp r ra rb)) :=
  PT_weak (pt_cmpR ho ha hb hm) fun _ _ _ h => by
    obtain ⟨S, M, R, hS, hM, hr, hc⟩ := h
    refine ⟨S, M, _, hS, hM, hr, fun d M1 v H1 k1 m1 z1 h1 => ⟨S, M1, _, hS.keep k1, m1, h1, fun e M2 w H2 k2 m2 z2 h2 => ⟨d, e, M2, _, z1.keep k2, z2, m2, h2, fun f M3 x H3 k3 m3 z3 h3 => ?_⟩⟩⟩
    cases f <;> first | exact h3.elim | (cases z3; exact ⟨_, rfl, hc _ M3 H3 (k1.trans (k2.trans k3)) m3 h3⟩)
/-- a chain of two comparisons -/
@[simp] def dChain (r r' : D2) (ra rb rc : DE) : DE := fun S M Q => ra S M fun d M1 => rb S M1 fun e M2 => r d e M2 fun z M3 => match z with
  | .bl k => if k = true then rc S M3 fun f M4 => r' e f M4 Q else Q (.bl false) M3
  | _ => False
theorem lift_chain {r r' : D2} {σ : Sl} {H : Hp} {Q : VK} (h : LE X.K (dChain r r' ra rb rc) σ H Q) : tChain (L2r X.K r) (L2r X.K r') (LE X.K ra) (LE X.K rb) (LE X.K rc) σ H Q := by
  obtain ⟨S, M, R, hS, hM, hr, hc⟩ := h
  refine ⟨S, M, _, hS, hM, hr, fun d M1 v H1 k1 m1 z1 h1 => ⟨S, M1, _, hS.keep k1, m1, h1, fun e M2 w H2 k2 m2 z2 h2 => ⟨d, e, M2, _, z1.keep k2, z2, m2, h2, fun f M3 x H3 k3 m3 z3 h3 => ?_⟩⟩⟩
  cases f with
  | bl k =>
    cases z3
    refine ⟨k, rfl, ?_⟩
    cases k with
    | true => exact ⟨S, M3, _, hS.keep (k1.trans (k2.trans k3)), m3, h3, fun g M4 y H4 k4 m4 z4 h4 => ⟨e, g, M4, R, (z2.keep k3).keep k4, z4, m4, h4, hc.keep (k1.trans (k2.trans (k3.trans k4)))⟩⟩
    | false => exact hc _ M3 _ H3 (k1.trans (k2.trans k3)) m3 (.bl false) h3
  | _ => exact h3.elim
theorem de_chain {op op' : CmpOp} {r r' : D2} (ho : DOp X (compareOp op) r) (ho' : DOp X (compareOp op') r') (ha : DEx X a ra) (hb : DEx X b rb) (hc : DEx X c rc) (hm : lastMarks [op, op'] [b, c] = false := by with_unfolding_all rfl) :
    DEx X (.Compare a [op, op'] [b, c] pos) (dChain r r' ra rb rc) := PE_weak (pe_chain ho ho' ha hb hc hm) fun _ _ _ h => lift_chain h

/-! ### and, or, not, if -/
variable {rest : List Expr} {tA tB' : DT}
@[simp] def dNot (t : DT) : DT := fun S M Q => t S M fun c M1 => Q (!c) M1
@[simp] def dAnd (t u : DT) : DT := fun S M Q => t S M fun c M1 => if c = true then u S M1 Q else Q false M1
@[simp] def dOr (t u : DT) : DT := fun S M Q => t S M fun c M1 => if c = true then Q true M1 else u S M1 Q
abbrev DWx (X : Cx) (e : Expr) (r : DT) : Prop := PW X e (LT X.K r)
theorem dt_not (ha : DTx X a tA) : DTx X (.UnaryOp .Not a pos) (dNot tA) := PT_weak (pt_not ha) fun _ _ _ ⟨S, M, R, hS, hM, hr, hc⟩ => ⟨S, M, _, hS, hM, hr, fun b M1 H1 k1 m1 h1 => hc _ M1 H1 k1 m1 h1⟩
theorem dw_and1 (ha : DTx X a tA) : DWx X (.BoolOp .And [a] pos) tA := pw_and1 ha
theorem dw_or1 (ha : DTx X a tA) : DWx X (.BoolOp .Or [a] pos) tA := pw_or1 ha
theorem dw_and (ha : DTx X a tA) (hb : DWx X (.BoolOp .And (b :: rest) pos) tB') : DWx X (.BoolOp .And (a :: b :: rest) pos) (dAnd tA tB') :=
  PW_weak (pw_and ha hb) fun _ _ _ ⟨S, M, R, hS, hM, hr, hc⟩ => ⟨S, M, _, hS, hM, hr, fun b M1 H1 k1 m1 h1 => by
    cases b with
    | true => exact ⟨S, M1, R, hS.keep k1, m1, h1, hc.keep k1⟩
    | false => exact hc _ M1 H1 k1 m1 h1⟩
theorem dw_or (ha : DTx X a tA) (hb : DWx X (.BoolOp .Or (b :: rest) pos) tB') : DWx X (.BoolOp .Or (a :: b :: rest) pos) (dOr tA tB') :=
  PW_weak (pw_or ha hb) fun _ _ _ ⟨S, M, R, hS, hM, hr, hc⟩ => ⟨S, M, _, hS, hM, hr, fun b M1 H1 k1 m1 h1 => by
    cases b with
    | false => exact ⟨S, M1, R, hS.keep k1, m1, h1, hc.keep k1⟩
    | true => exact hc _ M1 H1 k1 m1 h1⟩
theorem dt_w (h : DWx X a tA) : DTx X a tA := PW.pt h
/-- .. as values (bools) -/
@[simp] def dAndV (ra rb : DE) : DE := fun S M Q => ra S M fun d M1 => match d with | .bl c => if c = true then rb S M1 Q else Q (.bl false) M1 | _ => False
@[simp] def dOrV (ra rb : DE) : DE := fun S M Q => ra S M fun d M1 => match d with | .bl c => if c = true then Q (.bl true) M1 else rb S M1 Q | _ => False
@[simp] def dNotV (ra : DE) : DE := fun S M Q => ra S M fun d M1 => match d with | .bl c => Q (.bl (!c)) M1 | _ => False
theorem de_one {op} {r : DE} (h : DEx X a r) : DEx X (.BoolOp op [a] pos) r := pe_one h
theorem de_and (ha : DEx X a ra) (hb : DEx X (.BoolOp .And (b :: rest) pos) rb) : DEx X (.BoolOp .And (a :: b :: rest) pos) (dAndV ra rb) :=
  PE_weak (pe_and ha hb) fun _ _ _ ⟨S, M, R, hS, hM, hr, hc⟩ => ⟨S, M, _, hS, hM, hr, fun d M1 v H1 k1 m1 z1 h1 => by
    cases d with
    | bl k =>
      cases z1
      refine ⟨k, rfl, ?_⟩
      cases k with
      | true => exact ⟨S, M1, R, hS.keep k1, m1, h1, hc.keep k1⟩
      | false => exact hc _ M1 _ H1 k1 m1 (.bl false) h1
    | _ => exact h1.elim⟩
theorem de_or (ha : DEx X a ra) (hb : DEx X (.BoolOp .Or (b :: rest) pos) rb) : DEx X (.BoolOp .Or (a :: b :: rest) pos) (dOrV ra rb) :=
  PE_weak (pe_or ha hb) fun _ _ _ ⟨S, M, R, hS, hM, hr, hc⟩ => ⟨S, M, _, hS, hM, hr, fun d M1 v H1 k1 m1 z1 h1 => by
    cases d with
    | bl k =>
      cases z1
      refine ⟨k, rfl, ?_⟩
      cases k with
      | false => exact ⟨S, M1, R, hS.keep k1, m1, h1, hc.keep k1⟩
      | true => exact hc _ M1 _ H1 k1 m1 (.bl true) h1
    | _ => exact h1.elim⟩
theorem de_not (ha : DEx X a ra) : DEx X (.UnaryOp .Not a pos) (dNotV ra) :=
  PE_weak (pe_not ha) fun _ _ _ ⟨S, M, R, hS, hM, hr, hc⟩ => ⟨S, M, _, hS, hM, hr, fun d M1 v H1 k1 m1 z1 h1 => by
    cases d with
    | bl k => cases z1; exact ⟨k, rfl, hc _ M1 _ H1 k1 m1 (.bl _) h1⟩
    | _ => exact h1.elim⟩
@[simp] def dIfE (t : DT) (ra rb : DE) : DE := fun S M Q => t S M fun c M1 => if c = true then ra S M1 Q else rb S M1 Q
theorem de_if (hc : DTx X c tA) (ha : DEx X a ra) (hb : DEx X b rb) : DEx X (.IfExp c a b pos) (dIfE tA ra rb) :=
  PE_weak (pe_ifExp hc ha hb) fun _ _ _ ⟨S, M, R, hS, hM, hr, hcl⟩ => ⟨S, M, _, hS, hM, hr, fun k M1 H1 k1 m1 h1 => by
    cases k with
    | true => exact ⟨S, M1, R, hS.keep k1, m1, h1, hcl.keep k1⟩
    | false => exact ⟨S, M1, R, hS.keep k1, m1, h1, hcl.keep k1⟩⟩

/-! ### arguments, displays -/
variable {e : Expr} {es : List Expr} {re : DE} {rs : DA}
@[simp] def dNil : DA := fun _ M Q => Q [] M
@[simp] def dCons (re : DE) (rs : DA) : DA := fun S M Q => re S M fun d M1 => rs S M1 fun ds M2 => Q (d :: ds) M2
theorem da_nil : DAx X [] dNil := PA_weak pa_nil fun _ H _ ⟨S, M, R, hS, hM, hr, hc⟩ => hc [] M [] H (.refl H) hM .nil hr
theorem da_cons (ha : DEx X e re) (hr : DAx X es rs) (hs : starEach (e :: es) X.env = (false, eval e X.env) :: starEach es X.env := by rfl) : DAx X (e :: es) (dCons re rs) :=
  PA_weak (pa_cons ha hr hs) fun _ _ _ ⟨S, M, R, hS, hM, hr, hc⟩ => ⟨S, M, _, hS, hM, hr, fun d M1 v H1 k1 m1 z1 h1 => ⟨S, M1, _, hS.keep k1, m1, h1, fun ds M2 vs H2 k2 m2 z2 h2 => hc _ M2 _ H2 (k1.trans k2) m2 (.cons (z1.keep k2) z2) h2⟩⟩
@[simp] def dTup (rs : DA) : DE := fun S M Q => rs S M fun ds M1 => ds.length ≤ sizeLine ∧ Q (.tup ds) M1
@[simp] def dLst (rs : DA) : DE := fun S M Q => rs S M fun ds M1 => ds.length ≤ sizeLine ∧ ∀ p, M1 p = none → Q (.ref p) (updM M1 p (.lst ds))
theorem rep_tup {K : PySem.W.Frag} {H : Hp} {p : Addr} {ds : List D} {xs : List V} (h : H p = none) (r : RepL K H ds xs) : Rep K (upd H p (.tup xs)) (.tup ds) (.ref p) := .tup upd_same (r.keep (keep_new _ h))
theorem de_tup {x1} (h : DAx X es rs) : DEx X (.Tuple es x1 pos) (dTup rs) :=
  PE_weak (pe_tup h) fun _ _ _ ⟨S, M, R, hS, hM, hr, hc⟩ => ⟨S, M, _, hS, hM, hr, fun ds M1 vs H1 k1 m1 z1 h1 => ⟨by rw [← z1.length]; exact h1.1, fun p hp => hc _ M1 _ _ (k1.trans (keep_new _ hp)) (m1.tup _ hp) (rep_tup hp z1) h1.2⟩⟩
theorem de_lst (h : DAx X es rs) : DEx X (.List es pos) (dLst rs) :=
  PE_weak (pe_lst h) fun _ _ _ ⟨S, M, R, hS, hM, hr, hc⟩ => ⟨S, M, _, hS, hM, hr, fun ds M1 vs H1 k1 m1 z1 h1 => ⟨by rw [← z1.length]; exact h1.1, fun p hp =>
    hc _ _ _ _ (k1.trans (keep_new _ hp)) (m1.new (d := .lst ds) (o := .lst vs) hp z1) (.ref p) (h1.2 p (m1.free hp))⟩⟩
end
end PyD

namespace PyD
open PySem PySem.Spec PyProof.Rows L2
section
variable {X : Cx}
/-! ### operators by data -/
def dAdd : D2
  | .int i, .int j, M, Q => Q (.int (i + j)) M
  | .str i, .str j, M, Q => i.length + j.length ≤ sizeLine ∧ Q (.str (i ++ j)) M
  | .tup xs, .tup ys, M, Q => xs.length + ys.length ≤ sizeLine ∧ Q (.tup (xs ++ ys)) M
  | .ref a, .ref b, M, Q => match M a, M b with
    | some (.lst xs), some (.lst ys) => xs.length + ys.length ≤ sizeLine ∧ ∀ p, M p = none → Q (.ref p) (updM M p (.lst (xs ++ ys)))
    | _, _ => False
  | _, _, _, _ => False
theorem dop_add : DOp X (binaryOp .Add) dAdd := Op_weak (op_add.or (op_add_str.or (op_catA.or op_cat))) fun x y H Q ⟨d, e, M, R, z1, z2, hM, h, hc⟩ => by
  cases d with
  | int i =>
    cases e with
    | int j => cases z1; cases z2; exact .inl ⟨i, j, rfl, rfl, hc _ M _ H (.refl H) hM (.int _) h⟩
    | _ => exact h.elim
  | str i =>
    cases e with
    | str j => cases z1; cases z2; exact .inr (.inl ⟨i, j, rfl, rfl, h.1, hc _ M _ H (.refl H) hM (.str _) h.2⟩)
    | _ => exact h.elim
  | tup i =>
    cases e with
    | tup j =>
      obtain ⟨hz, h⟩ := h
      cases z1 with
      | @tup a xs _ s1 r1 =>
        cases z2 with
        | @tup b ys _ s2 r2 =>
          refine .inr (.inr (.inl ⟨a, b, xs, ys, rfl, rfl, SqT.of s1, SqT.of s2, by rw [← r1.length, ← r2.length]; exact hz, fun e => ?_, fun e e' => ?_, fun e e' p hp => ?_⟩))
          · subst e
            cases r1
            exact hc _ M _ H (.refl H) hM (.tup s2 r2) h
          · subst e'
            cases r2
            rw [List.append_nil] at h
            exact hc _ M _ H (.refl H) hM (.tup s1 r1) h
          · exact hc _ M _ _ (keep_new _ hp) (hM.tup _ hp) (rep_tup hp (r1.append r2)) h
    | _ => exact h.elim
  | ref a =>
    cases e with
    | ref b =>
      cases z1; cases z2
      unfold dAdd at h
      simp only at h
      split at h
      · rename_i xs ys e1 e2
        obtain ⟨us, q1, r1⟩ := hM.lst e1
        obtain ⟨vs, q2, r2⟩ := hM.lst e2
        refine .inr (.inr (.inr ⟨a, b, us, vs, rfl, rfl, q1, q2, by rw [← r1.length, ← r2.length]; exact h.1, fun p hp => ?_⟩))
        exact hc _ _ _ _ (keep_new _ hp) (hM.new hp (d := .lst (xs ++ ys)) (r1.append r2)) (.ref p) (h.2 p (hM.free hp))
      · exact h.elim
    | _ => exact h.elim
  | _ => exact h.elim
/-- two ints -/
@[simp] def dI2 (C : Int → Int → Prop) (g : Int → Int → D) : D2
  | .int i, .int j, M, Q => C i j ∧ Q (g i j) M
  | _, _, _, _ => False
theorem dop_I {f : Value → Value → Sem Value} {C : Int → Int → Prop} {g : Int → Int → Int} (h : OpR X f (rI C fun i j => .int (g i j))) : DOp X f (dI2 C fun i j => .int (g i j)) :=
  Op_weak h fun x y H Q ⟨d, e, M, R, z1, z2, hM, h, hc⟩ => by
    cases d with
    | int i =>
      cases e with
      | int j => cases z1; cases z2; exact ⟨i, j, rfl, rfl, h.1, hc _ M _ H (.refl H) hM (.int _) h.2⟩
      | _ => exact h.elim
    | _ => exact h.elim
@[simp] def dI0 (g : Int → Int → Int) : D2
  | .int i, .int j, M, Q => Q (.int (g i j)) M
  | _, _, _, _ => False
theorem dop_I0 {f : Value → Value → Sem Value} {g : Int → Int → Int} (h : OpR X f (rI0 fun i j => .int (g i j))) : DOp X f (dI0 g) :=
  Op_weak h fun x y H Q ⟨d, e, M, R, z1, z2, hM, h, hc⟩ => by
    cases d with
    | int i =>
      cases e with
      | int j => cases z1; cases z2; exact ⟨i, j, rfl, rfl, hc _ M _ H (.refl H) hM (.int _) h⟩
      | _ => exact h.elim
    | _ => exact h.elim
@[simp] def dB0 (g : Int → Int → Bool) : D2
  | .int i, .int j, M, Q => Q (.bl (g i j)) M
  | _, _, _, _ => False
theorem dop_B0 {f : Value → Value → Sem Value} {g : Int → Int → Bool} (h : OpR X f (rI0 fun i j => .bl (g i j))) : DOp X f (dB0 g) :=
  Op_weak h fun x y H Q ⟨d, e, M, R, z1, z2, hM, h, hc⟩ => by
    cases d with
    | int i =>
      cases e with
      | int j => cases z1; cases z2; exact ⟨i, j, rfl, rfl, hc _ M _ H (.refl H) hM (.bl _) h⟩
      | _ => exact h.elim
    | _ => exact h.elim
abbrev dSub : D2 := dI0 fun i j => i - j
abbrev dFDiv : D2 := dI2 CDiv fun i j => .int (i / j)
abbrev dMod : D2 := dI2 (fun _ j => 0 < j) fun i j => .int (i % j)
abbrev dPow : D2 := dI2 CPow fun i j => .int (i ^ j.toNat)
abbrev dShl : D2 := dI2 CPow fun i j => .int (i * 2 ^ j.toNat)
abbrev dShr : D2 := dI2 (fun _ j => 0 ≤ j) fun i j => .int (i / 2 ^ j.toNat)
abbrev dBand : D2 := dI0 fun i j => Builtin.bitAnd i j
abbrev dBxor : D2 := dI0 fun i j => Builtin.bitXor i j
theorem dop_sub : DOp X (binaryOp .Sub) dSub := dop_I0 op_sub
theorem dop_fdiv : DOp X (binaryOp .FloorDiv) dFDiv := dop_I op_fdiv
theorem dop_mod : DOp X (binaryOp .Mod) dMod := dop_I op_mod
theorem dop_pow : DOp X (binaryOp .Pow) dPow := dop_I op_pow
theorem dop_shl : DOp X (binaryOp .LShift) dShl := dop_I op_shl
theorem dop_shr : DOp X (binaryOp .RShift) dShr := dop_I op_shr
theorem dop_band : DOp X (binaryOp .BitAnd) dBand := dop_I0 op_and
theorem dop_bxor : DOp X (binaryOp .BitXor) dBxor := dop_I0 op_xor
/-- * : ints, a list times an int -/
def dMul : D2
  | .int i, .int j, M, Q => CMul i j ∧ Q (.int (i * j)) M
  | .ref a, .int k, M, Q => match M a with
    | some (.lst xs) => (-(2 ^ 63) ≤ k ∧ k < 2 ^ 63 ∧ xs.length * k.toNat ≤ sizeLine) ∧ ∀ p, M p = none → Q (.ref p) (updM M p (.lst (List.replicate k.toNat xs).flatten))
    | _ => False
  | _, _, _, _ => False
theorem RepL.rep {K : PySem.W.Frag} {H : Hp} {xs : List D} {vs : List V} (h : RepL K H xs vs) : ∀ k : Nat, RepL K H (List.replicate k xs).flatten (List.replicate k vs).flatten
  | 0 => .nil
  | k + 1 => by
    rw [List.replicate_succ, List.replicate_succ, List.flatten_cons, List.flatten_cons]
    exact h.append (RepL.rep h k)
theorem dop_mul : DOp X (binaryOp .Mult) dMul := Op_weak (op_mul.or op_rep) fun x y H Q ⟨d, e, M, R, z1, z2, hM, h, hc⟩ => by
  cases d with
  | int i =>
    cases e with
    | int j => cases z1; cases z2; exact .inl ⟨i, j, rfl, rfl, h.1, hc _ M _ H (.refl H) hM (.int _) h.2⟩
    | _ => exact h.elim
  | ref a =>
    cases e with
    | int k =>
      cases z1; cases z2
      unfold dMul at h
      simp only at h
      split at h
      · rename_i xs e1
        obtain ⟨us, q1, r1⟩ := hM.lst e1
        obtain ⟨⟨h1, h2, h3⟩, h⟩ := h
        refine .inr ⟨a, k, us, rfl, rfl, q1, h1, h2, by rw [← r1.length]; exact h3, fun p hp => ?_⟩
        exact hc _ _ _ _ (keep_new _ hp) (hM.new hp (d := .lst (List.replicate k.toNat xs).flatten) (r1.rep _)) (.ref p) (h p (hM.free hp))
      · exact h.elim
    | _ => exact h.elim
  | _ => exact h.elim
@[simp] def dNeg : D1
  | .int i, M, Q => Q (.int (-i)) M
  | _, _, _ => False
theorem dun_neg : DUn X (unaryOp .USub) dNeg := Un_weak un_neg fun x H Q ⟨d, M, R, z, hM, h, hc⟩ => by
  cases d with
  | int i => cases z; exact ⟨i, rfl, hc _ M _ H (.refl H) hM (.int _) h⟩
  | _ => exact h.elim
abbrev dLt : D2 := dB0 fun i j => decide (i < j)
abbrev dLe : D2 := dB0 fun i j => decide (i ≤ j)
abbrev dGt : D2 := dB0 fun i j => decide (j < i)
abbrev dGe : D2 := dB0 fun i j => decide (j ≤ i)
theorem dop_lt : DOp X (compareOp .Lt) dLt := dop_B0 op_lt
theorem dop_le : DOp X (compareOp .LtE) dLe := dop_B0 op_le
theorem dop_gt : DOp X (compareOp .Gt) dGt := dop_B0 op_gt
theorem dop_ge : DOp X (compareOp .GtE) dGe := dop_B0 op_ge

/-! ### whole data -/
mutual
inductive Deep (M : DM) : D → PyData → Prop
  | non : Deep M .non .none
  | bl (b : Bool) : Deep M (.bl b) (.bool b)
  | int (i : Int) : Deep M (.int i) (.int i)
  | str (x : Str) : Deep M (.str x) (.str x)
  | tup {ds : List D} {ps : List PyData} : DeepL M ds ps → Deep M (.tup ds) (.tuple ps)
  | con {ds : List D} {ps : List PyData} : DeepL M ds ps → Deep M (.con ds) (.list ps)
  | lst {a : Addr} {ds : List D} {ps : List PyData} : M a = some (.lst ds) → DeepL M ds ps → Deep M (.ref a) (.list ps)
inductive DeepL (M : DM) : List D → List PyData → Prop
  | nil : DeepL M [] []
  | cons {d : D} {ds : List D} {p : PyData} {ps : List PyData} : Deep M d p → DeepL M ds ps → DeepL M (d :: ds) (p :: ps)
end
mutual
theorem Deep.dp {K : PySem.W.Frag} {H : Hp} {M : DM} (hM : RelM K H M) : ∀ (p : PyData) {d : D} {v : V}, Deep M d p → Rep K H d v → Dp K H v p
  | .none, _, _, h, r => by cases h; cases r; exact .non
  | .bool b, _, _, h, r => by cases h; cases r; exact .bl b
  | .int i, _, _, h, r => by cases h; cases r; exact .int i
  | .str x, _, _, h, r => by cases h; cases r; exact .str x
  | .tuple ps, _, _, h, r => by
    cases h with
    | tup hl => cases r with | tup e rl => exact .tup (SqT.of e) (DeepL.dp hM ps hl rl)
  | .list ps, _, _, h, r => by
    cases h with
    | con hl => cases r with | con e rl => exact .lst e.seq (DeepL.dp hM ps hl rl)
    | lst e hl =>
      cases r
      obtain ⟨xs, q, rl⟩ := hM.lst e
      exact .lst (SqL.of q) (DeepL.dp hM ps hl rl)
  | .dict _, _, _, h, _ => by cases h
theorem DeepL.dp {K : PySem.W.Frag} {H : Hp} {M : DM} (hM : RelM K H M) : ∀ (ps : List PyData) {ds : List D} {vs : List V}, DeepL M ds ps → RepL K H ds vs → DpAll K H vs ps
  | [], _, _, h, r => by cases h; cases r; exact .nil
  | p :: ps, _, _, h, r => by
    cases h with
    | cons h1 h2 => cases r with | cons r1 r2 => exact .cons (Deep.dp hM p h1 r1) (DeepL.dp hM ps h2 r2)
end
/-- == : ints, texts, bools, None at once; else as whole data -/
def dEqW (d e : D) (M : DM) (Q : Bool → Prop) : Prop := ∃ p q, Deep M d p ∧ Deep M e q ∧ SeqAt.shaped p = true ∧ SeqAt.shaped q = true ∧ Q (PyData.eqv p q)
def dEq : D2
  | .int i, .int j, M, Q => Q (.bl (decide (i = j))) M
  | .bl i, .bl j, M, Q => Q (.bl (decide (i = j))) M
  | .str i, .str j, M, Q => Q (.bl (decide (i = j))) M
  | .non, .non, M, Q => Q (.bl true) M
  | .non, .int _, M, Q => Q (.bl false) M
  | .int _, .non, M, Q => Q (.bl false) M
  | d, e, M, Q => dEqW d e M fun b => Q (.bl b) M
def dNe : D2
  | .int i, .int j, M, Q => Q (.bl (!decide (i = j))) M
  | .bl i, .bl j, M, Q => Q (.bl (!decide (i = j))) M
  | .str i, .str j, M, Q => Q (.bl (!decide (i = j))) M
  | .non, .non, M, Q => Q (.bl false) M
  | .non, .int _, M, Q => Q (.bl true) M
  | .int _, .non, M, Q => Q (.bl true) M
  | d, e, M, Q => dEqW d e M fun b => Q (.bl (!b)) M
theorem rep_bl {K : PySem.W.Frag} {H : Hp} {a b : Bool} (h : a = b) : Rep K H (.bl a) (.bl b) := by subst h; exact .bl _
theorem rep_eq_int {K : PySem.W.Frag} {H : Hp} (i j : Int) : Rep K H (.bl (decide (i = j))) (.bl (decide (V.int i = V.int j))) := rep_bl (by simp)
theorem rep_eq_bl {K : PySem.W.Frag} {H : Hp} (i j : Bool) : Rep K H (.bl (decide (i = j))) (.bl (decide (V.bl i = V.bl j))) := rep_bl (by simp)
theorem rep_eq_str {K : PySem.W.Frag} {H : Hp} (i j : Str) : Rep K H (.bl (decide (i = j))) (.bl (decide (V.str i = V.str j))) := rep_bl (by simp)
theorem rep_ne_int {K : PySem.W.Frag} {H : Hp} (i j : Int) : Rep K H (.bl (!decide (i = j))) (.bl (!decide (V.int i = V.int j))) := rep_bl (by simp)
theorem rep_ne_bl {K : PySem.W.Frag} {H : Hp} (i j : Bool) : Rep K H (.bl (!decide (i = j))) (.bl (!decide (V.bl i = V.bl j))) := rep_bl (by simp)
theorem rep_ne_str {K : PySem.W.Frag} {H : Hp} (i j : Str) : Rep K H (.bl (!decide (i = j))) (.bl (!decide (V.str i = V.str j))) := rep_bl (by simp)
theorem dop_eq (hu : X.A.units + 64 < cLine) : DOp X (compareOp .Eq) dEq := Op_weak (op_eq.or (op_eqD hu)) fun x y H Q ⟨d, e, M, R, z1, z2, hM, h, hc⟩ => by
  unfold dEq at h
  split at h
  · rename_i i j
    cases z1; cases z2
    exact .inl ⟨rfl, hc _ M _ H (.refl H) hM (rep_eq_int i j) h⟩
  · rename_i i j
    cases z1; cases z2
    exact .inl ⟨rfl, hc _ M _ H (.refl H) hM (rep_eq_bl i j) h⟩
  · rename_i i j
    cases z1; cases z2
    exact .inl ⟨rfl, hc _ M _ H (.refl H) hM (rep_eq_str i j) h⟩
  · cases z1; cases z2
    exact .inl ⟨rfl, hc _ M _ H (.refl H) hM (rep_bl (by simp)) h⟩
  · cases z1; cases z2
    exact .inl ⟨rfl, hc _ M _ H (.refl H) hM (rep_bl (by simp)) h⟩
  · cases z1; cases z2
    exact .inl ⟨rfl, hc _ M _ H (.refl H) hM (rep_bl (by simp)) h⟩
  · obtain ⟨p, q, h1, h2, h3, h4, h5⟩ := h
    exact .inr ⟨p, q, h1.dp hM p z1, h2.dp hM q z2, h3, h4, hc _ M _ H (.refl H) hM (.bl _) h5⟩
theorem dop_ne (hu : X.A.units + 64 < cLine) : DOp X (compareOp .NotEq) dNe := Op_weak (op_ne.or (op_neD hu)) fun x y H Q ⟨d, e, M, R, z1, z2, hM, h, hc⟩ => by
  unfold dNe at h
  split at h
  · rename_i i j
    cases z1; cases z2
    exact .inl ⟨rfl, hc _ M _ H (.refl H) hM (rep_ne_int i j) h⟩
  · rename_i i j
    cases z1; cases z2
    exact .inl ⟨rfl, hc _ M _ H (.refl H) hM (rep_ne_bl i j) h⟩
  · rename_i i j
    cases z1; cases z2
    exact .inl ⟨rfl, hc _ M _ H (.refl H) hM (rep_ne_str i j) h⟩
  · cases z1; cases z2
    exact .inl ⟨rfl, hc _ M _ H (.refl H) hM (rep_bl (by simp)) h⟩
  · cases z1; cases z2
    exact .inl ⟨rfl, hc _ M _ H (.refl H) hM (rep_bl (by simp)) h⟩
  · cases z1; cases z2
    exact .inl ⟨rfl, hc _ M _ H (.refl H) hM (rep_bl (by simp)) h⟩
  · obtain ⟨p, q, h1, h2, h3, h4, h5⟩ := h
    exact .inr ⟨p, q, h1.dp hM p z1, h2.dp hM q z2, h3, h4, hc _ M _ H (.refl H) hM (.bl _) h5⟩
/-- is None, is not None -/
@[simp] def isNonD : D → Bool
  | .non => true
  | _ => false
theorem isNon_rep {K : PySem.W.Frag} {H : Hp} {d : D} {v : V} (r : Rep K H d v) : decide (v = .non) = isNonD d := by
  cases r <;> simp [isNonD]
@[simp] def dIs : D2
  | d, .non, M, Q => Q (.bl (isNonD d)) M
  | _, _, _, _ => False
@[simp] def dIsNot : D2
  | d, .non, M, Q => Q (.bl (!isNonD d)) M
  | _, _, _, _ => False
theorem dop_is : DOp X (compareOp .Is) dIs := Op_weak op_isN fun x y H Q ⟨d, e, M, R, z1, z2, hM, h, hc⟩ => by
  cases e <;> first | (cases z2; exact ⟨rfl, by rw [isNon_rep z1]; exact hc _ M _ H (.refl H) hM (.bl _) (by cases d <;> exact h)⟩) | (cases d <;> exact False.elim h)
theorem dop_isnot : DOp X (compareOp .IsNot) dIsNot := Op_weak op_notN fun x y H Q ⟨d, e, M, R, z1, z2, hM, h, hc⟩ => by
  cases e <;> first | (cases z2; exact ⟨rfl, by rw [isNon_rep z1]; exact hc _ M _ H (.refl H) hM (.bl _) (by cases d <;> exact h)⟩) | (cases d <;> exact False.elim h)

section
variable {i j : Int} {x y : Str} {xs ys : List D} {a b : Addr} {p q : Bool} {M : DM} {Q : DQ}
@[simp] theorem dAdd_i : dAdd (.int i) (.int j) M Q = Q (.int (i + j)) M := rfl
@[simp] theorem dAdd_s : dAdd (.str x) (.str y) M Q = (x.length + y.length ≤ sizeLine ∧ Q (.str (x ++ y)) M) := rfl
@[simp] theorem dAdd_t : dAdd (.tup xs) (.tup ys) M Q = (xs.length + ys.length ≤ sizeLine ∧ Q (.tup (xs ++ ys)) M) := rfl
@[simp] theorem dAdd_r : dAdd (.ref a) (.ref b) M Q = (match M a, M b with
    | some (.lst xs), some (.lst ys) => xs.length + ys.length ≤ sizeLine ∧ ∀ p, M p = none → Q (.ref p) (updM M p (.lst (xs ++ ys)))
    | _, _ => False) := rfl
@[simp] theorem dMul_i : dMul (.int i) (.int j) M Q = (CMul i j ∧ Q (.int (i * j)) M) := rfl
@[simp] theorem dMul_r : dMul (.ref a) (.int j) M Q = (match M a with
    | some (.lst xs) => (-(2 ^ 63) ≤ j ∧ j < 2 ^ 63 ∧ xs.length * j.toNat ≤ sizeLine) ∧ ∀ p, M p = none → Q (.ref p) (updM M p (.lst (List.replicate j.toNat xs).flatten))
    | _ => False) := rfl
@[simp] theorem dEq_i : dEq (.int i) (.int j) M Q = Q (.bl (decide (i = j))) M := rfl
@[simp] theorem dEq_b : dEq (.bl p) (.bl q) M Q = Q (.bl (decide (p = q))) M := rfl
@[simp] theorem dEq_s : dEq (.str x) (.str y) M Q = Q (.bl (decide (x = y))) M := rfl
@[simp] theorem dEq_n : dEq .non .non M Q = Q (.bl true) M := rfl
@[simp] theorem dEq_ni : dEq .non (.int i) M Q = Q (.bl false) M := rfl
@[simp] theorem dEq_in : dEq (.int i) .non M Q = Q (.bl false) M := rfl
@[simp] theorem dEq_r : dEq (.ref a) (.ref b) M Q = dEqW (.ref a) (.ref b) M fun b => Q (.bl b) M := rfl
@[simp] theorem dEq_t : dEq (.tup xs) (.tup ys) M Q = dEqW (.tup xs) (.tup ys) M fun b => Q (.bl b) M := rfl
@[simp] theorem dEq_rt : dEq (.ref a) (.tup ys) M Q = dEqW (.ref a) (.tup ys) M fun b => Q (.bl b) M := rfl
@[simp] theorem dEq_tr : dEq (.tup xs) (.ref b) M Q = dEqW (.tup xs) (.ref b) M fun b => Q (.bl b) M := rfl
@[simp] theorem dNe_i : dNe (.int i) (.int j) M Q = Q (.bl (!decide (i = j))) M := rfl
@[simp] theorem dNe_b : dNe (.bl p) (.bl q) M Q = Q (.bl (!decide (p = q))) M := rfl
@[simp] theorem dNe_s : dNe (.str x) (.str y) M Q = Q (.bl (!decide (x = y))) M := rfl
@[simp] theorem dNe_n : dNe .non .non M Q = Q (.bl false) M := rfl
@[simp] theorem dNe_ni : dNe .non (.int i) M Q = Q (.bl true) M := rfl
@[simp] theorem dNe_in : dNe (.int i) .non M Q = Q (.bl true) M := rfl
@[simp] theorem dNe_r : dNe (.ref a) (.ref b) M Q = dEqW (.ref a) (.ref b) M fun b => Q (.bl (!b)) M := rfl
@[simp] theorem dNe_t : dNe (.tup xs) (.tup ys) M Q = dEqW (.tup xs) (.tup ys) M fun b => Q (.bl (!b)) M := rfl
@[simp] theorem dNe_rt : dNe (.ref a) (.tup ys) M Q = dEqW (.ref a) (.tup ys) M fun b => Q (.bl (!b)) M := rfl
@[simp] theorem dNe_tr : dNe (.tup xs) (.ref b) M Q = dEqW (.tup xs) (.ref b) M fun b => Q (.bl (!b)) M := rfl
end
/-! ### dicts -/
def valD {κ : Type} [DecidableEq κ] (kvs : List (κ × D)) (k : κ) : Option D := (kvs.find? fun kv => decide (kv.1 = k)).map (·.2)
def putD {κ : Type} [DecidableEq κ] (kvs : List (κ × D)) (k : κ) (v : D) : List (κ × D) :=
  if (kvs.any fun kv => decide (kv.1 = k)) = true then kvs.map (fun kv => if kv.1 = k then (kv.1, v) else kv) else kvs ++ [(k, v)]
section
variable {κ : Type} [DecidableEq κ] {K : PySem.W.Frag} {H : Hp}
theorem valD_nil {k : κ} : valD ([] : List (κ × D)) k = none := rfl
theorem valD_cons {p : κ × D} {r : List (κ × D)} {k : κ} : valD (p :: r) k = if p.1 = k then some p.2 else valD r k := by
  unfold valD
  by_cases e : p.1 = k <;> simp [List.find?_cons, e]
theorem RepKv.val : ∀ {ds : List (κ × D)} {vs : List (κ × V)}, RepKv K H ds vs → ∀ {k : κ} {d : D}, valD ds k = some d → ∃ v, valV vs k = some v ∧ Rep K H d v
  | _, _, .nil, _, _, h => by cases h
  | _, _, .cons (k := k0) r t, k, d, h => by
    rw [valD_cons] at h
    by_cases e : k0 = k
    · rw [if_pos e] at h
      cases h
      exact ⟨_, valV_pos e, r⟩
    · rw [if_neg e] at h
      obtain ⟨v, h1, h2⟩ := RepKv.val t h
      exact ⟨v, by rw [valV_neg e]; exact h1, h2⟩
theorem RepKv.noval : ∀ {ds : List (κ × D)} {vs : List (κ × V)}, RepKv K H ds vs → ∀ {k : κ}, valD ds k = none → valV vs k = none
  | _, _, .nil, _, _ => rfl
  | _, _, .cons (k := k0) r t, k, h => by
    rw [valD_cons] at h
    by_cases e : k0 = k
    · rw [if_pos e] at h
      cases h
    · rw [if_neg e] at h
      rw [valV_neg e]
      exact RepKv.noval t h
theorem RepKv.isSome {ds : List (κ × D)} {vs : List (κ × V)} (r : RepKv K H ds vs) (k : κ) : (valV vs k).isSome = (valD ds k).isSome := by
  cases e : valD ds k with
  | none => rw [r.noval e]; rfl
  | some d =>
    obtain ⟨v, h, _⟩ := r.val e
    rw [h]
    rfl
theorem RepKv.repl {d : D} {v : V} (z : Rep K H d v) (k : κ) : ∀ {ds : List (κ × D)} {vs : List (κ × V)}, RepKv K H ds vs → RepKv K H (ds.map fun kv => if kv.1 = k then (kv.1, d) else kv) (vs.map fun kv => if kv.1 = k then (kv.1, v) else kv)
  | _, _, .nil => .nil
  | _, _, .cons (k := k0) r t => by
    rw [List.map_cons, List.map_cons]
    by_cases e : k0 = k
    · rw [if_pos e, if_pos e]
      exact .cons z (RepKv.repl z k t)
    · rw [if_neg e, if_neg e]
      exact .cons r (RepKv.repl z k t)
theorem any_keys {α : Type} (k : κ) : ∀ kvs : List (κ × α), (kvs.any fun kv => decide (kv.1 = k)) = decide (k ∈ kvs.map (·.1))
  | [] => by simp
  | p :: r => by
    rw [List.any_cons, any_keys k r, List.map_cons]
    by_cases e : p.1 = k
    · simp [e]
    · have e' : ¬ k = p.1 := fun z => e z.symm
      simp [e, e']
theorem RepKv.put {d : D} {v : V} {ds : List (κ × D)} {vs : List (κ × V)} (r : RepKv K H ds vs) (z : Rep K H d v) (k : κ) : RepKv K H (putD ds k d) (putK vs k v) := by
  unfold putD putK
  rw [any_keys, any_keys, r.keys]
  by_cases e : decide (k ∈ ds.map (·.1)) = true
  · rw [if_pos e, if_pos e]
    exact r.repl z k
  · rw [if_neg e, if_neg e]
    exact r.append (.cons z .nil)
end
@[simp] def keyD : D → Option Key
  | .int i => some (.inl i)
  | .str x => some (.inr x)
  | _ => none
@[simp] def keysD : List D → Option (List Key)
  | [] => some []
  | d :: ds => match keyD d, keysD ds with
    | some k, some ks => some (k :: ks)
    | _, _ => none
theorem keyD_rep {K : PySem.W.Frag} {H : Hp} {d : D} {v : V} {k : Key} (h : keyD d = some k) (r : Rep K H d v) : v = kV k := by
  cases r <;> first | (cases h; rfl) | cases h
theorem keysD_rep {K : PySem.W.Frag} {H : Hp} : ∀ {ds : List D} {vs : List V} {ks : List Key}, keysD ds = some ks → RepL K H ds vs → vs = ks.map kV
  | [], _, _, h, r => by cases h; cases r; rfl
  | d :: ds, _, ks, h, r => by
    unfold keysD at h
    split at h
    · rename_i k ks' e1 e2
      cases h
      cases r with
      | cons r1 r2 => rw [keyD_rep e1 r1, keysD_rep e2 r2]; rfl
    · cases h
/-- what stands in a thing at a key or index -/
def lookD (M : DM) : D → D → Option D
  | .tup ds, .int i => atI ds i
  | .con ds, .int i => atI ds i
  | .str z, .int i => if z.length ≤ sizeLine then (atI z.cps.toList i).map fun c => .str ⟨#[c]⟩ else none
  | .ref a, e => match M a with
    | some (.lst ds) => match e with | .int i => atI ds i | _ => none
    | some (.fro (.lst ds)) => match e with | .int i => atI ds i | _ => none
    | some (.dK kvs) => (keyD e).bind fun k => valD kvs k
    | some (.fro (.dK kvs)) => (keyD e).bind fun k => valD kvs k
    | some (.dT kvs) => match e with | .tup ks => (keysD ks).bind fun k => valD kvs k | _ => none
    | some (.fro (.dT kvs)) => match e with | .tup ks => (keysD ks).bind fun k => valD kvs k | _ => none
    | _ => none
  | _, _ => none
section
variable {i : Int} {z : Str} {xs : List D} {a : Addr} {M : DM} {e : D}
@[simp] theorem look_t : lookD M (.tup xs) (.int i) = atI xs i := rfl
@[simp] theorem look_c : lookD M (.con xs) (.int i) = atI xs i := rfl
@[simp] theorem look_s : lookD M (.str z) (.int i) = if z.length ≤ sizeLine then (atI z.cps.toList i).map fun c => .str ⟨#[c]⟩ else none := rfl
@[simp] theorem look_r : lookD M (.ref a) e = (match M a with
    | some (.lst ds) => (match e with | .int i => atI ds i | _ => none)
    | some (.fro (.lst ds)) => (match e with | .int i => atI ds i | _ => none)
    | some (.dK kvs) => (keyD e).bind fun k => valD kvs k
    | some (.fro (.dK kvs)) => (keyD e).bind fun k => valD kvs k
    | some (.dT kvs) => (match e with | .tup ks => (keysD ks).bind fun k => valD kvs k | _ => none)
    | some (.fro (.dT kvs)) => (match e with | .tup ks => (keysD ks).bind fun k => valD kvs k | _ => none)
    | _ => none) := rfl
end
@[simp] def dIx : D2 := fun d e M Q => match lookD M d e with | some x => Q x M | none => False
theorem RepL.at {K : PySem.W.Frag} {H : Hp} {ds : List D} {vs : List V} {i : Int} {d : D} (r : RepL K H ds vs) (h : atI ds i = some d) : ∃ v, atI vs i = some v ∧ Rep K H d v := by
  unfold atI at h ⊢
  rw [r.length] at h
  cases e : ixN vs.length i with
  | none => rw [e] at h; cases h
  | some j =>
    rw [e] at h
    exact r.get h
theorem tail_any {prog : Program} {w : World} {A : Around} {E : Value → Shared → Prop} {s : Shared} {value slice : Expr} {o i : Value} {T id : String} {Q : Value → Shared → Prop} (hT : s.TypeIs o T)
    (hl : typeLookup (.type T) "__getitem__" = pure (some (.builtin id))) (h : wpAny (model prog w) A (getItem o i) Q E s) (hs : subscripted slice false o i = operate [o, i] (getItem o i)) :
    wpAny (model prog w) A (subscriptTail value slice o i) Q E s := by
  unfold subscriptTail
  refine wpAny_bind ?_
  rw [getitemInPython_of_ne hT.not_modules]
  refine wpAny_bind (wpAny_specialOf hT hl ?_)
  have fin : wpAny (model prog w) A (subscripted slice false o i) (fun r s₃ => wpAny (model prog w) A (letTemporaryGo value o r >>= fun _ => pure r) Q E s₃) E s := by
    rw [hs]
    exact wpAny_operating (wpAny_mono h (fun r s₃ h₃ => wpAny_bind (wpAny_letTemporaryGo (wpAny_pure h₃))) fun _ _ x => x)
  first
    | exact wpAny_pure (wpAny_bind fin)
    | exact wpAny_bind (wpAny_pure (wpAny_bind fin))
    | exact wpAny_bind fin
theorem ix_dict (hu : X.A.units + 1 < cLine) : IxR X (fun x y H Q => ∃ a v, x = .ref a ∧ DGet H a y (some v) ∧ Q v H) := by
  intro value slice pins s σ H x y v u Q I rx ry h hs
  obtain ⟨a, w', rfl, g, q⟩ := h
  cases rx
  exact tail_any (dict_typeIs I g) PySem.F.slot_dict_getitem.lookup (d_getItem hu I g ry fun w2 s3 I3 rw' => ⟨w', H, I3, rw', q⟩) hs
end
end PyD

namespace PyD
open PySem PySem.Spec PyProof.Rows L2
section
variable {X : Cx}
/-! ### a[i] -/
theorem dix (hu : X.A.units + 1 < cLine) : IxR X (L2r X.K dIx) := by
  intro value slice pins s σ H x y v u Q I rx ry ⟨d, e, M, R, z1, z2, hM, h, hc⟩ hs
  refine (ix_list.or (ix_tup.or (ix_str.or (ix_dict hu)))) value slice pins s σ H x y v u Q I rx ry ?_ hs
  unfold dIx at h
  cases el : lookD M d e with
  | none => rw [el] at h; exact h.elim
  | some r =>
    rw [el] at h
    have fin : ∀ w, Rep X.K H r w → Q w H := fun w z => hc r M w H (.refl H) hM z h
    unfold lookD at el
    split at el
    · -- tuple
      cases z2
      cases z1 with
      | @tup a xs ds hq rl =>
        obtain ⟨w, hw, zw⟩ := rl.at el
        exact .inr (.inl ⟨a, xs, _, w, rfl, rfl, SqT.of hq, hw, fin w zw⟩)
    · cases z2
      cases z1 with
      | @con a xs ds hq rl =>
        obtain ⟨w, hw, zw⟩ := rl.at el
        exact .inl ⟨a, xs, _, w, rfl, rfl, hq.seq, hw, fin w zw⟩
    · cases z2; cases z1
      split at el
      · rename_i hz
        obtain ⟨c, e1, e2⟩ := Option.map_eq_some_iff.mp el
        subst e2
        exact .inr (.inr (.inl ⟨_, _, c, rfl, rfl, hz, e1, fin _ (.str _)⟩))
      · cases el
    · rename_i a e0
      cases z1
      split at el
      · rename_i ds em
        split at el
        · cases z2
          obtain ⟨xs, q, rl⟩ := hM.lst em
          obtain ⟨w, hw, zw⟩ := rl.at el
          exact .inl ⟨_, xs, _, w, rfl, rfl, SqL.of q, hw, fin w zw⟩
        · cases el
      · rename_i ds em
        split at el
        · cases z2
          obtain ⟨xs, q, rl⟩ := hM.rdL (.fro em)
          obtain ⟨w, hw, zw⟩ := rl.at el
          exact .inl ⟨_, xs, _, w, rfl, rfl, .inl q, hw, fin w zw⟩
        · cases el
      · rename_i kvs em
        obtain ⟨k, e1, e2⟩ := Option.bind_eq_some_iff.mp el
        obtain ⟨xs, q, rl⟩ := hM.dk em
        obtain ⟨w, hw, zw⟩ := rl.val e2
        exact .inr (.inr (.inr ⟨_, w, rfl, .inl ⟨xs, k, .inl q, keyD_rep e1 z2, hw.symm⟩, fin w zw⟩))
      · rename_i kvs em
        obtain ⟨k, e1, e2⟩ := Option.bind_eq_some_iff.mp el
        obtain ⟨o, xs, q, rl⟩ := hM.rdK em
        obtain ⟨w, hw, zw⟩ := rl.val e2
        exact .inr (.inr (.inr ⟨_, w, rfl, .inl ⟨xs, k, .inr ⟨o, q⟩, keyD_rep e1 z2, hw.symm⟩, fin w zw⟩))
      · rename_i kvs em
        split at el
        · obtain ⟨k, e1, e2⟩ := Option.bind_eq_some_iff.mp el
          obtain ⟨xs, q, rl⟩ := hM.dt em
          obtain ⟨w, hw, zw⟩ := rl.val e2
          cases z2 with
          | tup hq r2 =>
            rw [keysD_rep e1 r2] at hq
            exact .inr (.inr (.inr ⟨_, w, rfl, .inr ⟨xs, k, _, .inl q, rfl, hq, hw.symm⟩, fin w zw⟩))
        · cases el
      · rename_i kvs em
        split at el
        · obtain ⟨k, e1, e2⟩ := Option.bind_eq_some_iff.mp el
          obtain ⟨o, xs, q, rl⟩ := hM.rdT em
          obtain ⟨w, hw, zw⟩ := rl.val e2
          cases z2 with
          | tup hq r2 =>
            rw [keysD_rep e1 r2] at hq
            exact .inr (.inr (.inr ⟨_, w, rfl, .inr ⟨xs, k, _, .inr ⟨o, q⟩, rfl, hq, hw.symm⟩, fin w zw⟩))
        · cases el
      · cases el
    · cases el
variable {a b c : Expr} {ra rb rc : DE} {pos : Pos}
theorem de_ix (hu : X.A.units + 1 < cLine) (ha : DEx X a ra) (hb : DEx X b rb) (hs : PlainIx b := by intro _ _; rfl) : DEx X (.Subscript a b pos) (dOp dIx ra rb) :=
  PE_weak (pe_ix (dix hu) ha hb hs) fun _ _ _ h => lift_op h
/-! ### in -/
@[simp] def intsD : List D → Option (List Int)
  | [] => some []
  | .int i :: ds => (intsD ds).map fun ns => i :: ns
  | _ :: _ => none
@[simp] theorem intsD_map : ∀ ns : List Int, intsD (ns.map D.int) = some ns
  | [] => rfl
  | n :: ns => by simp [intsD, intsD_map ns]
theorem intsD_eq : ∀ {ds : List D} {ns : List Int}, intsD ds = some ns → ds = ns.map D.int
  | [], _, h => by cases h; rfl
  | .int i :: ds, ns, h => by
    unfold intsD at h
    obtain ⟨ms, e1, e2⟩ := Option.map_eq_some_iff.mp h
    subst e2
    rw [intsD_eq e1]
    rfl
  | .non :: _, _, h => by cases h
  | .bl _ :: _, _, h => by cases h
  | .str _ :: _, _, h => by cases h
  | .ref _ :: _, _, h => by cases h
  | .ty _ :: _, _, h => by cases h
  | .tup _ :: _, _, h => by cases h
  | .con _ :: _, _, h => by cases h
theorem inV_ints (i : Int) : ∀ ns : List Int, inV (.int i) (ns.map V.int) = decide (i ∈ ns)
  | [] => rfl
  | n :: ns => by
    have ih := inV_ints i ns
    unfold inV at ih ⊢
    rw [List.map_cons, List.any_cons, ih]
    by_cases e : n = i
    · subst e; simp [eqV]
    · have e' : ¬ i = n := fun z => e z.symm
      simp [eqV, e, e']
theorem flat_ints (ns : List Int) : (ns.map V.int).all flatV = true := by
  induction ns with
  | nil => rfl
  | cons n ns ih => rw [List.map_cons, List.all_cons, ih]; rfl
/-- whether d is among what stands in e -/
def memD (M : DM) : D → D → Option Bool
  | .int i, .tup ds => (intsD ds).map fun ns => decide (i ∈ ns)
  | .int i, .con ds => (intsD ds).map fun ns => decide (i ∈ ns)
  | .str c, .str z => if c.length = 1 then some (decide (c.cps.getD 0 0 ∈ z.cps.toList)) else none
  | d, .ref a => match M a with
    | some (.lst ds) => match d with | .int i => (intsD ds).map fun ns => decide (i ∈ ns) | _ => none
    | some (.dK kvs) => (keyD d).map fun k => (valD kvs k).isSome
    | some (.fro (.dK kvs)) => (keyD d).map fun k => (valD kvs k).isSome
    | some (.dT kvs) => match d with | .tup ks => (keysD ks).map fun k => (valD kvs k).isSome | _ => none
    | _ => none
  | _, _ => none
section
variable {i : Int} {c z : Str} {xs : List D} {a : Addr} {M : DM} {d : D}
@[simp] theorem mem_t : memD M (.int i) (.tup xs) = (intsD xs).map fun ns => decide (i ∈ ns) := rfl
@[simp] theorem mem_c : memD M (.int i) (.con xs) = (intsD xs).map fun ns => decide (i ∈ ns) := rfl
@[simp] theorem mem_s : memD M (.str c) (.str z) = if c.length = 1 then some (decide (c.cps.getD 0 0 ∈ z.cps.toList)) else none := rfl
@[simp] theorem mem_ir : memD M (.int i) (.ref a) = (match M a with
    | some (.lst ds) => (intsD ds).map fun ns => decide (i ∈ ns)
    | some (.dK kvs) => (keyD (.int i)).map fun k => (valD kvs k).isSome
    | some (.fro (.dK kvs)) => (keyD (.int i)).map fun k => (valD kvs k).isSome
    | some (.dT kvs) => none
    | _ => none) := rfl
@[simp] theorem mem_sr : memD M (.str c) (.ref a) = (match M a with
    | some (.lst ds) => none
    | some (.dK kvs) => (keyD (.str c)).map fun k => (valD kvs k).isSome
    | some (.fro (.dK kvs)) => (keyD (.str c)).map fun k => (valD kvs k).isSome
    | some (.dT kvs) => none
    | _ => none) := rfl
@[simp] theorem mem_tr : memD M (.tup xs) (.ref a) = (match M a with
    | some (.lst ds) => none
    | some (.dK kvs) => (keyD (.tup xs)).map fun k => (valD kvs k).isSome
    | some (.fro (.dK kvs)) => (keyD (.tup xs)).map fun k => (valD kvs k).isSome
    | some (.dT kvs) => (keysD xs).map fun k => (valD kvs k).isSome
    | _ => none) := rfl
end
@[simp] def dIn : D2 := fun d e M Q => match memD M d e with | some k => Q (.bl k) M | none => False
@[simp] def dNotIn : D2 := fun d e M Q => match memD M d e with | some k => Q (.bl (!k)) M | none => False
theorem op_in_dict (hu : X.A.units + 1 < cLine) : OpR X (compareOp .In) (fun y x H Q => ∃ a o, x = .ref a ∧ DGet H a y o ∧ Q (.bl o.isSome) H) := by
  intro pins s σ H y x u v Q I ry rx ⟨a, o, ex, g, q⟩
  subst ex
  cases rx
  exact d_in hu I g ry fun s3 I3 => ⟨.bl o.isSome, H, I3, rfl, q⟩
theorem op_notin_dict (hu : X.A.units + 1 < cLine) : OpR X (compareOp .NotIn) (fun y x H Q => ∃ a o, x = .ref a ∧ DGet H a y o ∧ Q (.bl (!o.isSome)) H) := by
  intro pins s σ H y x u v Q I ry rx ⟨a, o, ex, g, q⟩
  subst ex
  cases rx
  exact d_notIn hu I g ry fun s3 I3 => ⟨.bl (!o.isSome), H, I3, rfl, q⟩
theorem str1 {c : Str} (h : c.length = 1) : c = ⟨#[c.cps.getD 0 0]⟩ := by
  obtain ⟨⟨l⟩⟩ := c
  have h' : l.length = 1 := h
  match l, h' with
  | [x], _ => rfl
/-- the ways of «in» -/
theorem mem_ways {K : PySem.W.Frag} {H : Hp} {M : DM} {d e : D} {x y : V} {k : Bool} (z1 : Rep K H d x) (z2 : Rep K H e y) (hM : RelM K H M) (h : memD M d e = some k) :
    (∃ (i : Int) (p : Addr) (ns : List Int), x = .int i ∧ y = .ref p ∧ (SqL K H p (ns.map V.int) ∨ SqT K H p (ns.map V.int)) ∧ k = decide (i ∈ ns)) ∨
    (∃ (c : Nat) (z : Str), x = .str ⟨#[c]⟩ ∧ y = .str z ∧ k = decide (c ∈ z.cps.toList)) ∨ ∃ a o, y = .ref a ∧ DGet H a x o ∧ k = o.isSome := by
  unfold memD at h
  split at h
  · obtain ⟨ns, e1, e2⟩ := Option.map_eq_some_iff.mp h
    cases z1
    cases z2 with
    | tup hq rl =>
      rw [intsD_eq e1] at rl
      rw [rl.ints] at hq
      exact .inl ⟨_, _, ns, rfl, rfl, .inr (SqT.of hq), e2.symm⟩
  · obtain ⟨ns, e1, e2⟩ := Option.map_eq_some_iff.mp h
    cases z1
    cases z2 with
    | con hq rl =>
      rw [intsD_eq e1] at rl
      rw [rl.ints] at hq
      exact .inl ⟨_, _, ns, rfl, rfl, .inl hq.seq, e2.symm⟩
  · split at h
    · rename_i hl
      cases h
      cases z1; cases z2
      exact .inr (.inl ⟨_, _, congrArg V.str (str1 hl), rfl, rfl⟩)
    · cases h
  · cases z2
    split at h
    · rename_i ds em
      split at h
      · obtain ⟨ns, e1, e2⟩ := Option.map_eq_some_iff.mp h
        cases z1
        obtain ⟨xs, q, rl⟩ := hM.lst em
        rw [intsD_eq e1] at rl
        rw [rl.ints] at q
        exact .inl ⟨_, _, ns, rfl, rfl, .inl (SqL.of q), e2.symm⟩
      · cases h
    · rename_i kvs em
      obtain ⟨k', e1, e2⟩ := Option.map_eq_some_iff.mp h
      obtain ⟨xs, q, rl⟩ := hM.dk em
      exact .inr (.inr ⟨_, _, rfl, .inl ⟨xs, k', .inl q, keyD_rep e1 z1, rfl⟩, by rw [rl.isSome]; exact e2.symm⟩)
    · rename_i kvs em
      obtain ⟨k', e1, e2⟩ := Option.map_eq_some_iff.mp h
      obtain ⟨o, xs, q, rl⟩ := hM.rdK em
      exact .inr (.inr ⟨_, _, rfl, .inl ⟨xs, k', .inr ⟨o, q⟩, keyD_rep e1 z1, rfl⟩, by rw [rl.isSome]; exact e2.symm⟩)
    · rename_i kvs em
      split at h
      · obtain ⟨k', e1, e2⟩ := Option.map_eq_some_iff.mp h
        obtain ⟨xs, q, rl⟩ := hM.dt em
        cases z1 with
        | tup hq r2 =>
          rw [keysD_rep e1 r2] at hq
          exact .inr (.inr ⟨_, _, rfl, .inr ⟨xs, k', _, .inl q, rfl, hq, rfl⟩, by rw [rl.isSome]; exact e2.symm⟩)
      · cases h
    · cases h
  · cases h
theorem dop_in (hu : X.A.units + 1 < cLine) : DOp X (compareOp .In) dIn := Op_weak (op_in_seq.or (op_in_sign.or (op_in_dict hu))) fun x y H Q ⟨d, e, M, R, z1, z2, hM, h, hc⟩ => by
  unfold dIn at h
  cases em : memD M d e with
  | none => rw [em] at h; exact h.elim
  | some k =>
    rw [em] at h
    have fin : Q (.bl k) H := hc _ M _ H (.refl H) hM (.bl _) h
    rcases mem_ways z1 z2 hM em with ⟨i, p, ns, rfl, rfl, hs, rfl⟩ | ⟨c, z, rfl, rfl, rfl⟩ | ⟨a, o, rfl, g, rfl⟩
    · exact .inl ⟨p, _, rfl, hs, rfl, flat_ints ns, by show Q (.bl (inV _ _)) H; rw [inV_ints]; exact fin⟩
    · exact .inr (.inl ⟨c, z, rfl, rfl, fin⟩)
    · exact .inr (.inr ⟨a, o, rfl, g, fin⟩)
theorem dop_notin (hu : X.A.units + 1 < cLine) : DOp X (compareOp .NotIn) dNotIn := Op_weak (op_notIn_seq.or (op_notIn_sign.or (op_notin_dict hu))) fun x y H Q ⟨d, e, M, R, z1, z2, hM, h, hc⟩ => by
  unfold dNotIn at h
  cases em : memD M d e with
  | none => rw [em] at h; exact h.elim
  | some k =>
    rw [em] at h
    have fin : Q (.bl (!k)) H := hc _ M _ H (.refl H) hM (.bl _) h
    rcases mem_ways z1 z2 hM em with ⟨i, p, ns, rfl, rfl, hs, rfl⟩ | ⟨c, z, rfl, rfl, rfl⟩ | ⟨a, o, rfl, g, rfl⟩
    · exact .inl ⟨p, _, rfl, hs, rfl, flat_ints ns, by show Q (.bl (!inV _ _)) H; rw [inV_ints]; exact fin⟩
    · exact .inr (.inl ⟨c, z, rfl, rfl, fin⟩)
    · exact .inr (.inr ⟨a, o, rfl, g, fin⟩)

/-! ### slices -/
abbrev DPo := DSt → DM → (Option Int → DM → Prop) → Prop
def LPo (K : PySem.W.Frag) (r : DPo) : TO := fun σ H Q => ∃ S M R, RelS K H S σ ∧ RelM K H M ∧ r S M R ∧ ∀ o M' H', Keep H H' → RelM K H' M' → R o M' → Q o H'
@[simp] def dNoPart : DPo := fun _ M Q => Q none M
@[simp] def dPart (ra : DE) : DPo := fun S M Q => ra S M fun d M1 => match d with | .int i => Q (some i) M1 | _ => False
abbrev DPox (X : Cx) (e : Option Expr) (r : DPo) : Prop := PO X e (LPo X.K r)
theorem PO_weak {e : Option Expr} {t t' : TO} (p : PO X e t) (h : ∀ σ H Q, t' σ H Q → t σ H Q) : PO X e t' := ⟨fun pins s σ H Q I q => p.run pins s σ H Q I (h _ _ _ q)⟩
theorem dpo_none : DPox X none dNoPart := PO_weak po_none fun _ H _ ⟨S, M, R, hS, hM, hr, hc⟩ => hc none M H (.refl H) hM hr
theorem dpo_some (ha : DEx X a ra) : DPox X (some a) (dPart ra) := PO_weak (po_some ha) fun _ H _ ⟨S, M, R, hS, hM, hr, hc⟩ => ⟨S, M, _, hS, hM, hr, fun d M1 v H1 k1 m1 z1 h1 => by
  cases d <;> first | exact h1.elim | (cases z1; exact ⟨_, rfl, hc _ M1 H1 k1 m1 h1⟩)⟩
def cutD (xs : List D) (lo hi : Option Int) : List D := (xs.drop (HT.sIx xs.length 0 lo)).take (HT.sIx xs.length xs.length hi - HT.sIx xs.length 0 lo)
theorem RepL.cut {K : PySem.W.Frag} {H : Hp} {ds : List D} {vs : List V} (r : RepL K H ds vs) (lo hi : Option Int) : RepL K H (cutD ds lo hi) (cutV vs lo hi) := by
  unfold cutD cutV
  rw [r.length]
  exact (r.drop _).take _
def dSlV (d : D) (lo hi : Option Int) (M : DM) (Q : DQ) : Prop := match d with
  | .tup ds => Q (.tup (cutD ds lo hi)) M
  | .con ds => ∀ p, M p = none → Q (.ref p) (updM M p (.lst (cutD ds lo hi)))
  | .ref a => match M a with
    | some (.lst ds) => ∀ p, M p = none → Q (.ref p) (updM M p (.lst (cutD ds lo hi)))
    | _ => False
  | _ => False
section
variable {xs : List D} {a : Addr} {M : DM} {lo hi : Option Int} {Q : DQ}
@[simp] theorem slv_t : dSlV (.tup xs) lo hi M Q = Q (.tup (cutD xs lo hi)) M := rfl
@[simp] theorem slv_c : dSlV (.con xs) lo hi M Q = ∀ p, M p = none → Q (.ref p) (updM M p (.lst (cutD xs lo hi))) := rfl
@[simp] theorem slv_r : dSlV (.ref a) lo hi M Q = (match M a with
    | some (.lst ds) => ∀ p, M p = none → Q (.ref p) (updM M p (.lst (cutD ds lo hi)))
    | _ => False) := rfl
end
@[simp] def dSl (re : DE) (tl th : DPo) : DE := fun S M Q => re S M fun d M1 => tl S M1 fun lo M2 => th S M2 fun hi M3 => dSlV d lo hi M3 Q
theorem cutV_whole {xs : List V} {lo hi : Option Int} (h : HT.sIx xs.length 0 lo = 0 ∧ HT.sIx xs.length xs.length hi = xs.length) : cutV xs lo hi = xs := by
  unfold cutV
  rw [h.1, h.2]
  simp
theorem de_sl {lo hi : Option Expr} {p2 : Pos} {tl th : DPo} (ha : DEx X a ra) (hl : DPox X lo tl) (hh : DPox X hi th) : DEx X (.Subscript a (.Slice lo hi none p2) pos) (dSl ra tl th) :=
  PE_weak (pe_slice (sl_tupA.or sl_list) ha hl hh) fun _ _ _ ⟨S, M, R, hS, hM, hr, hc⟩ => ⟨S, M, _, hS, hM, hr, fun d M1 v H1 k1 m1 z1 h1 => ⟨S, M1, _, hS.keep k1, m1, h1, fun lo M2 H2 k2 m2 h2 =>
    ⟨S, M2, _, hS.keep (k1.trans k2), m2, h2, fun hi M3 H3 k3 m3 h3 => by
      have hc' := hc.keep (k1.trans (k2.trans k3))
      have z3 := z1.keep (k2.trans k3)
      unfold dSlV at h3
      split at h3
      · rename_i ds
        cases z3 with
        | @tup a xs _ hq rl =>
          refine .inl ⟨a, xs, rfl, SqT.of hq, fun hw => ?_, fun _ p hp => ?_⟩
          · have e := cutV_whole hw
            have rc := rl.cut lo hi
            rw [e] at rc
            exact hc' _ M3 _ H3 (.refl _) m3 (.tup hq rc) h3
          · exact hc' _ M3 _ _ (keep_new _ hp) (m3.tup _ hp) (rep_tup hp (rl.cut lo hi)) h3
      · rename_i ds
        cases z3 with
        | @con a xs _ hq rl =>
          refine .inr ⟨a, xs, rfl, hq.seq, fun p hp => ?_⟩
          exact hc' _ _ _ _ (keep_new _ hp) (m3.new hp (d := .lst (cutD ds lo hi)) (rl.cut lo hi)) (.ref p) (h3 p (m3.free hp))
      · split at h3
        · rename_i a ds em
          cases z3
          obtain ⟨xs, q, rl⟩ := m3.lst em
          refine .inr ⟨_, xs, rfl, SqL.of q, fun p hp => ?_⟩
          exact hc' _ _ _ _ (keep_new _ hp) (m3.new hp (d := .lst (cutD ds lo hi)) (rl.cut lo hi)) (.ref p) (h3 p (m3.free hp))
        · exact h3.elim
      · exact h3.elim⟩⟩⟩
/-- a[::-1] -/
@[simp] def dRev (re : DE) : DE := fun S M Q => re S M fun d M1 => match d with
  | .con ds => ∀ p, M1 p = none → Q (.ref p) (updM M1 p (.lst ds.reverse))
  | .ref a => match M1 a with
    | some (.lst ds) => ∀ p, M1 p = none → Q (.ref p) (updM M1 p (.lst ds.reverse))
    | _ => False
  | _ => False
theorem de_rev {k1 : Nat} {p1 p2 p3 : Pos} (ha : DEx X a ra) : DEx X (.Subscript a (.Slice none none (some (.UnaryOp .USub (.Constant (.int 1) k1 p1) p2)) p3) pos) (dRev ra) :=
  PE_weak (pe_revL ha) fun _ _ _ ⟨S, M, R, hS, hM, hr, hc⟩ => ⟨S, M, _, hS, hM, hr, fun d M1 v H1 k1 m1 z1 h1 => by
    split at h1
    · rename_i ds
      cases z1 with
      | @con a xs _ hq rl => exact ⟨a, xs, rfl, hq.seq, fun p hp => hc _ _ _ _ (k1.trans (keep_new _ hp)) (m1.new hp (d := .lst ds.reverse) rl.reverse) (.ref p) (h1 p (m1.free hp))⟩
    · split at h1
      · rename_i a ds em
        cases z1
        obtain ⟨xs, q, rl⟩ := m1.lst em
        exact ⟨_, xs, rfl, SqL.of q, fun p hp => hc _ _ _ _ (k1.trans (keep_new _ hp)) (m1.new hp (d := .lst ds.reverse) rl.reverse) (.ref p) (h1 p (m1.free hp))⟩
      · exact h1.elim
    · exact h1.elim⟩

/-! ### stores -/
@[simp] def dSetV (o i v : D) (M : DM) (Q : DM → Prop) : Prop := match o with
  | .ref a => match M a with
    | some (.lst ds) => match i with
      | .int k => match ixN ds.length k with
        | some j => Q (updM M a (.lst (ds.set j v)))
        | none => False
      | _ => False
    | some (.dK kvs) => match keyD i with
      | some k => kvs.length < sizeLine ∧ Q (updM M a (.dK (putD kvs k v)))
      | none => False
    | some (.dT kvs) => match i with
      | .tup ks => match keysD ks with
        | some k => kvs.length < sizeLine ∧ Q (updM M a (.dT (putD kvs k v)))
        | none => False
      | _ => False
    | _ => False
  | _ => False
def L3r (K : PySem.W.Frag) : TSet := fun o i v H Q => ∃ d e f M R, Rep K H d o ∧ Rep K H e i ∧ Rep K H f v ∧ RelM K H M ∧ dSetV d e f M R ∧ ∀ M' H', Keep H H' → RelM K H' M' → R M' → Q H'
theorem dset (hu : X.A.units + 1 < cLine) : PSet X (L3r X.K) := by
  intro pins s σ H o i v ov iv u Q I ro ri rv ⟨d, e, f, M, R, z1, z2, z3, hM, h, hc⟩
  unfold dSetV at h
  split at h
  · cases z1
    split at h
    · rename_i a ds em
      split at h
      · cases z2
        split at h
        · rename_i k j ej
          obtain ⟨xs, q, rl⟩ := hM.lst em
          refine set_list pins s σ H _ _ v ov iv u Q I ro ri rv ⟨_, xs, _, j, rfl, rfl, q, by rw [← rl.length]; exact ej, ?_⟩
          exact hc _ _ (keep_write _ q (fun _ z => nomatch z) fun _ _ z => nomatch z) (hM.write q (fun _ z => nomatch z) (fun _ _ z => nomatch z) (d := .lst (ds.set j f)) (rl.set z3 j)) h
        · exact h.elim
      · exact h.elim
    · rename_i a kvs em
      split at h
      · rename_i k ek
        obtain ⟨xs, q, rl⟩ := hM.dk em
        refine set_dict hu pins s σ H _ i v ov iv u Q I ro ri rv ⟨_, _, rfl, .inl ⟨xs, k, q, keyD_rep ek z2, by rw [← rl.length]; exact h.1, rfl⟩, ?_⟩
        exact hc _ _ (keep_write _ q (fun _ z => nomatch z) fun _ _ z => nomatch z) (hM.write q (fun _ z => nomatch z) (fun _ _ z => nomatch z) (d := .dK (putD kvs k f)) (rl.put z3 k)) h.2
      · exact h.elim
    · rename_i a kvs em
      split at h
      · split at h
        · rename_i k ek
          obtain ⟨xs, q, rl⟩ := hM.dt em
          cases z2 with
          | tup hq r2 =>
            rw [keysD_rep ek r2] at hq
            refine set_dict hu pins s σ H _ _ v ov iv u Q I ro ri rv ⟨_, _, rfl, .inr ⟨xs, k, _, q, rfl, hq, by rw [← rl.length]; exact h.1, rfl⟩, ?_⟩
            exact hc _ _ (keep_write _ q (fun _ z => nomatch z) fun _ _ z => nomatch z) (hM.write q (fun _ z => nomatch z) (fun _ _ z => nomatch z) (d := .dT (putD kvs k f)) (rl.put z3 k)) h.2
        · exact h.elim
      · exact h.elim
    · exact h.elim
  · exact h.elim

/-! ### targets; the slots that they may change -/
abbrev DG := D → DSt → DM → (DSt → DM → Prop) → Prop
abbrev DGs := List D → DSt → DM → (DSt → DM → Prop) → Prop
/-- outside of ow nothing is changed -/
def SlEq (ow : List Nat) (σ σ' : Sl) : Prop := σ'.length = σ.length ∧ ∀ i, i ∉ ow → σ'[i]? = σ[i]?
theorem SlEq.refl (ow : List Nat) (σ : Sl) : SlEq ow σ σ := ⟨rfl, fun _ _ => rfl⟩
theorem SlEq.trans {ow : List Nat} {σ σ1 σ2 : Sl} (a : SlEq ow σ σ1) (b : SlEq ow σ1 σ2) : SlEq ow σ σ2 := ⟨b.1.trans a.1, fun i h => (b.2 i h).trans (a.2 i h)⟩
theorem SlEq.mono {ow ow' : List Nat} {σ σ1 : Sl} (a : SlEq ow σ σ1) (h : ∀ i, i ∈ ow → i ∈ ow') : SlEq ow' σ σ1 := ⟨a.1, fun i z => a.2 i fun q => z (h i q)⟩
theorem SlEq.set (σ : Sl) (i : Nat) (v : Option V) : SlEq [i] σ (σ.set i v) := ⟨by simp, fun j h => by rw [List.getElem?_set_ne (fun z => h (by simp [z]))]⟩
def LG (K : PySem.W.Frag) (ow : List Nat) (g : DG) : TG := fun v σ H Q => ∃ d S M R, Rep K H d v ∧ RelS K H S σ ∧ RelM K H M ∧ g d S M R ∧ ∀ S' M' σ' H', Keep H H' → RelS K H' S' σ' → RelM K H' M' → SlEq ow σ σ' → R S' M' → Q σ' H'
def LGs (K : PySem.W.Frag) (ow : List Nat) (g : DGs) : TGs := fun vs σ H Q => ∃ ds S M R, RepL K H ds vs ∧ RelS K H S σ ∧ RelM K H M ∧ g ds S M R ∧ ∀ S' M' σ' H', Keep H H' → RelS K H' S' σ' → RelM K H' M' → SlEq ow σ σ' → R S' M' → Q σ' H'
abbrev DGx (X : Cx) (e : Expr) (ow : List Nat) (g : DG) : Prop := PG X e (LG X.K ow g)
abbrev DGsx (X : Cx) (e : List Expr) (ow : List Nat) (g : DGs) : Prop := PGs X e (LGs X.K ow g)
theorem PG_weak {e : Expr} {t t' : TG} (p : PG X e t) (h : ∀ v σ H Q, t' v σ H Q → t v σ H Q) : PG X e t' := ⟨fun pins s σ H v u Q I r q => p.run pins s σ H v u Q I r (h _ _ _ _ q)⟩
theorem PGs_weak {e : List Expr} {t t' : TGs} (p : PGs X e t) (h : ∀ v σ H Q, t' v σ H Q → t v σ H Q) : PGs X e t' := ⟨fun pins s σ H v u Q I r q => p.run pins s σ H v u Q I r (h _ _ _ _ q)⟩
@[simp] def gN (i : Nat) : DG := fun d S M Q => Q (setS S i d) M
theorem dg_n {i : Nat} {x : Str} (hN : X.N.Nodup) (hi : X.N[i]? = some x) (hx : Loc X.env.scope x) (hf : X.fn x = true ∨ X.env.scope.names.lookup x = some .local) : DGx X (.Name x pos) [i] (gN i) :=
  PG_weak (pg_name hN hi hx hf) fun v σ H Q ⟨d, S, M, R, z, hS, hM, h, hc⟩ => hc _ M _ H (.refl H) (hS.set z i) hM (.set σ i _) h
@[simp] def gsNil : DGs := fun ds S M Q => match ds with | [] => Q S M | _ => False
@[simp] def gsCons (g : DG) (gs : DGs) : DGs := fun ds S M Q => match ds with | d :: r => g d S M fun S1 M1 => gs r S1 M1 Q | [] => False
theorem dgs_nil {ow : List Nat} : DGsx X [] ow gsNil := PGs_weak pgs_nil fun vs σ H Q ⟨ds, S, M, R, z, hS, hM, h, hc⟩ => by
  cases z with
  | nil => exact ⟨rfl, hc S M σ H (.refl H) hS hM (.refl _ _) h⟩
  | cons _ _ => exact h.elim
theorem dgs_cons {e : Expr} {es : List Expr} {ow ow' : List Nat} {g : DG} {gs : DGs} (h1 : DGx X e ow g) (h2 : DGsx X es ow' gs) (hs : (assignEach (e :: es) X.env).map (·.2) = assign e X.env :: (assignEach es X.env).map (·.2) := by rfl) :
    DGsx X (e :: es) (ow ++ ow') (gsCons g gs) := PGs_weak (pgs_cons h1 h2 hs) fun vs σ H Q ⟨ds, S, M, R, z, hS, hM, h, hc⟩ => by
  cases z with
  | nil => exact h.elim
  | cons r rr => exact ⟨_, _, rfl, _, S, M, _, r, hS, hM, h, fun S1 M1 σ1 H1 k1 s1 m1 e1 h1 => ⟨_, S1, M1, R, rr.keep k1, s1, m1, h1, fun S2 M2 σ2 H2 k2 s2 m2 e2 h2 =>
      hc S2 M2 σ2 H2 (k1.trans k2) s2 m2 ((e1.mono fun i q => List.mem_append_left _ q).trans (e2.mono fun i q => List.mem_append_right _ q)) h2⟩⟩
@[simp] def gT (n : Nat) (gs : DGs) : DG := fun d S M Q => match d with | .tup ds => ds.length = n ∧ gs ds S M Q | _ => False
theorem dg_t {es : List Expr} {k n : Nat} {ow : List Nat} {gs : DGs} (hc : X.calm = true) (h : DGsx X es ow gs) (hn : (assignEach es X.env).length = n := by rfl) (hst : (assignEach es X.env).findIdx? (·.1) = none := by rfl) :
    DGx X (.Tuple es k pos) ow (gT n gs) := PG_weak (pg_tup hc h hn hst) fun v σ H Q ⟨d, S, M, R, z, hS, hM, hg, hcl⟩ => by
  cases d with
  | tup ds =>
    cases z with
    | tup hq rl => exact ⟨_, _, rfl, SqT.of hq, by rw [← rl.length]; exact hg.1, ds, S, M, R, rl, hS, hM, hg.2, hcl⟩
  | _ => exact hg.elim
@[simp] def gS (ro ri : DE) : DG := fun d S M Q => ro S M fun o M1 => ri S M1 fun i M2 => dSetV o i d M2 fun M3 => Q S M3
theorem dg_s {o i : Expr} {ro ri : DE} {ow : List Nat} (hu : X.A.units + 1 < cLine) (ho : DEx X o ro) (hi : DEx X i ri) (ha : ∀ v, assign (.Subscript o i pos) X.env v = (do
      let ov ← holding [v] (eval o X.env)
      let iv ← holding [v, ov] (eval i X.env)
      standAt pos
      holding [v, ov, iv] (setItem ov iv v)
      release [v, ov, iv] []) := by intro _; rfl) : DGx X (.Subscript o i pos) ow (gS ro ri) := PG_weak (pg_sub ho hi (dset hu) ha) fun v σ H Q ⟨d, S, M, R, z, hS, hM, h, hc⟩ =>
  ⟨S, M, _, hS, hM, h, fun o M1 ov H1 k1 m1 z1 h1 => ⟨S, M1, _, hS.keep k1, m1, h1, fun i M2 iv H2 k2 m2 z2 h2 => ⟨o, i, d, M2, _, z1.keep k2, z2, z.keep (k1.trans k2), m2, h2, fun M3 H3 k3 m3 h3 =>
    hc S M3 σ H3 (k1.trans (k2.trans k3)) (hS.keep (k1.trans (k2.trans k3))) m3 (.refl _ _) h3⟩⟩⟩
end
end PyD

namespace PyD
open PySem PySem.Spec PyProof.Rows L2
/-! ### statements -/
structure DEnds where
  nx : DSt → DM → Prop
  rt : DQ
  bk : DSt → DM → Prop := fun _ _ => False
  ct : DSt → DM → Prop := fun _ _ => False
abbrev DS := DEnds → DSt → DM → Prop
structure ClS (K : PySem.W.Frag) (H : Hp) (E : DEnds) (D : Ends) : Prop where
  nx : ∀ S' M' σ' H', Keep H H' → RelS K H' S' σ' → RelM K H' M' → E.nx S' M' → D.nx σ' H'
  bk : ∀ S' M' σ' H', Keep H H' → RelS K H' S' σ' → RelM K H' M' → E.bk S' M' → D.bk σ' H'
  ct : ∀ S' M' σ' H', Keep H H' → RelS K H' S' σ' → RelM K H' M' → E.ct S' M' → D.ct σ' H'
  rt : Cl K H E.rt D.rt
theorem ClS.keep {K : PySem.W.Frag} {H H1 : Hp} {E : DEnds} {D : Ends} (c : ClS K H E D) (k : Keep H H1) : ClS K H1 E D :=
  ⟨fun S M σ H' k' => c.nx S M σ H' (k.trans k'), fun S M σ H' k' => c.bk S M σ H' (k.trans k'), fun S M σ H' k' => c.ct S M σ H' (k.trans k'), c.rt.keep k⟩
def LS (K : PySem.W.Frag) (r : DS) : TS := fun D σ H => ∃ S M E, RelS K H S σ ∧ RelM K H M ∧ r E S M ∧ ClS K H E D
abbrev DSx (X : Cx) (st : Stmt) (r : DS) : Prop := PS X st (LS X.K r)
abbrev DSsx (X : Cx) (st : List Stmt) (r : DS) : Prop := PSs X st (LS X.K r)
section
variable {X : Cx} {st : Stmt} {rest : List Stmt} {r r' : DS} {a b c e : Expr} {ra rb re : DE} {tA : DT} {pos : Pos}
@[simp] def dNext : DS := fun E S M => E.nx S M
@[simp] def dSeq (r r' : DS) : DS := fun E S M => r { E with nx := r' E } S M
@[simp] def dBreak : DS := fun E S M => E.bk S M
@[simp] def dCont : DS := fun E S M => E.ct S M
@[simp] def dNever : DS := fun _ _ _ => False
theorem dss_nil : DSsx X [] dNext := PSs_weak pss_nil fun D σ H ⟨S, M, E, hS, hM, h, hc⟩ => hc.nx S M σ H (.refl H) hS hM h
theorem dss_one (h : DSx X st r) : DSsx X [st] r := pss_one h
theorem dss_cons (h1 : DSx X st r) (h2 : DSsx X rest r') : DSsx X (st :: rest) (dSeq r r') := PSs_weak (pss_cons h1 h2) fun D σ H ⟨S, M, E, hS, hM, h, hc⟩ =>
  ⟨S, M, { E with nx := r' E }, hS, hM, h, ⟨fun S' M' σ' H' k s m h' => ⟨S', M', E, s, m, h', hc.keep k⟩, hc.bk, hc.ct, hc.rt⟩⟩
theorem ds_pass : DSx X (.Pass pos) dNext := PS_weak ps_pass fun D σ H ⟨S, M, E, hS, hM, h, hc⟩ => hc.nx S M σ H (.refl H) hS hM h
theorem ds_break : DSx X (.Break pos) dBreak := PS_weak ps_break fun D σ H ⟨S, M, E, hS, hM, h, hc⟩ => hc.bk S M σ H (.refl H) hS hM h
theorem ds_continue : DSx X (.Continue pos) dCont := PS_weak ps_continue fun D σ H ⟨S, M, E, hS, hM, h, hc⟩ => hc.ct S M σ H (.refl H) hS hM h
theorem ds_never : DSx X st dNever := PS_weak ps_never fun D σ H ⟨S, M, E, hS, hM, h, hc⟩ => h
@[simp] def dDrop (re : DE) : DS := fun E S M => re S M fun _ M1 => E.nx S M1
theorem ds_expr (he : DEx X e re) (hs : swapsWith e none pos.line X.env = pure false := by rfl) : DSx X (.Expr e pos) (dDrop re) := PS_weak (ps_expr he hs) fun D σ H ⟨S, M, E, hS, hM, h, hc⟩ =>
  ⟨S, M, _, hS, hM, h, fun d M1 v H1 k1 m1 z1 h1 => hc.nx S M1 σ H1 k1 (hS.keep k1) m1 h1⟩
@[simp] def dRet (re : DE) : DS := fun E S M => re S M E.rt
theorem ds_ret (he : DEx X e re) : DSx X (.Return (some e) pos) (dRet re) := PS_weak (ps_ret he) fun D σ H ⟨S, M, E, hS, hM, h, hc⟩ => ⟨S, M, _, hS, hM, h, hc.rt⟩
@[simp] def dRetN : DS := fun E _ M => E.rt .non M
theorem ds_retN : DSx X (.Return none pos) dRetN := PS_weak ps_retN fun D σ H ⟨S, M, E, hS, hM, h, hc⟩ => hc.rt .non M .non H (.refl H) hM .non h
@[simp] def dIf (t : DT) (r r' : DS) : DS := fun E S M => t S M fun b M1 => if b = true then r E S M1 else r' E S M1
theorem ds_if {c : Expr} {x y : List Stmt} (hc : DTx X c tA) (ha : DSsx X x r) (hb : DSsx X y r') : DSx X (.If c x y pos) (dIf tA r r') := PS_weak (ps_if hc ha hb) fun D σ H ⟨S, M, E, hS, hM, h, hcl⟩ =>
  ⟨S, M, _, hS, hM, h, fun k M1 H1 k1 m1 h1 => by
    cases k with
    | true => exact ⟨S, M1, E, hS.keep k1, m1, h1, hcl.keep k1⟩
    | false => exact ⟨S, M1, E, hS.keep k1, m1, h1, hcl.keep k1⟩⟩
@[simp] def dAsg (re : DE) (g : DG) : DS := fun E S M => re S M fun d M1 => g d S M1 E.nx
theorem ds_asg {tg : Expr} {ow : List Nat} {g : DG} (he : DEx X e re) (hg : DGx X tg ow g) (hs : swapsWithSole [tg] e pos.line X.env = pure false := by rfl) (hw : swappedStores [tg] e X.env = pure none := by rfl)
    (h1 : (assignEach [tg] X.env).map (·.2) = [assign tg X.env] := by rfl) : DSx X (.Assign [tg] e pos) (dAsg re g) := PS_weak (ps_asg he hg hs hw h1) fun D σ H ⟨S, M, E, hS, hM, h, hc⟩ =>
  ⟨S, M, _, hS, hM, h, fun d M1 v H1 k1 m1 z1 h1 => ⟨d, S, M1, E.nx, z1, hS.keep k1, m1, h1, fun S2 M2 σ2 H2 k2 s2 m2 _ h2 => hc.nx S2 M2 σ2 H2 (k1.trans k2) s2 m2 h2⟩⟩
theorem ds_set {i : Nat} {x : Str} {pos' : Pos} (hN : X.N.Nodup) (hi : X.N[i]? = some x) (hx : Loc X.env.scope x) (hf : X.fn x = true ∨ X.env.scope.names.lookup x = some .local) (he : DEx X e re) (hs : swapsWith e (some (.Name x pos')) pos.line X.env = pure false := by rfl) :
    DSx X (.Assign [.Name x pos'] e pos) (dAsg re (gN i)) := PS_weak (ps_set hN hi hx he hs hf) fun D σ H ⟨S, M, E, hS, hM, h, hc⟩ =>
  ⟨S, M, _, hS, hM, h, fun d M1 v H1 k1 m1 z1 h1 => hc.nx _ M1 _ H1 k1 ((hS.keep k1).set z1 i) m1 h1⟩
@[simp] def dPar (i j : Nat) (rs : DA) : DS := fun E S M => rs S M fun ds M1 => match ds with | [d, e] => E.nx (setS (setS S i d) j e) M1 | _ => False
theorem ds_par {i j : Nat} {x y : Str} {rs : DA} {px py pt : Pos} {kt k2 pt2} (hc : X.calm = true) (hN : X.N.Nodup) (hi : X.N[i]? = some x) (hj : X.N[j]? = some y) (hij : i ≠ j)
    (hx : X.env.scope.names.lookup x = some .local) (hy : X.env.scope.names.lookup y = some .local) (ha : DAx X [a, b] rs)
    (hw : swappedStores [.Tuple [.Name x px, .Name y py] kt pt] (.Tuple [a, b] k2 pt2) X.env = pure (some [x, y]))
    (hs : swapsWithSole [.Tuple [.Name x px, .Name y py] kt pt] (.Tuple [a, b] k2 pt2) pos.line X.env = pure false := by rfl) :
    DSx X (.Assign [.Tuple [.Name x px, .Name y py] kt pt] (.Tuple [a, b] k2 pt2) pos) (dPar i j rs) := PS_weak (ps_par hc hN hi hj hij hx hy ha hw hs) fun D σ H ⟨S, M, E, hS, hM, h, hcl⟩ =>
  ⟨S, M, _, hS, hM, h, fun ds M1 vs H1 k1 m1 z1 h1 => by
    split at h1
    · rename_i d e
      cases z1 with
      | cons r1 z1 => cases z1 with
        | cons r2 z1 =>
          cases z1
          exact ⟨_, _, rfl, hcl.nx _ M1 _ H1 k1 (((hS.keep k1).set r1 i).set r2 j) m1 h1⟩
    · exact h1.elim⟩
@[simp] def dPar3 (i j l : Nat) (rs : DA) : DS := fun E S M => rs S M fun ds M1 => match ds with | [d, e, f] => E.nx (setS (setS (setS S i d) j e) l f) M1 | _ => False
theorem ds_par3 {i j l : Nat} {x y z : Str} {rs : DA} {px py pz pt : Pos} {kt k2 pt2} (hc : X.calm = true) (hN : X.N.Nodup) (hi : X.N[i]? = some x) (hj : X.N[j]? = some y) (hl : X.N[l]? = some z) (hij : i ≠ j) (hil : i ≠ l) (hjl : j ≠ l)
    (hx : X.env.scope.names.lookup x = some .local) (hy : X.env.scope.names.lookup y = some .local) (hz : X.env.scope.names.lookup z = some .local) (ha : DAx X [a, b, c] rs)
    (hw : swappedStores [.Tuple [.Name x px, .Name y py, .Name z pz] kt pt] (.Tuple [a, b, c] k2 pt2) X.env = pure (some [x, y, z]))
    (hs : swapsWithSole [.Tuple [.Name x px, .Name y py, .Name z pz] kt pt] (.Tuple [a, b, c] k2 pt2) pos.line X.env = pure false := by rfl) :
    DSx X (.Assign [.Tuple [.Name x px, .Name y py, .Name z pz] kt pt] (.Tuple [a, b, c] k2 pt2) pos) (dPar3 i j l rs) := PS_weak (ps_par3 hc hN hi hj hl hij hil hjl hx hy hz ha hw hs) fun D σ H ⟨S, M, E, hS, hM, h, hcl⟩ =>
  ⟨S, M, _, hS, hM, h, fun ds M1 vs H1 k1 m1 z1 h1 => by
    split at h1
    · rename_i d e f
      cases z1 with
      | cons r1 z1 => cases z1 with
        | cons r2 z1 => cases z1 with
          | cons r3 z1 =>
            cases z1
            exact ⟨_, _, _, rfl, hcl.nx _ M1 _ H1 k1 ((((hS.keep k1).set r1 i).set r2 j).set r3 l) m1 h1⟩
    · exact h1.elim⟩
/-- name op= e, ints -/
@[simp] def dAug (i : Nat) (re : DE) (f : Int → Int → Int) : DS := fun E S M => match getS S i with
  | some (.int x) => re S M fun d M1 => match d with | .int y => E.nx (setS S i (.int (f x y))) M1 | _ => False
  | _ => False
theorem ds_aug {i : Nat} {x : Str} {op : Operator} {f : Int → Int → Int} {pos' : Pos} (hN : X.N.Nodup) (hi : X.N[i]? = some x) (hx : Loc X.env.scope x) (hf : X.fn x = true ∨ X.env.scope.names.lookup x = some .local) (he : DEx X e re) (ho : PIp X op (ipI f)) :
    DSx X (.AugAssign (.Name x pos') op e pos) (dAug i re f) := PS_weak (ps_aug hN hi hx he ho hf) fun D σ H ⟨S, M, E, hS, hM, h, hc⟩ => by
  unfold dAug at h
  split at h
  · rename_i n eg
    obtain ⟨v, q, z⟩ := hS.here i _ eg
    cases z
    refine ⟨_, q, S, M, _, hS, hM, h, fun d M1 v H1 k1 m1 z1 h1 => ?_⟩
    cases d <;> first | exact h1.elim | skip
    cases z1
    exact ⟨_, _, rfl, rfl, hc.nx _ M1 _ H1 k1 ((hS.keep k1).set (.int _) i) m1 h1⟩
  · exact h.elim

/-! ### while -/
def dWhile (t : DT) (r : DS) : DS := fun E S M => ∃ W : Nat → DSt → DM → Prop, (∃ m, W m S M) ∧ ∀ m S M, W m S M →
  t S M fun b M1 => if b = true then r { nx := fun S' M' => ∃ m', m' < m ∧ W m' S' M', ct := fun S' M' => ∃ m', m' < m ∧ W m' S' M', bk := E.nx, rt := E.rt } S M1 else E.nx S M1
theorem ds_while {c : Expr} {body : List Stmt} (hp : PassesOwn (model X.prog X.w) X.A X.env X.xe) (hc : DTx X c tA) (hb : DSsx X body r) : DSx X (.While c body [] pos) (dWhile tA r) :=
  PS_weak (ps_while hp hc hb) fun D σ H ⟨S, M, E, hS, hM, ⟨W, ⟨m0, w0⟩, turn⟩, hcl⟩ => by
    refine ⟨fun m σ' H' => ∃ S' M', Keep H H' ∧ RelS X.K H' S' σ' ∧ RelM X.K H' M' ∧ W m S' M', ⟨m0, S, M, .refl H, hS, hM, w0⟩, ?_⟩
    rintro m σ1 H1 ⟨S1, M1, k1, s1, m1, w1⟩
    refine ⟨S1, M1, _, s1, m1, turn m S1 M1 w1, fun k M2 H2 k2 m2 h2 => ?_⟩
    cases k with
    | true =>
      refine ⟨fun σ' H' => ∃ m', m' < m ∧ ∃ S' M', Keep H H' ∧ RelS X.K H' S' σ' ∧ RelM X.K H' M' ∧ W m' S' M', fun σ' H' z => z, ?_⟩
      refine ⟨S1, M2, _, s1.keep k2, m2, h2, ⟨fun S' M' σ' H' k s m' ⟨n, hn, w⟩ => ⟨n, hn, S', M', (k1.trans k2).trans k, s, m', w⟩, fun S' M' σ' H' k s m' h' => hcl.nx S' M' σ' H' ((k1.trans k2).trans k) s m' h',
        fun S' M' σ' H' k s m' ⟨n, hn, w⟩ => ⟨n, hn, S', M', (k1.trans k2).trans k, s, m', w⟩, hcl.rt.keep (k1.trans k2)⟩⟩
    | false => exact hcl.nx S1 M2 σ1 H2 (k1.trans k2) (s1.keep k2) m2 h2

/-! ### what a loop walks -/
/-- J walks the items, as long as st holds of the store -/
structure DWalk (K : PySem.W.Frag) (H0 : Hp) (J : It) (items : List D) (st : DM → Prop) : Prop where
  goes : ∀ i H M, i < items.length → Keep H0 H → RelM K H M → st M → J.go i H
  stops : ∀ H M, Keep H0 H → RelM K H M → st M → J.stop items.length H
  yields : ∀ i H M x H', i < items.length → Keep H0 H → RelM K H M → st M → J.yld i H x H' → Keep H H' ∧ RelM K H' M ∧ ∃ d, items[i]? = some d ∧ Rep K H' d x
abbrev DI := DSt → DM → (List D → (DM → Prop) → DM → Prop) → Prop
def LI (K : PySem.W.Frag) (r : DI) : TI := fun σ H R => ∃ S M Rr, RelS K H S σ ∧ RelM K H M ∧ r S M Rr ∧ ∀ items st J M' H', Keep H H' → RelM K H' M' → DWalk K H' J items st → Rr items st M' → R J H'
abbrev DIx (X : Cx) (tg iter : Expr) (r : DI) : Prop := PI X tg iter (LI X.K r)
theorem PI_weak {tg iter : Expr} {t t' : TI} (p : PI X tg iter t) (h : ∀ σ H R, t' σ H R → t σ H R) : PI X tg iter t' := ⟨fun pins s σ H R I q => p.run pins s σ H R I (h _ _ _ q)⟩
def dFor (di : DI) (g : DG) (r : DS) : DS := fun E S M => di S M fun items st M1 => ∃ Pv : Nat → DSt → DM → Prop, Pv 0 S M1 ∧ (∀ i S M, i ≤ items.length → Pv i S M → st M) ∧
  (∀ i d S M, items[i]? = some d → Pv i S M → g d S M fun S2 M2 => r { nx := Pv (i + 1), ct := Pv (i + 1), bk := E.nx, rt := E.rt } S2 M2) ∧ ∀ S M, Pv items.length S M → E.nx S M
theorem ds_for {tg iter : Expr} {body : List Stmt} {di : DI} {ow : List Nat} {g : DG} (hp : PassesOwn (model X.prog X.w) X.A X.env X.xe) (hc : X.calm = true) (hi : DIx X tg iter di) (hg : DGx X tg ow g) (hb : DSsx X body r)
    (hs : ∀ x, foldedSetIterable iter X.env x = pure x := by intro _; rfl) : DSx X (.For tg iter body [] pos) (dFor di g r) := PS_weak (ps_for hp hc hi hg hb hs) fun D σ H ⟨S, M, E, hS, hM, h, hcl⟩ => by
  refine ⟨S, M, _, hS, hM, h, fun items st J M1 H1 k1 m1 w ⟨Pv, p0, pst, turn, fin⟩ => ?_⟩
  refine ⟨fun i m σ' H' => m = items.length - i ∧ i ≤ items.length ∧ ∃ S' M', Keep H1 H' ∧ RelS X.K H' S' σ' ∧ RelM X.K H' M' ∧ Pv i S' M', ⟨_, rfl, Nat.zero_le _, S, M1, .refl H1, hS.keep k1, m1, p0⟩, ?_⟩
  rintro i m σ2 H2 ⟨rfl, hi, S2, M2, k2, s2, m2, p2⟩
  have q2 := pst i S2 M2 hi p2
  by_cases hlt : i < items.length
  · refine .inr ⟨w.goes i H2 M2 hlt k2 m2 q2, fun σ' H' => i + 1 ≤ items.length ∧ ∃ S' M', Keep H1 H' ∧ RelS X.K H' S' σ' ∧ RelM X.K H' M' ∧ Pv (i + 1) S' M', fun σ' H' z => ⟨_, by omega, rfl, z⟩, fun x H3 y => ?_⟩
    obtain ⟨k3, m3, d, ed, z3⟩ := w.yields i H2 M2 x H3 hlt k2 m2 q2 y
    refine ⟨d, S2, M2, _, z3, s2.keep k3, m3, turn i d S2 M2 ed p2, fun S4 M4 σ4 H4 k4 s4 m4 _ h4 => ?_⟩
    have kk := (k2.trans k3).trans k4
    exact ⟨S4, M4, _, s4, m4, h4, ⟨fun S' M' σ' H' k s m' p => ⟨hlt, S', M', kk.trans k, s, m', p⟩, fun S' M' σ' H' k s m' h' => hcl.nx S' M' σ' H' ((k1.trans kk).trans k) s m' h',
      fun S' M' σ' H' k s m' p => ⟨hlt, S', M', kk.trans k, s, m', p⟩, hcl.rt.keep (k1.trans kk)⟩⟩
  · have e : i = items.length := by omega
    subst e
    exact .inl ⟨w.stops H2 M2 k2 m2 q2, hcl.nx S2 M2 σ2 H2 (k1.trans k2) s2 m2 (fin S2 M2 p2)⟩
/-- a range -/
def rngD (lo : Int) (n : Nat) : List D := (List.range n).map fun i => .int (lo + (i : Nat))
theorem rngD_length (lo : Int) (n : Nat) : (rngD lo n).length = n := by simp [rngD]
theorem rngD_get {lo : Int} {n i : Nat} {d : D} (h : (rngD lo n)[i]? = some d) : i < n ∧ d = .int (lo + (i : Nat)) := by
  unfold rngD at h
  obtain ⟨h1, h2⟩ := List.getElem?_eq_some_iff.mp h
  rw [List.length_map, List.length_range] at h1
  simp at h2
  exact ⟨h1, h2.symm⟩
theorem walk_rng {K : PySem.W.Frag} {H0 : Hp} {lo : Int} {n : Nat} : DWalk K H0 (Itr lo n) (rngD lo n) (fun _ => True) where
  goes := fun i H M hi _ _ _ => by rw [rngD_length] at hi; exact hi
  stops := fun H M _ _ _ => by rw [rngD_length]; exact Nat.le_refl n
  yields := fun i H M x H' hi _ m _ y => by
    rw [rngD_length] at hi
    obtain ⟨rfl, rfl⟩ := y
    exact ⟨.refl _, m, .int (lo + (i : Nat)), by simp [rngD, hi], .int _⟩
end
end PyD

namespace PyD
open PySem PySem.Spec PyProof.Rows L2
section
variable {X : Cx} {a b c e : Expr} {ra rb re : DE} {tA : DT} {pos : Pos}
/-! ### lists and tuples walked -/
def iSeq (K : PySem.W.Frag) (tl : TE) : TI := fun σ H R => tl σ H fun x H1 => ∃ a, x = .ref a ∧ (((∃ xs, SqL K H1 a xs) ∧ R (Itl K a) H1) ∨ ((∃ xs, SqT K H1 a xs) ∧ R (Itt K a) H1))
theorem pi_seq {tg l : Expr} {tl : TE} (hl : PE X l tl) : PI X tg l (iSeq X.K tl) := by
  refine ⟨fun pins s σ H R I h => ?_⟩
  refine thn (hl.run pins s σ H _ I h) fun v s1 ⟨x, H1, I1, r1, q1⟩ => ?_
  obtain ⟨a, e, q1⟩ := q1
  subst e
  cases r1
  rcases q1 with ⟨⟨xs, hq⟩, q⟩ | ⟨⟨xs, hq⟩, q⟩
  · obtain ⟨its, rv, p, hz⟩ := I1.list hq
    refine wpAny_pyIter_list p.isList ?_
    refine ⟨s1.heap.objs.size, [s1.heap.objs.size], _, _, H1, rfl, I1.kept (t' := s1.toks) fun b o e => Heap.get?_push_of_some _ e, turn_list a _, ⟨_, Heap.get?_push_size _ rfl, rfl, rfl⟩, fun b hb => ?_, q⟩
    have e : b = s1.heap.objs.size := by simpa using hb
    subst e
    exact I1.fpOk (Nat.le_refl _) (I1.hok.fresh (Nat.le_refl _))
  · obtain ⟨its, rv, p, hz⟩ := I1.tuple hq
    refine wpAny_pyIter_tuple (show s1.heap.IsTuple a its.toArray from p) ?_
    refine ⟨s1.heap.objs.size, [s1.heap.objs.size], _, _, H1, rfl, I1.kept (t' := s1.toks) fun b o e => Heap.get?_push_of_some _ e, turn_tuple a _, ⟨_, Heap.get?_push_size _ rfl, rfl, rfl⟩, fun b hb => ?_, q⟩
    have e : b = s1.heap.objs.size := by simpa using hb
    subst e
    exact I1.fpOk (Nat.le_refl _) (I1.hok.fresh (Nat.le_refl _))
/-- the items of a thing, and what must go on holding -/
@[simp] def itemsD (M : DM) : D → Option (List D × (DM → Prop))
  | .tup ds => some (ds, fun _ => True)
  | .con ds => some (ds, fun _ => True)
  | .ref a => match M a with
    | some (.lst ds) => some (ds, fun M' => M' a = some (.lst ds))
    | _ => none
  | _ => none
@[simp] def dISeq (ra : DE) : DI := fun S M R => ra S M fun d M1 => match itemsD M1 d with | some (ds, st) => R ds st M1 | none => False
theorem walk_tupD {K : PySem.W.Frag} {H0 : Hp} {a : Addr} {xs : List V} {ds : List D} (h : H0 a = some (.tup xs)) (r : RepL K H0 ds xs) : DWalk K H0 (Itt K a) ds (fun _ => True) where
  goes := fun i H M hi k _ _ => by
    rw [r.length] at hi
    exact ⟨xs, xs[i], SqT.of (k.tups _ _ h), by simp [hi]⟩
  stops := fun H M k _ _ => ⟨xs, SqT.of (k.tups _ _ h), by rw [r.length]; exact Nat.le_refl _⟩
  yields := fun i H M x H' hi k m _ y => by
    obtain ⟨rfl, y⟩ := y
    have hx := y xs (SqT.of (k.tups _ _ h))
    refine ⟨.refl _, m, ds[i], by simp [hi], ?_⟩
    obtain ⟨v, h1, h2⟩ := r.get (show ds[i]? = some ds[i] by simp [hi])
    rw [hx] at h1; cases h1
    exact h2.keep k
theorem walk_conD {K : PySem.W.Frag} {H0 : Hp} {a : Addr} {xs : List V} {ds : List D} (h : ConL K H0 a xs) (r : RepL K H0 ds xs) : DWalk K H0 (Itl K a) ds (fun _ => True) where
  goes := fun i H M hi k _ _ => by
    rw [r.length] at hi
    exact ⟨xs, xs[i], (k.w.con h).seq, by simp [hi]⟩
  stops := fun H M k _ _ => ⟨xs, (k.w.con h).seq, by rw [r.length]; exact Nat.le_refl _⟩
  yields := fun i H M x H' hi k m _ y => by
    obtain ⟨rfl, y⟩ := y
    have hx := y xs (k.w.con h).seq
    refine ⟨.refl _, m, ds[i], by simp [hi], ?_⟩
    obtain ⟨v, h1, h2⟩ := r.get (show ds[i]? = some ds[i] by simp [hi])
    rw [hx] at h1; cases h1
    exact h2.keep k
theorem walk_lstD {K : PySem.W.Frag} {H0 : Hp} {a : Addr} {ds : List D} : DWalk K H0 (Itl K a) ds (fun M => M a = some (.lst ds)) where
  goes := fun i H M hi k m e => by
    obtain ⟨xs, q, r⟩ := m.lst e
    rw [r.length] at hi
    exact ⟨xs, xs[i], SqL.of q, by simp [hi]⟩
  stops := fun H M k m e => by
    obtain ⟨xs, q, r⟩ := m.lst e
    exact ⟨xs, SqL.of q, by rw [r.length]; exact Nat.le_refl _⟩
  yields := fun i H M x H' hi k m e y => by
    obtain ⟨rfl, y⟩ := y
    obtain ⟨xs, q, r⟩ := m.lst e
    have hx := y xs (SqL.of q)
    refine ⟨.refl _, m, ds[i], by simp [hi], ?_⟩
    obtain ⟨v, h1, h2⟩ := r.get (show ds[i]? = some ds[i] by simp [hi])
    rw [hx] at h1; cases h1
    exact h2
theorem di_seq {tg : Expr} (ha : DEx X a ra) : DIx X tg a (dISeq ra) := PI_weak (pi_seq ha) fun σ H R ⟨S, M, Rr, hS, hM, h, hc⟩ => ⟨S, M, _, hS, hM, h, fun d M1 v H1 k1 m1 z1 h1 => by
  split at h1
  · rename_i ds st ei
    unfold itemsD at ei
    split at ei
    · cases ei
      cases z1 with
      | tup hq r => exact ⟨_, rfl, .inr ⟨⟨_, SqT.of hq⟩, hc _ _ _ M1 H1 k1 m1 (walk_tupD hq r) h1⟩⟩
    · cases ei
      cases z1 with
      | con hq r => exact ⟨_, rfl, .inl ⟨⟨_, hq.seq⟩, hc _ _ _ M1 H1 k1 m1 (walk_conD hq r) h1⟩⟩
    · split at ei
      · rename_i ds' em
        cases ei
        cases z1
        obtain ⟨xs, q, r⟩ := m1.lst em
        exact ⟨_, rfl, .inl ⟨⟨_, SqL.of q⟩, hc _ _ _ M1 H1 k1 m1 walk_lstD h1⟩⟩
      · cases ei
    · cases ei
  · exact h1.elim⟩
/-! ### ranges -/
variable {es : List Expr} {rs : DA}
@[simp] def dRng1 (rs : DA) : DI := fun S M R => rs S M fun ds M1 => match ds with | [.int j] => (-(2 ^ 62) ≤ j ∧ j < 2 ^ 62) ∧ R (rngD 0 j.toNat) (fun _ => True) M1 | _ => False
@[simp] def dRng2 (rs : DA) : DI := fun S M R => rs S M fun ds M1 => match ds with | [.int i, .int j] => (-(2 ^ 62) ≤ i ∧ i < 2 ^ 62 ∧ -(2 ^ 62) ≤ j ∧ j < 2 ^ 62) ∧ R (rngD i (j - i).toNat) (fun _ => True) M1 | _ => False
theorem di_rng1 {tg : Expr} {p : Pos} (hg : Gl X "range") (hm : X.mg "range" = none) (ha : DAx X [a] rs) (hs : starEach [a] X.env = [(false, eval a X.env)] := by rfl) : DIx X tg (.Call (.Name "range" p) [a] [] pos) (dRng1 rs) :=
  PI_weak (pi_range1 hg hm ha hs) fun σ H R ⟨S, M, Rr, hS, hM, h, hc⟩ => ⟨S, M, _, hS, hM, h, fun ds M1 vs H1 k1 m1 z1 h1 => by
    split at h1
    · cases z1 with
      | cons r z1 => cases z1; cases r; exact ⟨_, rfl, h1.1.1, h1.1.2, hc _ _ _ M1 H1 k1 m1 walk_rng h1.2⟩
    · exact h1.elim⟩
theorem di_rng2 {tg : Expr} {p : Pos} (hg : Gl X "range") (hm : X.mg "range" = none) (ha : DAx X [a, b] rs) (hs : starEach [a, b] X.env = [(false, eval a X.env), (false, eval b X.env)] := by rfl) (hs2 : starEach [b] X.env = [(false, eval b X.env)] := by rfl) :
    DIx X tg (.Call (.Name "range" p) [a, b] [] pos) (dRng2 rs) :=
  PI_weak (pi_range2 hg hm ha hs hs2) fun σ H R ⟨S, M, Rr, hS, hM, h, hc⟩ => ⟨S, M, _, hS, hM, h, fun ds M1 vs H1 k1 m1 z1 h1 => by
    split at h1
    · cases z1 with
      | cons r z1 => cases z1 with
        | cons r' z1 => cases z1; cases r; cases r'; exact ⟨_, _, rfl, h1.1, hc _ _ _ M1 H1 k1 m1 walk_rng h1.2⟩
    · exact h1.elim⟩

/-! ### keys of a dict (locked) -/
@[simp] def keyV (k : Key) : D := match k with | .inl i => .int i | .inr x => .str x
theorem rep_key {K : PySem.W.Frag} {H : Hp} (k : Key) : Rep K H (keyV k) (kV k) := by
  cases k with
  | inl i => exact .int i
  | inr x => exact .str x
theorem walk_keyD {K : PySem.W.Frag} {H0 : Hp} {a : Addr} {o : Obj} {ws : List (Key × V)} {kvs : List (Key × D)} (h : H0 a = some (.frz o (.dK ws))) (r : RepKv K H0 kvs ws) : DWalk K H0 (Itk a o ws) (kvs.map fun p => keyV p.1) (fun _ => True) where
  goes := fun i H M hi k _ _ => ⟨k.frzs _ _ _ h, by rw [List.length_map, r.length] at hi; exact hi⟩
  stops := fun H M k _ _ => ⟨k.frzs _ _ _ h, by rw [List.length_map, r.length]; exact Nat.le_refl _⟩
  yields := fun i H M x H' hi k m _ y => by
    obtain ⟨rfl, kk, v, e1, rfl⟩ := y
    refine ⟨.refl _, m, _, by rw [List.getElem?_map, List.getElem?_eq_getElem (by rw [List.length_map] at hi; exact hi)]; rfl, ?_⟩
    have hk : (ws.map (·.1))[i]? = (kvs.map (·.1))[i]? := by rw [r.keys]
    rw [List.getElem?_map, List.getElem?_map, e1, List.getElem?_eq_getElem (by rw [List.length_map] at hi; exact hi)] at hk
    have hk' : kk = (kvs[i]'(by rw [List.length_map] at hi; exact hi)).1 := by simpa using hk
    rw [hk']
    exact rep_key _
@[simp] def dIKeys (ra : DE) : DI := fun S M R => ra S M fun d M1 => match d with
  | .ref a => match M1 a with
    | some (.fro (.dK kvs)) => R (kvs.map fun p => keyV p.1) (fun _ => True) M1
    | _ => False
  | _ => False
theorem di_keys {tg : Expr} (ha : DEx X a ra) : DIx X tg a (dIKeys ra) := PI_weak (pi_keys ha) fun σ H R ⟨S, M, Rr, hS, hM, h, hc⟩ => ⟨S, M, _, hS, hM, h, fun d M1 v H1 k1 m1 z1 h1 => by
  cases d <;> first | exact h1.elim | skip
  cases z1
  simp only at h1
  split at h1
  · rename_i kvs em
    obtain ⟨o, ws, q, r⟩ := m1.rdK em
    exact ⟨_, o, rfl, .inl ⟨ws, q, hc _ _ _ M1 H1 k1 m1 (walk_keyD q r) h1⟩⟩
  · exact h1.elim⟩
/-! ### a dict is locked while an expression runs -/
@[simp] def mutD : DO → Bool
  | .dK _ => true
  | .dT _ => true
  | _ => false
def dLockE (re : DE) : DE := fun S M Q => ∃ a o, M a = some o ∧ mutD o = true ∧ re S (updM M a (.fro o)) fun d M' => M' a = some (.fro o) ∧ Q d (updM M' a o)
theorem updM_self {M : DM} {a : Addr} {o : DO} (h : M a = some o) : updM M a o = M := by
  funext b
  unfold updM
  split
  · rename_i e; rw [e, h]
  · rfl
theorem unlockM {K : PySem.W.Frag} {H : Hp} {M : DM} {a : Addr} {o : DO} {od : Obj} {u : HO} (hM : RelM K H M) (hm : mutD o = true) (h : H a = some (.frz od u)) (hr : RepO K H o u) : KeepW H (upd H a u) ∧ RelM K (upd H a u) (updM M a o) := by
  have nl : ∀ xs, u ≠ .lst xs := fun xs z => by subst z; cases o <;> first | (exact False.elim (Bool.noConfusion hm)) | exact (show False from hr)
  have k : KeepW H (upd H a u) := ⟨fun b xs e => by rw [upd_ne (ne_of e h (by intro z; cases z))]; exact e, fun b x xs e => by rw [upd_ne (ne_of e h (by intro z; cases z; exact nl _ rfl))]; exact e⟩
  refine ⟨k, fun b x e => ?_⟩
  by_cases hb : b = a
  · subst hb
    rw [updM_same] at e
    cases e
    exact ⟨u, upd_same, hr.keepW k⟩
  · rw [updM_ne hb] at e
    obtain ⟨y, q, t⟩ := hM b x e
    exact ⟨y, by rw [upd_ne hb]; exact q, t.keepW k⟩
theorem de_lock (h : DEx X e re) : DEx X e (dLockE re) := PE_weak (pe_lock h) fun σ H Q ⟨S, M, R, hS, hM, ⟨a, o, em, hm, h⟩, hc⟩ => by
  obtain ⟨u, q, hr⟩ := hM a o em
  have mu : Mut (some u) := by
    cases o <;> first | (exact False.elim (Bool.noConfusion hm)) | (cases u <;> first | exact (show False from hr).elim | exact True.intro)
  have n1 : ∀ xs, u ≠ .tup xs := fun xs z => by subst z; exact mu
  have n2 : ∀ x y, u ≠ .frz x y := fun x y z => by subst z; exact mu
  refine ⟨a, u, q, mu, fun od => ?_⟩
  have k0 := keep_write (.frz od u) q n1 n2
  refine ⟨S, updM M a (.fro o), _, hS.keep k0, hM.write q n1 n2 (d := .fro o) hr, h, fun d M1 v H1 k1 m1 z1 ⟨e1, h1⟩ => ?_⟩
  have f1 : H1 a = some (.frz od u) := k1.frzs _ _ _ upd_same
  obtain ⟨u', q', hr'⟩ := m1 a _ e1
  rw [f1] at q'; cases q'
  obtain ⟨k2, m2⟩ := unlockM m1 hm f1 hr'
  refine ⟨f1, hc d _ v _ ⟨fun b xs e => ?_, fun b x y e => ?_⟩ m2 (z1.keepW k2) h1⟩
  · have ne : b ≠ a := ne_of e q (fun z => n1 _ z.symm)
    rw [upd_ne ne]
    exact k1.tups _ _ (by rw [upd_ne ne]; exact e)
  · have ne : b ≠ a := ne_of e q (fun z => n2 _ _ z.symm)
    rw [upd_ne ne]
    exact k1.frzs _ _ _ (by rw [upd_ne ne]; exact e)

/-! ### comprehensions -/
@[simp] def wipeS (S : DSt) : List Nat → DSt
  | [] => S
  | v :: vs => clrS (wipeS S vs) v
theorem RelS.clr {K : PySem.W.Frag} {H : Hp} {S : DSt} {σ : Sl} (r : RelS K H S σ) (i : Nat) : RelS K H (clrS S i) (σ.set i none) :=
  ⟨by rw [clrS_length, List.length_set]; exact r.len, fun j d h => by
    obtain ⟨h1, h2⟩ := getS_clr S i j d h
    obtain ⟨v, q, z⟩ := r.here j d h2
    exact ⟨v, by rw [List.getElem?_set_ne h1]; exact q, z⟩⟩
theorem RelS.wipe {K : PySem.W.Frag} {H : Hp} {S : DSt} {σ : Sl} (r : RelS K H S σ) : ∀ vs : List Nat, RelS K H (wipeS S vs) (L2.wipe σ vs)
  | [] => r
  | v :: vs => (RelS.wipe r vs).clr v
theorem wipe_get (σ : Sl) (i : Nat) : ∀ vs : List Nat, (L2.wipe σ vs)[i]? = if i ∈ vs then (if i < σ.length then some none else none) else σ[i]?
  | [] => by simp [L2.wipe]
  | v :: vs => by
    have ih := wipe_get σ i vs
    have hl := wipe_length σ vs
    unfold L2.wipe
    by_cases e : v = i
    · subst e
      rw [if_pos (List.mem_cons_self ..)]
      by_cases hv : v < σ.length
      · rw [if_pos hv, List.getElem?_set_self (by rw [hl]; exact hv)]
      · rw [if_neg hv, List.getElem?_eq_none (by rw [List.length_set, hl]; omega)]
    · rw [List.getElem?_set_ne e, ih]
      have e' : ¬ i = v := fun z => e z.symm
      simp [e']
theorem wipe_of {σ σ2 : Sl} {ow vs : List Nat} (h : SlEq ow (L2.wipe σ vs) σ2) (hs : ∀ i ∈ ow, i ∈ vs) : L2.wipe σ2 vs = L2.wipe σ vs := by
  refine List.ext_getElem? fun i => ?_
  have hl : σ2.length = σ.length := by rw [h.1, wipe_length]
  rw [wipe_get, wipe_get, hl]
  by_cases hi : i ∈ vs
  · rw [if_pos hi, if_pos hi]
  · rw [if_neg hi, if_neg hi, h.2 i fun z => hi (hs i z), wipe_get, if_neg hi]
abbrev DTsx (X : Cx) (ifs : List Expr) (r : DT) : Prop := PTs X ifs (LT X.K r)
@[simp] def dYes : DT := fun _ M Q => Q true M
theorem PTs_weak {ifs : List Expr} {t t' : TT} (p : PTs X ifs t) (h : ∀ σ H Q, t' σ H Q → t σ H Q) : PTs X ifs t' := ⟨fun pins s σ H Q I q => p.run pins s σ H Q I (h _ _ _ q)⟩
theorem dts_nil : DTsx X [] dYes := PTs_weak pts_nil fun σ H Q ⟨S, M, R, hS, hM, h, hc⟩ => hc true M H (.refl H) hM h
theorem dts_one (h : DTx X c tA) : DTsx X [c] tA := pts_one h
/-- p: the new list; Pv by the turn and the store (the list so far stands in it) -/
def dLc (di : DI) (g : DG) (tt : DT) (re : DE) (vs : List Nat) : DE := fun S M Q => di S M fun items st M1 => ∀ p, M1 p = none → ∃ Pv : Nat → DM → Prop, Pv 0 (updM M1 p (.lst [])) ∧ (∀ i M, i ≤ items.length → Pv i M → st M) ∧
  (∀ i d M, items[i]? = some d → Pv i M → g d (wipeS S vs) M fun S2 M2 => tt S2 M2 fun b M3 => if b = true then re S2 M3 fun y M4 => ∃ acc, M4 p = some (.lst acc) ∧ acc.length < sizeLine ∧ Pv (i + 1) (updM M4 p (.lst (acc ++ [y]))) else Pv (i + 1) M3) ∧
  ∀ M, Pv items.length M → Q (.ref p) M
variable {elt tg iter : Expr} {ifs : List Expr} {scope : Scope} {own : List (Str × Nat)} {di : DI} {ow : List Nat} {g : DG} {tt : DT}
theorem lift_lc {σ : Sl} {H : Hp} {Q : VK} (how : ∀ i ∈ ow, i ∈ own.map (·.2)) (h : LE X.K (dLc di g tt re (own.map (·.2))) σ H Q) : tLc (LI X.K di) (LG X.K ow g) (LT X.K tt) (LE X.K re) (own.map (·.2)) σ H Q := by
  obtain ⟨S, M, R, hS, hM, h, hc⟩ := h
  refine ⟨S, M, _, hS, hM, h, fun items st J M1 H1 k1 m1 w h1 p hp => ?_⟩
  obtain ⟨Pv, p0, pst, turn, fin⟩ := h1 p (m1.free hp)
  have kp := keep_new (.lst []) hp
  refine ⟨fun i m H' => m = items.length - i ∧ i ≤ items.length ∧ ∃ M', Keep H1 H' ∧ RelM X.K H' M' ∧ Pv i M', ⟨_, rfl, Nat.zero_le _, _, kp, m1.new hp (d := .lst []) (o := .lst []) .nil, p0⟩, ?_⟩
  rintro i m H2 ⟨rfl, hi, M2, k2, m2, p2⟩
  have q2 := pst i M2 hi p2
  by_cases hlt : i < items.length
  · refine .inr ⟨w.goes i H2 M2 hlt k2 m2 q2, fun H' => i + 1 ≤ items.length ∧ ∃ M', Keep H1 H' ∧ RelM X.K H' M' ∧ Pv (i + 1) M', fun H' z => ⟨_, by omega, rfl, z⟩, fun x H3 y => ?_⟩
    obtain ⟨k3, m3, d, ed, z3⟩ := w.yields i H2 M2 x H3 hlt k2 m2 q2 y
    refine ⟨d, wipeS S (own.map (·.2)), M2, _, z3, ((hS.keep k1).keep (k2.trans k3)).wipe _, m3, turn i d M2 ed p2, fun S4 M4 σ4 H4 k4 s4 m4 eq4 h4 => ⟨wipe_of eq4 how, ?_⟩⟩
    refine ⟨S4, M4, _, s4, m4, h4, fun k M5 H5 k5 m5 h5 => ?_⟩
    cases k with
    | true =>
      refine ⟨S4, M5, _, s4.keep k5, m5, h5, fun yv M6 v H6 k6 m6 z6 ⟨acc, e6, hz, pn⟩ => ?_⟩
      obtain ⟨xs, q6, r6⟩ := m6.lst e6
      refine ⟨xs, q6, by rw [← r6.length]; exact hz, hlt, _, ?_, m6.write q6 (fun _ z => nomatch z) (fun _ _ z => nomatch z) (d := .lst (acc ++ [yv])) (r6.append (.cons z6 .nil)), pn⟩
      exact ((((k2.trans k3).trans k4).trans k5).trans k6).trans (keep_write _ q6 (fun _ z => nomatch z) fun _ _ z => nomatch z)
    | false => exact ⟨hlt, M5, (((k2.trans k3).trans k4).trans k5), m5, h5⟩
  · have e : i = items.length := by omega
    subst e
    exact .inl ⟨w.stops H2 M2 k2 m2 q2, hc _ M2 _ H2 (k1.trans k2) m2 (.ref p) (fin M2 p2)⟩
theorem de_lc (hc : X.calm = true) (hN : X.N.Nodup) (hi : DIx X tg iter di) (ok : BlkOk X.N X.env.scope scope own) (how : ∀ i ∈ ow, i ∈ own.map (·.2))
    (hg : ∀ (s : Shared) (H : Hp) (C : Addr) (cl : List (Str × Addr)) (fp : List Addr), DGx (X.blk s H scope (compEnvC scope cl C X.env) fp) tg ow g) (ht : ∀ (s : Shared) (H : Hp) (C : Addr) (cl : List (Str × Addr)) (fp : List Addr), DTsx (X.blk s H scope (compEnvC scope cl C X.env) fp) ifs tt)
    (he : ∀ (s : Shared) (H : Hp) (C : Addr) (cl : List (Str × Addr)) (fp : List Addr), DEx (X.blk s H scope (compEnvC scope cl C X.env) fp) elt re) (hs : ∀ x, foldedSetIterable iter X.env x = pure x := by intro _; rfl) :
    DEx X (.ListComp elt [⟨tg, iter, ifs, 0⟩] scope pos) (dLc di g tt re (own.map (·.2))) := PE_weak (pe_lc hc hN hi ok hg ht he hs) fun σ H Q h => lift_lc how h
theorem ds_setLc {i : Nat} {y : Str} {py spos : Pos} (hc : X.calm = true) (hN : X.N.Nodup) (hy : X.N[i]? = some y) (hyl : X.env.scope.names.lookup y = some .local)
    (hsw : swapsWith (.ListComp elt [⟨tg, iter, ifs, 0⟩] scope pos) (some (.Name y py)) spos.line X.env = pure true) (hi : DIx X tg iter di) (ok : BlkOk X.N X.env.scope scope own) (how : ∀ i ∈ ow, i ∈ own.map (·.2))
    (hg : ∀ (s : Shared) (H : Hp) (C : Addr) (cl : List (Str × Addr)) (fp : List Addr), DGx (X.blk s H scope (compEnvC scope cl C X.env) fp) tg ow g) (ht : ∀ (s : Shared) (H : Hp) (C : Addr) (cl : List (Str × Addr)) (fp : List Addr), DTsx (X.blk s H scope (compEnvC scope cl C X.env) fp) ifs tt)
    (he : ∀ (s : Shared) (H : Hp) (C : Addr) (cl : List (Str × Addr)) (fp : List Addr), DEx (X.blk s H scope (compEnvC scope cl C X.env) fp) elt re) (hs : ∀ x, foldedSetIterable iter X.env x = pure x := by intro _; rfl) :
    DSx X (.Assign [.Name y py] (.ListComp elt [⟨tg, iter, ifs, 0⟩] scope pos) spos) (dAsg (dLc di g tt re (own.map (·.2))) (gN i)) :=
  PS_weak (ps_setLc hc hN hy hyl hsw hi ok hg ht he hs) fun D σ H ⟨S, M, E, hS, hM, h, hcl⟩ => lift_lc how ⟨S, M, _, hS, hM, h, fun d M1 v H1 k1 m1 z1 h1 => hcl.nx _ M1 _ H1 k1 ((hS.keep k1).set z1 i) m1 h1⟩
/-- {k: v for ..} -/
def dDc (di : DI) (g : DG) (tt : DT) (rk rv : DE) (vs : List Nat) : DE := fun S M Q => di S M fun items st M1 => ∀ p, M1 p = none → ∃ Pv : Nat → DM → Prop, Pv 0 (updM M1 p (.dK [])) ∧ (∀ i M, i ≤ items.length → Pv i M → st M) ∧
  (∀ i d M, items[i]? = some d → Pv i M → g d (wipeS S vs) M fun S2 M2 => tt S2 M2 fun b M3 => if b = true then rk S2 M3 fun y M4 => rv S2 M4 fun z M5 => ∃ kvs k, keyD y = some k ∧ M5 p = some (.dK kvs) ∧ kvs.length < sizeLine ∧ Pv (i + 1) (updM M5 p (.dK (putD kvs k z))) else Pv (i + 1) M3) ∧
  ∀ M, Pv items.length M → Q (.ref p) M
theorem de_dc {kx vx : Expr} {rk rv : DE} (hc : X.calm = true) (hN : X.N.Nodup) (hi : DIx X tg iter di) (ok : BlkOk X.N X.env.scope scope own) (how : ∀ i ∈ ow, i ∈ own.map (·.2))
    (hg : ∀ (s : Shared) (H : Hp) (C : Addr) (cl : List (Str × Addr)) (fp : List Addr), DGx (X.blk s H scope (compEnvC scope cl C X.env) fp) tg ow g) (ht : ∀ (s : Shared) (H : Hp) (C : Addr) (cl : List (Str × Addr)) (fp : List Addr), DTsx (X.blk s H scope (compEnvC scope cl C X.env) fp) ifs tt)
    (hk : ∀ (s : Shared) (H : Hp) (C : Addr) (cl : List (Str × Addr)) (fp : List Addr), DEx (X.blk s H scope (compEnvC scope cl C X.env) fp) kx rk)
    (he : ∀ (s : Shared) (H : Hp) (C : Addr) (cl : List (Str × Addr)) (fp : List Addr), DEx (X.blk s H scope (compEnvC scope cl C X.env) fp) vx rv) (hs : ∀ x, foldedSetIterable iter X.env x = pure x := by intro _; rfl) :
    DEx X (.DictComp kx vx [⟨tg, iter, ifs, 0⟩] scope pos) (dDc di g tt rk rv (own.map (·.2))) := PE_weak (pe_dc (g := LG X.K ow g) (tt := LT X.K tt) (tk := LE X.K rk) (tv := LE X.K rv) hc hN hi ok hg ht hk he hs) fun σ H Q ⟨S, M, R, hS, hM, h, hc⟩ => by
  refine ⟨S, M, _, hS, hM, h, fun items st J M1 H1 k1 m1 w h1 p hp => ?_⟩
  obtain ⟨Pv, p0, pst, turn, fin⟩ := h1 p (m1.free hp)
  have kp := keep_new (.dK []) hp
  refine ⟨fun i m H' => m = items.length - i ∧ i ≤ items.length ∧ ∃ M', Keep H1 H' ∧ RelM X.K H' M' ∧ Pv i M', ⟨_, rfl, Nat.zero_le _, _, kp, m1.new hp (d := .dK []) (o := .dK []) .nil, p0⟩, ?_⟩
  rintro i m H2 ⟨rfl, hi, M2, k2, m2, p2⟩
  have q2 := pst i M2 hi p2
  by_cases hlt : i < items.length
  · refine .inr ⟨w.goes i H2 M2 hlt k2 m2 q2, fun H' => i + 1 ≤ items.length ∧ ∃ M', Keep H1 H' ∧ RelM X.K H' M' ∧ Pv (i + 1) M', fun H' z => ⟨_, by omega, rfl, z⟩, fun x H3 y => ?_⟩
    obtain ⟨k3, m3, d, ed, z3⟩ := w.yields i H2 M2 x H3 hlt k2 m2 q2 y
    refine ⟨d, wipeS S (own.map (·.2)), M2, _, z3, ((hS.keep k1).keep (k2.trans k3)).wipe _, m3, turn i d M2 ed p2, fun S4 M4 σ4 H4 k4 s4 m4 eq4 h4 => ⟨wipe_of eq4 how, ?_⟩⟩
    refine ⟨S4, M4, _, s4, m4, h4, fun k M5 H5 k5 m5 h5 => ?_⟩
    cases k with
    | true =>
      refine ⟨S4, M5, _, s4.keep k5, m5, h5, fun yv M6 v H6 k6 m6 z6 h6 => ⟨S4, M6, _, (s4.keep k5).keep k6, m6, h6, fun zv M7 u H7 k7 m7 z7 ⟨kvs, kk, ek, e7, hz, pn⟩ => ?_⟩⟩
      obtain ⟨xs, q7, r7⟩ := m7.dk e7
      refine ⟨xs, kk, keyD_rep ek (z6.keep k7), q7, by rw [← r7.length]; exact hz, hlt, _, ?_, m7.write q7 (fun _ z => nomatch z) (fun _ _ z => nomatch z) (d := .dK (putD kvs kk zv)) (r7.put z7 kk), pn⟩
      exact (((((k2.trans k3).trans k4).trans k5).trans k6).trans k7).trans (keep_write _ q7 (fun _ z => nomatch z) fun _ _ z => nomatch z)
    | false => exact ⟨hlt, M5, (((k2.trans k3).trans k4).trans k5), m5, h5⟩
  · have e : i = items.length := by omega
    subst e
    exact .inl ⟨w.stops H2 M2 k2 m2 q2, hc _ M2 _ H2 (k1.trans k2) m2 (.ref p) (fin M2 p2)⟩
end
end PyD

namespace PyD
open PySem PySem.Spec PyProof.Rows L2
/-! ### promises of defs -/
abbrev DSp := List D → DM → DQ → Prop
def LSp (K : PySem.W.Frag) (sp : DSp) : Sp := fun vs H Q _ => ∃ ds M R, RepL K H ds vs ∧ RelM K H M ∧ sp ds M R ∧ Cl K H R Q
@[simp] def startS (n : Nat) (ds : List D) : DSt := ds.map some ++ List.replicate (n - ds.length) none
theorem getS_some : ∀ {S : DSt} {i : Nat} {d : D}, getS S i = some d → S[i]? = some (some d)
  | [], _, _, h => by cases h
  | o :: _, 0, _, h => by
    have h' : o = some _ := h
    rw [h']; rfl
  | _ :: l, i + 1, d, h => getS_some (S := l) (i := i) h
theorem relS_start {K : PySem.W.Frag} {H : Hp} {N : List Str} {ds : List D} {vs : List V} (r : RepL K H ds vs) (hl : ds.length ≤ N.length) : RelS K H (startS N.length ds) (L2.start N vs) := by
  have e := r.length
  refine ⟨by simp [startS, L2.start]; omega, fun i d h => ?_⟩
  have h1 := getS_some h
  unfold startS at h1
  unfold L2.start
  by_cases hi : i < ds.length
  · rw [List.getElem?_append_left (by simpa using hi), List.getElem?_map] at h1
    rw [List.getElem?_append_left (by simpa using (show i < vs.length by omega)), List.getElem?_map]
    cases q : ds[i]? with
    | none => rw [q] at h1; cases h1
    | some d' =>
      rw [q] at h1
      have : d' = d := by simpa using h1
      subst this
      obtain ⟨v, q1, q2⟩ := r.get q
      exact ⟨v, by rw [q1]; rfl, q2⟩
  · rw [List.getElem?_append_right (by simpa using (show ds.length ≤ i by omega))] at h1
    simp [List.getElem?_replicate] at h1
section
variable {P : Program} {w : World} {K : PySem.W.Frag} {mg : Str → Option Value} {base : Heap}
theorem fn_ok {x qual : Str} {params : Arguments} {body : List Stmt} {scope : Scope} {f : Addr} {fd : FuncData} {N ps : List Str} {k : Nat} {sp : DSp} {r : DS} (F : FunD K x qual params body scope [] [] f fd) (S : FnScope N ps scope)
    (len : ∀ ds M R, sp ds M R → ds.length = ps.length) (hn : ps.length ≤ N.length)
    (hbody : ∀ (cdv : Value) (A : Around) (outer : List Env) (s : Shared) (H : Hp) (E : XK), Room k (A.deeper (envOfC qual scope s.heap.objs.size f cdv)) → DSsx (cxOf CX0 P w K mg base N qual scope f cdv A outer s H E).nox body r)
    (pure : ∀ ds M R, sp ds M R → r { nx := fun _ M' => R .non M', rt := R } (startS N.length ds) M) : FnOk P w K mg base CX0 (k + 1) f fd ps (LSp K sp) := by
  refine F.ok S (fun vs H Q E ⟨ds, M, R, r1, _, h, _⟩ => by rw [← r1.length]; exact len ds M R h) (fun cdv A outer s H vs Q E hr ⟨ds, M, R, r1, hM, h, hc⟩ => ⟨_, PSs.nox (hbody cdv A outer s H E hr), ?_⟩)
  refine ⟨startS N.length ds, M, _, relS_start r1 (by rw [len ds M R h]; exact hn), hM, pure ds M R h, ⟨fun S' M' σ' H' k' s' m' h' => hc .non M' .non H' k' m' .non h', fun _ _ _ _ _ _ _ z => z.elim, fun _ _ _ _ _ _ _ z => z.elim, hc⟩⟩
end
section
variable {X : Cx} {a b c e : Expr} {es : List Expr} {ra rb re : DE} {rs : DA} {tA : DT} {pos : Pos}
@[simp] def dCall (sp : DSp) (rs : DA) : DE := fun S M Q => rs S M fun ds M1 => sp ds M1 Q
theorem de_call {k : Nat} {f : Addr} {fd : FuncData} {ps : List Str} {sp : DSp} {x : Str} {p : Pos} (F : FnOk X.prog X.w X.K X.mg X.base CX0 k f fd ps (LSp X.K sp)) (hr : Room k X.A) (hg : Gl X x) (hm : X.mg x = some (.ref f)) (hk : PySem.W.keepIn X.K (.ref f) = true) (hb : Binds X.K fd ps [])
    (ha : DAx X (e :: es) rs) (hdb : (x == ("__debug__" : Str)) = false := by decide) (he : starEach (e :: es) X.env = (false, eval e X.env) :: starEach es X.env := by rfl) (hpl : (backTo pos (starEach es X.env)).any (·.1) = false := by rfl) :
    DEx X (.Call (.Name x p) (e :: es) [] pos) (dCall sp rs) := PE_weak (pe_call F hr hg hm hk hb .nil pass0 ha hdb he hpl) fun σ H Q ⟨S, M, R, hS, hM, h, hc⟩ =>
  ⟨S, M, _, hS, hM, h, fun ds M1 vs H1 k1 m1 z1 h1 => ⟨ds, M1, R, by rw [List.append_nil]; exact z1, m1, h1, hc.keep k1⟩⟩
@[simp] def dCB (r : DC) (rs : DA) : DE := fun S M Q => rs S M fun ds M1 => r ds M1 Q
theorem lift_cb {r : DC} {σ : Sl} {H : Hp} {Q : VK} (h : LE X.K (dCB r rs) σ H Q) : tCB (LC X.K r) (LA X.K rs) σ H Q := by
  obtain ⟨S, M, R, hS, hM, h, hc⟩ := h
  exact ⟨S, M, _, hS, hM, h, fun ds M1 vs H1 k1 m1 z1 h1 => ⟨ds, M1, R, z1, m1, h1, hc.keep k1⟩⟩
theorem de_callB {r : DC} {id : String} {x : Str} {p : Pos} (hc : DCall X (.builtin id) r) (hg : Gl X x) (hm : X.mg x = none) (hv : bootBuiltins x = some (.builtin id)) (ha : DAx X (e :: es) rs) (hn : x ≠ "__name__" := by decide) (hdb : (x == ("__debug__" : Str)) = false := by decide)
    (he : starEach (e :: es) X.env = (false, eval e X.env) :: starEach es X.env := by rfl) (hpl : (backTo pos (starEach es X.env)).any (·.1) = false := by rfl) : DEx X (.Call (.Name x p) (e :: es) [] pos) (dCB r rs) :=
  PE_weak (pe_callB hc hg hm hv ha hn hdb he hpl) fun _ _ _ h => lift_cb h
theorem de_callTy {r : DC} {T : String} {x : Str} {p : Pos} (hc : DCall X (.type T) r) (hg : Gl X x) (hm : X.mg x = none) (hv : bootBuiltins x = some (.type T)) (ha : DAx X (e :: es) rs) (hn : x ≠ "__name__" := by decide) (hdb : (x == ("__debug__" : Str)) = false := by decide)
    (he : starEach (e :: es) X.env = (false, eval e X.env) :: starEach es X.env := by rfl) (hpl : (backTo pos (starEach es X.env)).any (·.1) = false := by rfl) : DEx X (.Call (.Name x p) (e :: es) [] pos) (dCB r rs) :=
  PE_weak (pe_callTy hc hg hm hv ha hn hdb he hpl) fun _ _ _ h => lift_cb h
/-! ### built-ins -/
@[simp] def cInt : DC := fun ds M Q => match ds with | [.int i] => Q (.int i) M | [.bl b] => Q (.int (if b then 1 else 0)) M | _ => False
theorem rep1 {K : PySem.W.Frag} {H : Hp} {d : D} {xs : List V} (r : RepL K H [d] xs) : ∃ v, xs = [v] ∧ Rep K H d v := by
  cases r with | cons r t => cases t; exact ⟨_, rfl, r⟩
theorem rep2 {K : PySem.W.Frag} {H : Hp} {d d' : D} {xs : List V} (r : RepL K H [d, d'] xs) : ∃ v v', xs = [v, v'] ∧ Rep K H d v ∧ Rep K H d' v' := by
  cases r with | cons r t => cases t with | cons r' t => cases t; exact ⟨_, _, rfl, r, r'⟩
theorem dc_int : DCall X (.type "int") cInt := Call_weak call_int1 fun xs H Q ⟨ds, M, R, r, hM, h, hc⟩ => by
  unfold cInt at h
  split at h
  · obtain ⟨v, rfl, z⟩ := rep1 r; cases z; exact .inl ⟨_, rfl, hc _ M _ H (.refl H) hM (.int _) h⟩
  · obtain ⟨v, rfl, z⟩ := rep1 r; cases z; exact .inr ⟨_, rfl, hc _ M _ H (.refl H) hM (.int _) h⟩
  · exact h.elim
@[simp] def cAbs : DC := fun ds M Q => match ds with | [.int i] => Q (.int i.natAbs) M | _ => False
theorem dc_abs : DCall X (.builtin "abs") cAbs := Call_weak call_abs fun xs H Q ⟨ds, M, R, r, hM, h, hc⟩ => by
  unfold cAbs at h
  split at h
  · rename_i i
    obtain ⟨v, rfl, z⟩ := rep1 r; cases z
    refine ⟨_, rfl, ?_⟩
    have e : (if i < 0 then -i else i) = (i.natAbs : Int) := by split <;> omega
    rw [e]
    exact hc _ M _ H (.refl H) hM (.int _) h
  · exact h.elim
@[simp] def cMax2 : DC := fun ds M Q => match ds with | [.int i, .int j] => Q (.int (max i j)) M | _ => False
@[simp] def cMin2 : DC := fun ds M Q => match ds with | [.int i, .int j] => Q (.int (min i j)) M | _ => False
theorem dc_max2 (hcm : X.calm = true) : DCall X (.builtin "max") cMax2 := Call_weak (call_max2 hcm) fun xs H Q ⟨ds, M, R, r, hM, h, hc⟩ => by
  unfold cMax2 at h
  split at h
  · rename_i i j
    obtain ⟨v, v', rfl, z, z'⟩ := rep2 r; cases z; cases z'
    refine ⟨_, _, rfl, ?_⟩
    have e : (if j > i then j else i) = max i j := by split <;> omega
    rw [e]
    exact hc _ M _ H (.refl H) hM (.int _) h
  · exact h.elim
theorem dc_min2 (hcm : X.calm = true) : DCall X (.builtin "min") cMin2 := Call_weak (call_min2 hcm) fun xs H Q ⟨ds, M, R, r, hM, h, hc⟩ => by
  unfold cMin2 at h
  split at h
  · rename_i i j
    obtain ⟨v, v', rfl, z, z'⟩ := rep2 r; cases z; cases z'
    refine ⟨_, _, rfl, ?_⟩
    have e : (if j < i then j else i) = min i j := by split <;> omega
    rw [e]
    exact hc _ M _ H (.refl H) hM (.int _) h
  · exact h.elim
/-- len -/
@[simp] def lenD (M : DM) : D → Option Nat
  | .tup ds => some ds.length
  | .con ds => some ds.length
  | .str z => if z.length ≤ sizeLine then some z.length else none
  | .ref a => match M a with
    | some (.lst ds) => some ds.length
    | some (.dK kvs) => some kvs.length
    | some (.dT kvs) => some kvs.length
    | _ => none
  | _ => none
@[simp] def cLen : DC := fun ds M Q => match ds with | [d] => (match lenD M d with | some n => Q (.int (n : Nat)) M | none => False) | _ => False
theorem dc_len : DCall X (.builtin "len") cLen := Call_weak (call_len.or (call_lenD.or call_len_dT)) fun xs H Q ⟨ds, M, R, r, hM, h, hc⟩ => by
  unfold cLen at h
  split at h
  · rename_i d
    obtain ⟨v, rfl, z⟩ := rep1 r
    split at h
    · rename_i n en
      have fin : Q (.int (n : Nat)) H := hc _ M _ H (.refl H) hM (.int _) h
      unfold lenD at en
      split at en
      · cases en
        cases z with
        | tup hq rl => exact .inl ⟨_, _, rfl, .inr ⟨_, SqT.of hq, by rw [rl.length]⟩, fin⟩
      · cases en
        cases z with
        | con hq rl => exact .inl ⟨_, _, rfl, .inl ⟨_, hq.seq, by rw [rl.length]⟩, fin⟩
      · split at en
        · rename_i hz
          cases en
          cases z
          exact .inl ⟨_, _, rfl, ⟨hz, rfl⟩, fin⟩
        · cases en
      · cases z
        split at en
        · rename_i em
          cases en
          obtain ⟨xs, q, rl⟩ := hM.lst em
          exact .inl ⟨_, _, rfl, .inl ⟨_, SqL.of q, by rw [rl.length]⟩, fin⟩
        · rename_i em
          cases en
          obtain ⟨xs, q, rl⟩ := hM.dk em
          exact .inr (.inl ⟨_, _, rfl, q, by rw [← rl.length]; exact fin⟩)
        · rename_i em
          cases en
          obtain ⟨xs, q, rl⟩ := hM.dt em
          exact .inr (.inr ⟨_, _, rfl, q, by rw [← rl.length]; exact fin⟩)
        · cases en
      · cases en
    · exact h.elim
  · exact h.elim
/-- the items of a sequence -/
@[simp] def seqD (M : DM) : D → Option (List D)
  | .tup ds => some ds
  | .con ds => some ds
  | .ref a => match M a with
    | some (.lst ds) => some ds
    | _ => none
  | _ => none
theorem seq_rep {K : PySem.W.Frag} {H : Hp} {M : DM} {d : D} {v : V} {ds : List D} (z : Rep K H d v) (hM : RelM K H M) (e : seqD M d = some ds) : ∃ p xs, v = .ref p ∧ (SqL K H p xs ∨ SqT K H p xs) ∧ RepL K H ds xs := by
  unfold seqD at e
  split at e
  · cases e
    cases z with
    | tup hq rl => exact ⟨_, _, rfl, .inr (SqT.of hq), rl⟩
  · cases e
    cases z with
    | con hq rl => exact ⟨_, _, rfl, .inl hq.seq, rl⟩
  · cases z
    split at e
    · rename_i em
      cases e
      obtain ⟨xs, q, rl⟩ := hM.lst em
      exact ⟨_, _, rfl, .inl (SqL.of q), rl⟩
    · cases e
  · cases e
@[simp] def cList : DC := fun ds M Q => match ds with | [d] => (match seqD M d with | some xs => ∀ p, M p = none → Q (.ref p) (updM M p (.lst xs)) | none => False) | _ => False
theorem dc_list : DCall X (.type "list") cList := Call_weak call_list_of fun xs H Q ⟨ds, M, R, r, hM, h, hc⟩ => by
  unfold cList at h
  split at h
  · obtain ⟨v, rfl, z⟩ := rep1 r
    split at h
    · rename_i ds' es
      obtain ⟨p, ys, rfl, hq, rl⟩ := seq_rep z hM es
      exact ⟨p, ys, rfl, hq, fun l hl => hc _ _ _ _ (keep_new _ hl) (hM.new hl (d := .lst ds') rl) (.ref l) (h l (hM.free hl))⟩
    · exact h.elim
  · exact h.elim
@[simp] def cTuple : DC := fun ds M Q => match ds with | [d] => (match seqD M d with | some xs => Q (.tup xs) M | none => False) | _ => False
theorem dc_tuple : DCall X (.type "tuple") cTuple := Call_weak call_tuple_of fun xs H Q ⟨ds, M, R, r, hM, h, hc⟩ => by
  unfold cTuple at h
  split at h
  · obtain ⟨v, rfl, z⟩ := rep1 r
    split at h
    · rename_i ds' es
      have z0 := z
      unfold seqD at es
      split at es
      · cases es
        cases z with
        | tup hq rl => exact ⟨_, _, rfl, .inr ⟨SqT.of hq, hc _ M _ H (.refl H) hM z0 h⟩⟩
      · cases es
        cases z with
        | con hq rl => exact ⟨_, _, rfl, .inl ⟨hq.seq, fun l hl => hc _ M _ _ (keep_new _ hl) (hM.tup _ hl) (rep_tup hl rl) h⟩⟩
      · cases z
        split at es
        · rename_i em
          cases es
          obtain ⟨xs, q, rl⟩ := hM.lst em
          exact ⟨_, _, rfl, .inl ⟨SqL.of q, fun l hl => hc _ M _ _ (keep_new _ hl) (hM.tup _ hl) (rep_tup hl rl) h⟩⟩
        · cases es
      · cases es
    · exact h.elim
  · exact h.elim
/-- sorted of ints -/
def sortI (ns : List Int) : List Int := ns.mergeSort (fun a b => decide (a ≤ b))
theorem sortI_perm (ns : List Int) : (sortI ns).Perm ns := List.mergeSort_perm ns _
theorem sortI_pw (ns : List Int) : (sortI ns).Pairwise (· ≤ ·) := by
  have h := List.pairwise_mergeSort (le := fun a b : Int => decide (a ≤ b)) (by intro a b c h1 h2; simp at *; omega) (by intro a b; simp; omega) ns
  exact h.imp (by intro a b h; simpa using h)
theorem sorted_unique : ∀ {l m : List Int}, l.Pairwise (· ≤ ·) → m.Pairwise (· ≤ ·) → l.Perm m → l = m := fun h1 h2 p => p.eq_of_pairwise (fun a b _ _ x y => by omega) h1 h2
@[simp] def cSorted : DC := fun ds M Q => match ds with | [d] => (match (seqD M d).bind intsD with | some ns => (match d with | .tup _ => False | _ => ∀ p, M p = none → Q (.ref p) (updM M p (.lst ((sortI ns).map .int)))) | none => False) | _ => False
theorem dc_sorted : DCall X (.builtin "sorted") cSorted := Call_weak cr_sortedI fun xs H Q ⟨ds, M, R, r, hM, h, hc⟩ => by
  unfold cSorted at h
  split at h
  · rename_i d
    obtain ⟨v, rfl, z⟩ := rep1 r
    split at h
    · rename_i ns en
      obtain ⟨ds', e1, e2⟩ := Option.bind_eq_some_iff.mp en
      have e3 := intsD_eq e2
      subst e3
      have key : ∃ p, v = .ref p ∧ SqL X.K H p (ns.map V.int) := by
        unfold seqD at e1
        split at e1
        · exact h.elim
        · cases e1
          cases z with
          | con hq rl => rw [rl.ints] at hq; exact ⟨_, rfl, hq.seq⟩
        · cases z
          split at e1
          · rename_i em
            cases e1
            obtain ⟨xs, q, rl⟩ := hM.lst em
            rw [rl.ints] at q
            exact ⟨_, rfl, SqL.of q⟩
          · cases e1
        · cases e1
      obtain ⟨p, rfl, hq⟩ := key
      refine ⟨p, ns, rfl, hq, fun ns' q hp hs hq' => ?_⟩
      have eu : ns' = sortI ns := sorted_unique hs (sortI_pw ns) (hp.trans (sortI_perm ns).symm)
      subst eu
      have h' : ∀ p, M p = none → R (.ref p) (updM M p (.lst ((sortI ns).map .int))) := by
        cases d <;> first | exact h.elim | exact h
      exact hc _ _ _ _ (keep_new _ hq') (hM.new hq' (d := .lst ((sortI ns).map .int)) (o := .lst ((sortI ns).map V.int)) (RepL.of_ints _)) (.ref q) (h' q (hM.free hq'))
    · exact h.elim
  · exact h.elim
/-- any, all of a list of bools -/
@[simp] def blsD : List D → Option (List Bool)
  | [] => some []
  | .bl b :: ds => (blsD ds).map fun bs => b :: bs
  | _ :: _ => none
@[simp] theorem blsD_map : ∀ ns : List Bool, blsD (ns.map D.bl) = some ns
  | [] => rfl
  | n :: ns => by simp [blsD, blsD_map ns]
theorem blsD_eq : ∀ {ds : List D} {ns : List Bool}, blsD ds = some ns → ds = ns.map D.bl
  | [], _, h => by cases h; rfl
  | .bl i :: ds, ns, h => by
    unfold blsD at h
    obtain ⟨ms, e1, e2⟩ := Option.map_eq_some_iff.mp h
    subst e2
    rw [blsD_eq e1]
    rfl
  | .non :: _, _, h => by cases h
  | .int _ :: _, _, h => by cases h
  | .str _ :: _, _, h => by cases h
  | .ref _ :: _, _, h => by cases h
  | .ty _ :: _, _, h => by cases h
  | .tup _ :: _, _, h => by cases h
  | .con _ :: _, _, h => by cases h
@[simp] def lstOf (M : DM) : List D → Option (List D)
  | [.ref a] => match M a with | some (.lst ds) => some ds | _ => none
  | _ => none
@[simp] def cAny : DC := fun ds M Q => match (lstOf M ds).bind blsD with | some bs => Q (.bl (bs.any id)) M | none => False
@[simp] def cAll : DC := fun ds M Q => match (lstOf M ds).bind blsD with | some bs => Q (.bl (bs.all id)) M | none => False
@[simp] def cSum : DC := fun ds M Q => match (lstOf M ds).bind intsD with | some ns => Q (.int ns.sum) M | none => False
theorem lstOf_rep {K : PySem.W.Frag} {H : Hp} {M : DM} {ds xs : List D} {vs : List V} (r : RepL K H ds vs) (hM : RelM K H M) (e : lstOf M ds = some xs) : ∃ p ys, vs = [.ref p] ∧ H p = some (.lst ys) ∧ RepL K H xs ys := by
  unfold lstOf at e
  split at e
  · obtain ⟨v, rfl, z⟩ := rep1 r
    cases z
    split at e
    · rename_i em
      cases e
      obtain ⟨ys, q, rl⟩ := hM.lst em
      exact ⟨_, ys, rfl, q, rl⟩
    · cases e
  · cases e
theorem dc_any (hcm : X.calm = true) : DCall X (.builtin "any") cAny := Call_weak (cr_any hcm) fun xs H Q ⟨ds, M, R, r, hM, h, hc⟩ => by
  unfold cAny at h
  split at h
  · rename_i bs eb
    obtain ⟨l, e1, e2⟩ := Option.bind_eq_some_iff.mp eb
    obtain ⟨p, ys, rfl, q, rl⟩ := lstOf_rep r hM e1
    rw [blsD_eq e2] at rl
    rw [rl.bls] at q
    exact ⟨p, bs, rfl, SqL.of q, hc _ M _ H (.refl H) hM (.bl _) h⟩
  · exact h.elim
theorem dc_all (hcm : X.calm = true) : DCall X (.builtin "all") cAll := Call_weak (cr_all hcm) fun xs H Q ⟨ds, M, R, r, hM, h, hc⟩ => by
  unfold cAll at h
  split at h
  · rename_i bs eb
    obtain ⟨l, e1, e2⟩ := Option.bind_eq_some_iff.mp eb
    obtain ⟨p, ys, rfl, q, rl⟩ := lstOf_rep r hM e1
    rw [blsD_eq e2] at rl
    rw [rl.bls] at q
    exact ⟨p, bs, rfl, SqL.of q, hc _ M _ H (.refl H) hM (.bl _) h⟩
  · exact h.elim
theorem dc_sum (hcm : X.calm = true) : DCall X (.builtin "sum") cSum := Call_weak (cr_sum hcm) fun xs H Q ⟨ds, M, R, r, hM, h, hc⟩ => by
  unfold cSum at h
  split at h
  · rename_i bs eb
    obtain ⟨l, e1, e2⟩ := Option.bind_eq_some_iff.mp eb
    obtain ⟨p, ys, rfl, q, rl⟩ := lstOf_rep r hM e1
    rw [intsD_eq e2] at rl
    rw [rl.ints] at q
    exact ⟨p, bs, rfl, SqL.of q, hc _ M _ H (.refl H) hM (.int _) h⟩
  · exact h.elim

/-! ### methods of lists -/
@[simp] def isLst (M : DM) : D → Prop
  | .ref a => match M a with | some (.lst _) => True | _ => False
  | .con _ => True
  | _ => False
abbrev DMr := D → List D → DM → DQ → Prop
def LMr (K : PySem.W.Frag) (r : DMr) : V → List V → Hp → VK → Prop := fun x xs H Q => ∃ d ds M R, Rep K H d x ∧ RepL K H ds xs ∧ RelM K H M ∧ r d ds M R ∧ Cl K H R Q
theorem isLst_ty {K : PySem.W.Frag} {H : Hp} {M : DM} {d : D} {v : V} (h : isLst M d) (z : Rep K H d v) (hM : RelM K H M) : tyV K "list" v H := by
  unfold isLst at h
  split at h
  · cases z
    split at h
    · rename_i em
      obtain ⟨xs, q, _⟩ := hM.lst em
      exact .inl ⟨rfl, _, SqL.of q⟩
    · exact h.elim
  · cases z with
    | con hq rl => exact .inl ⟨rfl, _, hq.seq⟩
  · exact h.elim
@[simp] def dMt (r : DMr) (ro : DE) (rs : DA) : DE := fun S M Q => ro S M fun d M1 => isLst M1 d ∧ rs S M1 fun ds M2 => r d ds M2 Q
@[simp] def dMt0 (r : DMr) (ro : DE) : DE := fun S M Q => ro S M fun d M1 => isLst M1 d ∧ r d [] M1 Q
theorem Mt_weak {id : String} {r r' : V → List V → Hp → VK → Prop} (p : MtR X id r) (h : ∀ x xs H Q, r' x xs H Q → r x xs H Q) : MtR X id r' := fun pins s σ H x xs v us Q I rx rs q => p pins s σ H x xs v us Q I rx rs (h _ _ _ _ q)
theorem de_mt {r : DMr} {ro : DE} {o : Expr} {name : Str} {id : String} {apos : Pos} (slot : Slot "list" name id) (hty : typeOf (.builtin id) = pure (.type "method_descriptor")) (hm : MtR X id (LMr X.K r)) (ho : DEx X o ro) (ha : DAx X (e :: es) rs)
    (hbase : attributeBase o name X.env (eval o X.env) = eval o X.env := by rfl)
    (hfew : ((backTo pos (starEach (e :: es) X.env)).all (fun x => !x.1) && (backToKw pos (keywordEach [] X.env)).all (fun x => x.1.isSome)
      && decide ((e :: es).length + ([] : List Keyword).length + (if ([] : List Keyword).isEmpty then 0 else 1) < 30)) = true := by rfl)
    (hline : (apos.endLine == pos.line) = true := by rfl) (hs : starEach (e :: es) X.env = (false, eval e X.env) :: starEach es X.env := by rfl) (hplain : (backTo pos (starEach es X.env)).any (·.1) = false := by rfl) :
    DEx X (.Call (.Attribute o name apos) (e :: es) [] pos) (dMt r ro rs) := PE_weak (pe_bm PySem.F.plainAttrs_list slot hty hm ho ha hbase hfew hline hs hplain) fun σ H Q ⟨S, M, R, hS, hM, h, hc⟩ =>
  ⟨S, M, _, hS, hM, h, fun d M1 v H1 k1 m1 z1 ⟨hl, h1⟩ => ⟨isLst_ty hl z1 m1, S, M1, _, hS.keep k1, m1, h1, fun ds M2 vs H2 k2 m2 z2 h2 => ⟨d, ds, M2, R, z1.keep k2, z2, m2, h2, hc.keep (k1.trans k2)⟩⟩⟩
theorem de_mt0 {r : DMr} {ro : DE} {o : Expr} {name : Str} {id : String} {apos : Pos} (slot : Slot "list" name id) (hty : typeOf (.builtin id) = pure (.type "method_descriptor")) (hm : MtR X id (LMr X.K r)) (ho : DEx X o ro)
    (hbase : attributeBase o name X.env (eval o X.env) = eval o X.env := by rfl) (hline : (apos.endLine == pos.line) = true := by rfl) :
    DEx X (.Call (.Attribute o name apos) [] [] pos) (dMt0 r ro) := PE_weak (pe_bm0 PySem.F.plainAttrs_list slot hty hm ho hbase hline) fun σ H Q ⟨S, M, R, hS, hM, h, hc⟩ =>
  ⟨S, M, _, hS, hM, h, fun d M1 v H1 k1 m1 z1 ⟨hl, h1⟩ => ⟨isLst_ty hl z1 m1, d, [], M1, R, z1, .nil, m1, h1, hc.keep k1⟩⟩
@[simp] def mAppend : DMr := fun d ds M Q => match d, ds with
  | .ref a, [y] => match M a with
    | some (.lst xs) => xs.length < sizeLine ∧ Q .non (updM M a (.lst (xs ++ [y])))
    | _ => False
  | _, _ => False
theorem keep_lst {H : Hp} {a : Addr} {xs : List V} (o : HO) (q : H a = some (.lst xs)) : Keep H (upd H a o) := keep_write o q (fun _ z => nomatch z) fun _ _ z => nomatch z
theorem RelM.wlst {K : PySem.W.Frag} {H : Hp} {M : DM} {a : Addr} {xs ys : List V} {ds : List D} (r : RelM K H M) (q : H a = some (.lst xs)) (rl : RepL K H ds ys) : RelM K (upd H a (.lst ys)) (updM M a (.lst ds)) :=
  r.write q (fun _ z => nomatch z) (fun _ _ z => nomatch z) (d := .lst ds) rl
theorem dm_append : MtR X "list.append" (LMr X.K mAppend) := Mt_weak mt_append fun x xs H Q ⟨d, ds, M, R, z, r, hM, h, hc⟩ => by
  unfold mAppend at h
  split at h
  · cases z
    obtain ⟨v, rfl, zv⟩ := rep1 r
    split at h
    · rename_i em
      obtain ⟨ys, q, rl⟩ := hM.lst em
      exact ⟨_, ys, v, rfl, rfl, q, by rw [← rl.length]; exact h.1, hc _ _ _ _ (keep_lst _ q) (hM.wlst q (rl.append (.cons zv .nil))) .non h.2⟩
    · exact h.elim
  · exact h.elim
@[simp] def mPop : DMr := fun d ds M Q => match d, ds with
  | .ref a, [] => match M a with
    | some (.lst xs) => match xs[xs.length - 1]? with
      | some y => Q y (updM M a (.lst xs.dropLast))
      | none => False
    | _ => False
  | .ref a, [.int i] => match M a with
    | some (.lst xs) => match seqIndex? i xs.length with
      | some k => match xs[k]? with
        | some y => (-(2 ^ 63) ≤ i ∧ i < 2 ^ 63) ∧ Q y (updM M a (.lst (xs.eraseIdx k)))
        | none => False
      | none => False
    | _ => False
  | _, _ => False
theorem dm_pop : MtR X "list.pop" (LMr X.K mPop) := Mt_weak (MtR.or mt_pop mt_popAt) fun x xs H Q ⟨d, ds, M, R, z, r, hM, h, hc⟩ => by
  unfold mPop at h
  split at h
  · cases z
    cases r
    split at h
    · rename_i em
      obtain ⟨ys, q, rl⟩ := hM.lst em
      split at h
      · rename_i y ey
        rw [rl.length] at ey
        obtain ⟨v, hv, zv⟩ := rl.get ey
        have k := keep_lst (.lst ys.dropLast) q
        exact .inl ⟨_, ys, v, rfl, rfl, q, hv, hc _ _ _ _ k (hM.wlst q rl.dropLast) (zv.keep k) h⟩
      · exact h.elim
    · exact h.elim
  · cases z
    obtain ⟨v, rfl, zv⟩ := rep1 r
    cases zv
    split at h
    · rename_i em
      obtain ⟨ys, q, rl⟩ := hM.lst em
      split at h
      · rename_i k ek
        split at h
        · rename_i y ey
          obtain ⟨v, hv, zv⟩ := rl.get ey
          have kk := keep_lst (.lst (ys.eraseIdx k)) q
          exact .inr ⟨_, ys, _, k, v, rfl, rfl, q, h.1.1, h.1.2, by rw [← rl.length]; exact ek, hv, hc _ _ _ _ kk (hM.wlst q (rl.eraseIdx k)) (zv.keep kk) h.2⟩
        · exact h.elim
      · exact h.elim
    · exact h.elim
  · exact h.elim
@[simp] def mExtend : DMr := fun d ds M Q => match d, ds with
  | .ref a, [.ref b] => match M a, M b with
    | some (.lst xs), some (.lst ys) => xs.length + ys.length ≤ sizeLine ∧ Q .non (updM M a (.lst (xs ++ ys)))
    | _, _ => False
  | _, _ => False
theorem dm_extend : MtR X "list.extend" (LMr X.K mExtend) := Mt_weak mt_extend fun x xs H Q ⟨d, ds, M, R, z, r, hM, h, hc⟩ => by
  unfold mExtend at h
  split at h
  · cases z
    obtain ⟨v, rfl, zv⟩ := rep1 r
    cases zv
    split at h
    · rename_i em em'
      obtain ⟨us, q, rl⟩ := hM.lst em
      obtain ⟨vs, q', rl'⟩ := hM.lst em'
      exact ⟨_, _, us, vs, rfl, rfl, q, q', by rw [← rl.length, ← rl'.length]; exact h.1, hc _ _ _ _ (keep_lst _ q) (hM.wlst q (rl.append rl')) .non h.2⟩
    · exact h.elim
  · exact h.elim
end
end PyD

namespace PyD
open PySem PySem.Spec PyProof.Rows L2
section
variable {X : Cx} {a b c e f : Expr} {es : List Expr} {ra rb rc re : DE} {rs : DA} {tA : DT} {pos : Pos}
/-! ### chains as tests -/
theorem dt_chain {op op' : CmpOp} {r r' : D2} (ho : DOp X (compareOp op) r) (ho' : DOp X (compareOp op') r') (ha : DEx X a ra) (hb : DEx X b rb) (hc : DEx X c rc) (hm : lastMarks [op, op'] [b, c] = false := by with_unfolding_all rfl) :
    DTx X (.Compare a [op, op'] [b, c] pos) (dB (dChain r r' ra rb rc)) := PT_weak (pt_chain ho ho' ha hb hc hm) fun _ _ _ h => by
  obtain ⟨S, M, R, hS, hM, h, hcl⟩ := h
  exact lift_chain ⟨S, M, _, hS, hM, h, fun f M3 x H3 k3 m3 z3 h3 => by
    cases f <;> first | exact h3.elim | (cases z3; exact ⟨_, rfl, hcl _ M3 H3 k3 m3 h3⟩)⟩
/-! ### dicts: displays -/
@[simp] def dNew : DE := fun _ M Q => ∀ p, M p = none → Q (.ref p) (updM M p (.dK []))
@[simp] def dNewT : DE := fun _ M Q => ∀ p, M p = none → Q (.ref p) (updM M p (.dT []))
theorem de_dnew : DEx X (.Dict [] [] pos) dNew := PE_weak pe_dnewK fun σ H Q ⟨S, M, R, hS, hM, h, hc⟩ => fun p hp => hc _ _ _ _ (keep_new _ hp) (hM.new hp (d := .dK []) (o := .dK []) .nil) (.ref p) (h p (hM.free hp))
theorem de_dnewT : DEx X (.Dict [] [] pos) dNewT := PE_weak pe_dnewT fun σ H Q ⟨S, M, R, hS, hM, h, hc⟩ => fun p hp => hc _ _ _ _ (keep_new _ hp) (hM.new hp (d := .dT []) (o := .dT []) .nil) (.ref p) (h p (hM.free hp))
@[simp] def dPairs : List (DE × DE) → DSt → DM → (List (D × D) → DM → Prop) → Prop
  | [], _, M, Q => Q [] M
  | (rk, rv) :: r, S, M, Q => rk S M fun x M1 => rv S M1 fun y M2 => dPairs r S M2 fun ps M3 => Q ((x, y) :: ps) M3
def lps (K : PySem.W.Frag) (rs : List (DE × DE)) : List (TE × TE) := rs.map fun p => (LE K p.1, LE K p.2)
abbrev DPs (X : Cx) (pos : Pos) (keys : List (Option Expr)) (values : List Expr) (rs : List (DE × DE)) : Prop := PPs X pos keys values (lps X.K rs)
theorem dps_nil : DPs X pos [] [] [] := pps_nil
theorem dps_cons {k v : Expr} {ks : List (Option Expr)} {vs : List Expr} {rk rv : DE} {rs : List (DE × DE)} (hk : DEx X k rk) (hv : DEx X v rv) (hr : DPs X pos ks vs rs) : DPs X pos (some k :: ks) (v :: vs) ((rk, rv) :: rs) := pps_cons hk hv hr
inductive RepP (K : PySem.W.Frag) (H : Hp) : List (D × D) → List (V × V) → Prop
  | nil : RepP K H [] []
  | cons {d e : D} {ds : List (D × D)} {v w : V} {vs : List (V × V)} : Rep K H d v → Rep K H e w → RepP K H ds vs → RepP K H ((d, e) :: ds) ((v, w) :: vs)
theorem lift_pairs {K : PySem.W.Frag} {σ : Sl} : ∀ (rs : List (DE × DE)) {S : DSt} {M : DM} {H : Hp} {R : List (D × D) → DM → Prop} {Q : List (V × V) → Hp → Prop}, RelS K H S σ → RelM K H M → dPairs rs S M R →
    (∀ ps M' vs H', Keep H H' → RelM K H' M' → RepP K H' ps vs → R ps M' → Q vs H') → tPairs (lps K rs) σ H Q
  | [], S, M, H, R, Q, hS, hM, h, hc => hc [] M [] H (.refl H) hM .nil h
  | (rk, rv) :: r, S, M, H, R, Q, hS, hM, h, hc =>
    ⟨S, M, _, hS, hM, h, fun d M1 v H1 k1 m1 z1 h1 => ⟨S, M1, _, hS.keep k1, m1, h1, fun e M2 w H2 k2 m2 z2 h2 =>
      lift_pairs r (hS.keep (k1.trans k2)) m2 h2 fun ps M' vs H' k m' z h' => hc _ M' _ H' ((k1.trans k2).trans k) m' (.cons ((z1.keep k2).keep k) (z2.keep k) z) h'⟩⟩
@[simp] def kvsD : List (D × D) → Option (List (Key × D))
  | [] => some []
  | (d, e) :: r => match keyD d, kvsD r with
    | some k, some ks => some ((k, e) :: ks)
    | _, _ => none
theorem kvsD_rep {K : PySem.W.Frag} {H : Hp} : ∀ {ps : List (D × D)} {vs : List (V × V)} {kvs : List (Key × D)}, kvsD ps = some kvs → RepP K H ps vs → ∃ ws : List (Key × V), vs = ws.map (fun kv => (kV kv.1, kv.2)) ∧ RepKv K H kvs ws
  | [], _, _, h, r => by cases h; cases r; exact ⟨[], rfl, .nil⟩
  | (d, e) :: ps, _, kvs, h, r => by
    unfold kvsD at h
    split at h
    · rename_i k ks e1 e2
      cases h
      cases r with
      | cons r1 r2 r3 =>
        obtain ⟨ws, rfl, rr⟩ := kvsD_rep e2 r3
        rw [keyD_rep e1 r1]
        exact ⟨(k, _) :: ws, rfl, .cons r2 rr⟩
    · cases h
@[simp] def mergeD (kvs more : List (Key × D)) : List (Key × D) := more.foldl (fun acc kv => putD acc kv.1 kv.2) kvs
theorem RepKv.merge {K : PySem.W.Frag} {H : Hp} : ∀ {more : List (Key × D)} {rs : List (Key × V)} {kvs : List (Key × D)} {vs : List (Key × V)}, RepKv K H more rs → RepKv K H kvs vs → RepKv K H (mergeD kvs more) (mergeK vs rs)
  | _, _, _, _, .nil, r => r
  | (k, d) :: ds, (_, v) :: vs, kvs, ws, .cons z t, r => by
    have h : RepKv K H (mergeD (putD kvs k d) ds) (mergeK (putK ws k v) vs) := RepKv.merge t (r.put z k)
    exact h
@[simp] def dDisp (rs : List (DE × DE)) : DE := fun S M Q => ∀ p, M p = none → dPairs rs S (updM M p (.dK [])) fun ps M2 => M2 p = some (.dK []) ∧ match kvsD ps with | some kvs => kvs.length ≤ 15 ∧ Q (.ref p) (updM M2 p (.dK (mergeD [] kvs))) | none => False
theorem de_disp {keys : List (Option Expr)} {values : List Expr} {rs : List (DE × DE)} (h : DPs X pos keys values rs) (hall : keys.all (·.isSome) = true) (hl : keys.length = values.length) (h0 : keys ≠ [])
    (h15 : keys.length ≤ 15) : DEx X (.Dict keys values pos) (dDisp rs) := PE_weak (pe_disp h hall hl h0 h15) fun σ H Q ⟨S, M, R, hS, hM, h, hc⟩ => fun p hp => by
  have k0 := keep_new (.dK []) hp
  refine lift_pairs rs (hS.keep k0) (hM.new hp (d := .dK []) (o := .dK []) .nil) (h p (hM.free hp)) fun ps M2 vs H2 k2 m2 z2 h2 => ?_
  obtain ⟨e2, h2⟩ := h2
  split at h2
  · rename_i kvs ek
    obtain ⟨ws, rfl, rr⟩ := kvsD_rep ek z2
    obtain ⟨xs, q, rn⟩ := m2.dk e2
    cases rn
    refine ⟨q, ws, rfl, by rw [← rr.length]; exact h2.1, ?_⟩
    exact hc _ _ _ _ ((k0.trans k2).trans (keep_write _ q (fun _ z => nomatch z) fun _ _ z => nomatch z)) (m2.write q (fun _ z => nomatch z) (fun _ _ z => nomatch z) (d := .dK (mergeD [] kvs)) (rr.merge .nil)) (.ref p) h2.2
  · exact h2.elim
/-! ### get -/
def isDk (M : DM) : D → Prop
  | .ref a => match M a with
    | some (.dK _) => True
    | some (.dT _) => True
    | some (.fro (.dK _)) => True
    | some (.fro (.dT _)) => True
    | _ => False
  | _ => False
theorem isDk_rep {K : PySem.W.Frag} {H : Hp} {M : DM} {d : D} {v : V} (h : isDk M d) (z : Rep K H d v) (hM : RelM K H M) : ∃ a, v = .ref a ∧ IsD H a := by
  unfold isDk at h
  cases d <;> first | exact h.elim | skip
  cases z
  simp only at h
  split at h
  · rename_i em
    obtain ⟨xs, q, _⟩ := hM.dk em
    exact ⟨_, rfl, .inl ⟨xs, .inl q⟩⟩
  · rename_i em
    obtain ⟨xs, q, _⟩ := hM.dt em
    exact ⟨_, rfl, .inr ⟨xs, .inl q⟩⟩
  · rename_i em
    obtain ⟨o, xs, q, _⟩ := hM.rdK em
    exact ⟨_, rfl, .inl ⟨xs, .inr ⟨o, q⟩⟩⟩
  · rename_i em
    obtain ⟨o, xs, q, _⟩ := hM.rdT em
    exact ⟨_, rfl, .inr ⟨xs, .inr ⟨o, q⟩⟩⟩
  · exact h.elim
/-- what stands at a key, if the thing is a dict and the key a key -/
@[simp] def getD2 (M : DM) : D → D → Option (Option D)
  | .ref a, e => match M a with
    | some (.dK kvs) => (keyD e).map fun k => valD kvs k
    | some (.fro (.dK kvs)) => (keyD e).map fun k => valD kvs k
    | some (.dT kvs) => match e with | .tup ks => (keysD ks).map fun k => valD kvs k | _ => none
    | some (.fro (.dT kvs)) => match e with | .tup ks => (keysD ks).map fun k => valD kvs k | _ => none
    | _ => none
  | _, _ => none
theorem RepKv.valO {κ : Type} [DecidableEq κ] {K : PySem.W.Frag} {H : Hp} {ds : List (κ × D)} {vs : List (κ × V)} (r : RepKv K H ds vs) (k : κ) (x : D) (y : V) (z : Rep K H x y) : Rep K H ((valD ds k).getD x) ((valV vs k).getD y) := by
  cases e : valD ds k with
  | none => rw [r.noval e]; exact z
  | some d =>
    obtain ⟨v, h, zz⟩ := r.val e
    rw [h]
    exact zz
theorem get_rep {K : PySem.W.Frag} {H : Hp} {M : DM} {d e : D} {v u : V} {o : Option D} (h : getD2 M d e = some o) (z : Rep K H d v) (z2 : Rep K H e u) (hM : RelM K H M) : ∃ a o', v = .ref a ∧ DGet H a u o' ∧ ∀ x y, Rep K H x y → Rep K H (o.getD x) (o'.getD y) := by
  unfold getD2 at h
  split at h
  · cases z
    split at h
    · rename_i em
      obtain ⟨k, e1, rfl⟩ := Option.map_eq_some_iff.mp h
      obtain ⟨xs, q, rl⟩ := hM.dk em
      exact ⟨_, _, rfl, .inl ⟨xs, k, .inl q, keyD_rep e1 z2, rfl⟩, fun x y => rl.valO k x y⟩
    · rename_i em
      obtain ⟨k, e1, rfl⟩ := Option.map_eq_some_iff.mp h
      obtain ⟨o, xs, q, rl⟩ := hM.rdK em
      exact ⟨_, _, rfl, .inl ⟨xs, k, .inr ⟨o, q⟩, keyD_rep e1 z2, rfl⟩, fun x y => rl.valO k x y⟩
    · rename_i em
      split at h
      · obtain ⟨k, e1, rfl⟩ := Option.map_eq_some_iff.mp h
        obtain ⟨xs, q, rl⟩ := hM.dt em
        cases z2 with
        | tup hq r2 =>
          rw [keysD_rep e1 r2] at hq
          exact ⟨_, _, rfl, .inr ⟨xs, k, _, .inl q, rfl, hq, rfl⟩, fun x y => rl.valO k x y⟩
      · cases h
    · rename_i em
      split at h
      · obtain ⟨k, e1, rfl⟩ := Option.map_eq_some_iff.mp h
        obtain ⟨o, xs, q, rl⟩ := hM.rdT em
        cases z2 with
        | tup hq r2 =>
          rw [keysD_rep e1 r2] at hq
          exact ⟨_, _, rfl, .inr ⟨xs, k, _, .inr ⟨o, q⟩, rfl, hq, rfl⟩, fun x y => rl.valO k x y⟩
      · cases h
    · cases h
  · cases h
@[simp] def dGet1 (ro re : DE) : DE := fun S M Q => ro S M fun d M1 => isDk M1 d ∧ re S M1 fun e M2 => match getD2 M2 d e with | some o => Q (o.getD .non) M2 | none => False
@[simp] def dGet2 (ro re rf : DE) : DE := fun S M Q => ro S M fun d M1 => isDk M1 d ∧ re S M1 fun e M2 => rf S M2 fun f M3 => match getD2 M3 d e with | some o => Q (o.getD f) M3 | none => False
theorem de_get1 {o : Expr} {ro : DE} {apos : Pos} (hu : X.A.units + 1 < cLine) (ho : DEx X o ro) (he : DEx X e re) (m : M1 X o "get" apos e pos := by exact ⟨rfl, rfl, rfl, rfl⟩) : DEx X (.Call (.Attribute o "get" apos) [e] [] pos) (dGet1 ro re) :=
  PE_weak (pe_dget1 hu ho he m) fun σ H Q ⟨S, M, R, hS, hM, h, hc⟩ => ⟨S, M, _, hS, hM, h, fun d M1 v H1 k1 m1 z1 ⟨hd, h1⟩ => by
    obtain ⟨a, rfl, id⟩ := isDk_rep hd z1 m1
    refine ⟨a, rfl, id, S, M1, _, hS.keep k1, m1, h1, fun e M2 u H2 k2 m2 z2 h2 => ?_⟩
    split at h2
    · rename_i o eo
      obtain ⟨a', o', ea, g, ho⟩ := get_rep eo (z1.keep k2) z2 m2
      cases ea
      exact ⟨o', g, hc _ M2 _ H2 (k1.trans k2) m2 (ho _ _ .non) h2⟩
    · exact h2.elim⟩
theorem de_get2 {o : Expr} {ro rf : DE} {apos : Pos} (hu : X.A.units + 1 < cLine) (ho : DEx X o ro) (he : DEx X e re) (hf : DEx X f rf) (m : M2 X o "get" apos e f pos := by exact ⟨rfl, rfl, rfl, rfl⟩) : DEx X (.Call (.Attribute o "get" apos) [e, f] [] pos) (dGet2 ro re rf) :=
  PE_weak (pe_dget2 hu ho he hf m) fun σ H Q ⟨S, M, R, hS, hM, h, hc⟩ => ⟨S, M, _, hS, hM, h, fun d M1 v H1 k1 m1 z1 ⟨hd, h1⟩ => by
    obtain ⟨a, rfl, id⟩ := isDk_rep hd z1 m1
    refine ⟨a, rfl, id, S, M1, _, hS.keep k1, m1, h1, fun e M2 u H2 k2 m2 z2 h2 => ⟨S, M2, _, hS.keep (k1.trans k2), m2, h2, fun f M3 y H3 k3 m3 z3 h3 => ?_⟩⟩
    split at h3
    · rename_i o eo
      obtain ⟨a', o', ea, g, ho⟩ := get_rep eo (z1.keep (k2.trans k3)) (z2.keep k3) m3
      cases ea
      exact ⟨o', g, hc _ M3 _ H3 (k1.trans (k2.trans k3)) m3 (ho _ _ z3) h3⟩
    · exact h3.elim⟩
end
end PyD

namespace PyD
open PySem PySem.Spec PyProof.Rows L2
/-! ### lists and tuples under iterators that keep them -/
inductive Kd where | l | t
def sqK (k : Kd) (K : PySem.W.Frag) (H : Hp) (a : Addr) (xs : List V) : Prop := match k with | .l => SqL K H a xs | .t => SqT K H a xs
def itK (k : Kd) (h : Heap) (it a : Addr) (i : Nat) : Prop := match k with | .l => h.IsListIter it a i | .t => h.IsTupleIter it a i
def coK (k : Kd) (h : Heap) (a : Addr) (its : Array Value) : Prop := match k with | .l => h.IsList a its | .t => h.IsTuple a its
def obK (k : Kd) (a : Addr) : Obj := match k with | .l => { cls := .type "list_iterator", data := .fields #[.ref a, .int 0 0] } | .t => { cls := .type "tuple_iterator", data := .fields #[.ref a, .int 0 0] }
theorem begins_k (k : Kd) (a : Addr) (its : Array Value) : Begins (.ref a) (obK k a) fun h => coK k h a its := by
  cases k
  · exact begins_list a its
  · exact begins_tuple a its
theorem draws_k {prog : Program} {w : World} {A : Around} (k : Kd) (hh : A.handled = none) (it a : Addr) (hne : a ≠ it) (its : Array Value) :
    Draws prog w A it [it, a] its.size (fun i v => its[i]? = some v) (fun i h => itK k h it a i ∧ coK k h a its) := by
  cases k
  · exact .list hh it a hne its
  · exact .tuple hh it a hne its
theorem seq_k {X : Cx} {pins : List (Addr × Obj)} {σ : Sl} {H : Hp} {s : Shared} (k : Kd) (I : Inv X pins σ H s) {a : Addr} {xs : List V} (h : sqK k X.K H a xs) : ∃ its, Vals xs its ∧ coK k s.heap a its.toArray := by
  cases k
  · obtain ⟨its, rv, p, _⟩ := I.list h
    exact ⟨its, rv, p.isList⟩
  · obtain ⟨its, rv, p, _⟩ := I.tuple h
    exact ⟨its, rv, show s.heap.IsTuple a its.toArray from p⟩
theorem inj_k {X : Cx} {pins : List (Addr × Obj)} {σ : Sl} {H : Hp} {s : Shared} (k : Kd) (I : Inv X pins σ H s) {a : Addr} {xs ys : List V} (h : sqK k X.K H a xs) (h' : sqK k X.K H a ys) : xs = ys := by
  cases k
  · exact I.list_inj h h'
  · exact I.tuple_inj h h'
theorem it_ob {k : Kd} {h : Heap} {it a : Addr} {i : Nat} (x : itK k h it a i) : ∃ o vs, h.get? it = some o ∧ o.data = .fields vs ∧ (o.cls = .type "list_iterator" ∨ o.cls = .type "tuple_iterator") := by
  cases k
  · obtain ⟨o, e, c, d⟩ := x; exact ⟨o, _, e, d, .inl c⟩
  · obtain ⟨o, e, c, d⟩ := x; exact ⟨o, _, e, d, .inr c⟩
theorem co_ob {k : Kd} {h : Heap} {a : Addr} {its : Array Value} (x : coK k h a its) : ∃ o n, h.get? a = some o ∧ o.data = .seq its n := by
  cases k
  · obtain ⟨o, e, c, n, d⟩ := x; exact ⟨o, n, e, d⟩
  · obtain ⟨o, e, c, n, d⟩ := x; exact ⟨o, n, e, d⟩
theorem it_at {k : Kd} {h h' : Heap} {it a : Addr} {i : Nat} (x : itK k h it a i) (f : ∀ o, h.get? it = some o → h'.get? it = some o) : itK k h' it a i := by
  cases k
  · exact Heap.IsListIter.at x f
  · exact Heap.IsTupleIter.at x f
theorem co_at {k : Kd} {h h' : Heap} {a : Addr} {its : Array Value} (x : coK k h a its) (f : ∀ o, h.get? a = some o → h'.get? a = some o) : coK k h' a its := by
  cases k
  · exact Heap.IsList.at x f
  · exact Heap.IsTuple.at x f
theorem it_new {k : Kd} {h : Heap} {it a : Addr} (e : h.get? it = some (obK k a)) : itK k h it a 0 := by
  cases k
  · exact ⟨_, e, rfl, rfl⟩
  · exact ⟨_, e, rfl, rfl⟩
theorem ne_fs {h : Heap} {a b : Addr} {o u : Obj} {xs vs : Array Value} {n : Nat} (e : h.get? a = some o) (d : o.data = .seq xs n) (e' : h.get? b = some u) (d' : u.data = .fields vs) : a ≠ b := by
  intro z
  subst z
  rw [e] at e'
  cases e'
  rw [d] at d'
  cases d'

/-! ### enumerate -/
def IteK (k : Kd) (K : PySem.W.Frag) (a : Addr) (c : Int) : It :=
  ⟨fun i H => ∃ (xs : List V) (x : V), sqK k K H a xs ∧ xs[i]? = some x, fun i H v H' => ∃ T x, v = .ref T ∧ H T = none ∧ H' = upd H T (.tup [.int (c + (i : Nat)), x]) ∧ ∀ xs, sqK k K H a xs → xs[i]? = some x, fun i H => ∃ xs : List V, sqK k K H a xs ∧ xs.length = i⟩
theorem turn_enumK {P : Program} {w : World} {K : PySem.W.Frag} {elts : List Expr} {kk : Nat} {tpos : Pos} (k : Kd) (c : Int) (a e it : Addr) :
    Turn P w K (.Tuple elts kk tpos) (IteK k K a c) [e, it] e (fun i h => (∃ old, IsEnum h e it (c + (i : Nat)) old) ∧ itK k h it a i ∧ e ≠ it) where
  mem := by simp
  obj := fun i h st b hb => by
    obtain ⟨⟨old, he⟩, hit, _⟩ := st
    obtain ⟨o, vs, ho, hd, _⟩ := it_ob hit
    have e' : b = e ∨ b = it := by simpa using hb
    rcases e' with z | z
    · rw [z]; exact ⟨_, he, fun v q => nomatch q⟩
    · rw [z]; exact ⟨o, ho, fun v q => by rw [hd] at q; cases q⟩
  keep := fun i h h' st q => let ⟨⟨old, he⟩, hi, hne⟩ := st; ⟨⟨old, q e (by simp) _ he⟩, it_at hi fun o z => q it (by simp) o z, hne⟩
  item := by
    intro X hP hw hK hc i pins s σ H E I hf st hg
    subst hP hw hK
    obtain ⟨⟨old, he⟩, hit, hne⟩ := st
    obtain ⟨xs, x, hq, hx⟩ := hg
    obtain ⟨its, rv, p⟩ := seq_k k I hq
    obtain ⟨u, hu, ru⟩ := rv.get hx
    have hel : e < s.heap.objs.size := Heap.lt_size he
    obtain ⟨oi, vi, hoi, hdi, _⟩ := it_ob hit
    obtain ⟨oc, nc, hoc, hdc⟩ := co_ob p
    have hil : it < s.heap.objs.size := Heap.lt_size hoi
    have hai : a ≠ it := ne_fs hoc hdc hoi hdi
    have hae : a ≠ e := ne_fs hoc hdc he rfl
    have hx' : its.toArray[i]? = some u := by simpa using hu
    have hlt : i < its.toArray.size := (Array.getElem?_eq_some_iff.mp hx').1
    refine wpAny_pyNext_enum_itemC (draws_k k (show X.A.in1.handled = none from I.ok.hd hc) it a hai its.toArray) he ⟨hit, p⟩ hlt hne (by simp [hne, Ne.symm hae]) fun x' h' tk hx2 ho st' hT hsz hk => ?_
    obtain rfl : u = x' := by
      have z : its.toArray[i]? = some x' := hx2
      rw [hx'] at z
      exact Option.some.inj z
    refine ⟨_, rfl, wpAny_letOwnedTupleGo_enum (s := { s with heap := h', toks := tk + 1 }) ho fun h'' he' sb => ?_⟩
    have hT2 : h''.get? s.heap.objs.size = some { cls := .type "tuple", data := .seq #[.int (c + (i : Nat)) tk, u] } := (sb.2 _ (Nat.ne_of_gt hel)).trans hT
    have new : ObjOk X.prog X.w (upd H s.heap.objs.size (.tup [.int (c + (i : Nat)), x])) h'' s.heap.objs.size (.tup [.int (c + (i : Nat)), x]) :=
      ⟨by show 2 ≤ sizeLine; decide, [.int (c + (i : Nat)) tk, u], .cons ⟨_, rfl⟩ (.cons ru .nil), ⟨_, hT2, rfl, _, rfl⟩⟩
    have I1 : Inv X pins σ (upd H s.heap.objs.size (.tup [.int (c + (i : Nat)), x])) { s with heap := h'', toks := tk + 1 } :=
      I.turnedNew (ch := [e, it]) (fun b ob hb q => (sb.2 b (fun z => hb (by simp [z]))).trans (hk b ob (fun z => hb (by simp [z])) (fun z => hb (by simp [z])) q)) hf (Nat.le_refl _) new
    refine ⟨.ref s.heap.objs.size, _, I1, rfl, ⟨_, x, rfl, I.hok.fresh (Nat.le_refl _), rfl, fun ys hy => by rw [inj_k k I hy hq]; exact hx⟩, ⟨⟨u, ?_⟩, it_at st'.1 fun o q => (sb.2 it (Ne.symm hne)).trans q, hne⟩, fun b hb => ?_⟩
    · have e1 : c + ((i + 1 : Nat) : Int) = c + (i : Int) + 1 := by omega
      rw [e1]; exact he'
    · have hb' : b < s.heap.objs.size := by
        have e' : b = e ∨ b = it := by simpa using hb
        rcases e' with z | z
        · rw [z]; exact hel
        · rw [z]; exact hil
      rw [upd_ne (Nat.ne_of_lt hb')]
      exact (hf b hb).1
  done := by
    intro X hP hw hK hc i pins s σ H E I hf st hg
    subst hP hw hK
    obtain ⟨⟨old, he⟩, hit, hne⟩ := st
    obtain ⟨xs, hq, hx⟩ := hg
    obtain ⟨its, rv, p⟩ := seq_k k I hq
    obtain ⟨oi, vi, hoi, hdi, _⟩ := it_ob hit
    obtain ⟨oc, nc, hoc, hdc⟩ := co_ob p
    have hai : a ≠ it := ne_fs hoc hdc hoi hdi
    obtain ⟨f0, f1, f2, f3, f4, f5⟩ := hf it (by simp)
    have hl := rv.length
    have ei : i = its.toArray.size := by simp; omega
    subst ei
    exact wpAny_pyNext_enum_endD (draws_k k (show X.A.in1.handled = none from I.ok.hd hc) it a hai its.toArray) he ⟨hit, p⟩ fun h' eb => ⟨rfl, I.turned (t' := s.toks) (fun b o hb q => eb b o hb q) f0 f1 f3 f4 f5⟩
  self := fun A i s Q E st h => let ⟨⟨_, he⟩, _⟩ := st; wpAny_pyIter_enum he h
set_option maxHeartbeats 1000000 in
theorem meets_enumerate_new1 {v : Value} {o : Obj} {H : Heap → Prop} (B : Begins v o H) :
    Meets (Builtin.«enumerate.__new__» ⟨[.type "enumerate", v], []⟩) (fun _ R s => H s.heap ∧
      R (.ok (.ret (.ref (s.heap.push o).objs.size))) { s with heap := (s.heap.push o).push { cls := .type "enumerate", data := .fields #[.none, .bool false, .ref s.heap.objs.size, rawInt 0, .none, .none] } }) :=
  .of_wp fun prog w A R s h => by
    obtain ⟨hp, g, d, tk, os⟩ := s; obtain ⟨h1, h⟩ := h
    have hsub := sub_enumerate
    have q1 : ∀ {A' : Around} {E : Value → Shared → Prop} {Q : Value → Shared → Prop}, Q (.ref hp.objs.size) ⟨hp.push o, g, d, tk, os⟩ → wpAny (model prog w) A' (pyIter v) Q E ⟨hp, g, d, tk, os⟩ :=
      fun q => B.iter prog w _ _ ⟨hp, g, d, tk, os⟩ _ h1 q
    wp_walk using q1
    refine wpAny_stack_any fun st => wpAny_pure ?_
    split
    · rename_i c _ _ _ _ _
      cases (c == Value.type "enumerate")
      · wp_walk using q1
        exact ⟨_, rfl, h⟩
      · wp_walk using q1
        exact ⟨_, rfl, h⟩
    · wp_walk using q1
      exact ⟨_, rfl, h⟩
section
variable {prog : Program} {w : World} {A : Around} {E : Value → Shared → Prop} {s : Shared}
theorem enum_begins1 {v : Value} {o : Obj} {H : Heap → Prop} {Q : Value → Shared → Prop} (B : Begins v o H) (h1 : H s.heap)
    (h : ∀ h', IsEnum h' (s.heap.objs.size + 1) s.heap.objs.size 0 .none → h'.get? s.heap.objs.size = some o → h'.objs.size = s.heap.objs.size + 2 →
      (∀ b o, s.heap.get? b = some o → h'.get? b = some o) → Q (.ref (s.heap.objs.size + 1)) { s with heap := h' }) :
    wpAny (model prog w) A (call (.type "enumerate") [v]) Q E s := by
  refine callType_new F.called_enumerate (by decide) (F.typeCall_enumerate_1 _) (F.newCall_enumerate_1 _) (fun obj => F.args_object_init_2 obj _) F.entry_enumerate_new
    (meets_enumerate_new1 B) ⟨h1, ?_⟩
  have hz : (s.heap.push o).objs.size = s.heap.objs.size + 1 := Heap.size_push ..
  show _ ∧ _
  rw [hz]
  have he : IsEnum ((s.heap.push o).push { cls := .type "enumerate", data := .fields #[.none, .bool false, .ref s.heap.objs.size, rawInt 0, .none, .none] }) (s.heap.objs.size + 1) s.heap.objs.size 0 .none := by
    have := Heap.get?_push_size (s.heap.push o) (o := { cls := .type "enumerate", data := .fields #[.none, .bool false, .ref s.heap.objs.size, rawInt 0, .none, .none] }) rfl
    rw [hz] at this; exact this
  refine ⟨⟨_, he, rfl⟩, h _ he (Heap.get?_push_of_some _ (Heap.get?_push_size _ B.free)) (by rw [Heap.size_push, hz]) fun b o x => Heap.get?_push_of_some _ (Heap.get?_push_of_some _ x)⟩
end
def iEnumK (K : PySem.W.Frag) (ta : TE) : TI := fun σ H R => ta σ H fun v H1 => ∃ k a xs, v = .ref a ∧ sqK k K H1 a xs ∧ R (IteK k K a 0) H1
theorem pi_enumK {X : Cx} {e : Expr} {ta : TE} {p pos tpos : Pos} {elts : List Expr} {kk : Nat} (hg : Gl X "enumerate") (hm : X.mg "enumerate" = none) (ha : PE X e ta) (hs : starEach [e] X.env = [(false, eval e X.env)] := by rfl) :
    PI X (.Tuple elts kk tpos) (.Call (.Name "enumerate" p) [e] [] pos) (iEnumK X.K ta) := by
  refine ⟨fun pins s σ H R I h => ?_⟩
  refine Call_ (ld_blt I hg hm boot_enumerate (PyProof.Rows.callWith_type1 (PyProof.Rows.args_cons (thn (ha.run pins s σ H _ I h) fun v s1 ⟨x, H1, I1, r1, q1⟩ => PyProof.Rows.args_nil ?_) hs) hs rfl))
  obtain ⟨k, a, xs, ex, hq, q⟩ := q1
  subst ex
  cases r1
  obtain ⟨its, rv, p'⟩ := seq_k k I1 hq
  refine enum_begins1 (begins_k k a its.toArray) p' fun h' he hit hsz hk => wpAny_pyIter_enum he ?_
  have I2 : Inv X pins σ H1 { s1 with heap := h' } := I1.kept (t' := s1.toks) hk
  refine ⟨s1.heap.objs.size + 1, [s1.heap.objs.size + 1, s1.heap.objs.size], _, _, H1, rfl, I2, turn_enumK k 0 a (s1.heap.objs.size + 1) s1.heap.objs.size, ⟨⟨.none, he⟩, it_new hit, Nat.succ_ne_self _⟩, fun b hb => ?_, q⟩
  have e' : b = s1.heap.objs.size + 1 ∨ b = s1.heap.objs.size := by simpa using hb
  have hle : s1.heap.objs.size ≤ b := by
    rcases e' with z | z
    · rw [z]; exact Nat.le_add_right _ _
    · rw [z]; exact Nat.le_refl _
  exact I1.fpOk hle (I1.hok.fresh hle)

/-! ### .. by data -/
/-- what stands at a: items ds, as long as st holds -/
structure DSeq (K : PySem.W.Frag) (H0 : Hp) (k : Kd) (a : Addr) (ds : List D) (st : DM → Prop) : Prop where
  go : ∀ H M, Keep H0 H → RelM K H M → st M → ∃ xs, sqK k K H a xs ∧ RepL K H ds xs
theorem dseq_of {K : PySem.W.Frag} {H : Hp} {M : DM} {d : D} {v : V} {ds : List D} {st : DM → Prop} (z : Rep K H d v) (hM : RelM K H M) (e : itemsD M d = some (ds, st)) : ∃ k a, v = .ref a ∧ DSeq K H k a ds st ∧ st M := by
  unfold itemsD at e
  split at e
  · cases e
    cases z with
    | tup hq rl => exact ⟨.t, _, rfl, ⟨fun H' M' k m _ => ⟨_, SqT.of (k.tups _ _ hq), rl.keep k⟩⟩, trivial⟩
  · cases e
    cases z with
    | con hq rl => exact ⟨.l, _, rfl, ⟨fun H' M' k m _ => ⟨_, (k.w.con hq).seq, rl.keep k⟩⟩, trivial⟩
  · split at e
    · rename_i em
      cases e
      cases z
      refine ⟨.l, _, rfl, ⟨fun H' M' k m h => ?_⟩, em⟩
      obtain ⟨xs, q, r⟩ := m.lst h
      exact ⟨xs, SqL.of q, r⟩
    · cases e
  · cases e
def enumD (c : Int) (ds : List D) : List D := ds.mapIdx fun i d => .tup [.int (c + (i : Nat)), d]
@[simp] theorem enumD_length (c : Int) (ds : List D) : (enumD c ds).length = ds.length := by simp [enumD]
theorem enumD_get {c : Int} {ds : List D} {i : Nat} : (enumD c ds)[i]? = ds[i]?.map fun d => .tup [.int (c + (i : Nat)), d] := by simp [enumD]
theorem sqK_len {K : PySem.W.Frag} {H : Hp} {ds : List D} {xs : List V} (r : RepL K H ds xs) {i : Nat} (h : i < ds.length) : ∃ x d, xs[i]? = some x ∧ ds[i]? = some d ∧ Rep K H d x := by
  have e : ds[i]? = some ds[i] := by simp [h]
  obtain ⟨v, h1, h2⟩ := r.get e
  exact ⟨v, _, h1, e, h2⟩
theorem walk_enumD {K : PySem.W.Frag} {H0 : Hp} {k : Kd} {a : Addr} {ds : List D} {st : DM → Prop} {c : Int} (w : DSeq K H0 k a ds st) : DWalk K H0 (IteK k K a c) (enumD c ds) st where
  goes := fun i H M hi kp m s => by
    rw [enumD_length] at hi
    obtain ⟨xs, q, r⟩ := w.go H M kp m s
    obtain ⟨x, d, h1, _, _⟩ := sqK_len r hi
    exact ⟨xs, x, q, h1⟩
  stops := fun H M kp m s => by
    obtain ⟨xs, q, r⟩ := w.go H M kp m s
    exact ⟨xs, q, by rw [enumD_length, r.length]⟩
  yields := fun i H M x H' hi kp m s y => by
    rw [enumD_length] at hi
    obtain ⟨T, u, rfl, hT, rfl, hy⟩ := y
    obtain ⟨xs, q, r⟩ := w.go H M kp m s
    obtain ⟨x, d, h1, h2, h3⟩ := sqK_len r hi
    rw [hy xs q] at h1
    cases h1
    exact ⟨keep_new _ hT, m.tup _ hT, _, by rw [enumD_get, h2]; rfl, rep_tup hT (.cons (.int _) (.cons h3 .nil))⟩
section
variable {X : Cx} {a b c e : Expr} {ra rb : DE} {pos : Pos}
@[simp] def dEnum (ra : DE) : DI := fun S M R => ra S M fun d M1 => match itemsD M1 d with | some (ds, st) => R (enumD 0 ds) st M1 | none => False
theorem di_enum {p tpos : Pos} {elts : List Expr} {kk : Nat} (hg : Gl X "enumerate") (hm : X.mg "enumerate" = none) (ha : DEx X a ra) (hs : starEach [a] X.env = [(false, eval a X.env)] := by rfl) :
    DIx X (.Tuple elts kk tpos) (.Call (.Name "enumerate" p) [a] [] pos) (dEnum ra) := PI_weak (pi_enumK hg hm ha hs) fun σ H R ⟨S, M, Rr, hS, hM, h, hc⟩ => ⟨S, M, _, hS, hM, h, fun d M1 v H1 k1 m1 z1 h1 => by
  split at h1
  · rename_i ds st ei
    obtain ⟨k, a, rfl, w, s0⟩ := dseq_of z1 m1 ei
    obtain ⟨xs, q, r⟩ := w.go H1 M1 (.refl _) m1 s0
    exact ⟨k, a, xs, rfl, q, hc _ _ _ M1 H1 k1 m1 (walk_enumD w) h1⟩
  · exact h1.elim⟩
end
end PyD

namespace PyD
open PySem PySem.Spec PyProof.Rows L2
/-! ### zip of two, whatever they are; strict or not -/
abbrev IsZipF (h : Heap) (z TI TO : Addr) (st : Bool) (f0 : Value) : Prop :=
  h.get? z = some { cls := .type "zip", dict := none, data := .fields #[f0, .bool false, .bool st, .ref TI, .ref TO], slots := #[] }
section
variable {prog : Program} {w : World} {A : Around} {E : Value → Shared → Prop} {s : Shared} {z TI TO i1 i2 : Addr} {fp1 fp2 : List Addr} {n1 n2 i : Nat} {P1 P2 : Nat → Value → Prop} {St1 St2 : Nat → Heap → Prop} {a1 a2 : Value}
theorem nextOrEnd_item {it : Addr} {fp : List Addr} {n i : Nat} {P : Nat → Value → Prop} {St : Nat → Heap → Prop} (D : Draws prog w A it fp n P St) {Q : Option Value → Shared → Prop} (hlt : i < n) (st : St i s.heap)
    (hQ : ∀ x h' tk, P i x → St (i + 1) h' → Heap.SameBut it s.heap h' → Q (some x) { s with heap := h', toks := tk }) : wpAny (model prog w) A (Builtin.SmallTypes.nextOrEnd (.ref it)) Q E s := by
  unfold Builtin.SmallTypes.nextOrEnd
  exact wpAny_bind (wpAny_attempt (D.item i s _ _ hlt st fun x h' tk hx st' sb => wpAny_pure (hQ x h' tk hx st' sb)))
theorem nextOrEnd_end {it : Addr} {fp : List Addr} {n : Nat} {P : Nat → Value → Prop} {St : Nat → Heap → Prop} (D : Draws prog w A it fp n P St) {Q : Option Value → Shared → Prop} (st : St n s.heap)
    (hQ : ∀ h', Heap.ExtBut it s.heap h' → Q none { s with heap := h' }) : wpAny (model prog w) A (Builtin.SmallTypes.nextOrEnd (.ref it)) Q E s := by
  unfold Builtin.SmallTypes.nextOrEnd
  refine wpAny_bind (wpAny_attempt (D.done s _ _ st fun h' x he hx => ?_))
  obtain ⟨o, ho, hc⟩ := hx
  refine wpAny_bind (wpAny_isInstance (T := "StopIteration") (b := true) ⟨o, ho, hc⟩ isSubtype_stop ?_)
  exact wpAny_pure (hQ _ he)
theorem zipS_next_item {Q : Value → Shared → Prop} (S : ZipSep2 z TI TO i1 i2 fp1 fp2) (D1 : Draws prog w A i1 fp1 n1 P1 St1) (D2 : Draws prog w A i2 fp2 n2 P2 St2)
    (hz : IsZipF s.heap z TI TO true .none) (hTI : IsTupOf2 s.heap TI (.ref i1) (.ref i2)) (hTO : IsTupOf2 s.heap TO a1 a2) (st1 : St1 i s.heap) (st2 : St2 i s.heap) (hlt1 : i < n1) (hlt2 : i < n2)
    (hQ : ∀ x1 x2 h' tk, P1 i x1 → P2 i x2 → IsZipF h' z TI TO true (rawInt s.heap.objs.size) → IsTupOf2 h' TO x1 x2 → St1 (i + 1) h' → St2 (i + 1) h' → IsTupOf2 h' s.heap.objs.size x1 x2 → h'.objs.size = s.heap.objs.size + 1 →
      (∀ c o, c ≠ z → c ≠ TO → c ≠ i1 → c ≠ i2 → s.heap.get? c = some o → h'.get? c = some o) → Q (.ref s.heap.objs.size) { s with heap := h', toks := tk }) :
    wpAny (model prog w) A (Builtin.«zip.__next__» ⟨[.ref z], []⟩) (fun fin s' => ∃ v, fin = .done (.ret v) ∧ Q v s') E s := by
  obtain ⟨hp, g, d, tk0, os⟩ := s
  show wpAny _ _ (field (.ref z) 2 >>= _) _ _ _
  refine wpAny_bind (wpAny_field hz rfl (x := .bool true) rfl ?_)
  show wpAny _ _ (field (.ref z) 3 >>= _) _ _ _
  refine wpAny_bind (wpAny_field hz rfl (x := .ref TI) rfl ?_)
  refine wpAny_bind (wpAny_seqItems hTI rfl ?_)
  show wpAny _ _ (Builtin.SmallTypes.ownedTupleIsFree (.ref z) >>= _) _ _ _
  refine wpAny_bind ?_
  unfold Builtin.SmallTypes.ownedTupleIsFree
  refine wpAny_bind (wpAny_field hz rfl (x := .none) rfl (wpAny_pure ?_))
  simp only [if_true]
  refine wpAny_bind (wpAny_rule ?_)
  refine wpAny_bind (wpAny_field hz rfl (x := .ref TO) rfl ?_)
  refine wpAny_bind (wpAny_setField_rec hz (by simp) fun g0 hz0 hs0 => ?_)
  replace hz0 : IsZipF g0 z TI TO true .ellipsis := hz0
  replace hs0 : Heap.SameBut z hp g0 := hs0
  refine wpAny_bind ?_
  simp only [List.zipIdx_cons, List.zipIdx_nil, List.forIn_cons, List.forIn_nil]
  refine wpAny_bind (wpAny_bind (wpAny_onRaise ?_))
  show wpAny _ _ (Builtin.SmallTypes.nextOrEnd (.ref i1)) _ _ ⟨g0, g, d, tk0, os⟩
  refine (nextOrEnd_item D1 hlt1 (D1.over st1 hs0 S.zf1) fun x1 p1 tk1 hx1 sn1 hp1 => ?_)
  replace hp1 : Heap.SameBut i1 g0 p1 := hp1
  have hU1 : IsTupOf2 p1 TO a1 a2 := hp1.extBut _ _ S.Ti1 (hs0.extBut _ _ S.TOz hTO)
  refine wpAny_bind (wpAny_seqItems (s := ⟨p1, g, d, tk1, os⟩) hU1 rfl ?_)
  refine wpAny_bind (updateSeq_IsTupOf2 (s := ⟨p1, g, d, tk1, os⟩) hU1 fun g1 hT1 hs1 => ?_)
  replace hT1 : IsTupOf2 g1 TO x1 a2 := hT1
  replace hs1 : Heap.SameBut TO p1 g1 := hs1
  refine wpAny_bind (wpAny_letGo (wpAny_pure ?_))
  refine wpAny_bind (wpAny_bind (wpAny_onRaise ?_))
  show wpAny _ _ (Builtin.SmallTypes.nextOrEnd (.ref i2)) _ _ ⟨g1, g, d, tk1, os⟩
  refine (nextOrEnd_item D2 hlt2 (D2.over (D2.over (D2.over st2 hs0 S.zf2) hp1 S.sep1_2) hs1 S.Tf2) fun x2 p2 tk2 hx2 sn2 hp2 => ?_)
  replace hp2 : Heap.SameBut i2 g1 p2 := hp2
  have hU2 : IsTupOf2 p2 TO x1 a2 := hp2.extBut _ _ S.Ti2 hT1
  refine wpAny_bind (wpAny_seqItems (s := ⟨p2, g, d, tk2, os⟩) hU2 rfl ?_)
  refine wpAny_bind (updateSeq_IsTupOf2 (s := ⟨p2, g, d, tk2, os⟩) hU2 fun g2 hT2 hs2 => ?_)
  replace hT2 : IsTupOf2 g2 TO x1 x2 := hT2
  replace hs2 : Heap.SameBut TO p2 g2 := hs2
  refine wpAny_bind (wpAny_letGo (wpAny_pure (wpAny_pure ?_)))
  refine wpAny_bind (wpAny_seqItems (s := ⟨g2, g, d, tk2, os⟩) hT2 rfl ?_)
  refine wpAny_bind (wpAny_newTuple ?_)
  have hsz : g2.objs.size = hp.objs.size := by rw [hs2.1, hp2.1, hs1.1, hp1.1, hs0.1]
  have hzz : IsZipF g2 z TI TO true .ellipsis := (hs2.extBut _ _ S.TOz.symm (hp2.extBut _ _ S.zi2 (hs1.extBut _ _ S.TOz.symm (hp1.extBut _ _ S.zi1 hz0))))
  have hkk : ∀ c o, c ≠ z → c ≠ TO → c ≠ i1 → c ≠ i2 → hp.get? c = some o → g2.get? c = some o := fun c o cz cT c1 c2 e =>
    (hs2.extBut _ _ cT (hp2.extBut _ _ c2 (hs1.extBut _ _ cT (hp1.extBut _ _ c1 (hs0.extBut _ _ cz e)))))
  have hj1 : St1 (i + 1) g2 := (D1.over (D1.over (D1.over sn1 hs1 S.Tf1) hp2 S.sep2_1) hs2 S.Tf1)
  have hj2 : St2 (i + 1) g2 := (D2.over sn2 hs2 S.Tf2)
  have hzlt : z < g2.objs.size := Heap.lt_size hzz
  show wpAny _ _ (Builtin.SmallTypes.ownedTupleHandOut (.ref z) (.ref g2.objs.size) >>= _) _ _ ⟨g2.push { cls := .type "tuple", data := .seq #[x1, x2] }, g, d, tk2, os⟩
  refine wpAny_bind ?_
  unfold Builtin.SmallTypes.ownedTupleHandOut
  have hz₆ : IsZipF (g2.push { cls := .type "tuple", data := .seq #[x1, x2] }) z TI TO true .ellipsis := Heap.get?_push_of_some _ hzz
  refine wpAny_bind (wpAny_setField_rec hz₆ (by simp) fun h₇ hz₇ hs₇ => ?_)
  replace hz₇ : IsZipF h₇ z TI TO true (rawInt g2.objs.size) := hz₇
  refine wpAny_setField_rec hz₇ (by simp) fun h₈ hz₈ hs₈ => ?_
  replace hz₈ : IsZipF h₈ z TI TO true (rawInt g2.objs.size) := hz₈
  replace hs₇ : Heap.SameBut z (g2.push { cls := .type "tuple", data := .seq #[x1, x2] }) h₇ := hs₇
  replace hs₈ : Heap.SameBut z h₇ h₈ := hs₈
  have up : ∀ c o, c ≠ z → g2.get? c = some o → h₈.get? c = some o := fun c o c1 e => hs₈.extBut _ _ c1 (hs₇.extBut _ _ c1 (Heap.get?_push_of_some _ e))
  have hT₈ : IsTupOf2 h₈ g2.objs.size x1 x2 := hs₈.extBut _ _ (Nat.ne_of_gt hzlt) (hs₇.extBut _ _ (Nat.ne_of_gt hzlt) (Heap.get?_push_size _ rfl))
  have hz8 : h₈.objs.size = g2.objs.size + 1 := by rw [hs₈.1, hs₇.1, Heap.size_push]
  rw [hsz] at hz₈ hT₈ hz8
  refine wpAny_pure ⟨_, rfl, ?_⟩
  show Q (.ref g2.objs.size) ⟨h₈, g, d, tk2, os⟩
  rw [hsz]
  exact hQ x1 x2 h₈ tk2 hx1 hx2 hz₈ (up _ _ S.TOz hT2) (D1.frame _ _ _ hj1 fun b hb o e => up b o (fun q => S.zf1 (q ▸ hb)) e) (D2.frame _ _ _ hj2 fun b hb o e => up b o (fun q => S.zf2 (q ▸ hb)) e) hT₈ hz8 fun c o cz cT c1 c2 e => up c o cz (hkk c o cz cT c1 c2 e)
/-- strict, both at their ends -/
theorem zipS_next_end {Q : Fin → Shared → Prop} (hh : A.handled = none) (S : ZipSep2 z TI TO i1 i2 fp1 fp2) (D1 : Draws prog w A i1 fp1 n1 P1 St1) (D2 : Draws prog w A i2 fp2 n2 P2 St2)
    (hz : IsZipF s.heap z TI TO true .none) (hTI : IsTupOf2 s.heap TI (.ref i1) (.ref i2)) (hTO : IsTupOf2 s.heap TO a1 a2) (st1 : St1 n1 s.heap) (st2 : St2 n2 s.heap)
    (fr2 : ∀ h h', St2 n2 h → (∀ b ∈ fp2, ∀ o, h.get? b = some o → h'.get? b = some o) → St2 n2 h')
    (hE : ∀ h' tk e, (∀ c o, c ≠ z → c ≠ TO → c ≠ i1 → c ≠ i2 → s.heap.get? c = some o → h'.get? c = some o) → (∃ o, h'.get? e = some o ∧ o.cls = .type "StopIteration") → E (.ref e) { s with heap := h', toks := tk }) :
    wpAny (model prog w) A (Builtin.«zip.__next__» ⟨[.ref z], []⟩) Q E s := by
  obtain ⟨hp, g, d, tk0, os⟩ := s
  show wpAny _ _ (field (.ref z) 2 >>= _) _ _ _
  refine wpAny_bind (wpAny_field hz rfl (x := .bool true) rfl ?_)
  show wpAny _ _ (field (.ref z) 3 >>= _) _ _ _
  refine wpAny_bind (wpAny_field hz rfl (x := .ref TI) rfl ?_)
  refine wpAny_bind (wpAny_seqItems hTI rfl ?_)
  show wpAny _ _ (Builtin.SmallTypes.ownedTupleIsFree (.ref z) >>= _) _ _ _
  refine wpAny_bind ?_
  unfold Builtin.SmallTypes.ownedTupleIsFree
  refine wpAny_bind (wpAny_field hz rfl (x := .none) rfl (wpAny_pure ?_))
  simp only [if_true]
  refine wpAny_bind (wpAny_rule ?_)
  refine wpAny_bind (wpAny_field hz rfl (x := .ref TO) rfl ?_)
  refine wpAny_bind (wpAny_setField_rec hz (by simp) fun g0 hz0 hs0 => ?_)
  replace hz0 : IsZipF g0 z TI TO true .ellipsis := hz0
  replace hs0 : Heap.SameBut z hp g0 := hs0
  refine wpAny_bind ?_
  simp only [List.zipIdx_cons, List.zipIdx_nil, List.forIn_cons, List.forIn_nil]
  refine wpAny_bind (wpAny_bind (wpAny_onRaise ?_))
  show wpAny _ _ (Builtin.SmallTypes.nextOrEnd (.ref i1)) _ _ ⟨g0, g, d, tk0, os⟩
  refine (nextOrEnd_end (s := ⟨g0, g, d, tk0, os⟩) D1 (D1.over st1 hs0 S.zf1) fun q hq => ?_)
  replace hq : Heap.ExtBut i1 g0 q := hq
  have hzq : IsZipF q z TI TO true .ellipsis := hq _ _ S.zi1 hz0
  refine wpAny_bind (wpAny_setField_rec (s := ⟨q, g, d, tk0, os⟩) hzq (by simp) fun q' _ hq' => ?_)
  replace hq' : Heap.SameBut z q q' := hq'
  refine wpAny_bind ?_
  show wpAny _ _ (forIn (([Value.ref i1, Value.ref i2].drop 1).zipIdx 1) PUnit.unit _ >>= _) _ _ ⟨q', g, d, tk0, os⟩
  refine wpAny_bind ?_
  show wpAny _ _ (forIn [(Value.ref i2, 1)] PUnit.unit _) _ _ _
  simp only [List.forIn_cons, List.forIn_nil]
  refine wpAny_bind (wpAny_bind (nextOrEnd_end (s := ⟨q', g, d, tk0, os⟩) D2 ?_ fun q2 hq2 => ?_))
  · refine D2.over (fr2 _ _ (D2.over st2 hs0 S.zf2) fun b hb o e => hq _ _ (fun z => S.sep1_2 (z ▸ hb)) e) hq' S.zf2
  replace hq2 : Heap.ExtBut i2 q' q2 := hq2
  rw [if_neg (show ¬ ((none : Option Value).isSome = true) from Bool.false_ne_true)]
  refine wpAny_pure (wpAny_pure (wpAny_bind (wpAny_rule ?_)))
  show wpAny _ _ (newExc (.type "StopIteration") [] >>= _) _ _ _
  refine wpAny_bind ?_
  simp only [newExc, newTuple]
  refine wpAny_bind (wpAny_newObj_type ?_ (by size_fits))
  refine wpAny_bind (m := firstArgMember _ _) (wpAny_of_eq (a := Value.none) (by first | rfl | (simp only [firstArgMember]; rfl)) ?_)
  refine wpAny_newObj_type ?_ (by size_fits)
  simp only [raiseNew]
  refine wpAny_bind (wpAny_handled ?_)
  first | rw [show A.in1.handled = none from hh] | rw [hh]
  refine wpAny_bind (wpAny_pure (wpAny_throw ?_))
  refine hE _ tk0 _ (fun c o cz cT c1 c2 x => Heap.get?_push_of_some _ (Heap.get?_push_of_some _ (hq2 _ _ c2 (hq'.extBut _ _ cz (hq _ _ c1 (hs0.extBut _ _ cz x)))))) ⟨_, Heap.get?_push_size _ rfl, rfl⟩

theorem pyNext_zipS_item {Q : Option Value → Shared → Prop} (S : ZipSep2 z TI TO i1 i2 fp1 fp2) (D1 : Draws prog w A.in1 i1 fp1 n1 P1 St1) (D2 : Draws prog w A.in1 i2 fp2 n2 P2 St2)
    (hz : IsZipF s.heap z TI TO true .none) (hTI : IsTupOf2 s.heap TI (.ref i1) (.ref i2)) (hTO : IsTupOf2 s.heap TO a1 a2) (st1 : St1 i s.heap) (st2 : St2 i s.heap) (hlt1 : i < n1) (hlt2 : i < n2)
    (hQ : ∀ x1 x2 h' tk, P1 i x1 → P2 i x2 → IsZipF h' z TI TO true (rawInt s.heap.objs.size) → IsTupOf2 h' TO x1 x2 → St1 (i + 1) h' → St2 (i + 1) h' → IsTupOf2 h' s.heap.objs.size x1 x2 → h'.objs.size = s.heap.objs.size + 1 →
      (∀ c o, c ≠ z → c ≠ TO → c ≠ i1 → c ≠ i2 → s.heap.get? c = some o → h'.get? c = some o) → Q (some (.ref s.heap.objs.size)) { s with heap := h', toks := tk }) :
    wpAny (model prog w) A (pyNext (.ref z)) Q E s := by
  have hT : s.TypeIs (.ref z) "zip" := ⟨_, hz, rfl⟩
  unfold pyNext
  exact wpAny_bind (wpAny_attempt (wpAny_callSpecial?_slot (name := Str.ofString "__next__") hT F.slot_zip_next
    (wpAny_call_entry F.slot_zip_next hT F.entry_zip_next
      (zipS_next_item S D1 D2 hz hTI hTO st1 st2 hlt1 hlt2 fun x1 x2 h' tk y1 y2 b1 b2 d1 d2 b5 b6 b7 => wpAny_pure (hQ x1 x2 h' tk y1 y2 b1 b2 d1 d2 b5 b6 b7)) (F.args_zip_next_1 _))))
theorem pyNext_zipS_end {Q : Option Value → Shared → Prop} (hh : A.handled = none) (S : ZipSep2 z TI TO i1 i2 fp1 fp2) (D1 : Draws prog w A.in1 i1 fp1 n1 P1 St1) (D2 : Draws prog w A.in1 i2 fp2 n2 P2 St2)
    (hz : IsZipF s.heap z TI TO true .none) (hTI : IsTupOf2 s.heap TI (.ref i1) (.ref i2)) (hTO : IsTupOf2 s.heap TO a1 a2) (st1 : St1 n1 s.heap) (st2 : St2 n2 s.heap)
    (hQ : ∀ h' tk, (∀ c o, c ≠ z → c ≠ TO → c ≠ i1 → c ≠ i2 → s.heap.get? c = some o → h'.get? c = some o) → Q none { s with heap := h', toks := tk }) : wpAny (model prog w) A (pyNext (.ref z)) Q E s := by
  have hT : s.TypeIs (.ref z) "zip" := ⟨_, hz, rfl⟩
  unfold pyNext
  refine wpAny_bind (wpAny_attempt (wpAny_callSpecial?_slot (name := Str.ofString "__next__") hT F.slot_zip_next
    (wpAny_call_entry F.slot_zip_next hT F.entry_zip_next (zipS_next_end (show A.in1.handled = none from hh) S D1 D2 hz hTI hTO st1 st2 (fun h h' x y => D2.frame _ h h' x y) fun h' tk e hk he => ?_) (F.args_zip_next_1 _))))
  obtain ⟨o, ho, hc⟩ := he
  refine wpAny_bind (wpAny_isInstance (T := "StopIteration") (b := true) ⟨o, ho, hc⟩ isSubtype_stop ?_)
  exact wpAny_pure (hQ _ _ hk)
theorem letOwned_zipF {elts : List Expr} {x1} {pos : Pos} {T : Addr} {st : Bool} {Q : Unit → Shared → Prop} (hz : IsZipF s.heap z TI TO st (rawInt T))
    (hQ : ∀ h', IsZipF h' z TI TO st .none → Heap.SameBut z s.heap h' → Q () { s with heap := h' }) :
    wpAny (model prog w) A (letOwnedTupleGo (.Tuple elts x1 pos) (.ref z) (.ref T)) Q E s := by
  unfold letOwnedTupleGo
  refine wpAny_bind (wpAny_load hz ?_)
  show wpAny _ _ (if (["enumerate", "zip", "dict_itemiterator", "dict_reverseitemiterator", "odict_iterator", "itertools.zip_longest", "itertools.pairwise"].contains "zip" &&
      (#[rawInt T, .bool false, .bool st, .ref TI, .ref TO] : Array Value)[0]? == some (rawInt T)) = true then _ else _) Q E s
  rw [if_pos (by simp)]
  refine wpAny_bind (wpAny_rule ?_)
  show wpAny _ _ (setField (.ref z) 0 .none) Q E s
  exact wpAny_setField_rec hz (by simp) fun h' hz' hs' => hQ h' hz' hs'
theorem pyIter_zipF {st : Bool} {f0 : Value} {Q : Value → Shared → Prop} (hz : IsZipF s.heap z TI TO st f0) (h : Q (.ref z) s) : wpAny (model prog w) A (pyIter (.ref z)) Q E s := by
  have hT : s.TypeIs (.ref z) "zip" := ⟨_, hz, rfl⟩
  refine wpAny_pyIter_slot hT F.slot_zip_iter (wpAny_call_entry F.slot_zip_iter hT F.entry_zip_iter ?_ (F.args_zip_iter_1 _))
  show wpAny _ _ (ret (.ref z)) _ _ s
  exact wpAny_pure ⟨_, rfl, "zip", _, hT, F.slot_zip_next.lookup, h⟩
/-- one for both -/
theorem pyNext_zipF_item {st : Bool} {Q : Option Value → Shared → Prop} (S : ZipSep2 z TI TO i1 i2 fp1 fp2) (D1 : Draws prog w A.in1 i1 fp1 n1 P1 St1) (D2 : Draws prog w A.in1 i2 fp2 n2 P2 St2)
    (hz : IsZipF s.heap z TI TO st .none) (hTI : IsTupOf2 s.heap TI (.ref i1) (.ref i2)) (hTO : IsTupOf2 s.heap TO a1 a2) (st1 : St1 i s.heap) (st2 : St2 i s.heap) (hlt1 : i < n1) (hlt2 : i < n2)
    (hQ : ∀ x1 x2 h' tk, P1 i x1 → P2 i x2 → IsZipF h' z TI TO st (rawInt s.heap.objs.size) → IsTupOf2 h' TO x1 x2 → St1 (i + 1) h' → St2 (i + 1) h' → IsTupOf2 h' s.heap.objs.size x1 x2 → h'.objs.size = s.heap.objs.size + 1 →
      (∀ c o, c ≠ z → c ≠ TO → c ≠ i1 → c ≠ i2 → s.heap.get? c = some o → h'.get? c = some o) → Q (some (.ref s.heap.objs.size)) { s with heap := h', toks := tk }) :
    wpAny (model prog w) A (pyNext (.ref z)) Q E s := by
  cases st
  · exact wpAny_pyNext_zipD2_item S D1 D2 hz hTI hTO st1 st2 hlt1 hlt2 hQ
  · exact pyNext_zipS_item S D1 D2 hz hTI hTO st1 st2 hlt1 hlt2 hQ
theorem pyNext_zipF_end {st : Bool} {Q : Option Value → Shared → Prop} (hh : A.handled = none) (S : ZipSep2 z TI TO i1 i2 fp1 fp2) (D1 : Draws prog w A.in1 i1 fp1 n1 P1 St1) (D2 : Draws prog w A.in1 i2 fp2 n2 P2 St2)
    (hz : IsZipF s.heap z TI TO st .none) (hTI : IsTupOf2 s.heap TI (.ref i1) (.ref i2)) (hTO : IsTupOf2 s.heap TO a1 a2) (st1 : St1 i s.heap) (st2 : St2 i s.heap) (hle1 : i ≤ n1) (hle2 : i ≤ n2) (hend : (st = false ∧ (i = n1 ∨ i = n2)) ∨ (i = n1 ∧ i = n2))
    (hQ : ∀ h' tk, (∀ c o, c ≠ z → c ≠ TO → c ≠ i1 → c ≠ i2 → s.heap.get? c = some o → h'.get? c = some o) → Q none { s with heap := h', toks := tk }) : wpAny (model prog w) A (pyNext (.ref z)) Q E s := by
  cases st
  · exact wpAny_pyNext_zipD2_end S D1 D2 hz hTI hTO st1 st2 hle1 hle2 (by rcases hend with ⟨_, h⟩ | ⟨h, _⟩ <;> first | exact h | exact .inl h) hQ
  · rcases hend with ⟨h, _⟩ | ⟨h1, h2⟩
    · cases h
    · subst h1
      subst h2
      exact pyNext_zipS_end hh S D1 D2 hz hTI hTO st1 st2 hQ
abbrev gzS2 (h : Heap) (o1 o2 : Obj) : Heap := (gzO2 h o1 o2).push { cls := .type "zip", data := .fields #[.none, .bool false, .bool true, .ref ((h.push o1).push o2).objs.size, .ref (gzT2 h o1 o2).objs.size] }
theorem meets_zip_newS2 {v1 v2 : Value} {o1 o2 : Obj} {H1 H2 : Heap → Prop} (B1 : Begins v1 o1 H1) (B2 : Begins v2 o2 H2) :
    Meets (Builtin.«zip.__new__» ⟨[.type "zip", v1, v2], [(Str.ofString "strict", .bool true)]⟩) (fun _ R s => (H1 s.heap ∧ H2 s.heap) ∧
      R (.ok (.ret (.ref (gzO2 s.heap o1 o2).objs.size))) { s with heap := gzS2 s.heap o1 o2 }) :=
  .of_wp fun prog w A R s h => by
    obtain ⟨hp, g, d, tk, os⟩ := s; obtain ⟨⟨h1, h2⟩, h⟩ := h
    have hsub := sub_zip
    have q1 : ∀ {A' : Around} {E : Value → Shared → Prop} {Q : Value → Shared → Prop}, Q (.ref hp.objs.size) ⟨(hp.push o1), g, d, tk, os⟩ → wpAny (model prog w) A' (pyIter v1) Q E ⟨hp, g, d, tk, os⟩ :=
      fun q => B1.iter prog w _ _ ⟨hp, g, d, tk, os⟩ _ (B1.keeps _ _ h1 fun b o' e => e) q
    have q2 : ∀ {A' : Around} {E : Value → Shared → Prop} {Q : Value → Shared → Prop}, Q (.ref (hp.push o1).objs.size) ⟨((hp.push o1).push o2), g, d, tk, os⟩ → wpAny (model prog w) A' (pyIter v2) Q E ⟨(hp.push o1), g, d, tk, os⟩ :=
      fun q => B2.iter prog w _ _ ⟨(hp.push o1), g, d, tk, os⟩ _ (B2.keeps _ _ h2 fun b o' e => (Heap.get?_push_of_some _ e)) q
    wp_walk using q1, q2
    exact ⟨_, rfl, h⟩
end
end PyD

namespace PyD
open PySem PySem.Spec PyProof.Rows L2
theorem typeCall_zip_S (a b c : Value) : checkTypeCall "zip" ⟨[a, b], [(Str.ofString "strict", c)]⟩ = pure () := by kernel_rfl
theorem newCall_zip_S (a b c : Value) : checkBuiltinCall "zip.__new__" ⟨[.type "zip", a, b], [(Str.ofString "strict", c)]⟩ = pure () := by kernel_rfl
theorem args_init_S (obj a b c : Value) : argsOk "object.__init__" ⟨[obj, a, b], [(Str.ofString "strict", c)]⟩ := by unfold argsOk; kernel_rfl
section
variable {prog : Program} {w : World} {A : Around} {E : Value → Shared → Prop} {s : Shared}
theorem zipS_begins2 {v1 v2 : Value} {o1 o2 : Obj} {H1 H2 : Heap → Prop} {Q : Value → Shared → Prop} (B1 : Begins v1 o1 H1) (B2 : Begins v2 o2 H2) (h1 : H1 s.heap) (h2 : H2 s.heap)
    (h : ∀ h', IsZipF h' (s.heap.objs.size + 4) (s.heap.objs.size + 2) (s.heap.objs.size + 3) true .none → IsTupOf2 h' (s.heap.objs.size + 2) (.ref s.heap.objs.size) (.ref (s.heap.objs.size + 1)) →
      IsTupOf2 h' (s.heap.objs.size + 3) .none .none → h'.get? s.heap.objs.size = some o1 → h'.get? (s.heap.objs.size + 1) = some o2 → h'.objs.size = s.heap.objs.size + 5 →
      (∀ c o, s.heap.get? c = some o → h'.get? c = some o) → Q (.ref (s.heap.objs.size + 4)) { s with heap := h' }) :
    wpAny (model prog w) A (call (.type "zip") [v1, v2] [(Str.ofString "strict", .bool true)]) Q E s := by
  refine callType_newKw F.called_zip (by decide) (typeCall_zip_S _ _ _) (newCall_zip_S _ _ _) (fun obj => args_init_S obj _ _ _) F.entry_zip_new
    (meets_zip_newS2 B1 B2) ⟨⟨h1, h2⟩, ?_⟩
  have z1 : (s.heap.push o1).objs.size = s.heap.objs.size + 1 := by rw [Heap.size_push]
  have z2 : ((s.heap.push o1).push o2).objs.size = s.heap.objs.size + 2 := by rw [Heap.size_push, z1]
  have zT : (gzT2 s.heap o1 o2).objs.size = s.heap.objs.size + 3 := by rw [Heap.size_push, z2]
  have zO : (gzO2 s.heap o1 o2).objs.size = s.heap.objs.size + 4 := by rw [Heap.size_push, zT]
  have zZ : (gzS2 s.heap o1 o2).objs.size = s.heap.objs.size + 5 := by rw [Heap.size_push, zO]
  have gZ : (gzS2 s.heap o1 o2).get? (gzO2 s.heap o1 o2).objs.size = some { cls := .type "zip", data := .fields #[.none, .bool false, .bool true, .ref ((s.heap.push o1).push o2).objs.size, .ref (gzT2 s.heap o1 o2).objs.size] } := Heap.get?_push_size _ rfl
  have gO : (gzS2 s.heap o1 o2).get? (gzT2 s.heap o1 o2).objs.size = some { cls := .type "tuple", data := .seq #[.none, .none] } := Heap.get?_push_of_some _ (Heap.get?_push_size _ rfl)
  have gT : (gzS2 s.heap o1 o2).get? ((s.heap.push o1).push o2).objs.size = some { cls := .type "tuple", data := .seq #[.ref s.heap.objs.size, .ref (s.heap.push o1).objs.size] } := Heap.get?_push_of_some _ (Heap.get?_push_of_some _ (Heap.get?_push_size _ rfl))
  have g1 : (gzS2 s.heap o1 o2).get? s.heap.objs.size = some o1 := Heap.get?_push_of_some _ (Heap.get?_push_of_some _ (Heap.get?_push_of_some _ (Heap.get?_push_of_some _ (Heap.get?_push_size _ B1.free))))
  have g2 : (gzS2 s.heap o1 o2).get? (s.heap.push o1).objs.size = some o2 := Heap.get?_push_of_some _ (Heap.get?_push_of_some _ (Heap.get?_push_of_some _ (Heap.get?_push_size _ B2.free)))
  rw [zO, zT, z2] at gZ
  rw [zT] at gO
  rw [z2, z1] at gT
  rw [z1] at g2
  show _ ∧ _
  rw [zO]
  exact ⟨⟨_, gZ, rfl⟩, h _ gZ gT gO g1 g2 zZ fun c o e => Heap.get?_push_of_some _ (Heap.get?_push_of_some _ (Heap.get?_push_of_some _ (Heap.get?_push_of_some _ (Heap.get?_push_of_some _ e))))⟩
theorem callWith_typeKw {env : Env} {pos : Pos} {T : String} {e : Expr} {rest : List Expr} {kws : List Keyword} {Q : Value → Shared → Prop} {M : Model}
    (h : wpAny M A (spliced (backTo pos (starEach (e :: rest) env))) (fun vs s₁ => wpAny M A (evalAll ((backToKw pos (keywordEach kws env)).map (·.2)))
      (fun kvs s₂ => wpAny M A (call (.type T) vs (((backToKw pos (keywordEach kws env)).filterMap (·.1)).zip kvs)) Q E s₂) E s₁) E s)
    (he : backTo pos (starEach (e :: rest) env) = (false, eval e env) :: backTo pos (starEach rest env) := by rfl)
    (hplain : (backTo pos (starEach (e :: rest) env)).any (·.1) = false := by rfl)
    (hall : (backToKw pos (keywordEach kws env)).all (·.1.isSome) = true := by rfl)
    (hkw : (backToKw pos (keywordEach kws env)).any (·.1.isNone) = false := by rfl) :
    wpAny M A (callWith pos (.type T) [] (backTo pos (starEach (e :: rest) env)) (backToKw pos (keywordEach kws env))) Q E s := by
  have key : wpAny M A (evalArgs (.type T) true (backTo pos (starEach (e :: rest) env)) (backToKw pos (keywordEach kws env))) (fun a s₁ => wpAny M A (call (.type T) ([] ++ a.pos) a.kw) Q E s₁) E s := by
    rw [he] at h ⊢
    exact evalArgs_kwB hall h
  unfold callWith
  refine wpAny_bind (wpAny_holding (wpAny_mono key (fun a s₁ h₁ => wpAny_bind (wpAny_standAt ?_)) fun _ _ x => x))
  simp only [hplain, hkw, Bool.or_false]
  refine wpAny_bind (wpAny_pure ?_)
  exact wpAny_bind (wpAny_mono h₁ (fun r s₂ hr => wpAny_bind (wpAny_holding (wpAny_point (wpAny_pure hr)))) fun _ _ x => x)
end
/-- the things at a and b as they stand at each turn, the items in new pairs -/
def ItzK (st : Bool) (k1 k2 : Kd) (K : PySem.W.Frag) (a b : Addr) : It :=
  ⟨fun i H => ∃ (xs ys : List V) (x y : V), sqK k1 K H a xs ∧ sqK k2 K H b ys ∧ xs[i]? = some x ∧ ys[i]? = some y,
    fun i H v H' => ∃ T x y, v = .ref T ∧ H T = none ∧ H' = upd H T (.tup [x, y]) ∧ (∀ xs, sqK k1 K H a xs → xs[i]? = some x) ∧ ∀ ys, sqK k2 K H b ys → ys[i]? = some y,
    fun i H => ∃ xs ys : List V, sqK k1 K H a xs ∧ sqK k2 K H b ys ∧ i ≤ xs.length ∧ i ≤ ys.length ∧ ((st = false ∧ (i = xs.length ∨ i = ys.length)) ∨ (i = xs.length ∧ i = ys.length))⟩
structure Apart (z TI TO i1 i2 : Addr) : Prop where
  TIz : TI ≠ z
  TOz : TO ≠ z
  TITO : TI ≠ TO
  TIi1 : TI ≠ i1
  TIi2 : TI ≠ i2
  TO1 : TO ≠ i1
  TO2 : TO ≠ i2
  z1 : z ≠ i1
  z2 : z ≠ i2
  i12 : i1 ≠ i2
theorem turn_zipK {P : Program} {w : World} {K : PySem.W.Frag} {elts : List Expr} {kk : Nat} {tpos : Pos} (st : Bool) (k1 k2 : Kd) {a b z TI TO i1 i2 : Addr} (D : Apart z TI TO i1 i2) :
    Turn P w K (.Tuple elts kk tpos) (ItzK st k1 k2 K a b) [z, TI, TO, i1, i2] z (fun i h => IsZipF h z TI TO st .none ∧ IsTupOf2 h TI (.ref i1) (.ref i2) ∧ (∃ x y, IsTupOf2 h TO x y) ∧ itK k1 h i1 a i ∧ itK k2 h i2 b i ∧ TO ≠ a ∧ TO ≠ b) where
  mem := by simp
  obj := fun i h st c hc => by
    obtain ⟨hz, hTI, ⟨x, y, hTO⟩, h1, h2, _⟩ := st
    obtain ⟨o1, v1, e1, d1, _⟩ := it_ob h1
    obtain ⟨o2, v2, e2, d2, _⟩ := it_ob h2
    have e' : c = z ∨ c = TI ∨ c = TO ∨ c = i1 ∨ c = i2 := by simpa using hc
    rcases e' with q | q | q | q | q
    · rw [q]; exact ⟨_, hz, fun v q => nomatch q⟩
    · rw [q]; exact ⟨_, hTI, fun v q => nomatch q⟩
    · rw [q]; exact ⟨_, hTO, fun v q => nomatch q⟩
    · rw [q]; exact ⟨o1, e1, fun v q => by rw [d1] at q; cases q⟩
    · rw [q]; exact ⟨o2, e2, fun v q => by rw [d2] at q; cases q⟩
  keep := fun i h h' st k => by
    obtain ⟨hz, hTI, ⟨x, y, hTO⟩, h1, h2, hn⟩ := st
    exact ⟨k z (by simp) _ hz, k TI (by simp) _ hTI, ⟨x, y, k TO (by simp) _ hTO⟩, it_at h1 fun o q => k i1 (by simp) o q, it_at h2 fun o q => k i2 (by simp) o q, hn⟩
  item := by
    intro X hP hw hK hc i pins s σ H E I hf stt hg
    subst hP hw hK
    obtain ⟨hz, hTI, ⟨x0, y0, hTO⟩, h1, h2, nTa, nTb⟩ := stt
    obtain ⟨xs, ys, x, y, hqx, hqy, hx, hy⟩ := hg
    obtain ⟨its, rv, p⟩ := seq_k k1 I hqx
    obtain ⟨its2, rv2, p2⟩ := seq_k k2 I hqy
    obtain ⟨u, hu, ru⟩ := rv.get hx
    obtain ⟨u2, hu2, ru2⟩ := rv2.get hy
    obtain ⟨o1, v1, e1, d1, _⟩ := it_ob h1
    obtain ⟨o2, v2, e2, d2, _⟩ := it_ob h2
    obtain ⟨c1, m1, f1, g1⟩ := co_ob p
    obtain ⟨c2, m2, f2, g2⟩ := co_ob p2
    have hzl : z < s.heap.objs.size := Heap.lt_size hz
    have hx' : its.toArray[i]? = some u := by simpa using hu
    have hy' : its2.toArray[i]? = some u2 := by simpa using hu2
    have a1 : a ≠ i1 := ne_fs f1 g1 e1 d1
    have a2 : a ≠ i2 := ne_fs f1 g1 e2 d2
    have b1 : b ≠ i1 := ne_fs f2 g2 e1 d1
    have b2 : b ≠ i2 := ne_fs f2 g2 e2 d2
    have az : a ≠ z := ne_fs f1 g1 hz rfl
    have bz : b ≠ z := ne_fs f2 g2 hz rfl
    have S : ZipSep2 z TI TO i1 i2 [i1, a] [i2, b] := ⟨D.TIz, D.TOz, D.TITO, D.TIi1, by simp, by simp [D.z1, az.symm], by simp [D.TO1, nTa], D.TIi2, by simp, by simp [D.z2, bz.symm], by simp [D.TO2, nTb], by simp [D.i12, b1.symm], by simp [D.i12.symm, a2.symm]⟩
    have hh := I.ok.hd hc
    refine pyNext_zipF_item S (draws_k k1 (show X.A.in1.handled = none from hh) i1 a a1 its.toArray) (draws_k k2 (show X.A.in1.handled = none from hh) i2 b b2 its2.toArray) hz hTI hTO ⟨h1, p⟩ ⟨h2, p2⟩
      (Array.getElem?_eq_some_iff.mp hx').1 (Array.getElem?_eq_some_iff.mp hy').1 fun w1 w2 h' tk hw1 hw2 z' TO' st1 st2 hT hsz hk => ?_
    obtain rfl : u = w1 := by
      have q : its.toArray[i]? = some w1 := hw1
      rw [hx'] at q
      exact Option.some.inj q
    obtain rfl : u2 = w2 := by
      have q : its2.toArray[i]? = some w2 := hw2
      rw [hy'] at q
      exact Option.some.inj q
    refine ⟨_, rfl, letOwned_zipF (s := { s with heap := h', toks := tk }) z' fun h'' z'' sb => ?_⟩
    have hT2 : h''.get? s.heap.objs.size = some { cls := .type "tuple", data := .seq #[u, u2] } := (sb.2 _ (Nat.ne_of_gt hzl)).trans hT
    have new : ObjOk X.prog X.w (upd H s.heap.objs.size (.tup [x, y])) h'' s.heap.objs.size (.tup [x, y]) :=
      ⟨by show 2 ≤ sizeLine; decide, [u, u2], .cons ru (.cons ru2 .nil), ⟨_, hT2, rfl, _, rfl⟩⟩
    have I1 : Inv X pins σ (upd H s.heap.objs.size (.tup [x, y])) { s with heap := h'', toks := tk } :=
      I.turnedNew (t' := tk) (ch := [z, TI, TO, i1, i2]) (fun c o hb q => (sb.2 c (fun q' => hb (by simp [q']))).trans (hk c o (fun q' => hb (by simp [q'])) (fun q' => hb (by simp [q'])) (fun q' => hb (by simp [q'])) (fun q' => hb (by simp [q'])) q)) hf (Nat.le_refl _) new
    refine ⟨.ref s.heap.objs.size, _, I1, rfl, ⟨_, x, y, rfl, I.hok.fresh (Nat.le_refl _), rfl, fun l hl => by rw [inj_k k1 I hl hqx]; exact hx, fun l hl => by rw [inj_k k2 I hl hqy]; exact hy⟩, ⟨z'', ?_, ⟨u, u2, ?_⟩, ?_, ?_, nTa, nTb⟩, fun c hcm => ?_⟩
    · exact (sb.2 _ D.TIz).trans (hk _ _ D.TIz D.TITO D.TIi1 D.TIi2 hTI)
    · exact (sb.2 _ D.TOz).trans TO'
    · exact it_at st1.1 fun o q => (sb.2 _ D.z1.symm).trans q
    · exact it_at st2.1 fun o q => (sb.2 _ D.z2.symm).trans q
    · have hlt : c < s.heap.objs.size := by
        have e' : c = z ∨ c = TI ∨ c = TO ∨ c = i1 ∨ c = i2 := by simpa using hcm
        rcases e' with q | q | q | q | q
        · rw [q]; exact hzl
        · rw [q]; exact Heap.lt_size hTI
        · rw [q]; exact Heap.lt_size hTO
        · rw [q]; exact Heap.lt_size e1
        · rw [q]; exact Heap.lt_size e2
      rw [upd_ne (Nat.ne_of_lt hlt)]
      exact (hf c hcm).1
  done := by
    intro X hP hw hK hc i pins s σ H E I hf stt hg
    subst hP hw hK
    obtain ⟨hz, hTI, ⟨x0, y0, hTO⟩, h1, h2, nTa, nTb⟩ := stt
    obtain ⟨xs, ys, hqx, hqy, hl1, hl2, hend⟩ := hg
    obtain ⟨its, rv, p⟩ := seq_k k1 I hqx
    obtain ⟨its2, rv2, p2⟩ := seq_k k2 I hqy
    obtain ⟨o1, v1, e1, d1, _⟩ := it_ob h1
    obtain ⟨o2, v2, e2, d2, _⟩ := it_ob h2
    obtain ⟨c1, m1, f1, g1⟩ := co_ob p
    obtain ⟨c2, m2, f2, g2⟩ := co_ob p2
    have a1 : a ≠ i1 := ne_fs f1 g1 e1 d1
    have a2 : a ≠ i2 := ne_fs f1 g1 e2 d2
    have b1 : b ≠ i1 := ne_fs f2 g2 e1 d1
    have b2 : b ≠ i2 := ne_fs f2 g2 e2 d2
    have az : a ≠ z := ne_fs f1 g1 hz rfl
    have bz : b ≠ z := ne_fs f2 g2 hz rfl
    have S : ZipSep2 z TI TO i1 i2 [i1, a] [i2, b] := ⟨D.TIz, D.TOz, D.TITO, D.TIi1, by simp, by simp [D.z1, az.symm], by simp [D.TO1, nTa], D.TIi2, by simp, by simp [D.z2, bz.symm], by simp [D.TO2, nTb], by simp [D.i12, b1.symm], by simp [D.i12.symm, a2.symm]⟩
    have hh := I.ok.hd hc
    have l1 : its.toArray.size = xs.length := by simp [rv.length]
    have l2 : its2.toArray.size = ys.length := by simp [rv2.length]
    exact pyNext_zipF_end hh S (draws_k k1 (show X.A.in1.handled = none from hh) i1 a a1 its.toArray) (draws_k k2 (show X.A.in1.handled = none from hh) i2 b b2 its2.toArray) hz hTI hTO ⟨h1, p⟩ ⟨h2, p2⟩ (by rw [l1]; exact hl1) (by rw [l2]; exact hl2) (by rw [l1, l2]; exact hend)
      fun h' tk hk => ⟨rfl, I.turnedL (t' := tk) (ch := [z, TI, TO, i1, i2]) (fun c o hb q => hk c o (fun q' => hb (by simp [q'])) (fun q' => hb (by simp [q'])) (fun q' => hb (by simp [q'])) (fun q' => hb (by simp [q'])) q) hf⟩
  self := fun A i s Q E st h => pyIter_zipF st.1 h
def iZipK (K : PySem.W.Frag) (st : Bool) (ta : TA) : TI := fun σ H R => ta σ H fun vs H1 => ∃ k1 k2 a b xs ys, vs = [.ref a, .ref b] ∧ sqK k1 K H1 a xs ∧ sqK k2 K H1 b ys ∧ R (ItzK st k1 k2 K a b) H1
theorem nn {a b : Nat} (h : a < b ∨ b < a) : @Ne Addr a b := fun z => by
  have z' : (a : Nat) = b := z
  omega
theorem apart_new (N : Nat) : Apart (N + 4) (N + 2) (N + 3) N (N + 1) := ⟨nn (by omega), nn (by omega), nn (by omega), nn (by omega), nn (by omega), nn (by omega), nn (by omega), nn (by omega), nn (by omega), nn (by omega)⟩
section
variable {X : Cx} {e e2 : Expr} {p pos tpos : Pos} {elts : List Expr} {kk : Nat}
theorem pie_zip {pins : List (Addr × Obj)} {s1 : Shared} {σ : Sl} {H1 : Hp} {R : It → Hp → Prop} {st : Bool} {k1 k2 : Kd} {a b : Addr} {its its2 : List Value} {h' : Heap} (I1 : Inv X pins σ H1 s1) (p1 : coK k1 s1.heap a its.toArray) (p2 : coK k2 s1.heap b its2.toArray)
    (hz : IsZipF h' (s1.heap.objs.size + 4) (s1.heap.objs.size + 2) (s1.heap.objs.size + 3) st .none) (hTI : IsTupOf2 h' (s1.heap.objs.size + 2) (.ref s1.heap.objs.size) (.ref (s1.heap.objs.size + 1)))
    (hTO : IsTupOf2 h' (s1.heap.objs.size + 3) .none .none) (h1 : h'.get? s1.heap.objs.size = some (obK k1 a)) (h2 : h'.get? (s1.heap.objs.size + 1) = some (obK k2 b))
    (hk : ∀ c o, s1.heap.get? c = some o → h'.get? c = some o) (q : R (ItzK st k1 k2 X.K a b) H1) :
    wpAny (model X.prog X.w) X.A (pyIter (.ref (s1.heap.objs.size + 4))) (PIE X pins σ (.Tuple elts kk tpos) R) X.xe { s1 with heap := h' } := by
  have I2 : Inv X pins σ H1 { s1 with heap := h' } := I1.kept (t' := s1.toks) hk
  obtain ⟨c1, m1, f1, g1⟩ := co_ob p1
  obtain ⟨c2, m2, f2, g2⟩ := co_ob p2
  refine pyIter_zipF hz ⟨s1.heap.objs.size + 4, [s1.heap.objs.size + 4, s1.heap.objs.size + 2, s1.heap.objs.size + 3, s1.heap.objs.size, s1.heap.objs.size + 1], _, _, H1, rfl, I2, turn_zipK st k1 k2 (apart_new s1.heap.objs.size),
    ⟨hz, hTI, ⟨_, _, hTO⟩, it_new h1, it_new h2, Ne.symm (Nat.ne_of_lt (Nat.lt_of_lt_of_le (Heap.lt_size f1) (Nat.le_add_right _ _))), Ne.symm (Nat.ne_of_lt (Nat.lt_of_lt_of_le (Heap.lt_size f2) (Nat.le_add_right _ _)))⟩, fun c hcm => ?_, q⟩
  have e' : c = s1.heap.objs.size + 4 ∨ c = s1.heap.objs.size + 2 ∨ c = s1.heap.objs.size + 3 ∨ c = s1.heap.objs.size ∨ c = s1.heap.objs.size + 1 := by simpa using hcm
  have hle : s1.heap.objs.size ≤ c := by
    rcases e' with z | z | z | z | z <;> rw [z] <;> omega
  exact I1.fpOk hle (I1.hok.fresh hle)
theorem pi_zipK {ta : TA} (hg : Gl X "zip") (hm : X.mg "zip" = none) (ha : PA X [e, e2] ta)
    (hs : starEach [e, e2] X.env = (false, eval e X.env) :: starEach [e2] X.env := by rfl) (hpl : (backTo pos (starEach [e2] X.env)).any (·.1) = false := by rfl) :
    PI X (.Tuple elts kk tpos) (.Call (.Name "zip" p) [e, e2] [] pos) (iZipK X.K false ta) := by
  refine ⟨fun pins s σ H R I h => ?_⟩
  refine Call_ (ld_blt I hg hm PyProof.Rows.boot_zip (PyProof.Rows.callWith_type1 (thn (ha.run pos pins s σ H _ I h) fun us s1 ⟨vs, H1, I1, r1, q1⟩ => ?_) hs hpl))
  obtain ⟨k1, k2, a, b, xs, ys, ex, hqx, hqy, q⟩ := q1
  subst ex
  cases r1 with
  | cons r rr =>
    cases rr with
    | cons r' rr =>
      cases rr
      cases r
      cases r'
      obtain ⟨its, rv, p1⟩ := seq_k k1 I1 hqx
      obtain ⟨its2, rv2, p2⟩ := seq_k k2 I1 hqy
      exact zip_begins2 (begins_k k1 a its.toArray) (begins_k k2 b its2.toArray) p1 p2 fun h' hz hTI hTO h1 h2 hsz hk => pie_zip I1 p1 p2 hz hTI hTO h1 h2 hk q
theorem pi_zipS {ta : TA} {j : Nat} {cp kp : Pos} (hg : Gl X "zip") (hm : X.mg "zip" = none) (ha : PA X [e, e2] ta)
    (he : backTo pos (starEach [e, e2] X.env) = (false, eval e X.env) :: backTo pos (starEach [e2] X.env) := by rfl) (hpl : (backTo pos (starEach [e, e2] X.env)).any (·.1) = false := by rfl)
    (hk1 : (backToKw pos (keywordEach [⟨some "strict", .Constant (.bool true) j cp, kp⟩] X.env)).all (·.1.isSome) = true := by rfl) (hk2 : (backToKw pos (keywordEach [⟨some "strict", .Constant (.bool true) j cp, kp⟩] X.env)).any (·.1.isNone) = false := by rfl)
    (hks : (backToKw pos (keywordEach [⟨some "strict", .Constant (.bool true) j cp, kp⟩] X.env)).filterMap (·.1) = [Str.ofString "strict"] := by rfl) :
    PI X (.Tuple elts kk tpos) (.Call (.Name "zip" p) [e, e2] [⟨some "strict", .Constant (.bool true) j cp, kp⟩] pos) (iZipK X.K true ta) := by
  refine ⟨fun pins s σ H R I h => ?_⟩
  have hb : PK X [⟨some "strict", .Constant (.bool true) j cp, kp⟩] (tCons (tC (.bl true)) tNil) := pk_cons pe_bl pk_nil
  refine wpAny_Call_Name_kw (ld_blt I hg hm PyProof.Rows.boot_zip (callWith_typeKw (thn (ha.run pos pins s σ H _ I h) fun us s1 ⟨vs, H1, I1, r1, q1⟩ =>
    thn (hb.run pos pins s1 σ H1 (fun zs H' => zs = [.bl true] ∧ H' = H1) I1 ⟨rfl, rfl⟩) fun ws s2 ⟨zs, H2, I2, r2, q2⟩ => ?_) he hpl hk1 hk2))
  obtain ⟨rfl, rfl⟩ := q2
  obtain ⟨wv, rfl, rw1⟩ := vals1 r2
  cases rw1
  obtain ⟨k1, k2, a, b, xs, ys, ex, hqx, hqy, q⟩ := q1
  subst ex
  rw [hks]
  cases r1 with
  | cons r rr =>
    cases rr with
    | cons r' rr =>
      cases rr
      cases r
      cases r'
      obtain ⟨its, rv, p1⟩ := seq_k k1 I2 hqx
      obtain ⟨its2, rv2, p2⟩ := seq_k k2 I2 hqy
      exact zipS_begins2 (begins_k k1 a its.toArray) (begins_k k2 b its2.toArray) p1 p2 fun h' hz hTI hTO h1 h2 hsz hk => pie_zip I2 p1 p2 hz hTI hTO h1 h2 hk q
end
/-! ### .. by data -/
def zipD (ds es : List D) : List D := (ds.zip es).map fun p => .tup [p.1, p.2]
theorem zipD_length (ds es : List D) : (zipD ds es).length = min ds.length es.length := by simp [zipD]
theorem zipD_get {ds es : List D} {i : Nat} {d : D} (h : (zipD ds es)[i]? = some d) : ∃ x y, ds[i]? = some x ∧ es[i]? = some y ∧ d = .tup [x, y] := by
  unfold zipD at h
  rw [List.getElem?_map] at h
  obtain ⟨⟨x, y⟩, e1, e2⟩ := Option.map_eq_some_iff.mp h
  rw [List.getElem?_zip_eq_some] at e1
  exact ⟨x, y, e1.1, e1.2, e2.symm⟩
theorem zipD_at {ds es : List D} {i : Nat} {x y : D} (h : ds[i]? = some x) (h' : es[i]? = some y) : (zipD ds es)[i]? = some (.tup [x, y]) := by
  unfold zipD
  rw [List.getElem?_map, List.getElem?_zip_eq_some (z := (x, y)) |>.mpr ⟨h, h'⟩]
  rfl
theorem walk_zipD {K : PySem.W.Frag} {H0 : Hp} {sb : Bool} {k1 k2 : Kd} {a b : Addr} {ds es : List D} {st st' : DM → Prop} (w : DSeq K H0 k1 a ds st) (w' : DSeq K H0 k2 b es st') (hl : sb = true → ds.length = es.length) :
    DWalk K H0 (ItzK sb k1 k2 K a b) (zipD ds es) (fun M => st M ∧ st' M) where
  goes := fun i H M hi kp m s => by
    rw [zipD_length] at hi
    obtain ⟨xs, q, r⟩ := w.go H M kp m s.1
    obtain ⟨ys, q', r'⟩ := w'.go H M kp m s.2
    obtain ⟨x, d, h1, _, _⟩ := sqK_len r (show i < ds.length by omega)
    obtain ⟨y, d', h1', _, _⟩ := sqK_len r' (show i < es.length by omega)
    exact ⟨xs, ys, x, y, q, q', h1, h1'⟩
  stops := fun H M kp m s => by
    obtain ⟨xs, q, r⟩ := w.go H M kp m s.1
    obtain ⟨ys, q', r'⟩ := w'.go H M kp m s.2
    refine ⟨xs, ys, q, q', by rw [zipD_length, ← r.length]; omega, by rw [zipD_length, ← r'.length]; omega, ?_⟩
    rw [zipD_length, ← r.length, ← r'.length]
    cases sb
    · exact .inl ⟨rfl, by omega⟩
    · have := hl rfl
      exact .inr ⟨by omega, by omega⟩
  yields := fun i H M x H' hi kp m s y => by
    rw [zipD_length] at hi
    obtain ⟨T, u, v, rfl, hT, rfl, hy, hy'⟩ := y
    obtain ⟨xs, q, r⟩ := w.go H M kp m s.1
    obtain ⟨ys, q', r'⟩ := w'.go H M kp m s.2
    obtain ⟨x, d, h1, h2, h3⟩ := sqK_len r (show i < ds.length by omega)
    obtain ⟨y, d', h1', h2', h3'⟩ := sqK_len r' (show i < es.length by omega)
    rw [hy xs q] at h1
    cases h1
    rw [hy' ys q'] at h1'
    cases h1'
    exact ⟨keep_new _ hT, m.tup _ hT, _, zipD_at h2 h2', rep_tup hT (.cons h3 (.cons h3' .nil))⟩
section
variable {X : Cx} {a b : Expr} {ra rb : DE} {rs : DA} {pos : Pos} {p tpos : Pos} {elts : List Expr} {kk : Nat}
@[simp] def dZipF (sb : Bool) (ra rb : DE) : DI := fun S M R => ra S M fun d M1 => rb S M1 fun e M2 => match itemsD M2 d, itemsD M2 e with
  | some (ds, st), some (es, st') => (sb = true → ds.length = es.length) ∧ R (zipD ds es) (fun M => st M ∧ st' M) M2
  | _, _ => False
abbrev dZip := dZipF false
abbrev dZipST := dZipF true
theorem lift_zip {sb : Bool} {σ : Sl} {H : Hp} {R : It → Hp → Prop} (h : LI X.K (dZipF sb ra rb) σ H R) : iZipK X.K sb (LA X.K (dCons ra (dCons rb dNil))) σ H R := by
  obtain ⟨S, M, Rr, hS, hM, h, hc⟩ := h
  refine ⟨S, M, fun ds M2 => match ds with
    | [d, e] => (match itemsD M2 d, itemsD M2 e with
      | some (ds, st), some (es, st') => (sb = true → ds.length = es.length) ∧ Rr (zipD ds es) (fun M => st M ∧ st' M) M2
      | _, _ => False)
    | _ => False, hS, hM, h, fun dd M2 vs H2 k2 m2 z2 h2 => ?_⟩
  dsimp only at h2
  split at h2
  · split at h2
    · rename_i ds st es st' e1 e2
      obtain ⟨v, v', rfl, z, z'⟩ := rep2 z2
      obtain ⟨k1, a, rfl, w1, s1⟩ := dseq_of z m2 e1
      obtain ⟨k2', b, rfl, w2, s2⟩ := dseq_of z' m2 e2
      obtain ⟨xs, q, r⟩ := w1.go H2 M2 (.refl _) m2 s1
      obtain ⟨ys, q', r'⟩ := w2.go H2 M2 (.refl _) m2 s2
      exact ⟨k1, k2', a, b, xs, ys, rfl, q, q', hc _ _ _ M2 H2 k2 m2 (walk_zipD w1 w2 h2.1) h2.2⟩
    · exact h2.elim
  · exact h2.elim
theorem di_zip (hg : Gl X "zip") (hm : X.mg "zip" = none) (ha : DEx X a ra) (hb : DEx X b rb)
    (hs : starEach [a, b] X.env = (false, eval a X.env) :: starEach [b] X.env := by rfl) (hs2 : starEach [b] X.env = (false, eval b X.env) :: starEach [] X.env := by rfl) (hpl : (backTo pos (starEach [b] X.env)).any (·.1) = false := by rfl) :
    DIx X (.Tuple elts kk tpos) (.Call (.Name "zip" p) [a, b] [] pos) (dZip ra rb) := PI_weak (pi_zipK hg hm (da_cons ha (da_cons hb da_nil hs2) hs) hs hpl) fun σ H R h => lift_zip h
theorem di_zipST {j : Nat} {cp kp : Pos} (hg : Gl X "zip") (hm : X.mg "zip" = none) (ha : DEx X a ra) (hb : DEx X b rb)
    (hs : starEach [a, b] X.env = (false, eval a X.env) :: starEach [b] X.env := by rfl) (hs2 : starEach [b] X.env = (false, eval b X.env) :: starEach [] X.env := by rfl)
    (he : backTo pos (starEach [a, b] X.env) = (false, eval a X.env) :: backTo pos (starEach [b] X.env) := by rfl) (hpl : (backTo pos (starEach [a, b] X.env)).any (·.1) = false := by rfl)
    (hk1 : (backToKw pos (keywordEach [⟨some "strict", .Constant (.bool true) j cp, kp⟩] X.env)).all (·.1.isSome) = true := by rfl) (hk2 : (backToKw pos (keywordEach [⟨some "strict", .Constant (.bool true) j cp, kp⟩] X.env)).any (·.1.isNone) = false := by rfl)
    (hks : (backToKw pos (keywordEach [⟨some "strict", .Constant (.bool true) j cp, kp⟩] X.env)).filterMap (·.1) = [Str.ofString "strict"] := by rfl) :
    DIx X (.Tuple elts kk tpos) (.Call (.Name "zip" p) [a, b] [⟨some "strict", .Constant (.bool true) j cp, kp⟩] pos) (dZipST ra rb) := PI_weak (pi_zipS hg hm (da_cons ha (da_cons hb da_nil hs2) hs) he hpl hk1 hk2 hks) fun σ H R h => lift_zip h
end
end PyD

namespace PyD
open PySem PySem.Spec PyProof.Rows L2
/-! ### sorted(set(xs)), len(set(xs)): xs a list of ints -/
section
variable {P : Program} {w : World} {A : Around} {E : Value → Shared → Prop} {s : Shared}
set_option maxRecDepth 100000 in
set_option maxHeartbeats 3200000 in
theorem call_set_lstI {l : Addr} {items : Array Value} (ns : List Int) {Q : Value → Shared → Prop} (hh : A.handled = none) (hl : s.heap.IsList l items) (hit : IntsAre items.toList ns) (hb : ns.length + 1 < scanBound)
    (h : ∀ (h' : Heap) (tk c : Nat), SetR w h' s.heap.objs.size (fun j => decide (j ∈ ns)) c → c ≤ ns.length → (∀ b o, s.heap.get? b = some o → h'.get? b = some o) → Q (.ref s.heap.objs.size) { s with heap := h', toks := tk }) :
    wpAny (model P w) A (call (.type "set") [.ref l]) Q E s := by
  have hisz : items.size = ns.length := by
    have q := IntsAre.length hit
    rw [Array.length_toList] at q
    exact q
  obtain ⟨c, tl, hmro⟩ := F.called_set.mro
  have hmade := F.called_set.made
  have hsub := F.called_set.sub
  refine wpAny_call (codeAny_of_tree ?_)
  show wpAny _ _ (callAny (.type "set") _) _ _ _
  refine wpAny_pure ⟨Code.quiet_builtin _ (by decide +kernel), codeAny_builtin F.entry_type_call ?_⟩
  rw [Around.under_plain (weight_type_call_type "set" [.ref l] []) rfl]
  have h1 := F.called_set.notType
  have h2 := F.called_set.canCreate
  have hct := F.typeCall_set_1 (.ref l)
  repeat (any_goals (first | assumption | wp_step))

  refine codeAny_mono (code_set_led1 (.ref l) (E := E) (Q₁ := fun obj s₁ => obj = .ref s.heap.objs.size ∧ s₁ = { s with heap := s.heap.push { cls := .type "set", dict := none, data := .set #[] 0 (.fresh 0 0 (!w.params.followText "set-order")) } }) ⟨rfl, rfl⟩) fun r s₁ hr => ?_
  cases r with
  | error e => exact hr
  | ok fl =>
    cases fl with
    | ret obj =>
      obtain ⟨rfl, rfl⟩ := hr
      have hS : (s.heap.push { cls := .type "set", dict := none, data := .set #[] 0 (.fresh 0 0 (!w.params.followText "set-order")) }).get? s.heap.objs.size = some { cls := .type "set", dict := none, data := .set #[] 0 (.fresh 0 0 (!w.params.followText "set-order")) } := Heap.get?_push_size _ rfl
      have hT : Shared.TypeIs { s with heap := s.heap.push { cls := .type "set", dict := none, data := .set #[] 0 (.fresh 0 0 (!w.params.followText "set-order")) } } (.ref s.heap.objs.size) "set" := ⟨_, hS, rfl⟩
      have hli := F.called_set.init.lookup
      have hbi := F.called_set.init.bind (.ref s.heap.objs.size)
      repeat (any_goals (first | assumption | wp_step))

      refine codeAny_mono (codeAny_call_builtin (R := wants (fun r s₂ => r = .none ∧ ∃ h' tk c, s₂ = { s with heap := h', toks := tk } ∧ SetR w h' s.heap.objs.size (fun j => decide (j ∈ ns)) c ∧ c ≤ ns.length ∧
          (∀ b o, s.heap.get? b = some o → h'.get? b = some o)) E) F.called_set.init.plain F.entry_set_init (check_set_init_1 hT ?_)) fun r₂ s₂ hr₂ => ?_
      · obtain ⟨ol, hol, hcl, nl, hdl⟩ := hl
        obtain ⟨ocls, odict, odata, oslots⟩ := ol
        simp only at hcl hdl
        subst hcl; subst hdl
        have hol' : (s.heap.push { cls := .type "set", dict := none, data := .set #[] 0 (.fresh 0 0 (!w.params.followText "set-order")) }).get? l = some { cls := .type "list", dict := odict, data := .seq items nl, slots := oslots } := Heap.get?_push_of_some _ hol
        have hsls := F.sub_list_set
        have hslf := F.sub_list_frozenset
        have hne : (Value.type "list" == Value.type "dict") = false := by decide
        have hl1 : (s.heap.push { cls := .type "set", dict := none, data := .set #[] 0 (.fresh 0 0 (!w.params.followText "set-order")) }).IsList l items := ⟨_, hol', rfl, nl, rfl⟩
        unfold Builtin.«set.__init__» noKeywords Builtin.Frozenset.updateFrom
        generalize hPI : pyIter = PI
        wp_walk
        subst hPI

        refine wpAny_pyIter_list hl1 ?_
        refine wpAny_bind (wpAny_runValue ?_)
        have hlS : l < s.heap.objs.size := Heap.lt_size hol
        have hh3 : A.in1.in1.in1.handled = none := by simp [hh]
        have hz1 : (s.heap.push { cls := .type "set", dict := none, data := .set #[] 0 (.fresh 0 0 (!w.params.followText "set-order")) }).objs.size = s.heap.objs.size + 1 := Heap.size_push ..
        have hneI : l ≠ (s.heap.push { cls := .type "set", dict := none, data := .set #[] 0 (.fresh 0 0 (!w.params.followText "set-order")) }).objs.size := by
          rw [Heap.size_push]; exact Nat.ne_of_lt (Nat.lt_succ_of_lt hlS)
        have hSf : s.heap.objs.size ∉ [(s.heap.push { cls := .type "set", dict := none, data := .set #[] 0 (.fresh 0 0 (!w.params.followText "set-order")) }).objs.size, l] := by
          rw [Heap.size_push]; simp only [List.mem_cons, List.mem_singleton, List.not_mem_nil, or_false, not_or]
          exact ⟨Nat.ne_of_lt (Nat.lt_succ_self _), Nat.ne_of_gt hlS⟩
        have hval : ∀ (i : Nat) (v : Value), items[i]? = some v → ∃ k t, ns[i]? = some k ∧ v = .int k t := fun i v hv => by
          have hi : i < ns.length := by rw [← hisz]; exact (Array.getElem?_eq_some_iff.mp hv).1
          obtain ⟨t, e⟩ := PyProof.Rows.IntsAre.int_at hit i v (by rw [Array.getElem?_toList]; exact hv)
          refine ⟨ns[i], t, List.getElem?_eq_getElem hi, ?_⟩
          rw [e, List.getD_eq_getElem?_getD, List.getElem?_eq_getElem hi] <;> rfl
        refine set_update_ints ((Walks.list hh3 _ l hneI items).toS) s.heap.objs.size
          hSf ns hisz hb hval (items.size - 0) 0 _ (by omega) (Nat.zero_le _)
          ⟨⟨_, Heap.get?_push_size _ rfl, rfl, rfl⟩, (hl1.push _)⟩ ?hS0 ?hR
        case hS0 =>
          have hget : ((s.heap.push { cls := .type "set", dict := none, data := .set #[] 0 (.fresh 0 0 (!w.params.followText "set-order")) }).push { cls := .type "list_iterator", data := .fields #[.ref l, .int 0 0] }).get? s.heap.objs.size
              = some { cls := .type "set", dict := none, data := .set #[] 0 (.fresh 0 0 (!w.params.followText "set-order")) } := Heap.get?_push_of_some _ hS
          exact ⟨0, Nat.le_refl 0, setR_new_at hget⟩
        case hR =>
          intro s' c' hm hc' hS'
          obtain ⟨h', g2, d', tk', os'⟩ := s'
          have eg : g2 = s.gens := hm.gens
          have ed : d' = s.drawn := hm.drawn
          have eo : os' = s.os := hm.os
          subst eg; subst ed; subst eo
          show wpAny _ _ _ _ _ _
          refine wpAny_pure ?_
          show wpAny _ _ (ret Value.none) _ _ _
          rw [hisz] at hc'
          refine wpAny_pure ⟨rfl, h', tk', c', rfl, hS', hc', fun b o e => ?_⟩
          have hb0 : b < s.heap.objs.size := Heap.lt_size e
          have hb1 : b ≠ s.heap.objs.size := Nat.ne_of_lt hb0
          have hb2 : b ≠ (s.heap.push { cls := .type "set", dict := none, data := .set #[] 0 (.fresh 0 0 (!w.params.followText "set-order")) }).objs.size := by
            rw [Heap.size_push]; exact Nat.ne_of_lt (Nat.lt_succ_of_lt hb0)
          exact hm.heap b o (by simp only [List.mem_cons, List.mem_singleton, List.not_mem_nil, or_false, not_or]; exact ⟨hb1, hb2⟩) (Heap.get?_push_of_some _ (Heap.get?_push_of_some _ e))

      · cases r₂ with
        | error e => exact hr₂
        | ok fl₂ =>
          cases fl₂ with
          | ret r =>
            obtain ⟨rfl, h', tk, c', rfl, hS', hc', hk'⟩ := hr₂
            repeat (any_goals (first | assumption | wp_step))
            exact h _ _ _ hS' hc' hk'
          | _ => exact hr₂.elim
    | _ => exact hr.elim

end
end PyD

namespace PyD
open PySem PySem.Spec PyProof.Rows L2
def ddI : List Int → List Int
  | [] => []
  | x :: r => if x ∈ r then ddI r else x :: ddI r
theorem mem_ddI {k : Int} : ∀ {ns : List Int}, k ∈ ddI ns ↔ k ∈ ns
  | [] => by simp [ddI]
  | x :: r => by
    unfold ddI
    split
    · rename_i h
      rw [mem_ddI, List.mem_cons]
      exact ⟨.inr, fun z => z.elim (fun q => q ▸ h) id⟩
    · rw [List.mem_cons, List.mem_cons, mem_ddI]
theorem nodup_ddI : ∀ ns : List Int, (ddI ns).Nodup
  | [] => List.nodup_nil
  | x :: r => by
    unfold ddI
    split
    · exact nodup_ddI r
    · rename_i h
      exact List.nodup_cons.mpr ⟨fun z => h (mem_ddI.mp z), nodup_ddI r⟩
theorem nodup_perm {l m : List Int} (hl : l.Nodup) (hm : m.Nodup) (h : ∀ k, k ∈ l ↔ k ∈ m) : l.Perm m := by
  induction l generalizing m with
  | nil =>
    cases m with
    | nil => exact .refl _
    | cons y r => exact absurd ((h y).mpr (List.mem_cons_self ..)) (by simp)
  | cons x l ih =>
    obtain ⟨h1, h2⟩ := List.nodup_cons.mp hl
    have hx : x ∈ m := (h x).mp (List.mem_cons_self ..)
    obtain ⟨m1, m2, rfl⟩ := List.append_of_mem hx
    have hm' : (m1 ++ m2).Nodup := by
      have := List.nodup_append.mp hm
      obtain ⟨a, b, c⟩ := this
      obtain ⟨b1, b2⟩ := List.nodup_cons.mp b
      exact List.nodup_append.mpr ⟨a, b2, fun p hp q hq => c p hp q (List.mem_cons_of_mem _ hq)⟩
    have hxm : x ∉ m1 ++ m2 := by
      have := List.nodup_append.mp hm
      obtain ⟨a, b, c⟩ := this
      obtain ⟨b1, b2⟩ := List.nodup_cons.mp b
      intro z
      rcases List.mem_append.mp z with z | z
      · exact c x z x (List.mem_cons_self ..) rfl
      · exact b1 z
    refine (List.Perm.cons x (ih h2 hm' fun k => ?_)).trans List.perm_middle.symm
    have hk := h k
    rw [List.mem_cons, List.mem_append, List.mem_cons] at hk
    rw [List.mem_append]
    constructor
    · intro z
      rcases hk.mp (.inr z) with q | q | q
      · exact .inl q
      · subst q; exact absurd z h1
      · exact .inr q
    · intro z
      have q : k = x ∨ k ∈ l := hk.mpr (z.elim .inl fun q => .inr (.inr q))
      rcases q with q | q
      · subst q
        exact absurd (List.mem_append.mpr z) hxm
      · exact q
theorem setR_len {w : World} {h : Heap} {a : Addr} {ns : List Int} {n : Nat} (R : SetR w h a (fun j => decide (j ∈ ns)) n) : n = (ddI ns).length := by
  obtain ⟨o, es, ep, t, ho, hex, hd, g, nd, hm, hb, hf, hn, hr, hl⟩ := R
  have p : (es.toList.map keyOf).Perm (ddI ns) := nodup_perm nd (nodup_ddI ns) fun k => by rw [mem_ddI, ← hm k]; simp
  rw [← p.length_eq, List.length_map, Array.length_toList]
  exact hn.symm
theorem sortSet_run {X : Cx} {pins : List (Addr × Obj)} {σ : Sl} {H : Hp} {s : Shared} {a : Addr} {ns : List Int} {c : Nat} {Q : VK} (I : Inv X pins σ H s) (R : SetR X.w s.heap a (fun j => decide (j ∈ ns)) c) (hh : X.A.handled = none) (h64 : c < 64)
    (q : ∀ l, H l = none → Q (.ref l) (upd H l (.lst ((sortI (ddI ns)).map V.int)))) : wpAny (model X.prog X.w) X.A (call (.builtin "sorted") [.ref a]) (EP X pins σ Q) X.xe s := by
  refine sorted_set R hh h64 fun s' p out c' ms k' g' o' hp e hI hpw hmem hlen => ?_
  have hz' : (ms.map V.int).length ≤ sizeLine := by rw [List.length_map, hlen, sizeLine_eq]; omega
  have hn : H p = none := I.hok.fresh hp
  have J : Inv X pins σ (upd H p (.lst (ms.map V.int))) { s with heap := s'.heap, gens := s'.gens, drawn := s'.drawn, toks := s'.toks } :=
    I.call (ch := []) (Un.laid k' hp hn) (I.hok.laid k' hp ⟨hz', out.toList, c', vals_of_ints hI, e⟩) (by rw [g']; exact I.bare) (fun _ z => nomatch z)
  have es : s' = { s with heap := s'.heap, gens := s'.gens, drawn := s'.drawn, toks := s'.toks } := by
    cases s'
    cases s
    cases o'
    rfl
  have nd : ms.Nodup := hpw.imp fun h => by omega
  have em : ms = sortI (ddI ns) := sorted_unique (hpw.imp fun h => Int.le_of_lt h) (sortI_pw _) ((nodup_perm nd (nodup_ddI ns) fun k => by rw [hmem, mem_ddI]; simp).trans (sortI_perm _).symm)
  rw [es]
  subst em
  exact ⟨.ref p, _, J, rfl, q p hn⟩
def tSetI (K : PySem.W.Frag) (ta : TE) (R : List Int → Hp → Prop) : Sl → Hp → Prop := fun σ H => ta σ H fun x H1 => ∃ (l : Addr) (ns : List Int), x = .ref l ∧ SqL K H1 l (ns.map V.int) ∧ ns.length < 64 ∧ R ns H1
section
variable {X : Cx} {a : Expr} {ta : TE} {p p2 q pos : Pos}
theorem pe_lenSet (hc : X.calm = true) (hg : Gl X "len") (hm : X.mg "len" = none) (hg2 : Gl X "set") (hm2 : X.mg "set" = none) (ha : PE X a ta)
    (na : starEach [a] X.env = (false, eval a X.env) :: starEach [] X.env := by rfl) : PE X (.Call (.Name "len" p) [.Call (.Name "set" p2) [a] [] q] [] pos) (fun σ H Q => tSetI X.K ta (fun ns H1 => Q (.int (ddI ns).length) H1) σ H) := by
  refine ⟨fun pins s σ H Q I h => ?_⟩
  refine Call_ (ld_blt I hg hm boot_len ?_)
  refine PyProof.Rows.callWith_builtin1 (PyProof.Rows.args_cons ?_ rfl) rfl rfl
  refine Call_ (ld_blt I hg2 hm2 PyProof.Rows.boot_set ?_)
  refine PyProof.Rows.callWith_type1 (PyProof.Rows.args_cons (thn (ha.run pins s σ H _ I h) fun v s1 ⟨x, H1, I1, r1, q1⟩ => PyProof.Rows.args_nil ?_) na) na rfl
  obtain ⟨l, ns, rfl, hq, hl, q1⟩ := q1
  cases r1
  obtain ⟨its, r, pl, hz⟩ := I1.list hq
  refine call_set_lstI ns (I1.ok.hd hc) pl.isList (by simpa using RZ.intsAre_vals r) (by unfold scanBound; omega) fun h' tk c hS hcl hk => ?_
  refine PyProof.Rows.args_nil ?_
  have en := setR_len hS
  obtain ⟨o, es, ep, t, ho, hex, hd, _, _, _, _, hf, hn, _, _⟩ := hS
  have I2 : Inv X pins σ H1 { s1 with heap := h', toks := tk } := I1.kept hk
  exact call_len_set ho hex hd hf (by rw [hn]; omega) ⟨.int (ddI ns).length, H1, I2.tok _, ⟨_, by rw [hn, en]⟩, q1⟩
theorem pe_sortSet (hc : X.calm = true) (hg : Gl X "sorted") (hm : X.mg "sorted" = none) (hg2 : Gl X "set") (hm2 : X.mg "set" = none) (ha : PE X a ta)
    (na : starEach [a] X.env = (false, eval a X.env) :: starEach [] X.env := by rfl) : PE X (.Call (.Name "sorted" p) [.Call (.Name "set" p2) [a] [] q] [] pos) (fun σ H Q => tSetI X.K ta (fun ns H1 => ∀ l, H1 l = none → Q (.ref l) (upd H1 l (.lst ((sortI (ddI ns)).map V.int)))) σ H) := by
  refine ⟨fun pins s σ H Q I h => ?_⟩
  refine Call_ (ld_blt I hg hm PyProof.Rows.boot_sorted ?_)
  refine PyProof.Rows.callWith_builtin1 (PyProof.Rows.args_cons ?_ rfl) rfl rfl
  refine Call_ (ld_blt I hg2 hm2 PyProof.Rows.boot_set ?_)
  refine PyProof.Rows.callWith_type1 (PyProof.Rows.args_cons (thn (ha.run pins s σ H _ I h) fun v s1 ⟨x, H1, I1, r1, q1⟩ => PyProof.Rows.args_nil ?_) na) na rfl
  obtain ⟨l, ns, rfl, hq, hl, q1⟩ := q1
  cases r1
  obtain ⟨its, r, pl, hz⟩ := I1.list hq
  refine call_set_lstI ns (I1.ok.hd hc) pl.isList (by simpa using RZ.intsAre_vals r) (by unfold scanBound; omega) fun h' tk c hS hcl hk => ?_
  refine PyProof.Rows.args_nil ?_
  have I2 : Inv X pins σ H1 { s1 with heap := h', toks := tk } := I1.kept hk
  exact sortSet_run I2 hS (I1.ok.hd hc) (by omega) q1
end
/-! ### .. by data -/
section
variable {X : Cx} {a : Expr} {ra : DE} {p p2 q pos : Pos}
@[simp] def dLenSet (ra : DE) : DE := fun S M Q => ra S M fun d M1 => match lstOf M1 [d] with
  | some ds => (match intsD ds with | some ns => ns.length < 64 ∧ Q (.int ((ddI ns).length : Nat)) M1 | none => False)
  | none => False
@[simp] def dSortSet (ra : DE) : DE := fun S M Q => ra S M fun d M1 => match lstOf M1 [d] with
  | some ds => (match intsD ds with | some ns => ns.length < 64 ∧ ∀ p, M1 p = none → Q (.ref p) (updM M1 p (.lst ((sortI (ddI ns)).map .int))) | none => False)
  | none => False
theorem de_lenSet (hc : X.calm = true) (hg : Gl X "len") (hm : X.mg "len" = none) (hg2 : Gl X "set") (hm2 : X.mg "set" = none) (ha : DEx X a ra)
    (na : starEach [a] X.env = (false, eval a X.env) :: starEach [] X.env := by rfl) : DEx X (.Call (.Name "len" p) [.Call (.Name "set" p2) [a] [] q] [] pos) (dLenSet ra) :=
  PE_weak (pe_lenSet hc hg hm hg2 hm2 ha na) fun σ H Q ⟨S, M, R, hS, hM, h, hcl⟩ => ⟨S, M, _, hS, hM, h, fun d M1 v H1 k1 m1 z1 h1 => by
    split at h1
    · rename_i ds el
      split at h1
      · rename_i ns en
        obtain ⟨l, ys, e, hl, rl⟩ := lstOf_rep (.cons z1 .nil) m1 el
        cases e
        rw [intsD_eq en] at rl
        rw [rl.ints] at hl
        exact ⟨l, ns, rfl, SqL.of hl, h1.1, hcl _ M1 _ H1 k1 m1 (.int _) h1.2⟩
      · exact h1.elim
    · exact h1.elim⟩
theorem de_sortSet (hc : X.calm = true) (hg : Gl X "sorted") (hm : X.mg "sorted" = none) (hg2 : Gl X "set") (hm2 : X.mg "set" = none) (ha : DEx X a ra)
    (na : starEach [a] X.env = (false, eval a X.env) :: starEach [] X.env := by rfl) : DEx X (.Call (.Name "sorted" p) [.Call (.Name "set" p2) [a] [] q] [] pos) (dSortSet ra) :=
  PE_weak (pe_sortSet hc hg hm hg2 hm2 ha na) fun σ H Q ⟨S, M, R, hS, hM, h, hcl⟩ => ⟨S, M, _, hS, hM, h, fun d M1 v H1 k1 m1 z1 h1 => by
    split at h1
    · rename_i ds el
      split at h1
      · rename_i ns en
        obtain ⟨l, ys, e, hl, rl⟩ := lstOf_rep (.cons z1 .nil) m1 el
        cases e
        rw [intsD_eq en] at rl
        rw [rl.ints] at hl
        exact ⟨l, ns, rfl, SqL.of hl, h1.1, fun p hp => hcl _ _ _ _ (k1.trans (keep_new _ hp)) (m1.new hp (d := .lst ((sortI (ddI ns)).map .int)) (o := .lst ((sortI (ddI ns)).map V.int)) (RepL.of_ints _)) (.ref p) (h1.2 p (m1.free hp))⟩
      · exact h1.elim
    · exact h1.elim⟩
end
end PyD

namespace PyD
open PySem PySem.Spec PyProof.Rows L2
/-! ### sorted(d, key=abs): d a dict whose keys are ints -/
def sortA (ks : List Int) : List Int := ks.mergeSort fun a b => decide (a.natAbs ≤ b.natAbs)
theorem each_ints : ∀ {us : List Value} {ks : List Int}, IntsAre us ks → PySem.W.EachIs (fun v (i : Int) => ∃ t, v = Value.int i t) us ks
  | _, _, .nil => .nil
  | _, _, .cons n t h => .cons ⟨t, rfl⟩ (each_ints h)
theorem ints_eachv : ∀ {us : List Value} {ks : List Int}, PySem.W.EachIs (fun v (i : Int) => ∃ t, v = Value.int i t) us ks → IntsAre us ks
  | _, _, .nil => .nil
  | _, _, .cons ⟨t, h⟩ r => by subst h; exact .cons _ t (ints_eachv r)
theorem sortAbs_run {X : Cx} {pins : List (Addr × Obj)} {σ : Sl} {H : Hp} {s : Shared} {a : Addr} {kvs : List (Key × V)} {ks : List Int} {Q : VK} (hcalm : X.calm = true) (hu : X.A.units + 64 < cLine) (I : Inv X pins σ H s) (hd : Rd H a (.dK kvs)) (hks : kvs.map (·.1) = ks.map Sum.inl) (hl0 : ks.length ≤ 4000)
    (q : ∀ l, H l = none → Q (.ref l) (upd H l (.lst ((sortA ks).map V.int)))) : wpAny (model X.prog X.w) X.A (call (.builtin "sorted") [.ref a] [(Str.ofString "key", .builtin "abs")]) (EP X pins σ Q) X.xe s := by
  obtain ⟨z, lo, vs, rel, dd⟩ := dk_rd I.hok hd
  obtain ⟨ep, hat⟩ := dd.dictAt
  have hkeys : vs.map (·.1) = ks.map Sum.inl := rel.keys.symm.trans hks
  have hl : vs.length = ks.length := by
    have e := congrArg List.length hkeys
    rw [List.length_map, List.length_map] at e
    exact e
  have h16 : vs.length ≤ sizeLine := by rw [hl, sizeLine_eq]; omega
  refine call_function_entry_kw PyProof.Rows.kind_sorted PyProof.Rows.plain_sorted PyProof.Rows.entry_sorted (PyProof.Rows.ksk_s1 _ _) ?_
  unfold Builtin.«sorted»
  refine wpAny_bind (m := checkCount "sorted" 1 1 _) (wpAny_pure ?_)
  refine wpAny_bind (PySem.W.kdu_collect (A := X.A.in1) (PySem.W.kdl_dict (knd := mixKind X.prog X.w) (kvs := vs) (ep := ep) lo) (I.ok.hd hcalm) hat h16 fun h' tk acc hk hacc => ?_)
  have hal : acc.toList.length = ks.length := by rw [Array.length_toList, hacc.1, hl]
  have hS : IntsAre acc.toList ks := ints_each hal fun j v e => by
    obtain ⟨k, x, e1, e2⟩ := hacc.2 j v (by rw [← Array.getElem?_toList]; exact e)
    have e3 : (vs.map (·.1))[j]? = some k := by rw [List.getElem?_map, e1]; rfl
    rw [hkeys, List.getElem?_map] at e3
    cases e4 : ks[j]? with
    | none => rw [e4] at e3; cases e3
    | some y =>
      rw [e4] at e3
      have e5 : Sum.inl y = k := Option.some.inj e3
      subst e5
      rcases keyIs_shape (show keyIs (Sum.inl y) v = true from e2) with ⟨i, t, ek, ev⟩ | ⟨z, t, ek, ev⟩
      · cases ek
        exact ⟨y, t, rfl, ev⟩
      · cases ek
  have I1 : Inv X pins σ H { s with heap := h', toks := tk } := I.kept hk
  refine wpAny_bind (wpAny_newList ?_ (by rw [hal, sizeLine_eq]; omega))
  have hoL : (h'.push (seqObj "list" acc.toList.toArray 0)).get? h'.objs.size = some (seqObj "list" acc.toList.toArray 0) := Heap.get?_push_size _ rfl
  show wpAny _ _ _ _ _ { s with heap := h'.push (seqObj "list" acc.toList.toArray 0), toks := tk }
  refine wpAny_bind (wpAny_holding (PySem.W.list_sort_key_data (b := false) (s := { s with heap := h'.push (seqObj "list" acc.toList.toArray 0), toks := tk }) (fun i : Int => .int (i.natAbs : Int)) hoL (each_ints hS)
    (PySem.W.AllAlike.of fun _ _ => rfl) (PySem.W.Sortable.others fun _ => ⟨by simp, by simp⟩) (by rw [sizeLine_eq]; omega) (fun x _ => by
      have hz : (PyData.int (x.natAbs : Int)).depth ≤ 1 := by simp [PyData.depth]
      rw [Around.in1_units]
      omega) (PyProof.Rows.ksk_l1 _ _) rfl (fun v x hv _ h2 tk2 kp => ?_) fun out c h2 tk2 kp hD hlen he => ?_))
  · obtain ⟨t, rfl⟩ := hv
    refine call_abs_int fun u tk3 => ⟨h2, tk3, rfl, fun b o z => z, ?_⟩
    have e : (if x < 0 then -x else x) = (x.natAbs : Int) := by split <;> omega
    rw [e]
    exact .int _ _
  · have eo : IntsAre out (sortA ks) := by
      rw [PySem.W.dataLe_int (β := Int) (fun i => (i.natAbs : Int))] at he
      have e2 : (fun a b : Int => decide ((a.natAbs : Int) ≤ (b.natAbs : Int))) = fun a b : Int => decide (a.natAbs ≤ b.natAbs) := by
        funext a b
        simp
      rw [e2] at he
      exact ints_eachv he
    have hl2 : ((sortA ks).map V.int).length ≤ sizeLine := by
      rw [List.length_map, sortA, List.length_mergeSort, sizeLine_eq]; omega
    refine wpAny_pure ⟨_, rfl, .ref h'.objs.size, upd H h'.objs.size (.lst ((sortA ks).map V.int)), I1.laid (t' := tk2) (fun b u e => ?_) (Nat.le_refl _)
      (show ObjOk X.prog X.w _ _ _ (.lst ((sortA ks).map V.int)) from ⟨hl2, out, c, vals_of_ints eo, hD⟩), rfl, q _ (I1.hok.fresh (Nat.le_refl _))⟩
    exact kp b u (Nat.ne_of_lt (Heap.lt_size e)) (Heap.get?_push_of_some _ e)
section
variable {X : Cx} {e : Expr} {te : TE} {p p2 kp pos : Pos}
theorem pe_sortAbs (hcalm : X.calm = true) (hu : X.A.units + 64 < cLine) (hg : Gl X "sorted") (hm : X.mg "sorted" = none) (hg2 : Gl X "abs") (hm2 : X.mg "abs" = none) (ha : PE X e te) (hs : starEach [e] X.env = (false, eval e X.env) :: starEach [] X.env := by rfl)
    (he : backTo pos (starEach [e] X.env) = (false, eval e X.env) :: backTo pos (starEach [] X.env) := by rfl) (hpl : (backTo pos (starEach [e] X.env)).any (·.1) = false := by rfl)
    (hk1 : (backToKw pos (keywordEach [⟨some "key", .Name "abs" p2, kp⟩] X.env)).all (·.1.isSome) = true := by rfl) (hk2 : (backToKw pos (keywordEach [⟨some "key", .Name "abs" p2, kp⟩] X.env)).any (·.1.isNone) = false := by rfl)
    (hks : (backToKw pos (keywordEach [⟨some "key", .Name "abs" p2, kp⟩] X.env)).filterMap (·.1) = [Str.ofString "key"] := by rfl) :
    PE X (.Call (.Name "sorted" p) [e] [⟨some "key", .Name "abs" p2, kp⟩] pos) (fun σ H Q => te σ H fun x H1 => ∃ (a : Addr) (kvs : List (Key × V)) (ks : List Int), x = .ref a ∧ Rd H1 a (.dK kvs) ∧ kvs.map (·.1) = ks.map Sum.inl ∧ ks.length ≤ 4000 ∧
      ∀ l, H1 l = none → Q (.ref l) (upd H1 l (.lst ((sortA ks).map V.int)))) := by
  refine ⟨fun pins s σ H Q I h => ?_⟩
  refine wpAny_Call_Name_kw (ld_blt I hg hm PyProof.Rows.boot_sorted ?_)
  have hp := (pa_cons ha pa_nil hs).run pos pins s σ H (fun vs H1 => match vs with
    | [x] => ∃ (a : Addr) (kvs : List (Key × V)) (ks : List Int), x = V.ref a ∧ Rd H1 a (.dK kvs) ∧ kvs.map (·.1) = ks.map Sum.inl ∧ ks.length ≤ 4000 ∧ ∀ l, H1 l = none → Q (.ref l) (upd H1 l (.lst ((sortA ks).map V.int)))
    | _ => False) I h
  refine PyProof.Rows.callWith_kw (thn hp fun us s1 ⟨vs, H1, I1, r1, q1⟩ => ?_) he hpl hk1 hk2
  show wpAny _ _ (evalAll ((do let v ← eval (.Name "abs" p2) X.env; standAt pos; pure v) :: [])) _ _ s1
  refine wpAny_evalAll_cons (wpAny_bind (ld_blt I1 hg2 hm2 (by decide +kernel : bootBuiltins "abs" = some (.builtin "abs")) (wpAny_bind (wpAny_standAt (wpAny_pure (wpAny_evalAll_nil ?_))))))
  rw [hks]
  dsimp only at q1
  split at q1
  · obtain ⟨a, kvs, ks, rfl, hd, hkk, hl, q⟩ := q1
    obtain ⟨u, rfl, ru⟩ := vals1 r1
    cases ru
    exact sortAbs_run hcalm hu I1 hd hkk hl q
  · exact q1.elim
end
@[simp] def intKs : List (Key × D) → Option (List Int)
  | [] => some []
  | (.inl i, _) :: r => (intKs r).map fun l => i :: l
  | (.inr _, _) :: _ => none
theorem intKs_eq : ∀ {kvs : List (Key × D)} {ks : List Int}, intKs kvs = some ks → kvs.map (·.1) = ks.map Sum.inl
  | [], _, h => by cases h; rfl
  | (.inl i, _) :: r, _, h => by
    unfold intKs at h
    obtain ⟨l, e1, rfl⟩ := Option.map_eq_some_iff.mp h
    simp [intKs_eq e1]
  | (.inr _, _) :: _, _, h => by cases h
section
variable {X : Cx} {a : Expr} {ra : DE} {p p2 kp pos : Pos}
@[simp] def dSortAbs (ra : DE) : DE := fun S M Q => ra S M fun d M1 => match d with
  | .ref a => (match M1 a with
    | some (.dK kvs) => (match intKs kvs with | some ks => ks.length ≤ 4000 ∧ ∀ p, M1 p = none → Q (.ref p) (updM M1 p (.lst ((sortA ks).map .int))) | none => False)
    | _ => False)
  | _ => False
theorem de_sortAbs (hcalm : X.calm = true) (hu : X.A.units + 64 < cLine) (hg : Gl X "sorted") (hm : X.mg "sorted" = none) (hg2 : Gl X "abs") (hm2 : X.mg "abs" = none) (ha : DEx X a ra) (hs : starEach [a] X.env = (false, eval a X.env) :: starEach [] X.env := by rfl)
    (he : backTo pos (starEach [a] X.env) = (false, eval a X.env) :: backTo pos (starEach [] X.env) := by rfl) (hpl : (backTo pos (starEach [a] X.env)).any (·.1) = false := by rfl)
    (hk1 : (backToKw pos (keywordEach [⟨some "key", .Name "abs" p2, kp⟩] X.env)).all (·.1.isSome) = true := by rfl) (hk2 : (backToKw pos (keywordEach [⟨some "key", .Name "abs" p2, kp⟩] X.env)).any (·.1.isNone) = false := by rfl)
    (hks : (backToKw pos (keywordEach [⟨some "key", .Name "abs" p2, kp⟩] X.env)).filterMap (·.1) = [Str.ofString "key"] := by rfl) :
    DEx X (.Call (.Name "sorted" p) [a] [⟨some "key", .Name "abs" p2, kp⟩] pos) (dSortAbs ra) := PE_weak (pe_sortAbs hcalm hu hg hm hg2 hm2 ha hs he hpl hk1 hk2 hks) fun σ H Q ⟨S, M, R, hS, hM, h, hc⟩ => ⟨S, M, _, hS, hM, h, fun d M1 v H1 k1 m1 z1 h1 => by
  cases d <;> first | exact h1.elim | skip
  cases z1
  dsimp only at h1
  split at h1
  · rename_i kvs em
    obtain ⟨xs, q, rl⟩ := m1.dk em
    split at h1
    · rename_i ks ek
      refine ⟨_, xs, ks, rfl, .inl q, by rw [rl.keys]; exact intKs_eq ek, h1.1, fun l hl => ?_⟩
      exact hc _ _ _ _ (k1.trans (keep_new _ hl)) (m1.new hl (d := .lst ((sortA ks).map .int)) (o := .lst ((sortA ks).map V.int)) (RepL.of_ints _)) (.ref l) (h1.2 l (m1.free hl))
    · exact h1.elim
  · exact h1.elim⟩
end
end PyD

namespace PyD
open PySem PySem.Spec PyProof.Rows L2
/-! ### tuple(d): d a dict with tuples as keys -/
section
variable {prog : Program} {w : World} {A : Around} {E : Value → Shared → Prop} {s : Shared} {T : String} {r d : Addr} {n : Nat} {P : Nat → Value → Prop} {OK : Heap → Prop}
theorem code_tuple_src {Q₁ : Value → Shared → Prop} (K : PySem.W.KdlSrc prog w "dict" r d n P OK) (hh : A.handled = none) (hok : OK s.heap) (hn : n ≤ sizeLine)
    (h : ∀ (h' : Heap) (tk : Nat) (acc : Array Value), (∀ b o, s.heap.get? b = some o → h'.get? b = some o) → ItemsOf P acc n → Q₁ (.ref h'.objs.size) { s with heap := h'.push { cls := .type "tuple", data := .seq acc }, toks := tk }) :
    codeAny (model prog w) A (.call (.builtin "tuple.__new__") ⟨[.type "tuple", .ref r], []⟩) (wants Q₁ E) s := by
  refine codeAny_of_tree ?_
  show wpAny _ A.in1 (do checkBuiltinCall "tuple.__new__" ⟨[.type "tuple", .ref r], []⟩; again (.builtin "tuple.__new__" ⟨[.type "tuple", .ref r], []⟩)) _ _ s
  refine wpAny_bind (wpAny_of_eq (F.newCall_tuple_1 _) (wpAny_pure ⟨plainId_quiet F.plain_tuple_new _, codeAny_builtin F.entry_tuple_new ?_⟩))
  rw [Around.under_plainId F.plain_tuple_new _]
  have hsub := sub_tuple_self
  have hinit := init_tuple_lookup
  have hmh := madeHere_tuple
  have hTI : s.TypeIs (.ref r) "dict" := K.type s hok
  have hh1 : A.in1.handled = none := hh
  wp_walk using wpAny_typeOf hTI, PySem.W.kdu_collect (A := A.in1) K hh1 hok hn
  intro h' tk acc hk hacc
  show wpAny _ _ (Builtin.Tuple.tupleExact acc.toList.toArray >>= fun v => ret v) _ _ _
  unfold Builtin.Tuple.tupleExact
  refine wpAny_bind (wpAny_newObj_type ?_ (by show acc.toList.toArray.size ≤ sizeLine; simp only [Array.toArray_toList]; rw [hacc.1]; exact hn))
  refine wpAny_pure ?_
  have e : acc.toList.toArray = acc := by simp
  rw [e]
  exact h h' tk acc hk hacc
theorem call_tuple_src {Q : Value → Shared → Prop} (K : PySem.W.KdlSrc prog w "dict" r d n P OK) (hh : A.handled = none) (hok : OK s.heap) (hn : n ≤ sizeLine)
    (hQ : ∀ (h' : Heap) (tk : Nat) (acc : Array Value), (∀ b o, s.heap.get? b = some o → h'.get? b = some o) → ItemsOf P acc n → Q (.ref h'.objs.size) { s with heap := h'.push { cls := .type "tuple", data := .seq acc }, toks := tk }) :
    wpAny (model prog w) A (call (.type "tuple") [.ref r]) Q E s := by
  refine callType_codes (Q₁ := fun obj s₁ => s₁.TypeIs obj "tuple" ∧ Q obj s₁) F.called_tuple (F.typeCall_tuple_1 _) F.entry_object_init
    (code_tuple_src (A := A.in1) K hh hok hn fun h' tk acc hk hacc => ⟨⟨_, Heap.get?_push_size _ rfl, rfl⟩, hQ h' tk acc hk hacc⟩) fun obj s₁ h₁ => ?_
  exact ⟨h₁.1, F.args_object_init_2 obj _, object_init_meets F.called_tuple.init.lookup F.called_tuple.made (by decide) prog w A.in1 _ s₁ ⟨h₁.1, rfl, h₁.2⟩⟩
end
section
variable {X : Cx}
theorem call_tuple_dT (hc : X.calm = true) : CallR X (.type "tuple") (fun xs H Q => ∃ d kvs, xs = [V.ref d] ∧ Rd H d (.dT kvs) ∧ ∀ p bs, H p = none → IsKeys H kvs bs → Q (.ref p) (upd H p (.tup (bs.map V.ref)))) := by
  intro pins s σ H xs us Q I r h
  obtain ⟨d, kvs, rfl, hd, q⟩ := h
  obtain ⟨u, rfl, rx⟩ := vals1 r
  cases rx
  obtain ⟨z, hs, ks, pr, o, es, ep, ho, hx, hdt, he, hn⟩ := (show ObjOk X.prog X.w H s.heap d (.dT kvs) from hd.ok I.hok)
  have l1 : es.size = ks.length := size_of_entries he
  have l2 : kvs.length = ks.length := Paired.length pr
  refine call_tuple_src (kdl_raw hs hx hdt) (I.ok.hd hc) ho (by omega) fun h' tk acc' kp it => ?_
  have ea : acc'.toList = ks.map fun x => Value.ref x.2.1 := by
    have hl : acc'.toList.length = ks.length := by rw [Array.length_toList, it.1]; exact l1
    apply List.ext_getElem?
    intro j
    rw [List.getElem?_map]
    cases hj : acc'.toList[j]? with
    | none =>
      have h1 := List.getElem?_eq_none_iff.mp hj
      rw [List.getElem?_eq_none (by omega)]
      all_goals rfl
    | some v =>
      obtain ⟨en, hen, hv⟩ := it.2 j v (by rw [← Array.getElem?_toList]; exact hj)
      have qe := entry_at he j
      rw [hen] at qe
      cases hb : ks[j]? with
      | none =>
        rw [hb] at qe
        exact nomatch (show some en = none from qe)
      | some b =>
        rw [hb] at qe
        have e2 : en = entryOfKey (tupleKind (mixKind X.prog X.w)) b := Option.some.inj qe
        rw [hv, e2]
        all_goals rfl
  have eb : acc'.toList = (ks.map fun x => x.2.1).map Value.ref := by rw [ea, List.map_map]; all_goals rfl
  have rv : Vals ((ks.map fun x => x.2.1).map V.ref) acc'.toList := by rw [eb]; exact vals_refs _
  have hz : ((ks.map fun x => x.2.1).map V.ref).length ≤ sizeLine := by rw [List.length_map, List.length_map]; omega
  have I1 : Inv X pins σ H { s with heap := h', toks := tk } := I.kept kp
  have new : ObjOk X.prog X.w (upd H h'.objs.size (.tup ((ks.map fun x => x.2.1).map V.ref))) (h'.push { cls := .type "tuple", data := .seq acc' }) h'.objs.size (.tup ((ks.map fun x => x.2.1).map V.ref)) :=
    ⟨hz, acc'.toList, rv, by rw [Array.toArray_toList]; exact IsTup.new _ _⟩
  exact ⟨.ref h'.objs.size, _, I1.laid (t' := tk) (o := .tup ((ks.map fun x => x.2.1).map V.ref)) (fun b o e => Heap.get?_push_of_some _ e) (Nat.le_refl _) new, rfl, q _ _ (I1.hok.fresh (Nat.le_refl _)) (isKeys_of pr)⟩
end
theorem keysV_rep {K : PySem.W.Frag} {H : Hp} : ∀ ks : List Key, RepL K H (ks.map keyV) (ks.map kV)
  | [] => .nil
  | k :: ks => .cons (rep_key k) (keysV_rep ks)
theorem keysRep {K : PySem.W.Frag} {H : Hp} : ∀ {kvs : List (List Key × D)} {ws : List (List Key × V)} {bs : List Addr}, RepKv K H kvs ws → IsKeys H ws bs → RepL K H (kvs.map fun p => .tup (p.1.map keyV)) (bs.map V.ref)
  | _, _, _, .nil, .nil => .nil
  | _, _, _, .cons r t, .cons h g => .cons (.tup h (keysV_rep _)) (keysRep t g)
section
variable {X : Cx} {a e : Expr} {ra re : DE} {p pos : Pos}
@[simp] def dTupDT (ra : DE) : DE := fun S M Q => ra S M fun d M1 => match d with
  | .ref a => (match M1 a with
    | some (.dT kvs) => Q (.tup (kvs.map fun p => .tup (p.1.map keyV))) M1
    | _ => False)
  | _ => False
theorem de_tupDT (hc : X.calm = true) (hg : Gl X "tuple") (hm : X.mg "tuple" = none) (ha : DEx X a ra) (hs : starEach [a] X.env = (false, eval a X.env) :: starEach [] X.env := by rfl) (hpl : (backTo pos (starEach [] X.env)).any (·.1) = false := by rfl) :
    DEx X (.Call (.Name "tuple" p) [a] [] pos) (dTupDT ra) := PE_weak (pe_callTy (call_tuple_dT hc) hg hm PyProof.Rows.boot_tuple (da_cons ha da_nil hs) (by decide) (by decide) hs hpl) fun σ H Q ⟨S, M, R, hS, hM, h, hcl⟩ => ⟨S, M, fun ds M1 => match ds with
    | [d] => (match d with
      | .ref a => (match M1 a with
        | some (.dT kvs) => R (.tup (kvs.map fun p => .tup (p.1.map keyV))) M1
        | _ => False)
      | _ => False)
    | _ => False, hS, hM, h, fun ds M1 vs H1 k1 m1 z1 h1 => by
  dsimp only at h1
  split at h1
  · obtain ⟨v, rfl, z⟩ := rep1 z1
    split at h1
    · cases z
      split at h1
      · rename_i kvs em
        obtain ⟨xs, q, rl⟩ := m1.dt em
        exact ⟨_, xs, rfl, .inl q, fun p bs hp hb => hcl _ M1 _ _ (k1.trans (keep_new _ hp)) (m1.tup _ hp) (rep_tup hp (keysRep rl hb)) h1⟩
      · exact h1.elim
    · exact h1.elim
  · exact h1.elim⟩
/-! ### dict(xs): pairs -/
@[simp] def prsD : List D → Option (List (Key × D))
  | [] => some []
  | .tup [k, v] :: r => match keyD k, prsD r with
    | some k, some l => some ((k, v) :: l)
    | _, _ => none
  | _ => none
theorem prsD_rep {K : PySem.W.Frag} {H : Hp} : ∀ {ds : List D} {kvs : List (Key × D)} {xs : List V}, prsD ds = some kvs → RepL K H ds xs → ∃ (ps : List Addr) (ws : List (Key × V)), xs = ps.map V.ref ∧ Paired (fun p kv => SqT K H p [kV kv.1, kv.2]) ps ws ∧ RepKv K H kvs ws
  | [], _, _, h, r => by cases h; cases r; exact ⟨[], [], rfl, .nil, .nil⟩
  | d :: r, _, _, h, .cons z t => by
    unfold prsD at h
    split at h
    · rename_i heq; cases heq
    · rename_i k v r' heq
      cases heq
      split at h
      · rename_i k' l e1 e2
        cases h
        obtain ⟨ps, ws, rfl, h1, h2⟩ := prsD_rep e2 t
        cases z with
        | tup hq rl =>
          obtain ⟨u, u', rfl, z1, z2⟩ := rep2 rl
          rw [keyD_rep e1 z1] at hq
          exact ⟨_ :: ps, (k', u') :: ws, rfl, .cons (SqT.of hq) h1, .cons z2 h2⟩
      · cases h
    · cases h
@[simp] def dDictP (ra : DE) : DE := fun S M Q => ra S M fun d M1 => match lstOf M1 [d] with
  | some ds => (match prsD ds with | some kvs => ∀ p, M1 p = none → Q (.ref p) (updM M1 p (.dK (mergeD [] kvs))) | none => False)
  | none => False
theorem de_dictP (hc : X.calm = true) (hg : Gl X "dict") (hm : X.mg "dict" = none) (ha : DEx X a ra) (hs : starEach [a] X.env = (false, eval a X.env) :: starEach [] X.env := by rfl) (hpl : (backTo pos (starEach [] X.env)).any (·.1) = false := by rfl) :
    DEx X (.Call (.Name "dict" p) [a] [] pos) (dDictP ra) := PE_weak (pe_callTy (call_dictP hc) hg hm PyProof.Rows.boot_dict (da_cons ha da_nil hs) (by decide) (by decide) hs hpl) fun σ H Q ⟨S, M, R, hS, hM, h, hcl⟩ => ⟨S, M, fun ds M1 => match ds with
    | [d] => (match lstOf M1 [d] with
      | some ds => (match prsD ds with | some kvs => ∀ p, M1 p = none → R (.ref p) (updM M1 p (.dK (mergeD [] kvs))) | none => False)
      | none => False)
    | _ => False, hS, hM, h, fun ds M1 vs H1 k1 m1 z1 h1 => by
  dsimp only at h1
  split at h1
  · split at h1
    · rename_i ds' el
      split at h1
      · rename_i kvs ek
        obtain ⟨p, ys, e, q, rl⟩ := lstOf_rep z1 m1 el
        subst e
        obtain ⟨ps, ws, rfl, h2, h3⟩ := prsD_rep ek rl
        exact ⟨p, ps, ws, rfl, SqL.of q, h2, fun l hl => hcl _ _ _ _ (k1.trans (keep_new _ hl)) (m1.new hl (d := .dK (mergeD [] kvs)) (h3.merge .nil)) (.ref l) (h1 l (m1.free hl))⟩
      · exact h1.elim
    · exact h1.elim
  · exact h1.elim⟩
/-! ### d.update(e): another dict -/
theorem pe_dupd {o : Expr} {apos : Pos} {td ty : TE} (ho : PE X o td) (he : PE X e ty) (m : M1 X o "update" apos e pos) : PE X (.Call (.Attribute o "update" apos) [e] [] pos)
    (fun σ H Q => td σ H fun x H1 => ∃ a, x = .ref a ∧ IsD H1 a ∧ ty σ H1 fun y H2 => ∃ b kvs more, y = .ref b ∧ a ≠ b ∧ H2 a = some (.dK kvs) ∧ H2 b = some (.dK more) ∧ kvs.length + more.length ≤ sizeLine ∧ Q .non (upd H2 a (.dK (mergeK kvs more)))) := by
  refine ⟨fun pins s σ H Q I h => ?_⟩
  refine wpAny_Call_method m.base m.few m.line PySem.F.plainAttrs_dict PySem.F.slot_dict_update PySem.F.type_dict_update (thn (ho.run pins s σ H _ I h) fun u s1 ⟨x, H1, I1, rx, a, ex, d, q1⟩ => ?_)
  subst ex
  obtain rfl : u = Value.ref a := rx
  obtain ⟨t1, t2, _⟩ := isD_at I1 d
  refine ⟨t1, t2, ?_⟩
  rw [m.trees]
  refine Calls.callWith_builtin rfl (Calls.evalArgs_plain (Calls.spliced_cons (thn (he.run pins s1 σ H1 _ I1 q1) fun iv s2 ⟨y, H2, I2, ry, b, kvs, more, ey, hne, ea, eb, hz, q2⟩ => Calls.spliced_nil ?_)))
  subst ey
  obtain rfl : iv = Value.ref b := ry
  obtain ⟨z1, hd1, vs1, r1, dd1⟩ := dk_of I2.hok ea
  obtain ⟨z2, hd2, vs2, r2, dd2⟩ := dk_of I2.hok eb
  refine call_meetsIn PySem.F.slot_dict_update dd1.typeIs PySem.F.entry_dict_update (PySem.F.args_dict_update_2 _ _) (meets_dict_update (mixKind X.prog X.w) a b hne hd2) ⟨vs1, vs2, dd1, dd2, by rw [← r1.length, ← r2.length]; exact hz, fun h' d1 d2 hs => ?_⟩
  have he' : ∃ q, h'.get? a = some q := let ⟨q, _, _, hq, _⟩ := d1; ⟨q, hq⟩
  have I3 := d_write (t' := s2.toks) I2 (by rw [ea]; exact True.intro) hs he' (dk_new (H' := upd H2 a (.dK (mergeK kvs more))) (by have := length_mergeK more kvs; omega) hd1 (KV.merge r2 r1) d1)
  exact ⟨.non, _, I3, rfl, q2⟩
@[simp] def dUpdate (ro re : DE) : DE := fun S M Q => ro S M fun d M1 => isDk M1 d ∧ re S M1 fun e M2 => match d, e with
  | .ref a, .ref b => (match M2 a, M2 b with
    | some (.dK kvs), some (.dK more) => (a ≠ b ∧ kvs.length + more.length ≤ sizeLine) ∧ Q .non (updM M2 a (.dK (mergeD kvs more)))
    | _, _ => False)
  | _, _ => False
theorem de_update {o : Expr} {ro : DE} {apos : Pos} (ho : DEx X o ro) (he : DEx X e re) (m : M1 X o "update" apos e pos := by exact ⟨rfl, rfl, rfl, rfl⟩) : DEx X (.Call (.Attribute o "update" apos) [e] [] pos) (dUpdate ro re) :=
  PE_weak (pe_dupd ho he m) fun σ H Q ⟨S, M, R, hS, hM, h, hc⟩ => ⟨S, M, _, hS, hM, h, fun d M1 v H1 k1 m1 z1 ⟨hd, h1⟩ => by
    obtain ⟨a, rfl, id⟩ := isDk_rep hd z1 m1
    refine ⟨a, rfl, id, S, M1, _, hS.keep k1, m1, h1, fun e M2 u H2 k2 m2 z2 h2 => ?_⟩
    split at h2
    · cases z1; cases z2
      split at h2
      · rename_i kvs more e1 e2
        obtain ⟨xs, q, rl⟩ := m2.dk e1
        obtain ⟨ys, q', rl'⟩ := m2.dk e2
        refine ⟨_, xs, ys, rfl, h2.1.1, q, q', by rw [← rl.length, ← rl'.length]; exact h2.1.2, ?_⟩
        exact hc _ _ _ _ ((k1.trans k2).trans (keep_write _ q (fun _ z => nomatch z) fun _ _ z => nomatch z)) (m2.write q (fun _ z => nomatch z) (fun _ _ z => nomatch z) (d := .dK (mergeD kvs more)) (rl'.merge rl)) .non h2.2
      · exact h2.elim
    · exact h2.elim⟩
end
end PyD

namespace PyD
open PySem PySem.Spec PyProof.Rows L2
/-! ### room, and nothing is being shown -/
structure RoomG (k : Nat) (A : Around) : Prop where
  r : Room k A
  g : A.guards = some []
theorem RoomG.mono {j k : Nat} {A : Around} (h : RoomG k A) (l : j ≤ k) : RoomG j A := ⟨h.r.mono l, h.g⟩
theorem RoomG.deeper {k : Nat} {A : Around} (h : RoomG (k + 1) A) (env : Env) : RoomG k (A.deeper env) := ⟨h.r.deeper env, h.g⟩
theorem RoomG.hd {k : Nat} {A : Around} (h : RoomG k A) : A.handled = none := h.r.hd
theorem RoomG.depth {k : Nat} {A : Around} (h : RoomG k A) : A.depth < recursionLimit := h.r.depth
theorem RoomG.units {k : Nat} {A : Around} (h : RoomG k A) : A.units + 64 < cLine := h.r.units
theorem RoomG.hu {k : Nat} {A : Around} (h : RoomG k A) : A.units + 1 < cLine := hu_of h.r
structure FnOkG (P : Program) (w : World) (K : PySem.W.Frag) (mg : Str → Option Value) (base : Heap) (CX : CXT) (k : Nat) (f : Addr) (fd : FuncData) (ps : List Str) (sp : Sp) : Prop where
  len : ∀ vs H Q E, sp vs H Q E → vs.length = ps.length
  run : ∀ (A : Around) (outer : List Env) (s : Shared) (H : Hp) (args : Args) (us : List Value) (vs : List V) (Q : VK) (E : XK), RoomG k A → Env0 P w K mg base A outer s H → BindsTo s fd args (ps.zip us) → Vals vs us → sp vs H Q E →
    codeAny (model P w) A (.call (.ref f) args) (CR CX outer P w H s Q E) s
theorem FnOkG.mono {P : Program} {w : World} {K : PySem.W.Frag} {mg : Str → Option Value} {base : Heap} {CX : CXT} {j k : Nat} {f : Addr} {fd : FuncData} {ps : List Str} {sp : Sp} (F : FnOkG P w K mg base CX j f fd ps sp) (h : j ≤ k) :
    FnOkG P w K mg base CX k f fd ps sp := ⟨F.len, fun A outer s H args us vs Q E hr => F.run A outer s H args us vs Q E (hr.mono h)⟩
theorem law_callG {P : Program} {w : World} {K : PySem.W.Frag} {mg mb : Str → Option Value} {CX : CXT} {k : Nat} {fa a : Addr} {fd : FuncData} {x : Str} {sp : Sp} {s₁ : Shared} {vs : List Value} {ns : List Int}
    (KX : K.In s₁.heap) (hns : s₁.heap.Ns mainGlobals mg) (hb : s₁.heap.Ns builtinsNs mb) (hbb : ∀ x : Str, x ≠ "__name__" → mb x = bootBuiltins x) (hlim : s₁.heap.NoLimit) (hg : s₁.gens = #[])
    (ha : s₁.heap.get? a = some { cls := .type "list", data := .seq vs.toArray }) (hi : IntsAre vs ns) (hl : ns.length ≤ sizeLine) (hr : RoomG k callerA)
    (F : ∀ base : Heap, K.In base → base.Ns mainGlobals mg → FnOkG P w K mg base CX k fa fd [x] sp) (hbind : ∀ (s : Shared) (u : Value), BindsTo s fd ⟨[u], []⟩ [(x, u)])
    (hsp : ∀ H : Hp, Only H → SqL K H a (ns.map V.int) → sp [.ref a] H (fun v _ => v = .bl true) fun _ _ _ => False)
    (hCX : ∀ H e s', CX [] H s₁ (fun _ _ _ => False) e s' → False) :
    codeAny (model P w) callerA (.call (.ref fa) ⟨[.ref a], []⟩) (fun r s' => r = .ok (.ret (.bool true)) ∧ OldK s₁.heap s'.heap ∧ s'.os = s₁.os ∧ AllBare s'.gens) s₁ := by
  have rv := vals_ints hi
  have lenV := hi.length
  -- from an abstract heap in which nothing but the script may be tracked
  have core : ∀ H : Hp, Only H → SqL K H a (ns.map V.int) → HOk P w H s₁.heap → (∀ b, H b ≠ none → b = a) → (H a ≠ none → K.lookup a = none) →
      codeAny (model P w) callerA (.call (.ref fa) ⟨[.ref a], []⟩) (fun r s' => r = .ok (.ret (.bool true)) ∧ OldK s₁.heap s'.heap ∧ s'.os = s₁.os ∧ AllBare s'.gens) s₁ := by
    intro H hO hS hok hA hK
    have base_of : ∀ {b : Addr} {o : Obj}, s₁.heap.get? b = some o → H b = none → (hidT s₁.heap H).get? b = some o := fun e n => hidT_get e n
    have noA : ∀ {b : Addr} {o : Obj} {es : Array DictEntry} {ep : Nat}, s₁.heap.get? b = some o → o.data = .dict es ep → H b = none := fun {b o es ep} e d => by
      cases q : H b with
      | none => rfl
      | some u =>
        have e' : b = a := hA b (by rw [q]; simp)
        subst e'
        rw [ha] at e; cases e
        have d' : Data.seq vs.toArray _ = Data.dict es ep := d
        cases d'
    have nsK : ∀ {b : Addr} {m : Str → Option Value}, s₁.heap.Ns b m → (hidT s₁.heap H).Ns b m := fun {b m} ⟨o, es, ep, e, d, r⟩ => ⟨o, es, ep, base_of e (noA e d), d, r⟩
    have hKb : K.In (hidT s₁.heap H) := fun b o e => base_of (KX b o e) (by
      cases q : H b with
      | none => rfl
      | some u =>
        have e' : b = a := hA b (by rw [q]; simp)
        subst e'
        rw [hK (by rw [q]; simp)] at e; cases e)
    have hM : Mod K mg (hidT s₁.heap H) := ⟨hKb, nsK hns, ⟨mb, nsK hb, hbb⟩, let ⟨mc, h1, h2⟩ := hlim; ⟨mc, nsK h1, h2⟩⟩
    have e0 : Env0 P w K mg (hidT s₁.heap H) callerA [] s₁ H := ⟨rfl, hM, fun b o e => of_hidT e, Nat.le_of_eq (hidT_size _ _), trivial, fun b hb => absurd (show b ∈ ([] : List Addr) from hb) (by simp), hok, .of_eq hg⟩
    refine codeAny_mono ((F _ hKb (nsK hns)).run callerA [] s₁ H ⟨[.ref a], []⟩ [.ref a] [.ref a] _ _ hr e0 (hbind s₁ (.ref a)) (.cons rfl .nil) (hsp H hO hS)) fun r s' h => ?_
    cases r with
    | error e => exact (hCX H e s' h).elim
    | ok fl =>
      cases fl with
      | next => exact False.elim h
      | brk => exact False.elim h
      | cont => exact False.elim h
      | ret u =>
        obtain ⟨v, H', os, bare, un, hok', r', q⟩ := h
        have q' : v = .bl true := q
        subst q'
        obtain rfl : u = Value.bool true := r'
        refine ⟨rfl, OldK.of_keep fun b o e => ?_, os, bare⟩
        cases q : H b with
        | none => exact un.keep b o e q (by intro z; exact absurd (show b ∈ ([] : List Addr) from z) (by simp)) (by simp)
        | some u =>
          rcases hO b with z | ⟨ob, xs, z⟩
          · rw [q] at z; cases z
          · have z2 := un.frzs b ob _ z
            obtain ⟨e1, _⟩ := hok b _ z
            obtain ⟨e2, _⟩ := hok' b _ z2
            rw [e] at e1; cases e1
            exact e2
  cases hk : K.lookup a with
  | some o =>
    -- the script is one of the module's own objects
    have e := KX a o hk
    rw [ha] at e
    cases e
    refine core (fun _ => none) (fun _ => .inl rfl) (.inr ⟨_, vs.toArray, _, hk, rfl, rfl, rfl, by rw [List.size_toArray, lenV]; exact hl, by simpa using rv⟩) (fun b u z => by have z' : (none : Option HO) = some u := z; cases z') (fun b z => absurd rfl z) fun z => absurd rfl z
  | none =>
    refine core (fun b => if b = a then some (.frz { cls := .type "list", data := .seq vs.toArray } (.lst (ns.map V.int))) else none) (fun b => ?_) (.inl (.inr ⟨{ cls := .type "list", data := .seq vs.toArray }, if_pos rfl⟩)) (fun b u z => ?_) (fun b z => ?_) fun _ => hk
    · by_cases hb : b = a
      · exact .inr ⟨_, _, if_pos hb⟩
      · exact .inl (if_neg hb)
    · by_cases hb : b = a
      · have z' := (if_pos hb).symm.trans z
        cases z'
        subst hb
        exact ⟨ha, by rw [List.length_map]; exact hl, vs, _, rv, ha⟩
      · have z' := (if_neg hb).symm.trans z
        cases z'
    · by_cases hb : b = a
      · exact hb
      · exact absurd (if_neg hb) z
theorem fn_ofG {CX : CXT} {P : Program} {w : World} {K : PySem.W.Frag} {mg : Str → Option Value} {base : Heap} {k : Nat} {f : Addr} {name qual : Str} {params : Arguments} {body : List Stmt} {scope : Scope} {dV kV doc pm cdv ct oc : Value} {an od : Option Addr}
    {osl : Array (Option Value)} {N ps : List Str} {sp : Sp} (lk : K.lookup f = some ⟨oc, od, .func (PySem.W.fnOf name qual params body scope dV kV doc pm an cdv ct), osl⟩) (hcd : PySem.W.codeIn K cdv qual = true) (S : FnScope N ps scope)
    (len : ∀ vs H Q E, sp vs H Q E → vs.length = ps.length)
    (hbody : ∀ (A : Around) (outer : List Env) (s : Shared) (H : Hp) (vs : List V) (Q : VK) (E : XK), RoomG k (A.deeper (envOfC qual scope s.heap.objs.size f cdv)) → sp vs H Q E →
      ∃ t, PSs (cxOf CX P w K mg base N qual scope f cdv A outer s H E) body t ∧ t { nx := fun _ H' => Q .non H', rt := Q } (start N vs) H) :
    FnOkG P w K mg base CX (k + 1) f (PySem.W.fnOf name qual params body scope dV kV doc pm an cdv ct) ps sp := by
  refine ⟨len, fun A outer s H args us vs Q E hr e0 hb r hsp => ?_⟩
  have hl := len _ _ _ _ hsp
  have KX : K.In s.heap := e0.mod.kin.keeps fun b o e => (e0.bs b o e).1
  have lim : s.heap.NoLimit := e0.mod.nolimit.keeps fun b o e => (e0.bs b o e).1
  have hkind : ∀ y ∈ ps.zip us, scope.names.lookup y.1 = some .local ∨ (scope.names.lookup y.1 = some .cell ∧ ((cellsFrom (s.heap.objs.size + 1) scope.names []).lookup y.1).isSome = true) := fun ⟨n, v⟩ hy => by
    rcases S.par n (List.of_mem_zip hy).1 with q | q
    · exact .inl q
    · exact .inr ⟨q, PySem.W.cellsFrom_some _ _ _ (.inl q)⟩
  refine codeAny_call_function hr.depth (KX _ _ lk) rfl S.co S.gen rfl (PySem.W.codeRec_of KX hcd) (hb _ _ _ _ ?_)
  refine wpAny_newFunctionEnv_cells S.kind hkind fun env he s1 x => ?_
  subst he
  refine ⟨lim.keeps x.toInCall.keep, codeAny_func ?_⟩
  obtain ⟨t, ht, hq⟩ := hbody A outer s H vs Q E (hr.deeper _) hsp
  have I : Inv (cxOf CX P w K mg base N qual scope f cdv A outer s H E) [] (start N vs) H s1 := inv_start S hr.hd e0 hl r x
  refine wpAny_mono (ht.run [] s1 (start N vs) H _ I hq) (fun fl s' hs => ?_) fun e s' hs => hs
  have fin : ∀ {σ' : Sl} {H' : Hp} {v : V} {u : Value}, Inv (cxOf CX P w K mg base N qual scope f cdv A outer s H E) [] σ' H' s' → RelV v u → Q v H' → CE outer P w H s Q u s' :=
    fun {σ' H' v u} J rv q => ⟨v, H', J.os, J.bare, J.base, J.hok, rv, q⟩
  cases fl with
  | ret u =>
    obtain ⟨v, σ', H', J, rv, q⟩ := hs
    exact fin J rv q
  | next =>
    obtain ⟨σ', H', J, q⟩ := hs
    exact fin (v := V.non) (u := Value.none) J rfl q
  | brk =>
    obtain ⟨_, _, _, q⟩ := hs
    exact False.elim q
  | cont =>
    obtain ⟨_, _, _, q⟩ := hs
    exact False.elim q

theorem run_fnG {X : Cx} {CX : CXT} {k : Nat} {f : Addr} {fd : FuncData} {ps : List Str} {sp : Sp} {dvs : List V} {ds : List Value} {E : XK} {pins : List (Addr × Obj)} {σ : Sl} {H : Hp} {s : Shared} {Q : VK} {us : List Value} {vs : List V} (F : FnOkG X.prog X.w X.K X.mg X.base CX k f fd ps sp) (hr : RoomG k X.A) (hb : Binds X.K fd ps ds) (hd : Vals dvs ds) (hx : Passes CX X E)
    (I : Inv X pins σ H s) (r : Vals vs us) (h : sp (vs ++ dvs) H Q E) : wpAny (model X.prog X.w) X.A (call (.ref f) us) (EP X pins σ Q) X.xe s := by
  have r2 : Vals (vs ++ dvs) (us ++ ds) := r.append hd
  have hl : (us ++ ds).length = ps.length := by rw [← r2.length]; exact F.len _ _ _ _ h
  refine wpAny_call (codeAny_mono (F.run X.A X.stack s H ⟨us, []⟩ (us ++ ds) (vs ++ dvs) Q E hr I.env0 (hb s us I.kIn hl) r2 h) fun r s' hq => ?_)
  cases r with
  | error e => exact hx pins σ H s e s' I hq
  | ok fl =>
    cases fl with
    | ret u => exact I.after hq
    | next => exact False.elim hq
    | brk => exact False.elim hq
    | cont => exact False.elim hq
theorem pe_callG {X : Cx} {CX : CXT} {k : Nat} {f : Addr} {fd : FuncData} {ps : List Str} {sp : Sp} {dvs : List V} {ds : List Value} {E : XK} {x : Str} {p pos : Pos} {e : Expr} {es : List Expr} {t : TA} (F : FnOkG X.prog X.w X.K X.mg X.base CX k f fd ps sp) (hr : RoomG k X.A) (hg : Gl X x) (hm : X.mg x = some (.ref f)) (hk : PySem.W.keepIn X.K (.ref f) = true) (hb : Binds X.K fd ps ds) (hd : Vals dvs ds) (hx : Passes CX X E)
    (ha : PA X (e :: es) t) (hdb : (x == ("__debug__" : Str)) = false := by decide) (he : starEach (e :: es) X.env = (false, eval e X.env) :: starEach es X.env := by rfl) (hpl : (backTo pos (starEach es X.env)).any (·.1) = false := by rfl) :
    PE X (.Call (.Name x p) (e :: es) [] pos) (tCall sp dvs E t) := by
  refine ⟨fun pins s σ H Q I h => ?_⟩
  refine wpAny_Call_Name_kw (ld_glob I hg hm ?_ hdb)
  refine PySem.W.callWith_K (h₀ := X.base) I.ok.mod.kin hk (thn (ha.run pos pins s σ H _ I h) fun us s1 ⟨vs, H1, I1, r, q⟩ => ⟨I1.kIn, ?_⟩) he hpl
  exact run_fnG F hr hb hd hx I1 r q
theorem pe_callG0 {X : Cx} {CX : CXT} {k : Nat} {f : Addr} {fd : FuncData} {ps : List Str} {sp : Sp} {dvs : List V} {ds : List Value} {E : XK} {x : Str} {p pos : Pos} (F : FnOkG X.prog X.w X.K X.mg X.base CX k f fd ps sp) (hr : RoomG k X.A) (hg : Gl X x) (hm : X.mg x = some (.ref f)) (hk : PySem.W.keepIn X.K (.ref f) = true) (hb : Binds X.K fd ps ds) (hd : Vals dvs ds) (hx : Passes CX X E)
    (hdb : (x == ("__debug__" : Str)) = false := by decide) : PE X (.Call (.Name x p) [] [] pos) (tCall sp dvs E tNil) := by
  refine ⟨fun pins s σ H Q I h => ?_⟩
  refine wpAny_Call_Name_kw (ld_glob I hg hm ?_ hdb)
  exact PySem.W.callWith_K0 I.kIn hk (run_fnG (us := []) F hr hb hd hx I .nil h)
theorem walk_ofEG {l : PySem.W.OpenLaw} {n k : Nat} {q : Program} {loose : List Str} {XP : (Str → Option Value) → Heap → Prop} {YP : World → Heap → Prop} {d : DefRec} {CX : CXT} {x : Str}
    (hn : l.most = some n) (hn2 : n ≤ sizeLine) (hdf : d.params.defaults = []) (hr : RoomG k callerA)
    (F : ∀ (w : World) (mg : Str → Option Value) (fa : Addr) (h : Heap), YP w h → h.Ns mainGlobals mg → mg d.name = some (.ref fa) →
      ∃ (K : PySem.W.Frag) (fd : FuncData) (sp : Sp), K.In h ∧ (∀ (s : Shared) (u : Value), BindsTo s fd ⟨[u], []⟩ [(x, u)]) ∧
        (∀ (H : Hp) (a : Addr) (ns : List Int), ns.length ≤ n → Only H → SqL K H a (ns.map V.int) → sp [.ref a] H (fun v _ => v = .bl true) fun _ _ _ => False) ∧
        ∀ base : Heap, K.In base → base.Ns mainGlobals mg → FnOkG l.prog w K mg base CX k fa fd [x] sp)
    (hCX : ∀ (H : Hp) (s : Shared) (e : Value) (s' : Shared), CX [] H s (fun _ _ _ => False) e s' → False) :
    PySem.W.WalkO q loose XP YP l.row.toRowW d [] (fun f vs => PySem.call f vs) := by
  refine Att.attach_call hn hdf fun w s₀ s₁ mg mb fa o pm cd doc a vs ns G Y ho hd hcd hmg hobj hints hlen hg => ?_
  obtain ⟨K, fd, sp, KX, hb, hsp, hF⟩ := F w mg fa _ Y G.T.g hmg
  exact law_callG KX G.T.g G.T.b G.T.builtins G.T.nolimit hg hobj hints (Nat.le_trans hlen hn2) hr hF hb (fun H hO hS => hsp H a ns hlen hO hS) fun H e s' => hCX H s₁ e s'
section
variable {P : Program} {w : World} {K : PySem.W.Frag} {mg : Str → Option Value} {base : Heap}
/-- a def by its body's reading -/
theorem fn_okG {x qual : Str} {params : Arguments} {body : List Stmt} {scope : Scope} {f : Addr} {fd : FuncData} {N ps : List Str} {k : Nat} {sp : DSp} {r : DS} (F : FunD K x qual params body scope [] [] f fd) (S : FnScope N ps scope)
    (len : ∀ ds M R, sp ds M R → ds.length = ps.length) (hn : ps.length ≤ N.length)
    (hbody : ∀ (cdv : Value) (A : Around) (outer : List Env) (s : Shared) (H : Hp) (E : XK), RoomG k (A.deeper (envOfC qual scope s.heap.objs.size f cdv)) → DSsx (cxOf CX0 P w K mg base N qual scope f cdv A outer s H E).nox body r)
    (pure : ∀ ds M R, sp ds M R → r { nx := fun _ M' => R .non M', rt := R } (startS N.length ds) M) : FnOkG P w K mg base CX0 (k + 1) f fd ps (LSp K sp) := by
  obtain ⟨oc, od, dV, kV, doc, pm, an, cdv, ct, osl, rfl, lk, hcd, _, _⟩ := F.ex
  refine fn_ofG lk hcd S (fun vs H Q E ⟨ds, M, R, r1, _, h, _⟩ => by rw [← r1.length]; exact len ds M R h) fun A outer s H vs Q E hr ⟨ds, M, R, r1, hM, h, hc⟩ => ⟨_, PSs.nox (hbody cdv A outer s H E hr), ?_⟩
  refine ⟨startS N.length ds, M, _, relS_start r1 (by rw [len ds M R h]; exact hn), hM, pure ds M R h, ⟨fun S' M' σ' H' k' s' m' h' => hc .non M' .non H' k' m' .non h', fun _ _ _ _ _ _ _ z => z.elim, fun _ _ _ _ _ _ _ z => z.elim, hc⟩⟩
end
section
variable {X : Cx} {a b c e : Expr} {es : List Expr} {ra rb re : DE} {rs : DA} {pos : Pos}
theorem de_callG {k : Nat} {f : Addr} {fd : FuncData} {ps : List Str} {sp : DSp} {x : Str} {p : Pos} (F : FnOkG X.prog X.w X.K X.mg X.base CX0 k f fd ps (LSp X.K sp)) (hr : RoomG k X.A) (hg : Gl X x) (hm : X.mg x = some (.ref f)) (hk : PySem.W.keepIn X.K (.ref f) = true) (hb : Binds X.K fd ps [])
    (ha : DAx X (e :: es) rs) (hdb : (x == ("__debug__" : Str)) = false := by decide) (he : starEach (e :: es) X.env = (false, eval e X.env) :: starEach es X.env := by rfl) (hpl : (backTo pos (starEach es X.env)).any (·.1) = false := by rfl) :
    DEx X (.Call (.Name x p) (e :: es) [] pos) (dCall sp rs) := PE_weak (pe_callG F hr hg hm hk hb .nil pass0 ha hdb he hpl) fun σ H Q ⟨S, M, R, hS, hM, h, hc⟩ =>
  ⟨S, M, _, hS, hM, h, fun ds M1 vs H1 k1 m1 z1 h1 => ⟨ds, M1, R, by rw [List.append_nil]; exact z1, m1, h1, hc.keep k1⟩⟩
/-! ### repr -/
/-- an int is shown by itself; else whole data -/
@[simp] def cRepr : DC := fun ds M Q => match ds with
  | [.int i] => i.natAbs.log2 < 1920 ∧ Q (.str (toString i)) M
  | [d] => ∃ p, Deep M d p ∧ p.showable = true ∧ p.depth ≤ 60 ∧ p.shown.length ≤ sizeLine ∧ (match p with | .list _ => True | .tuple _ => True | _ => False) ∧ Q (.str p.shown) M
  | _ => False
theorem noDictAll : ∀ {ps : List PyData}, (∀ p ∈ ps, p.hasDict = false) → PyData.hasDictAll ps = false
  | [], _ => rfl
  | p :: ps, h => by
    unfold PyData.hasDictAll
    rw [h p (List.mem_cons_self ..), noDictAll fun q hq => h q (List.mem_cons_of_mem _ hq)]
    rfl
mutual
theorem Deep.noDict {M : DM} : ∀ (p : PyData) {d : D}, Deep M d p → p.hasDict = false
  | .none, _, _ => rfl
  | .bool _, _, _ => rfl
  | .int _, _, _ => rfl
  | .str _, _, _ => rfl
  | .tuple ps, _, h => by
    cases h with
    | tup hl => exact DeepL.noDict ps hl
  | .list ps, _, h => by
    cases h with
    | con hl => exact DeepL.noDict ps hl
    | lst e hl => exact DeepL.noDict ps hl
  | .dict _, _, h => by cases h
theorem DeepL.noDict {M : DM} : ∀ (ps : List PyData) {ds : List D}, DeepL M ds ps → PyData.hasDictAll ps = false
  | [], _, _ => rfl
  | p :: ps, _, h => by
    cases h with
    | cons h1 h2 =>
      unfold PyData.hasDictAll
      rw [Deep.noDict p h1, DeepL.noDict ps h2]
      rfl
end
theorem dc_repr {k : Nat} (hr : RoomG k X.A) : DCall X (.builtin "repr") cRepr := by
  intro pins s σ H xs us Q I rx ⟨ds, M, R, r, hM, h, hc⟩
  unfold cRepr at h
  split at h
  · obtain ⟨v, rfl, z⟩ := rep1 r
    cases z
    exact SkE.call_repr_int pins s σ H _ us Q I rx ⟨_, rfl, h.1, hc _ M _ H (.refl H) hM (.str _) h.2⟩
  · rename_i d _
    obtain ⟨v, rfl, z⟩ := rep1 r
    obtain ⟨p, hd, h1, h2, h3, h4, h5⟩ := h
    obtain ⟨u, rfl, ru⟩ := vals1 rx
    have dp := hd.dp hM p z
    obtain ⟨as, rd⟩ := Dp.reads I p _ u dp ru
    have hu := hr.units
    have isref : ∃ a, u = Value.ref a := by
      cases p <;> first | exact h4.elim | (cases rd <;> exact ⟨_, rfl⟩)
    obtain ⟨a, rfl⟩ := isref
    exact repr_of_reads' rd h1 (PyData.noDict_hsm (hd.noDict p)) hr.g (by omega) (fun _ _ e => e) (fun h' t tk hk => ⟨.str p.shown, H, I.kept hk, ⟨t, rfl⟩, hc _ M _ H (.refl H) hM (.str _) h5⟩) h3
  · exact h.elim
end
end PyD

namespace PyD
open PySem PySem.Spec PyProof.Rows L2
/-! ### the drawn source of a law -/
def srcKv (c : Addr) (left mixed turn : Int) : List (Key × D) := [(.inr ("cells" : Str), .ref c), (.inr ("left" : Str), .int left), (.inr ("mixed" : Str), .int mixed), (.inr ("turn" : Str), .int turn)]
section
variable {M : DM} {a c : Addr} {left mixed turn x : Int} {y : D}
theorem nk {x y : Str} (h : ¬ x = y) : ¬ (Sum.inr x : Key) = Sum.inr y := fun z => h (Sum.inr.inj z)
theorem s1 : ¬ ("cells" : Str) = "left" := by decide +kernel
theorem s2 : ¬ ("cells" : Str) = "mixed" := by decide +kernel
theorem s3 : ¬ ("cells" : Str) = "turn" := by decide +kernel
theorem s4 : ¬ ("left" : Str) = "cells" := by decide +kernel
theorem s5 : ¬ ("left" : Str) = "mixed" := by decide +kernel
theorem s6 : ¬ ("left" : Str) = "turn" := by decide +kernel
theorem s7 : ¬ ("mixed" : Str) = "cells" := by decide +kernel
theorem s8 : ¬ ("mixed" : Str) = "left" := by decide +kernel
theorem s9 : ¬ ("mixed" : Str) = "turn" := by decide +kernel
theorem s10 : ¬ ("turn" : Str) = "cells" := by decide +kernel
theorem s11 : ¬ ("turn" : Str) = "left" := by decide +kernel
theorem s12 : ¬ ("turn" : Str) = "mixed" := by decide +kernel
@[simp] theorem val_cells : valD (srcKv c left mixed turn) (.inr ("cells" : Str)) = some (.ref c) := by
  unfold srcKv; simp only [valD_cons, if_true]
@[simp] theorem val_left : valD (srcKv c left mixed turn) (.inr ("left" : Str)) = some (.int left) := by
  unfold srcKv; simp only [valD_cons, if_true, if_neg (nk s1)]
@[simp] theorem val_mixed : valD (srcKv c left mixed turn) (.inr ("mixed" : Str)) = some (.int mixed) := by
  unfold srcKv; simp only [valD_cons, if_true, if_neg (nk s2), if_neg (nk s5)]
@[simp] theorem val_turn : valD (srcKv c left mixed turn) (.inr ("turn" : Str)) = some (.int turn) := by
  unfold srcKv; simp only [valD_cons, if_true, if_neg (nk s3), if_neg (nk s6), if_neg (nk s9)]
theorem any_src (x : Str) (h : x = "left" ∨ x = "mixed" ∨ x = "turn") : ((srcKv c left mixed turn).any fun kv => decide (kv.1 = .inr x)) = true := by
  unfold srcKv
  rcases h with rfl | rfl | rfl <;> simp
@[simp] theorem put_left : putD (srcKv c left mixed turn) (.inr ("left" : Str)) (.int x) = srcKv c x mixed turn := by
  unfold putD
  rw [if_pos (any_src _ (.inl rfl))]
  unfold srcKv
  simp only [List.map, if_true, if_neg (nk s1), if_neg (nk s8), if_neg (nk s11)]
@[simp] theorem put_mixed : putD (srcKv c left mixed turn) (.inr ("mixed" : Str)) (.int x) = srcKv c left x turn := by
  unfold putD
  rw [if_pos (any_src _ (.inr (.inl rfl)))]
  unfold srcKv
  simp only [List.map, if_true, if_neg (nk s2), if_neg (nk s5), if_neg (nk s12)]
@[simp] theorem put_turn : putD (srcKv c left mixed turn) (.inr ("turn" : Str)) (.int x) = srcKv c left mixed x := by
  unfold putD
  rw [if_pos (any_src _ (.inr (.inr rfl)))]
  unfold srcKv
  simp only [List.map, if_true, if_neg (nk s3), if_neg (nk s6), if_neg (nk s9)]
theorem src_len : (srcKv c left mixed turn).length < sizeLine := by show 4 < sizeLine; rw [sizeLine_eq]; decide
end
structure Src (M : DM) (a c : Addr) : Prop where
  ex : ∃ (left mixed turn : Int) (cs : List Int), M a = some (.dK (srcKv c left mixed turn)) ∧ M c = some (.lst (cs.map .int)) ∧ 0 ≤ left ∧ 0 ≤ mixed ∧ ∀ x ∈ cs, 0 ≤ x
theorem Src.ne {M : DM} {a c : Addr} (s : Src M a c) : a ≠ c := by
  obtain ⟨_, _, _, _, h1, h2, _⟩ := s.ex
  intro e
  subst e
  rw [h1] at h2
  cases h2
theorem Src.same {M M' : DM} {a c : Addr} (s : Src M a c) (h1 : M' a = M a) (h2 : M' c = M c) : Src M' a c := by
  obtain ⟨l, m, t, cs, e1, e2, r⟩ := s.ex
  exact ⟨l, m, t, cs, h1.trans e1, h2.trans e2, r⟩
def sp_l_pick : DSp := fun ds M R => ∃ a c n, ds = [.ref a, .int n] ∧ n < 1073741824 ∧ Src M a c ∧ ∀ k M', 0 ≤ k → k < max 1 n → Src M' a c → (∀ b, b ≠ a → b ≠ c → M' b = M b) → R (.int k) M'
def r_l_pick_b1 : DS := (dAsg (dMt0 mPop (dOp dIx (dVar 0) (dC (.str ("cells" : Str))))) (gS (dVar 0) (dC (.str ("left" : Str)))))
def r_l_pick_a1 : DS := (dSeq (dAsg (dOp dIx (dVar 0) (dC (.str ("left" : Str)))) (gN 2))
    (dSeq (dIf (dOr (dB (dOp dLt (dVar 1) (dC (.int 2)))) (dB (dOp dGt (dVar 2) (dC (.int 1))))) (dSeq (dAsg (dOp dFDiv (dVar 2) (dCB cMax2 (dCons (dC (.int 1)) (dCons (dVar 1) dNil)))) (gS (dVar 0) (dC (.str ("left" : Str)))))
    (dRet (dOp dMod (dCB cInt (dCons (dVar 2) dNil)) (dCB cMax2 (dCons (dC (.int 1)) (dCons (dVar 1) dNil)))))) dNext)
    (dSeq (dAsg (dOp dAdd (dOp dIx (dVar 0) (dC (.str ("turn" : Str)))) (dC (.int 1))) (gS (dVar 0) (dC (.str ("turn" : Str)))))
    (dSeq (dAsg (dOp dMod (dCB cInt (dCons (dOp dAdd (dOp dIx (dVar 0) (dC (.str ("mixed" : Str)))) (dOp dMul (dOp dIx (dVar 0) (dC (.str ("turn" : Str)))) (dC (.int 104729)))) dNil)) (dC (.int 998244353))) (gN 3))
    (dSeq (dAsg (dOp dMod (dCB cInt (dCons (dOp dAdd (dOp dMul (dVar 3) (dVar 3)) (dOp dMul (dOp dIx (dVar 0) (dC (.str ("turn" : Str)))) (dC (.int 17)))) dNil)) (dC (.int 2147483647))) (gN 3))
    (dSeq (dAsg (dVar 3) (gS (dVar 0) (dC (.str ("mixed" : Str)))))
    (dRet (dOp dMod (dCB cInt (dCons (dOp dFDiv (dVar 3) (dC (.int 16))) dNil)) (dVar 1)))))))))
def r_l_pick : DS := (dSeq (dWhile (dAnd (dB (dOp dGt (dVar 1) (dC (.int 1)))) (dAnd (dB (dOp dLt (dOp dIx (dVar 0) (dC (.str ("left" : Str)))) (dC (.int 2)))) (dB (dOp dGt (dCB cLen (dCons (dOp dIx (dVar 0) (dC (.str ("cells" : Str)))) dNil)) (dC (.int 0)))))) r_l_pick_b1) r_l_pick_a1)
theorem len_l_pick : ∀ ds M R, sp_l_pick ds M R → ds.length = 2 := by
  rintro ds M R ⟨a, c, n, rfl, _⟩
  rfl
theorem src_len' {c : Addr} {l m t : Int} : (srcKv c l m t).length < sizeLine := src_len
theorem updM_at {M : DM} {a b : Addr} {o : DO} (h : ¬ b = a) : updM M a o b = M b := updM_ne h
theorem pure_l_pick : ∀ ds M R, sp_l_pick ds M R → r_l_pick { nx := fun _ M' => R .non M', rt := R } (startS 4 ds) M := by
  intro ds M R h
  obtain ⟨a, c, n, rfl, hn, hS, h⟩ := h
  have hac := hS.ne
  have hca : ¬ c = a := fun z => hac z.symm
  have tail : ∀ (E : DEnds) (M1 : DM), E.rt = R → (∀ b, b ≠ a → b ≠ c → M1 b = M b) → (∃ (left mixed turn : Int) (cs : List Int), M1 a = some (.dK (srcKv c left mixed turn)) ∧ M1 c = some (.lst (cs.map .int)) ∧ 0 ≤ left ∧ 0 ≤ mixed ∧ (∀ x ∈ cs, 0 ≤ x)) →
      r_l_pick_a1 E [some (.ref a), some (.int n), none, none] M1 := by
    rintro E M1 eR hk ⟨left, mixed, turn, cs, e1, e2, e3, e4, e5⟩
    have fin : ∀ (k left mixed turn : Int), 0 ≤ k → k < max 1 n → 0 ≤ left → 0 ≤ mixed → R (.int k) (updM M1 a (.dK (srcKv c left mixed turn))) := fun k left mixed turn h1 h2 h3 h4 =>
      h k _ h1 h2 ⟨left, mixed, turn, cs, updM_same, by rw [updM_at hca]; exact e2, h3, h4, e5⟩ fun b hb hc => by rw [updM_at hb]; exact hk b hb hc
    simp [r_l_pick_a1, e1, e2, eR, src_len', updM_upd]
    have hm : 0 < max 1 n := by omega
    have c1 : CDiv left (max 1 n) := ⟨hm, by omega⟩
    have first : CDiv left (max 1 n) ∧ 0 < max 1 n ∧ R (D.int (left % max 1 n)) (updM M1 a (DO.dK (srcKv c (left / max 1 n) mixed turn))) :=
      ⟨c1, hm, fin _ _ _ _ (Int.emod_nonneg _ (by omega)) (Int.emod_lt_of_pos _ hm) (Int.ediv_nonneg e3 (by omega)) e4⟩
    split
    · exact first
    · split
      · exact first
      · have b1 : 0 ≤ (mixed + (turn + 1) * 104729) % 998244353 := Int.emod_nonneg _ (by omega)
        have b2 : (mixed + (turn + 1) * 104729) % 998244353 < 998244353 := Int.emod_lt_of_pos _ (by omega)
        refine ⟨.inr ⟨by decide, by decide⟩, .inl ⟨by omega, by omega⟩, .inr ⟨by decide, by decide⟩, ⟨by decide, by decide⟩, by omega, ?_⟩
        generalize ((mixed + (turn + 1) * 104729) % 998244353 * ((mixed + (turn + 1) * 104729) % 998244353) + (turn + 1) * 17) % 2147483647 / 16 = z
        refine fin _ _ _ _ (Int.emod_nonneg _ (by omega)) ?_ e3 (Int.emod_nonneg _ (by omega))
        have := Int.emod_lt_of_pos z (show 0 < n by omega)
        omega
  unfold r_l_pick
  rw [dSeq]
  refine ⟨fun m S M' => S = [some (.ref a), some (.int n), none, none] ∧ (∀ b, b ≠ a → b ≠ c → M' b = M b) ∧ ∃ (left mixed turn : Int) (cs : List Int), M' a = some (.dK (srcKv c left mixed turn)) ∧ M' c = some (.lst (cs.map .int)) ∧ 0 ≤ left ∧ 0 ≤ mixed ∧ (∀ x ∈ cs, 0 ≤ x) ∧ m = cs.length, ?_, ?_⟩
  · obtain ⟨l, m, t, cs, e1, e2, e3, e4, e5⟩ := hS.ex
    exact ⟨cs.length, rfl, fun _ _ _ => rfl, l, m, t, cs, e1, e2, e3, e4, e5, rfl⟩
  · rintro m S M1 ⟨rfl, hk, left, mixed, turn, cs, e1, e2, e3, e4, e5, rfl⟩
    have out := tail { nx := fun _ M' => R .non M', rt := R } M1 rfl hk ⟨left, mixed, turn, cs, e1, e2, e3, e4, e5⟩
    simp [e1, e2, r_l_pick_b1]
    split
    · split
      · split
        · rename_i h1 h2 h3
          obtain ⟨x, ex⟩ : ∃ x, cs[cs.length - 1]? = some x := ⟨cs[cs.length - 1], by simp⟩
          have hx : 0 ≤ x := e5 x (List.mem_of_getElem? ex)
          simp [ex, updM_at hac, updM_at hca, e1, src_len']
          refine ⟨cs.length - 1, by omega, fun b hb hc => by rw [updM_at hb, updM_at hc]; exact hk b hb hc, x, mixed, ⟨turn, rfl⟩, cs.dropLast, by rw [List.map_dropLast], hx, e4, fun y hy => e5 y ((List.dropLast_sublist cs).mem hy), by simp⟩
        · exact out
      · exact out
    · exact out
end PyD

namespace PyD
open PySem PySem.Spec PyProof.Rows L2
/-! ### how long a text of data is -/
theorem showLen_int {i : Int} {k : Nat} (hk : 0 < k) (h : i.natAbs < 10 ^ k) : (PyData.shown (.int i)).length ≤ k + 1 := by
  show (Str.ofString (toString i)).length ≤ k + 1
  by_cases h0 : 0 ≤ i
  · have := PyProof.Rows.toString_length_le (v := i) h0 hk (by have : ((10 ^ k : Nat) : Int) = (10 : Int) ^ k := by push_cast; rfl
                                                               omega)
    omega
  · cases i with
    | ofNat n => exact absurd (Int.natCast_nonneg n) h0
    | negSucc m =>
      have e : toString (Int.negSucc m) = "-" ++ toString ((m + 1 : Nat) : Int) := rfl
      have := PyProof.Rows.toString_length_le (v := ((m + 1 : Nat) : Int)) (by omega) hk (by
        have e2 : (Int.negSucc m).natAbs = m + 1 := rfl
        rw [e2] at h
        have : ((10 ^ k : Nat) : Int) = (10 : Int) ^ k := by push_cast; rfl
        omega)
      rw [PyProof.Rows.ofString_length] at this ⊢
      rw [e, String.toList_append, List.length_append]
      have e3 : ("-" : String).toList.length = 1 := rfl
      omega
theorem textFrom_le (B : Nat) : ∀ (ts : List Str) (k : Nat) (acc : Str), (∀ t ∈ ts, t.length ≤ B) → (textFrom k acc ts).length ≤ acc.length + ts.length * (B + 2)
  | [], k, acc, _ => by simp [textFrom]
  | t :: r, k, acc, h => by
    have ih := textFrom_le B r (k + 1) (acc ++ (if k > 0 then ", " else "" : String) ++ t) fun u hu => h u (List.mem_cons_of_mem _ hu)
    have ht := h t (List.mem_cons_self ..)
    have e : (acc ++ (if k > 0 then ", " else "" : String) ++ t).length = acc.length + (if k > 0 then 2 else 0) + t.length := by
      rw [strLen_append, strLen_append]
      split <;> rfl
    rw [textFrom, List.length_cons, Nat.succ_mul]
    have h2 : (if k > 0 then 2 else 0) ≤ 2 := by split <;> omega
    rw [e] at ih
    generalize (if k > 0 then 2 else 0) = q at ih h2
    omega
theorem listText_le {B : Nat} {ts : List Str} (h : ∀ t ∈ ts, t.length ≤ B) : (listText ts).length ≤ 2 + ts.length * (B + 2) := by
  unfold listText
  rw [strLen_append]
  have := textFrom_le B ts 0 "[" h
  have e1 : (("[" : String) : Str).length = 1 := rfl
  have e2 : (("]" : String) : Str).length = 1 := rfl
  omega
theorem join_le (B : Nat) : ∀ ts : List Str, (∀ t ∈ ts, t.length ≤ B) → (Str.join ", " ts).length ≤ ts.length * (B + 2)
  | [], _ => by simp [Str.join]; rfl
  | [x], h => by
    have := h x (List.mem_cons_self ..)
    show x.length ≤ _
    simp; omega
  | x :: y :: r, h => by
    have ih := join_le B (y :: r) fun t ht => h t (List.mem_cons_of_mem _ ht)
    have hx := h x (List.mem_cons_self ..)
    show (x ++ ", " ++ Str.join ", " (y :: r)).length ≤ _
    have e2 : ((", " : String) : Str).length = 2 := rfl
    rw [strLen_append, strLen_append, e2, List.length_cons, Nat.succ_mul]
    omega
theorem tupleText_le {B : Nat} {ts : List Str} (h : ∀ t ∈ ts, t.length ≤ B) : (tupleText ts).length ≤ 3 + ts.length * (B + 2) := by
  unfold tupleText
  rw [strLen_append, strLen_append]
  have := join_le B ts h
  have e1 : (("(" : String) : Str).length = 1 := rfl
  have e3 : ((if ts.length == 1 then ",)" else ")" : String) : Str).length ≤ 2 := by split <;> decide
  omega
theorem shownAll_eq : ∀ ps : List PyData, PyData.shownAll ps = ps.map PyData.shown
  | [] => rfl
  | p :: ps => by rw [PyData.shownAll, shownAll_eq ps]; rfl
theorem showLen_list {B : Nat} {ps : List PyData} (h : ∀ p ∈ ps, p.shown.length ≤ B) : (PyData.shown (.list ps)).length ≤ 2 + ps.length * (B + 2) := by
  rw [PyData.shown, shownAll_eq]
  have := listText_le (B := B) (ts := ps.map PyData.shown) fun t ht => by
    obtain ⟨p, hp, rfl⟩ := List.mem_map.mp ht
    exact h p hp
  simpa using this
theorem showLen_tuple {B : Nat} {ps : List PyData} (h : ∀ p ∈ ps, p.shown.length ≤ B) : (PyData.shown (.tuple ps)).length ≤ 3 + ps.length * (B + 2) := by
  rw [PyData.shown, shownAll_eq]
  have := tupleText_le (B := B) (ts := ps.map PyData.shown) fun t ht => by
    obtain ⟨p, hp, rfl⟩ := List.mem_map.mp ht
    exact h p hp
  simpa using this
theorem showable_all : ∀ {ps : List PyData}, (∀ p ∈ ps, p.showable = true) → PyData.showableAll ps = true
  | [], _ => rfl
  | p :: ps, h => by
    rw [PyData.showableAll, h p (List.mem_cons_self ..), showable_all fun q hq => h q (List.mem_cons_of_mem _ hq)]
    rfl
theorem showable_int {i : Int} (h : i.natAbs < 10 ^ 100) : (PyData.int i).showable = true := by
  show decide (i.natAbs.log2 < 1920) = true
  rw [decide_eq_true_iff]
  by_cases h0 : i.natAbs = 0
  · rw [h0]; decide
  · rw [Nat.log2_lt h0]
    exact Nat.lt_trans h (by decide +kernel)
theorem depth_all {n : Nat} : ∀ {ps : List PyData}, (∀ p ∈ ps, p.depth ≤ n) → PyData.depthAll ps ≤ n
  | [], _ => Nat.zero_le _
  | p :: ps, h => by
    rw [PyData.depthAll]
    exact Nat.max_le.mpr ⟨h p (List.mem_cons_self ..), depth_all fun q hq => h q (List.mem_cons_of_mem _ hq)⟩
/-- .. of data that can be laid -/
theorem canLay_all : ∀ {ps : List PyData}, (∀ p ∈ ps, p.canLay0 = true) → PyData.canLayAll0 ps = true
  | [], _ => rfl
  | p :: ps, h => by
    rw [PyData.canLayAll0, h p (List.mem_cons_self ..), canLay_all fun q hq => h q (List.mem_cons_of_mem _ hq)]
    rfl
theorem DeepL.map {M : DM} {α : Type} {f : α → D} {g : α → PyData} : ∀ {xs : List α}, (∀ x ∈ xs, Deep M (f x) (g x)) → DeepL M (xs.map f) (xs.map g)
  | [], _ => .nil
  | x :: xs, h => .cons (h x (List.mem_cons_self ..)) (DeepL.map fun y hy => h y (List.mem_cons_of_mem _ hy))
theorem eqv_ints : ∀ a b : List Int, PyData.eqvAll (a.map .int) (b.map .int) = decide (a = b)
  | [], [] => rfl
  | [], _ :: _ => rfl
  | _ :: _, [] => rfl
  | x :: a, y :: b => by
    have ih := eqv_ints a b
    show (PyData.eqv (.int x) (.int y) && PyData.eqvAll (a.map .int) (b.map .int)) = _
    rw [ih]
    show ((x == y) && decide (a = b)) = _
    by_cases h : x = y
    · subst h; simp
    · simp [h]
/-! ### lists of tuples of ints -/
def cD (cls : List (List Int)) : List D := cls.map fun l => .tup (l.map .int)
def cP (cls : List (List Int)) : PyData := .list (cls.map fun l => .tuple (l.map .int))
@[simp] theorem cD_nil : cD [] = [] := rfl
@[simp] theorem cD_length (cls : List (List Int)) : (cD cls).length = cls.length := by simp [cD]
theorem cD_append (a b : List (List Int)) : cD (a ++ b) = cD a ++ cD b := by simp [cD]
theorem cD_snoc (a : List (List Int)) (l : List Int) : cD (a ++ [l]) = cD a ++ [.tup (l.map .int)] := by simp [cD]
theorem deep_ints {M : DM} (l : List Int) : DeepL M (l.map .int) (l.map .int) := DeepL.map fun x _ => .int x
theorem deep_cD {M : DM} {a : Addr} {cls : List (List Int)} (h : M a = some (.lst (cD cls))) : Deep M (.ref a) (cP cls) := .lst h (DeepL.map fun l _ => .tup (deep_ints l))
structure Small (n : Nat) (cls : List (List Int)) : Prop where
  len : cls.length ≤ n
  three : ∀ c ∈ cls, c.length ≤ 3 ∧ ∀ x ∈ c, x.natAbs < 1000000
theorem cP_shown {n : Nat} {cls : List (List Int)} (h : Small n cls) (hn : n ≤ 100000) : (cP cls).showable = true ∧ (cP cls).depth ≤ 60 ∧ (cP cls).shown.length ≤ sizeLine := by
  refine ⟨?_, ?_, ?_⟩
  · exact showable_all fun p hp => by
      obtain ⟨l, hl, rfl⟩ := List.mem_map.mp hp
      exact showable_all fun q hq => by
        obtain ⟨i, hi, rfl⟩ := List.mem_map.mp hq
        exact showable_int (Nat.lt_trans ((h.three l hl).2 i hi) (by decide))
  · have : (cP cls).depth ≤ 1 + 1 := by
      show PyData.depthAll _ + 1 ≤ 1 + 1
      have := depth_all (n := 1) (ps := cls.map fun l => .tuple (l.map .int)) fun p hp => by
        obtain ⟨l, hl, rfl⟩ := List.mem_map.mp hp
        show PyData.depthAll _ + 1 ≤ 1
        have := depth_all (n := 0) (ps := l.map PyData.int) fun q hq => by
          obtain ⟨i, hi, rfl⟩ := List.mem_map.mp hq
          exact Nat.le_refl 0
        omega
      omega
    omega
  · have := showLen_list (B := 30) (ps := cls.map fun l => .tuple (l.map .int)) fun p hp => by
      obtain ⟨l, hl, rfl⟩ := List.mem_map.mp hp
      have h3 := h.three l hl
      have := showLen_tuple (B := 7) (ps := l.map PyData.int) fun q hq => by
        obtain ⟨i, hi, rfl⟩ := List.mem_map.mp hq
        exact showLen_int (k := 6) (by decide) (h3.2 i hi)
      rw [List.length_map] at this
      have h4 := h3.1
      have : l.length * (7 + 2) ≤ 3 * 9 := Nat.mul_le_mul h4 (Nat.le_refl _)
      omega
    rw [List.length_map] at this
    have hl := h.len
    have h5 : cls.length * (30 + 2) ≤ 100000 * 32 := Nat.mul_le_mul (by omega) (Nat.le_refl _)
    rw [sizeLine_eq]
    exact Nat.le_trans this (by omega)
end PyD

namespace PyD
open PySem PySem.Spec PyProof.Rows L2
/-! ### what goes on standing in the store -/
def Keeps (S : List Addr) (M M' : DM) : Prop := ∀ b o, b ∉ S → M b = some o → M' b = some o
theorem Keeps.refl (S : List Addr) (M : DM) : Keeps S M M := fun _ _ _ h => h
theorem Keeps.trans {S : List Addr} {M M1 M2 : DM} (a : Keeps S M M1) (b : Keeps S M1 M2) : Keeps S M M2 := fun c o hc h => b c o hc (a c o hc h)
theorem Keeps.mono {S T : List Addr} {M M1 : DM} (a : Keeps S M M1) (h : ∀ x ∈ S, x ∈ T) : Keeps T M M1 := fun c o hc e => a c o (fun z => hc (h c z)) e
theorem Keeps.nil {T : List Addr} {M M1 : DM} (a : Keeps [] M M1) : Keeps T M M1 := a.mono fun x z => by cases z
theorem Keeps.new {S : List Addr} {M : DM} {p : Addr} (o : DO) (h : M p = none) : Keeps S M (updM M p o) := fun c u _ e => by
  by_cases hc : c = p
  · subst hc; rw [h] at e; cases e
  · rw [updM_ne hc]; exact e
theorem Keeps.write {S : List Addr} {M : DM} {a : Addr} (o : DO) (h : a ∈ S) : Keeps S M (updM M a o) := fun c u hc e => by
  rw [updM_ne (fun z => hc (by rw [z]; exact h))]; exact e
/-- .. beside a thing that is new since M -/
theorem Keeps.over {S : List Addr} {M M1 : DM} {p : Addr} (o : DO) (h : M p = none) (k : Keeps S M M1) : Keeps S M (updM M1 p o) := fun c u hc e => by
  have : c ≠ p := fun z => by subst z; rw [h] at e; cases e
  rw [updM_ne this]; exact k c u hc e
theorem Keeps.sub {S : List Addr} {M M1 M2 : DM} {p : Addr} (h : M p = none) (a : Keeps S M M1) (b : Keeps [p] M1 M2) : Keeps S M M2 := fun c o hc e => by
  refine b c o ?_ (a c o hc e)
  intro z
  have z' : c = p := by simpa using z
  subst z'
  rw [h] at e
  cases e
theorem Keeps.some {S : List Addr} {M M' : DM} (k : Keeps S M M') {b : Addr} {o : DO} (hb : b ∉ S) (h : M b = some o) : M' b = some o := k b o hb h
theorem Keeps.nothing {M M' : DM} (k : Keeps [] M M') {b : Addr} (h : M' b = none) : M b = none := by
  cases e : M b with
  | none => rfl
  | some o => rw [k b o (by simp) e] at h; cases h
theorem Keeps.nothing1 {a : Addr} {M M' : DM} (k : Keeps [a] M M') {b : Addr} (hb : b ≠ a) (h : M' b = none) : M b = none := by
  cases e : M b with
  | none => rfl
  | some o => rw [k b o (by simpa using hb) e] at h; cases h
theorem ne_none {M : DM} {a b : Addr} {o : DO} (h : M a = some o) (h' : M b = none) : ¬ a = b := fun e => by subst e; rw [h] at h'; cases h'
theorem ne_none' {M : DM} {a b : Addr} {o : DO} (h : M a = some o) (h' : M b = none) : ¬ b = a := fun e => ne_none h h' e.symm
theorem valD_put {κ : Type} [DecidableEq κ] (k j : κ) (y : D) : ∀ kvs : List (κ × D), valD (putD kvs k y) j = if j = k then some y else valD kvs j := by
  intro kvs
  unfold putD
  by_cases h : (kvs.any fun kv => decide (kv.1 = k)) = true
  · rw [if_pos h]
    rw [any_keys] at h
    have hm : k ∈ kvs.map (·.1) := by simpa using h
    induction kvs with
    | nil => simp at hm
    | cons p r ih =>
      rw [List.map_cons, valD_cons, valD_cons]
      by_cases e : p.1 = k
      · rw [if_pos e]
        by_cases hj : j = k
        · subst hj; simp [e]
        · have hj' : ¬ k = j := fun z => hj z.symm
          have hj2 : ¬ p.1 = j := fun z => hj (z.symm.trans e)
          simp [hj, hj2]
          by_cases hr : k ∈ r.map (·.1)
          · have := ih (by simpa using hr) hr
            rw [this, if_neg hj]
          · have : r.map (fun kv => if kv.1 = k then (kv.1, y) else kv) = r := by
              rw [List.map_congr_left (g := id)]
              · simp
              · intro q hq
                rw [if_neg (fun z => hr (List.mem_map.mpr ⟨q, hq, z⟩))]
                rfl
            rw [this]
      · rw [if_neg e]
        have hr : k ∈ r.map (·.1) := by
          rw [List.map_cons, List.mem_cons] at hm
          exact hm.elim (fun z => absurd z.symm e) id
        have := ih (by simpa using hr) hr
        rw [this]
        by_cases hp : p.1 = j
        · have : ¬ j = k := fun z => e (hp.trans z)
          simp [hp, this]
        · simp [hp]
  · rw [if_neg h]
    rw [any_keys] at h
    have hm : k ∉ kvs.map (·.1) := by simpa using h
    clear h
    induction kvs with
    | nil =>
      by_cases hj : j = k
      · subst hj; simp [valD_cons, valD_nil]
      · have : ¬ k = j := fun z => hj z.symm
        simp [valD_cons, valD_nil, hj, this]
    | cons p r ih =>
      have hm2 : k ∉ r.map (·.1) := fun z => hm (List.mem_cons_of_mem _ z)
      have hp : ¬ p.1 = k := fun z => hm (by rw [List.map_cons, z]; exact List.mem_cons_self ..)
      rw [List.cons_append, valD_cons, valD_cons, ih hm2]
      by_cases e : p.1 = j
      · have : ¬ j = k := fun z => hp (e.trans z)
        simp [e, this]
      · simp [e]
theorem putD_length {κ : Type} [DecidableEq κ] (kvs : List (κ × D)) (k : κ) (y : D) : (putD kvs k y).length ≤ kvs.length + 1 := by
  unfold putD
  split <;> simp
/-- a dict from ints -/
def kI (ls : List Int) (y : D) : List (Key × D) := ls.foldl (fun acc k => putD acc (.inl k) y) []
theorem kI_snoc (ls : List Int) (k : Int) (y : D) : kI (ls ++ [k]) y = putD (kI ls y) (.inl k) y := by simp [kI]
theorem kI_keys_aux (y : D) : ∀ rs : List Int, ∃ ks : List Int, kI rs.reverse y = ks.map (fun k => (.inl k, y)) ∧ ks.Nodup ∧ (∀ k, k ∈ ks ↔ k ∈ rs.reverse) ∧ ks.length ≤ rs.reverse.length := by
  intro rs
  induction rs with
  | nil => exact ⟨[], rfl, List.nodup_nil, by simp, by simp⟩
  | cons k rs ih =>
    rw [List.reverse_cons]
    generalize rs.reverse = ls at ih ⊢
    obtain ⟨ks, e, nd, hm, hl⟩ := ih
    rw [kI_snoc, e]
    unfold putD
    rw [any_keys, List.map_map]
    have ek : ks.map ((fun x : Key × D => x.1) ∘ fun k => (Sum.inl k, y)) = ks.map Sum.inl := rfl
    rw [ek]
    have ei : (Sum.inl k : Key) ∈ ks.map Sum.inl ↔ k ∈ ks := by
      rw [List.mem_map]
      exact ⟨fun ⟨a, h, z⟩ => by cases z; exact h, fun h => ⟨k, h, rfl⟩⟩
    by_cases h : k ∈ ks
    · rw [if_pos (by simpa using ei.mpr h)]
      refine ⟨ks, ?_, nd, fun j => ?_, by simp; omega⟩
      · rw [List.map_map]
        refine List.map_congr_left fun a _ => ?_
        show (if (Sum.inl a : Key) = Sum.inl k then ((Sum.inl a : Key), y) else (Sum.inl a, y)) = _
        split <;> rfl
      · rw [List.mem_append, ← hm j]
        simp
        intro z
        subst z
        exact (hm j).mp h |> (hm j).mpr
    · rw [if_neg (by simpa using fun z => h (ei.mp z))]
      refine ⟨ks ++ [k], by simp, ?_, fun j => by rw [List.mem_append, List.mem_append, hm j], by simp; omega⟩
      rw [List.nodup_append]
      refine ⟨nd, by simp, fun a ha b hb => ?_⟩
      have hb' : b = k := by simpa using hb
      subst hb'
      intro z
      subst z
      exact h ha
theorem kI_keys (y : D) (ls : List Int) : ∃ ks : List Int, kI ls y = ks.map (fun k => (.inl k, y)) ∧ ks.Nodup ∧ (∀ k, k ∈ ks ↔ k ∈ ls) ∧ ks.length ≤ ls.length := by
  have := kI_keys_aux y ls.reverse
  rwa [List.reverse_reverse] at this
theorem intKs_map (y : D) : ∀ ks : List Int, intKs (ks.map fun k => ((Sum.inl k : Key), y)) = some ks
  | [] => rfl
  | k :: ks => by rw [List.map_cons, intKs, intKs_map y ks]; rfl
theorem valD_kI (y : D) (k : Int) : ∀ ks : List Int, valD (ks.map fun k => ((Sum.inl k : Key), y)) (.inl k) = if k ∈ ks then some y else none
  | [] => rfl
  | a :: ks => by
    rw [List.map_cons, valD_cons, valD_kI y k ks]
    by_cases h : a = k
    · subst h; simp
    · have h' : ¬ k = a := fun z => h z.symm
      have h2 : ¬ (Sum.inl a : Key) = Sum.inl k := fun z => h (Sum.inl.inj z)
      simp [h', h2]
/-! ### places by number -/
theorem atI_nat {α : Type} (xs : List α) (k : Nat) : atI xs (k : Int) = xs[k]? := by
  unfold atI ixN
  rw [if_pos (Int.natCast_nonneg k)]
  by_cases h : k < xs.length
  · rw [if_pos (by omega)]
    simp
  · rw [if_neg (by omega)]
    simp
    omega
@[simp] theorem at_0 {α : Type} (xs : List α) : atI xs 0 = xs[0]? := atI_nat xs 0
@[simp] theorem at_1 {α : Type} (xs : List α) : atI xs 1 = xs[1]? := atI_nat xs 1
@[simp] theorem at_2 {α : Type} (xs : List α) : atI xs 2 = xs[2]? := atI_nat xs 2
@[simp] theorem at_3 {α : Type} (xs : List α) : atI xs 3 = xs[3]? := atI_nat xs 3
@[simp] theorem at_4 {α : Type} (xs : List α) : atI xs 4 = xs[4]? := atI_nat xs 4
@[simp] theorem at_5 {α : Type} (xs : List α) : atI xs 5 = xs[5]? := atI_nat xs 5
theorem atI_int {α : Type} {xs : List α} {i : Int} {x : α} (h0 : 0 ≤ i) (h : xs[i.toNat]? = some x) : atI xs i = some x := by
  have := atI_nat xs i.toNat
  rw [show ((i.toNat : Nat) : Int) = i by omega] at this
  rw [this]
  exact h
/-! ### a comprehension's list -/
structure LcI (S : List Addr) (G : Nat → List D) (M : DM) (p : Addr) (i : Nat) (M' : DM) : Prop where
  val : M' p = some (.lst (G i))
  keep : Keeps S M M'
theorem LcI.start {S : List Addr} {G : Nat → List D} {M : DM} {p : Addr} (hp : M p = none) (h : G 0 = []) : LcI S G M p 0 (updM M p (.lst [])) := ⟨by rw [updM_same, h], .new _ hp⟩
theorem LcI.step {S : List Addr} {G : Nat → List D} {M M' M4 : DM} {p : Addr} {i : Nat} {y : D} (I : LcI S G M p i M') (hp : M p = none) (hS : p ∉ S) (k : Keeps S M' M4) (hl : (G i).length < sizeLine) (e : G (i + 1) = G i ++ [y]) :
    ∃ acc, M4 p = some (.lst acc) ∧ acc.length < sizeLine ∧ LcI S G M p (i + 1) (updM M4 p (.lst (acc ++ [y]))) :=
  ⟨_, k _ _ hS I.val, hl, ⟨by rw [updM_same, e], (I.keep.trans k).over _ hp⟩⟩
theorem LcI.skip {S : List Addr} {G : Nat → List D} {M M' M4 : DM} {p : Addr} {i : Nat} (I : LcI S G M p i M') (hS : p ∉ S) (k : Keeps S M' M4) (e : G (i + 1) = G i) : LcI S G M p (i + 1) M4 :=
  ⟨by rw [e]; exact k _ _ hS I.val, I.keep.trans k⟩
theorem take_map {α β : Type} {f : α → β} {xs : List α} {i : Nat} {x : α} (h : xs[i]? = some x) : (xs.take (i + 1)).map f = (xs.take i).map f ++ [f x] := by
  rw [List.take_add_one, h]
  simp
theorem take_len {α β : Type} {f : α → β} {xs : List α} {i : Nat} (h : xs.length < sizeLine) : ((xs.take i).map f).length < sizeLine := by
  rw [List.length_map, List.length_take]
  omega
theorem not_mem_none {M : DM} {p : Addr} {S : List Addr} (hp : M p = none) (h : ∀ a ∈ S, M a ≠ none) : p ∉ S := fun z => h p z hp
theorem len_line {n : Nat} (h : n < 1000000) : n < sizeLine := by rw [sizeLine_eq]; omega
def mapT {α : Type} (f : α → D) (xs : List α) (i : Nat) : List D := (xs.take i).map f
theorem mapT_step {α : Type} {f : α → D} {xs : List α} {i : Nat} {x : α} (h : xs[i]? = some x) : mapT f xs (i + 1) = mapT f xs i ++ [f x] := take_map h
theorem mapT_len {α : Type} {f : α → D} {xs : List α} {i : Nat} (h : xs.length < 1000000) : (mapT f xs i).length < sizeLine := take_len (len_line h)
theorem mapT_all {α : Type} {f : α → D} {xs : List α} : mapT f xs xs.length = xs.map f := by unfold mapT; rw [List.take_length]
theorem mapT_zero {α : Type} {f : α → D} {xs : List α} : mapT f xs 0 = [] := rfl
/-- a comprehension over xs with one item for each -/
theorem LcI.goes {α : Type} {S : List Addr} {f : α → D} {xs : List α} {M M' M4 : DM} {p : Addr} {i : Nat} {x : α} {y : D} (I : LcI S (mapT f xs) M p i M') (hp : M p = none) (hS : p ∉ S) (k : Keeps S M' M4) (hl : xs.length < 1000000) (e : xs[i]? = some x) (ey : y = f x) :
    ∃ acc, M4 p = some (.lst acc) ∧ acc.length < sizeLine ∧ LcI S (mapT f xs) M p (i + 1) (updM M4 p (.lst (acc ++ [y]))) := I.step hp hS k (mapT_len hl) (by rw [mapT_step e, ey])
theorem LcI.all {α : Type} {S : List Addr} {f : α → D} {xs : List α} {M M' : DM} {p : Addr} (I : LcI S (mapT f xs) M p xs.length M') : M' p = some (.lst (xs.map f)) := by
  have := I.val
  rwa [mapT_all] at this
theorem LcI.begin {α : Type} {S : List Addr} {f : α → D} {xs : List α} {M : DM} {p : Addr} (hp : M p = none) : LcI S (mapT f xs) M p 0 (updM M p (.lst [])) := .start hp rfl
/-! ### loops over few things, one turn behind another -/
def chainF (g : DG) (r : DS) (nx : DSt → DM → Prop) (rt : DQ) (st : DM → Prop) : List D → DSt → DM → Prop
  | [], S, M => st M ∧ nx S M
  | d :: ds, S, M => st M ∧ g d S M fun S2 M2 => r { nx := chainF g r nx rt st ds, ct := chainF g r nx rt st ds, bk := nx, rt := rt } S2 M2
theorem chainF_st {g : DG} {r : DS} {nx : DSt → DM → Prop} {rt : DQ} {st : DM → Prop} : ∀ {ds : List D} {S : DSt} {M : DM}, chainF g r nx rt st ds S M → st M
  | [], _, _, h => h.1
  | _ :: _, _, _, h => h.1
theorem for_chain {g : DG} {r : DS} {nx : DSt → DM → Prop} {rt : DQ} {st : DM → Prop} {items : List D} {S : DSt} {M : DM} (h : chainF g r nx rt st items S M) :
    ∃ Pv : Nat → DSt → DM → Prop, Pv 0 S M ∧ (∀ i S M, i ≤ items.length → Pv i S M → st M) ∧
      (∀ i d S M, items[i]? = some d → Pv i S M → g d S M fun S2 M2 => r { nx := Pv (i + 1), ct := Pv (i + 1), bk := nx, rt := rt } S2 M2) ∧ ∀ S M, Pv items.length S M → nx S M := by
  refine ⟨fun i => chainF g r nx rt st (items.drop i), h, fun i S M _ h => chainF_st h, fun i d S M e h => ?_, fun S M h => ?_⟩
  · have ed : items.drop i = d :: items.drop (i + 1) := by
      obtain ⟨hi, rfl⟩ := List.getElem?_eq_some_iff.mp e
      exact (List.getElem_cons_drop hi).symm
    have h' : chainF g r nx rt st (items.drop i) S M := h
    rw [ed] at h'
    exact h'.2
  · have h' : chainF g r nx rt st (items.drop items.length) S M := h
    rw [List.drop_length] at h'
    exact h'.2
def chainL (g : DG) (tt : DT) (re : DE) (S : DSt) (p : Addr) (st : DM → Prop) (Q : DM → Prop) : List D → DM → Prop
  | [], M => st M ∧ Q M
  | d :: ds, M => st M ∧ g d S M fun S2 M2 => tt S2 M2 fun b M3 => if b = true then re S2 M3 fun y M4 => ∃ acc, M4 p = some (.lst acc) ∧ acc.length < sizeLine ∧ chainL g tt re S p st Q ds (updM M4 p (.lst (acc ++ [y]))) else chainL g tt re S p st Q ds M3
theorem chainL_st {g : DG} {tt : DT} {re : DE} {S : DSt} {p : Addr} {st : DM → Prop} {Q : DM → Prop} : ∀ {ds : List D} {M : DM}, chainL g tt re S p st Q ds M → st M
  | [], _, h => h.1
  | _ :: _, _, h => h.1
theorem lc_chain {g : DG} {tt : DT} {re : DE} {S : DSt} {p : Addr} {st : DM → Prop} {Q : DM → Prop} {items : List D} {M : DM} (h : chainL g tt re S p st Q items M) :
    ∃ Pv : Nat → DM → Prop, Pv 0 M ∧ (∀ i M, i ≤ items.length → Pv i M → st M) ∧
      (∀ i d M, items[i]? = some d → Pv i M → g d S M fun S2 M2 => tt S2 M2 fun b M3 => if b = true then re S2 M3 fun y M4 => ∃ acc, M4 p = some (.lst acc) ∧ acc.length < sizeLine ∧ Pv (i + 1) (updM M4 p (.lst (acc ++ [y]))) else Pv (i + 1) M3) ∧ ∀ M, Pv items.length M → Q M := by
  refine ⟨fun i => chainL g tt re S p st Q (items.drop i), h, fun i M _ h => chainL_st h, fun i d M e h => ?_, fun M h => ?_⟩
  · have ed : items.drop i = d :: items.drop (i + 1) := by
      obtain ⟨hi, rfl⟩ := List.getElem?_eq_some_iff.mp e
      exact (List.getElem_cons_drop hi).symm
    have h' : chainL g tt re S p st Q (items.drop i) M := h
    rw [ed] at h'
    exact h'.2
  · have h' : chainL g tt re S p st Q (items.drop items.length) M := h
    rw [List.drop_length] at h'
    exact h'.2
end PyD

namespace Law
open PySem PySem.Spec PyProof.Rows L2 PyD
/-! ### clauses -/
def Clash (ls : List Int) : Prop := ∃ x ∈ ls, -x ∈ ls
instance (ls : List Int) : Decidable (Clash ls) := inferInstanceAs (Decidable (∃ x ∈ ls, -x ∈ ls))
def absL (ls : List Int) : List Int := ls.map fun i => (i.natAbs : Int)
def canon (ls : List Int) : List Int := (sortI (ddI (absL ls))).map fun a => if a ∈ ls then a else -a
def cl (ls : List Int) : List (List Int) := if Clash ls then [] else [canon ls]
theorem mem_canon {ls : List Int} {k : Int} (h : ¬ Clash ls) : k ∈ canon ls ↔ k ∈ ls := by
  unfold canon
  rw [List.mem_map]
  constructor
  · rintro ⟨a, ha, rfl⟩
    rw [(sortI_perm _).mem_iff, mem_ddI] at ha
    obtain ⟨x, hx, rfl⟩ := List.mem_map.mp ha
    split
    · assumption
    · rename_i hn
      have : x = -(x.natAbs : Int) := by
        by_cases hx0 : 0 ≤ x
        · exfalso; apply hn; have e : (x.natAbs : Int) = x := by omega
          rw [e]; exact hx
        · omega
      rw [← this]; exact hx
  · intro hk
    refine ⟨k.natAbs, ?_, ?_⟩
    · rw [(sortI_perm _).mem_iff, mem_ddI]
      exact List.mem_map.mpr ⟨k, hk, rfl⟩
    · by_cases h0 : 0 ≤ k
      · have e : (k.natAbs : Int) = k := by omega
        rw [e, if_pos hk]
      · have e : (k.natAbs : Int) = -k := by omega
        rw [e, if_neg fun z => h ⟨k, hk, z⟩]
        omega
theorem nodup_len {l m : List Int} (hl : l.Nodup) (h : ∀ k ∈ l, k ∈ m) : l.length ≤ m.length := by
  induction l generalizing m with
  | nil => simp
  | cons x l ih =>
    obtain ⟨h1, h2⟩ := List.nodup_cons.mp hl
    obtain ⟨m1, m2, rfl⟩ := List.append_of_mem (h x (List.mem_cons_self ..))
    have := ih (m := m1 ++ m2) h2 fun k hk => by
      have q := h k (List.mem_cons_of_mem _ hk)
      rw [List.mem_append, List.mem_cons] at q
      rw [List.mem_append]
      rcases q with q | q | q
      · exact .inl q
      · subst q; exact absurd hk h1
      · exact .inr q
    simp at this ⊢
    omega
theorem map_abs_nodup {l ls : List Int} (hc : ¬ Clash ls) (hs : ∀ k ∈ l, k ∈ ls) (hl : l.Nodup) : (absL l).Nodup := by
  induction l with
  | nil => exact List.nodup_nil
  | cons x l ih =>
    obtain ⟨h1, h2⟩ := List.nodup_cons.mp hl
    refine List.nodup_cons.mpr ⟨fun z => ?_, ih (fun k hk => hs k (List.mem_cons_of_mem _ hk)) h2⟩
    obtain ⟨y, hy, e⟩ := List.mem_map.mp z
    have e0 : (y.natAbs : Int) = x.natAbs := e
    have e' : y = x ∨ y = -x := by omega
    rcases e' with e' | e'
    · subst e'; exact h1 hy
    · subst e'
      exact hc ⟨x, hs x (List.mem_cons_self ..), hs _ (List.mem_cons_of_mem _ hy)⟩
/-- the law's way: a clause is put if as many letters stand there as literals -/
theorem put_iff {ls : List Int} (h0 : ∀ x ∈ ls, x ≠ 0) : (ddI ls).length = (ddI (absL ls)).length ↔ ¬ Clash ls := by
  constructor
  · rintro e ⟨x, hx, hx'⟩
    have hx0 := h0 x hx
    -- the letters are at most the literals but x
    have hm : x ∈ ddI ls := mem_ddI.mpr hx
    obtain ⟨m1, m2, em⟩ := List.append_of_mem hm
    have le := nodup_len (nodup_ddI (absL ls)) (m := absL (m1 ++ m2)) fun k hk => by
      rw [mem_ddI] at hk
      obtain ⟨y, hy, rfl⟩ := List.mem_map.mp hk
      have hy' : y ∈ ddI ls := mem_ddI.mpr hy
      rw [em, List.mem_append, List.mem_cons] at hy'
      by_cases e : y = x
      · subst e
        have hn : -y ∈ ddI ls := mem_ddI.mpr hx'
        rw [em, List.mem_append, List.mem_cons] at hn
        refine List.mem_map.mpr ⟨-y, ?_, by omega⟩
        rw [List.mem_append]
        rcases hn with q | q | q
        · exact .inl q
        · omega
        · exact .inr q
      · refine List.mem_map.mpr ⟨y, ?_, rfl⟩
        rw [List.mem_append]
        rcases hy' with q | q | q
        · exact .inl q
        · exact absurd q e
        · exact .inr q
    rw [← e, em] at le
    simp [absL] at le
    omega
  · intro hc
    have p : (absL (ddI ls)).Perm (ddI (absL ls)) := nodup_perm (map_abs_nodup hc (fun k hk => mem_ddI.mp hk) (nodup_ddI ls)) (nodup_ddI _) fun k => by
      rw [mem_ddI]
      constructor
      · intro h
        obtain ⟨y, hy, rfl⟩ := List.mem_map.mp h
        exact List.mem_map.mpr ⟨y, mem_ddI.mp hy, rfl⟩
      · intro h
        obtain ⟨y, hy, rfl⟩ := List.mem_map.mp h
        exact List.mem_map.mpr ⟨y, mem_ddI.mpr hy, rfl⟩
    have := p.length_eq
    simpa [absL] using this
/-- by what stands in ks, sorted by letters -/
theorem sortA_canon {ls ks : List Int} (hc : ¬ Clash ls) (hn : ks.Nodup) (hm : ∀ k, k ∈ ks ↔ k ∈ ls) : sortA ks = canon ls := by
  have pA : (sortA ks).Perm ks := List.mergeSort_perm ks _
  have sA : (absL (sortA ks)).Pairwise (· ≤ ·) := by
    have h := List.pairwise_mergeSort (le := fun a b : Int => decide (a.natAbs ≤ b.natAbs)) (by intro a b c h1 h2; simp at *; omega) (by intro a b; simp; omega) ks
    unfold absL
    rw [List.pairwise_map]
    exact h.imp (by intro a b h; simp at h; omega)
  have eC : absL (canon ls) = sortI (ddI (absL ls)) := by
    unfold canon absL
    rw [List.map_map]
    have key : ∀ a ∈ sortI (ddI (ls.map fun i => (i.natAbs : Int))), (((if a ∈ ls then a else -a : Int)).natAbs : Int) = a := by
      intro a ha
      rw [(sortI_perm _).mem_iff, mem_ddI] at ha
      obtain ⟨x, _, rfl⟩ := List.mem_map.mp ha
      split <;> omega
    rw [List.map_congr_left (g := id)]
    · simp
    · intro a ha
      exact key a ha
  have sC : (absL (canon ls)).Pairwise (· ≤ ·) := by rw [eC]; exact sortI_pw _
  have hks : ¬ Clash ks := fun ⟨x, h1, h2⟩ => hc ⟨x, (hm x).mp h1, (hm _).mp h2⟩
  have p : (absL (sortA ks)).Perm (absL (canon ls)) := by
    rw [eC]
    refine (List.Perm.map _ pA).trans ((nodup_perm (map_abs_nodup hks (fun k hk => hk) hn) (nodup_ddI _) fun k => ?_).trans (sortI_perm _).symm)
    rw [mem_ddI]
    constructor
    · intro h
      obtain ⟨y, hy, rfl⟩ := List.mem_map.mp h
      exact List.mem_map.mpr ⟨y, (hm y).mp hy, rfl⟩
    · intro h
      obtain ⟨y, hy, rfl⟩ := List.mem_map.mp h
      exact List.mem_map.mpr ⟨y, (hm y).mpr hy, rfl⟩
  have e := sorted_unique sA sC p
  have inj : ∀ (l m : List Int), (∀ k ∈ l, k ∈ ls) → (∀ k ∈ m, k ∈ ls) → absL l = absL m → l = m := by
    intro l
    induction l with
    | nil => intro m _ _ e; cases m with
      | nil => rfl
      | cons _ _ => simp [absL] at e
    | cons x l ih =>
      intro m h1 h2 e
      cases m with
      | nil => simp [absL] at e
      | cons y m =>
        simp only [absL, List.map_cons, List.cons.injEq] at e
        have ht := ih m (fun k hk => h1 k (List.mem_cons_of_mem _ hk)) (fun k hk => h2 k (List.mem_cons_of_mem _ hk)) e.2
        have hx := h1 x (List.mem_cons_self ..)
        have hy := h2 y (List.mem_cons_self ..)
        have e1 : x = y ∨ y = -x := by omega
        rcases e1 with e1 | e1
        · rw [e1, ht]
        · subst e1; exact absurd ⟨x, hx, hy⟩ hc
  exact inj _ _ (fun k hk => (hm k).mp (pA.mem_iff.mp hk)) (fun k hk => (mem_canon hc).mp hk) e
end Law

namespace Law
open PySem PySem.Spec PyProof.Rows L2 PyD
/-! ### graphs -/
structure Gr where
  ins : Int
  regs : List (Int × Int)
  ands : List (Int × Int)
  outs : List Int
def prD (p : Int × Int) : D := .tup [.int p.1, .int p.2]
def gD (g : Gr) : D := .tup [.int g.ins, .tup (g.regs.map prD), .tup (g.ands.map prD), .tup (g.outs.map .int)]
def fstG (g : Gr) : Int := 1 + g.ins + g.regs.length
def sizG (g : Gr) : Int := 1 + g.ins + g.regs.length + g.ands.length
def far (l s : Int) : Int := if l % 2 = 0 then l / 2 + 1 + s else -(l / 2 + 1 + s)
def and3 (y a b : Int) : List (List Int) := cl [-y, a] ++ cl [-y, b] ++ cl [y, -a, -b]
def same2 (z x : Int) : List (List Int) := cl [-z, x] ++ cl [z, -x]
def gclF (y s : Int) : List (Int × Int) → List (List Int)
  | [] => []
  | p :: r => and3 y (far p.1 s) (far p.2 s) ++ gclF (y + 1) s r
def gcl (g : Gr) (s : Int) : List (List Int) := [-1 - s] :: gclF (fstG g + 1 + s) s g.ands
def regF (z s : Int) : List (Int × Int) → List (List Int)
  | [] => []
  | p :: r => same2 z (far p.2 s) ++ regF (z + 1) s r
def unrF (g : Gr) : Nat → List (List Int)
  | 0 => []
  | n + 1 => unrF g n ++ gcl g (n * sizG g) ++ (if n = 0 then [] else regF (n * sizG g + g.ins + 2) (((n : Int) - 1) * sizG g) g.regs)
def staF (z : Int) : List (Int × Int) → List (List Int)
  | [] => []
  | p :: r => [if p.1 = 1 then z else -z] :: staF (z + 1) r
theorem gclF_snoc {y s : Int} {p : Int × Int} : ∀ r : List (Int × Int), gclF y s (r ++ [p]) = gclF y s r ++ and3 (y + r.length) (far p.1 s) (far p.2 s)
  | [] => by simp [gclF]
  | q :: r => by
    have e : y + 1 + (r.length : Int) = y + ((q :: r).length : Nat) := by simp; omega
    rw [List.cons_append, gclF, gclF, gclF_snoc r, e, List.append_assoc]
theorem regF_snoc {z s : Int} {p : Int × Int} : ∀ r : List (Int × Int), regF z s (r ++ [p]) = regF z s r ++ same2 (z + r.length) (far p.2 s)
  | [] => by simp [regF]
  | q :: r => by
    have e : z + 1 + (r.length : Int) = z + ((q :: r).length : Nat) := by simp; omega
    rw [List.cons_append, regF, regF, regF_snoc r, e, List.append_assoc]
/-! ### values -/
def lit (vs : List Int) (l : Int) : Int := Builtin.bitXor (vs.getD (l / 2).toNat 0) (l % 2)
def stp (vs : List Int) (p : Int × Int) : List Int := vs ++ [Builtin.bitAnd (lit vs p.1) (lit vs p.2)]
def nodesF : List (Int × Int) → List Int → List Int
  | [], vs => vs
  | p :: r, vs => nodesF r (stp vs p)
theorem nodesF_snoc {p : Int × Int} : ∀ (r : List (Int × Int)) (vs : List Int), nodesF (r ++ [p]) vs = stp (nodesF r vs) p
  | [], _ => rfl
  | q :: r, vs => nodesF_snoc r (stp vs q)
def nodes (g : Gr) (st lot : List Int) : List Int := nodesF g.ands (0 :: (lot ++ st))
def Bit (x : Int) : Prop := x = 0 ∨ x = 1
def Bits (vs : List Int) : Prop := ∀ x ∈ vs, Bit x
theorem bx00 : Builtin.bitXor 0 0 = 0 := by decide
theorem bx01 : Builtin.bitXor 0 1 = 1 := by decide
theorem bx10 : Builtin.bitXor 1 0 = 1 := by decide
theorem bx11 : Builtin.bitXor 1 1 = 0 := by decide
theorem ba00 : Builtin.bitAnd 0 0 = 0 := by decide
theorem ba01 : Builtin.bitAnd 0 1 = 0 := by decide
theorem ba10 : Builtin.bitAnd 1 0 = 0 := by decide
theorem ba11 : Builtin.bitAnd 1 1 = 1 := by decide
theorem getD_bit {vs : List Int} (h : Bits vs) (n : Nat) : Bit (vs.getD n 0) := by
  rw [List.getD_eq_getElem?_getD]
  cases e : vs[n]? with
  | none => exact .inl rfl
  | some x => exact h x (List.mem_of_getElem? e)
theorem lit_bit {vs : List Int} (h : Bits vs) (l : Int) : Bit (lit vs l) := by
  unfold lit
  have h2 : l % 2 = 0 ∨ l % 2 = 1 := by omega
  rcases getD_bit h (l / 2).toNat with e | e <;> rcases h2 with e2 | e2 <;> rw [e, e2] <;> first | exact .inl (by decide) | exact .inr (by decide)
theorem and_bit {a b : Int} (ha : Bit a) (hb : Bit b) : Bit (Builtin.bitAnd a b) := by
  rcases ha with rfl | rfl <;> rcases hb with rfl | rfl <;> first | exact .inl (by decide) | exact .inr (by decide)
theorem stp_bits {vs : List Int} (h : Bits vs) (p : Int × Int) : Bits (stp vs p) := fun x hx => by
  rcases List.mem_append.mp hx with q | q
  · exact h x q
  · rw [List.mem_singleton.mp q]
    exact and_bit (lit_bit h _) (lit_bit h _)
theorem nodesF_bits : ∀ (r : List (Int × Int)) {vs : List Int}, Bits vs → Bits (nodesF r vs)
  | [], _, h => h
  | p :: r, _, h => nodesF_bits r (stp_bits h p)
theorem nodesF_length : ∀ (r : List (Int × Int)) (vs : List Int), (nodesF r vs).length = vs.length + r.length
  | [], _ => rfl
  | p :: r, vs => by
    rw [nodesF, nodesF_length r, stp]
    simp; omega
theorem nodesF_pre : ∀ (r : List (Int × Int)) (vs : List Int), ∃ t, nodesF r vs = vs ++ t
  | [], vs => ⟨[], by simp [nodesF]⟩
  | p :: r, vs => by
    obtain ⟨t, e⟩ := nodesF_pre r (stp vs p)
    exact ⟨_, by rw [nodesF, e, stp, List.append_assoc]⟩
theorem nodesF_get {r : List (Int × Int)} {vs : List Int} {n : Nat} (h : n < vs.length) : (nodesF r vs)[n]? = vs[n]? := by
  obtain ⟨t, e⟩ := nodesF_pre r vs
  rw [e, List.getElem?_append_left h]
theorem lit_pre {r : List (Int × Int)} {vs : List Int} {l : Int} (h0 : 0 ≤ l) (h : l / 2 < vs.length) : lit (nodesF r vs) l = lit vs l := by
  unfold lit
  rw [List.getD_eq_getElem?_getD, List.getD_eq_getElem?_getD, nodesF_get (by omega)]
/-- the literals of and nodes stand ahead of them -/
def WFa (n : Int) : List (Int × Int) → Prop
  | [] => True
  | p :: r => (0 ≤ p.1 ∧ p.1 / 2 < n ∧ 0 ≤ p.2 ∧ p.2 / 2 < n) ∧ WFa (n + 1) r
theorem WFa.get : ∀ {r : List (Int × Int)} {n : Int} {j : Nat} {p : Int × Int}, WFa n r → r[j]? = some p → 0 ≤ p.1 ∧ p.1 / 2 < n + j ∧ 0 ≤ p.2 ∧ p.2 / 2 < n + j
  | [], _, _, _, _, e => by simp at e
  | q :: r, n, 0, p, h, e => by
    simp at e
    subst e
    have := h.1
    refine ⟨this.1, ?_, this.2.2.1, ?_⟩ <;> simp <;> omega
  | q :: r, n, j + 1, p, h, e => by
    have := WFa.get (j := j) h.2 (by simpa using e)
    refine ⟨this.1, ?_, this.2.2.1, ?_⟩ <;> push_cast <;> omega
theorem WFa.append : ∀ {r t : List (Int × Int)} {n : Int}, WFa n r → WFa (n + r.length) t → WFa n (r ++ t)
  | [], t, n, _, h => by simpa using h
  | q :: r, t, n, h, h' => ⟨h.1, WFa.append h.2 (by
      have e : n + 1 + (r.length : Int) = n + ((q :: r).length : Nat) := by simp; omega
      rw [e]; exact h')⟩
theorem node_val : ∀ {r : List (Int × Int)} {vs : List Int} {j : Nat} {p : Int × Int}, WFa vs.length r → r[j]? = some p →
    (nodesF r vs)[vs.length + j]? = some (Builtin.bitAnd (lit (nodesF r vs) p.1) (lit (nodesF r vs) p.2))
  | [], _, _, _, _, e => by simp at e
  | q :: r, vs, 0, p, h, e => by
    simp at e
    subst e
    have hs : (stp vs q).length = vs.length + 1 := by simp [stp]
    have h1 := h.1
    rw [lit_pre (r := q :: r) h1.1 h1.2.1, lit_pre (r := q :: r) h1.2.2.1 h1.2.2.2, nodesF, nodesF_get (by omega)]
    simp [stp]
  | q :: r, vs, j + 1, p, h, e => by
    have hs : (stp vs q).length = vs.length + 1 := by simp [stp]
    have := node_val (vs := stp vs q) (j := j) (p := p) (by rw [hs]; push_cast; exact h.2) (by simpa using e)
    rw [nodesF, ← this]
    congr 1
    omega
/-! ### truths -/
def Tru (f : Int → Option D) (x : Int) : Prop := f x.natAbs = some (.int x)
def Kept (f : Int → Option D) (cls : List (List Int)) : Prop := ∀ c ∈ cls, ∃ x ∈ c, Tru f x
def At (f : Int → Option D) (s : Int) (vs : List Int) : Prop := ∀ (n : Nat) (v : Int), vs[n]? = some v → f (s + n + 1) = some (.int (if v = 1 then s + n + 1 else -(s + n + 1)))
theorem Kept.append {f : Int → Option D} {a b : List (List Int)} : Kept f (a ++ b) ↔ Kept f a ∧ Kept f b :=
  ⟨fun h => ⟨fun c hc => h c (List.mem_append_left _ hc), fun c hc => h c (List.mem_append_right _ hc)⟩, fun h c hc => (List.mem_append.mp hc).elim (h.1 c) (h.2 c)⟩
theorem Kept.nil {f : Int → Option D} : Kept f [] := fun c hc => by cases hc
theorem Kept.cons {f : Int → Option D} {c : List Int} {r : List (List Int)} : Kept f (c :: r) ↔ (∃ x ∈ c, Tru f x) ∧ Kept f r :=
  ⟨fun h => ⟨h c (List.mem_cons_self ..), fun d hd => h d (List.mem_cons_of_mem _ hd)⟩, fun h d hd => (List.mem_cons.mp hd).elim (fun e => by rw [e]; exact h.1) (h.2 d)⟩
theorem kept_cl {f : Int → Option D} {ls : List Int} (h : ∃ x ∈ ls, Tru f x) : Kept f (cl ls) := by
  unfold cl
  split
  · exact Kept.nil
  · rename_i hc
    obtain ⟨x, hx, ht⟩ := h
    exact Kept.cons.mpr ⟨⟨x, (mem_canon hc).mpr hx, ht⟩, Kept.nil⟩
theorem not_kept_cl {f : Int → Option D} {ls : List Int} (h : ∀ x ∈ ls, ¬ Tru f x) (tot : ∀ x ∈ ls, Tru f x ∨ Tru f (-x)) : ¬ Kept f (cl ls) := by
  have hc : ¬ Clash ls := fun ⟨x, h1, h2⟩ => by
    rcases tot x h1 with q | q
    · exact h x h1 q
    · exact h _ h2 q
  unfold cl
  rw [if_neg hc]
  intro k
  obtain ⟨x, hx, ht⟩ := k _ (List.mem_cons_self ..)
  exact h x ((mem_canon hc).mp hx) ht
section
variable {f : Int → Option D} {s : Int} {vs : List Int} {l : Int}
theorem letter_tru {n : Nat} {v : Int} (a : At f s vs) (h : vs[n]? = some v) (hs : 0 ≤ s) : (Tru f (s + n + 1) ↔ v = 1) ∧ (Tru f (-(s + n + 1)) ↔ v ≠ 1) := by
  have e := a n v h
  have e1 : ((s + n + 1).natAbs : Int) = s + n + 1 := by omega
  have e2 : ((-(s + n + 1)).natAbs : Int) = s + n + 1 := by omega
  unfold Tru
  rw [e1, e2, e]
  constructor
  · constructor
    · intro q
      have q' := D.int.inj (Option.some.inj q)
      split at q'
      · assumption
      · omega
    · intro q
      rw [if_pos q]
  · constructor
    · intro q z
      rw [if_pos z] at q
      have q' := D.int.inj (Option.some.inj q)
      omega
    · intro q
      rw [if_neg q]
theorem far_tru (a : At f s vs) (b : Bits vs) (hs : 0 ≤ s) (h0 : 0 ≤ l) (hl : l / 2 < vs.length) : (Tru f (far l s) ↔ lit vs l = 1) ∧ (Tru f (-far l s) ↔ lit vs l = 0) := by
  obtain ⟨v, hv⟩ : ∃ v, vs[(l / 2).toNat]? = some v := ⟨_, List.getElem?_eq_getElem (by omega)⟩
  have hb : Bit v := b v (List.mem_of_getElem? hv)
  have t := letter_tru a hv hs
  have e1 : (((l / 2).toNat : Nat) : Int) = l / 2 := by omega
  rw [e1] at t
  have e2 : s + l / 2 + 1 = l / 2 + 1 + s := by omega
  rw [e2] at t
  have eg : vs.getD (l / 2).toNat 0 = v := by rw [List.getD_eq_getElem?_getD, hv]; rfl
  unfold far lit
  rw [eg]
  by_cases hp : l % 2 = 0
  · rw [if_pos hp, hp, t.1, t.2]
    rcases hb with rfl | rfl
    · rw [bx00]; simp
    · rw [bx10]; simp
  · have hp1 : l % 2 = 1 := by omega
    rw [if_neg hp, hp1, Int.neg_neg, t.1, t.2]
    rcases hb with rfl | rfl
    · rw [bx01]; simp
    · rw [bx11]; simp
theorem far_tot (a : At f s vs) (b : Bits vs) (hs : 0 ≤ s) (h0 : 0 ≤ l) (hl : l / 2 < vs.length) : Tru f (far l s) ∨ Tru f (-far l s) := by
  rcases lit_bit b l with e | e
  · exact .inr ((far_tru a b hs h0 hl).2.mpr e)
  · exact .inl ((far_tru a b hs h0 hl).1.mpr e)
/-- an and node's clauses: kept if the value is right -/
theorem and3_kept {n : Nat} {p q v : Int} (a : At f s vs) (b : Bits vs) (hs : 0 ≤ s) (hn : vs[n]? = some v) (hp : 0 ≤ p) (hq : 0 ≤ q) (lp : p / 2 < vs.length) (lq : q / 2 < vs.length) :
    Kept f (and3 (s + n + 1) (far p s) (far q s)) ↔ v = Builtin.bitAnd (lit vs p) (lit vs q) := by
  have ty := letter_tru a hn hs
  have tp := far_tru a b hs hp lp
  have tq := far_tru a b hs hq lq
  have hv : Bit v := b v (List.mem_of_getElem? hn)
  have toty : Tru f (s + n + 1) ∨ Tru f (-(s + n + 1)) := by
    rcases hv with e | e
    · exact .inr (ty.2.mpr (by omega))
    · exact .inl (ty.1.mpr e)
  have totp := far_tot a b hs hp lp
  have totq := far_tot a b hs hq lq
  have nn : ∀ x : Int, - -x = x := Int.neg_neg
  unfold and3
  rw [Kept.append, Kept.append]
  constructor
  · intro ⟨⟨k1, k2⟩, k3⟩
    rcases lit_bit b p with ep | ep <;> rcases lit_bit b q with eq | eq <;> rw [ep, eq] <;> rcases hv with ev | ev
    · rw [ba00, ev]
    · exfalso
      refine not_kept_cl (ls := [-(s + n + 1), far p s]) (fun x hx => ?_) (fun x hx => ?_) k1
      · simp at hx
        rcases hx with rfl | rfl
        · rw [ty.2]; omega
        · rw [tp.1, ep]; omega
      · simp at hx
        rcases hx with rfl | rfl
        · rw [nn]; exact toty.symm
        · exact totp
    · rw [ba01, ev]
    · exfalso
      refine not_kept_cl (ls := [-(s + n + 1), far p s]) (fun x hx => ?_) (fun x hx => ?_) k1
      · simp at hx
        rcases hx with rfl | rfl
        · rw [ty.2]; omega
        · rw [tp.1, ep]; omega
      · simp at hx
        rcases hx with rfl | rfl
        · rw [nn]; exact toty.symm
        · exact totp
    · rw [ba10, ev]
    · exfalso
      refine not_kept_cl (ls := [-(s + n + 1), far q s]) (fun x hx => ?_) (fun x hx => ?_) k2
      · simp at hx
        rcases hx with rfl | rfl
        · rw [ty.2]; omega
        · rw [tq.1, eq]; omega
      · simp at hx
        rcases hx with rfl | rfl
        · rw [nn]; exact toty.symm
        · exact totq
    · exfalso
      refine not_kept_cl (ls := [s + n + 1, -far p s, -far q s]) (fun x hx => ?_) (fun x hx => ?_) k3
      · simp at hx
        rcases hx with rfl | rfl | rfl
        · rw [ty.1]; omega
        · rw [tp.2, ep]; omega
        · rw [tq.2, eq]; omega
      · simp at hx
        rcases hx with rfl | rfl | rfl
        · exact toty
        · rw [nn]; exact totp.symm
        · rw [nn]; exact totq.symm
    · rw [ba11, ev]
  · intro e
    rcases hv with ev | ev
    · have ny : Tru f (-(s + n + 1)) := ty.2.mpr (by omega)
      refine ⟨⟨kept_cl ⟨_, List.mem_cons_self .., ny⟩, kept_cl ⟨_, List.mem_cons_self .., ny⟩⟩, ?_⟩
      rcases lit_bit b p with ep | ep
      · exact kept_cl ⟨-far p s, by simp, tp.2.mpr ep⟩
      · rcases lit_bit b q with eq | eq
        · exact kept_cl ⟨-far q s, by simp, tq.2.mpr eq⟩
        · rw [ep, eq, ba11] at e; omega
    · have py : Tru f (s + n + 1) := ty.1.mpr ev
      rcases lit_bit b p with ep | ep
      · exfalso
        rcases lit_bit b q with eq | eq <;> rw [ep, eq] at e <;> first | (rw [ba00] at e; omega) | (rw [ba01] at e; omega)
      · rcases lit_bit b q with eq | eq
        · exfalso; rw [ep, eq, ba10] at e; omega
        · exact ⟨⟨kept_cl ⟨far p s, by simp, tp.1.mpr ep⟩, kept_cl ⟨far q s, by simp, tq.1.mpr eq⟩⟩, kept_cl ⟨_, List.mem_cons_self .., py⟩⟩
end
end Law

namespace Law
open PySem PySem.Spec PyProof.Rows L2 PyD
theorem gclF_kept {f : Int → Option D} {s : Int} : ∀ {r : List (Int × Int)} {y : Int}, Kept f (gclF y s r) ↔ ∀ (j : Nat) (p : Int × Int), r[j]? = some p → Kept f (and3 (y + j) (far p.1 s) (far p.2 s))
  | [], y => by simp [gclF, Kept.nil]
  | q :: r, y => by
    rw [gclF, Kept.append, gclF_kept]
    constructor
    · rintro ⟨h1, h2⟩ j p e
      cases j with
      | zero => simp at e; subst e; simpa using h1
      | succ j =>
        have := h2 j p (by simpa using e)
        rw [show y + ((j + 1 : Nat) : Int) = y + 1 + j by push_cast; omega]
        exact this
    · intro h
      refine ⟨by simpa using h 0 q rfl, fun j p e => ?_⟩
      have := h (j + 1) p (by simpa using e)
      rw [show y + ((j + 1 : Nat) : Int) = y + 1 + j by push_cast; omega] at this
      exact this
theorem regF_kept {f : Int → Option D} {s : Int} : ∀ {r : List (Int × Int)} {z : Int}, Kept f (regF z s r) ↔ ∀ (j : Nat) (p : Int × Int), r[j]? = some p → Kept f (same2 (z + j) (far p.2 s))
  | [], z => by simp [regF, Kept.nil]
  | q :: r, z => by
    rw [regF, Kept.append, regF_kept]
    constructor
    · rintro ⟨h1, h2⟩ j p e
      cases j with
      | zero => simp at e; subst e; simpa using h1
      | succ j =>
        have := h2 j p (by simpa using e)
        rw [show z + ((j + 1 : Nat) : Int) = z + 1 + j by push_cast; omega]
        exact this
    · intro h
      refine ⟨by simpa using h 0 q rfl, fun j p e => ?_⟩
      have := h (j + 1) p (by simpa using e)
      rw [show z + ((j + 1 : Nat) : Int) = z + 1 + j by push_cast; omega] at this
      exact this
theorem staF_kept {f : Int → Option D} : ∀ {r : List (Int × Int)} {z : Int}, Kept f (staF z r) ↔ ∀ (j : Nat) (p : Int × Int), r[j]? = some p → Tru f (if p.1 = 1 then z + j else -(z + j))
  | [], z => by simp [staF, Kept.nil]
  | q :: r, z => by
    rw [staF, Kept.cons, staF_kept]
    constructor
    · rintro ⟨h1, h2⟩ j p e
      cases j with
      | zero => simp at e; subst e; simpa using h1
      | succ j =>
        have := h2 j p (by simpa using e)
        rw [show z + ((j + 1 : Nat) : Int) = z + 1 + j by push_cast; omega]
        exact this
    · intro h
      refine ⟨by simpa using h 0 q rfl, fun j p e => ?_⟩
      have := h (j + 1) p (by simpa using e)
      rw [show z + ((j + 1 : Nat) : Int) = z + 1 + j by push_cast; omega] at this
      exact this
/-- a graph that the law draws -/
structure Ok (g : Gr) : Prop where
  i0 : 0 ≤ g.ins
  i3 : g.ins ≤ 3
  r3 : g.regs.length ≤ 3
  a13 : g.ands.length ≤ 13
  o6 : g.outs.length ≤ 6
  wa : WFa (fstG g) g.ands
  wr : ∀ p ∈ g.regs, Bit p.1 ∧ 0 ≤ p.2 ∧ p.2 / 2 < sizG g
  wo : ∀ l ∈ g.outs, 0 ≤ l ∧ l / 2 < sizG g
section
variable {g : Gr} {st lot : List Int}
theorem start_len (h1 : lot.length = g.ins) (h2 : st.length = g.regs.length) : ((0 :: (lot ++ st)).length : Int) = fstG g := by
  simp [fstG]; omega
theorem start_bits (h1 : Bits lot) (h2 : Bits st) : Bits (0 :: (lot ++ st)) := fun x hx => by
  rcases List.mem_cons.mp hx with q | q
  · exact .inl q
  · rcases List.mem_append.mp q with q | q
    · exact h1 x q
    · exact h2 x q
theorem nodes_len (h1 : lot.length = g.ins) (h2 : st.length = g.regs.length) : ((nodes g st lot).length : Int) = sizG g := by
  have := start_len (g := g) h1 h2
  unfold nodes
  rw [nodesF_length]
  simp [fstG, sizG] at *
  omega
theorem nodes_bits (h1 : Bits lot) (h2 : Bits st) : Bits (nodes g st lot) := nodesF_bits _ (start_bits h1 h2)
theorem nodes_zero : (nodes g st lot)[0]? = some 0 := by
  unfold nodes
  rw [nodesF_get (by simp)]
  rfl
/-- the values of the nodes keep the clauses -/
theorem nodes_kept {f : Int → Option D} {s : Int} (ok : Ok g) (h1 : lot.length = g.ins) (h2 : st.length = g.regs.length) (b1 : Bits lot) (b2 : Bits st) (hs : 0 ≤ s) (a : At f s (nodes g st lot)) : Kept f (gcl g s) := by
  have L := nodes_len (g := g) h1 h2
  have B := nodes_bits (g := g) b1 b2
  have S := start_len (g := g) h1 h2
  unfold gcl
  rw [Kept.cons, gclF_kept]
  refine ⟨⟨-1 - s, by simp, ?_⟩, fun j p e => ?_⟩
  · have := (letter_tru a nodes_zero hs).2.mpr (by omega)
    rw [show -1 - s = -(s + (0 : Nat) + 1) by omega]
    exact this
  · have w := ok.wa.get e
    have hj : j < g.ands.length := (List.getElem?_eq_some_iff.mp e).1
    have nv := node_val (vs := 0 :: (lot ++ st)) (j := j) (p := p) (by rw [S]; exact ok.wa) e
    have ei : fstG g + 1 + s + (j : Int) = s + (((0 :: (lot ++ st)).length + j : Nat) : Int) + 1 := by push_cast [← S]; simp; omega
    rw [ei]
    have hb : fstG g + (j : Int) < sizG g := by simp [fstG, sizG]; omega
    exact (and3_kept a B hs nv w.1 w.2.2.1 (by rw [L]; omega) (by rw [L]; omega)).mpr rfl
theorem lit_set {vs : List Int} {n : Nat} {x l : Int} (h0 : 0 ≤ l) (h : l / 2 < n) : lit (vs.set n x) l = lit vs l := by
  unfold lit
  rw [List.getD_eq_getElem?_getD, List.getD_eq_getElem?_getD, List.getElem?_set_ne (by omega)]
theorem set_bits {vs : List Int} (h : Bits vs) (n : Nat) {x : Int} (hx : Bit x) : Bits (vs.set n x) := fun y hy => by
  rcases List.mem_or_eq_of_mem_set hy with q | q
  · exact h y q
  · rw [q]; exact hx
/-- one and node's value turned: some clause is broken -/
theorem flip_breaks {f : Int → Option D} {n : Nat} {v : Int} (ok : Ok g) (h1 : lot.length = g.ins) (h2 : st.length = g.regs.length) (b1 : Bits lot) (b2 : Bits st) (hn : (nodes g st lot)[n]? = some v)
    (hw : fstG g ≤ n ∨ (n = 0 ∧ g.ands = [])) (a : At f 0 ((nodes g st lot).set n (1 - v))) : ¬ Kept f (gcl g 0) := by
  have L := nodes_len (g := g) h1 h2
  have B := nodes_bits (g := g) b1 b2
  have S := start_len (g := g) h1 h2
  have hv : Bit v := B v (List.mem_of_getElem? hn)
  have hv' : Bit (1 - v) := by rcases hv with e | e <;> rw [e] <;> first | exact .inl rfl | exact .inr rfl
  have nl : n < (nodes g st lot).length := (List.getElem?_eq_some_iff.mp hn).1
  have hn' : ((nodes g st lot).set n (1 - v))[n]? = some (1 - v) := by rw [List.getElem?_set_self nl]
  unfold gcl
  rw [Kept.cons, gclF_kept]
  rintro ⟨k1, k2⟩
  rcases hw with hw | ⟨rfl, ha⟩
  · obtain ⟨j, hj⟩ : ∃ j : Nat, (n : Int) = fstG g + j := ⟨(n - fstG g).toNat, by omega⟩
    have hjl : j < g.ands.length := by simp [fstG, sizG] at *; omega
    obtain ⟨p, e⟩ : ∃ p, g.ands[j]? = some p := ⟨_, List.getElem?_eq_getElem hjl⟩
    have w := ok.wa.get e
    have nv := node_val (vs := 0 :: (lot ++ st)) (j := j) (p := p) (by rw [S]; exact ok.wa) e
    have en : (0 :: (lot ++ st)).length + j = n := by omega
    rw [en] at nv
    have kk := k2 j p e
    have ei : fstG g + 1 + 0 + (j : Int) = 0 + (n : Int) + 1 := by omega
    rw [ei] at kk
    have B' := set_bits B n hv'
    have q := (and3_kept a B' (Int.le_refl 0) hn' w.1 w.2.2.1 (by rw [List.length_set, L]; omega) (by rw [List.length_set, L]; omega)).mp kk
    rw [lit_set w.1 (by omega), lit_set w.2.2.1 (by omega)] at q
    have q2 : v = Builtin.bitAnd (lit (nodes g st lot) p.1) (lit (nodes g st lot) p.2) := by
      have := hn.symm.trans nv
      exact Option.some.inj this
    rw [← q2] at q
    omega
  · rw [nodes_zero] at hn
    cases hn
    obtain ⟨x, hx, ht⟩ := k1
    have ex : x = -1 - 0 := by simpa using hx
    subst ex
    have := (letter_tru a hn' (Int.le_refl 0)).2.mp (by simpa using ht)
    omega
end
/-! ### runs -/
def vals (g : Gr) (lots : Nat → List Int) : Nat → List Int × List Int
  | 0 => (g.regs.map (·.1), nodes g (g.regs.map (·.1)) (lots 0))
  | c + 1 =>
    let st := g.regs.map fun p => lit (vals g lots c).2 p.2
    (st, nodes g st (lots (c + 1)))
theorem vals_snd (g : Gr) (lots : Nat → List Int) (c : Nat) : (vals g lots c).2 = nodes g (vals g lots c).1 (lots c) := by cases c <;> rfl
theorem vals_len (g : Gr) (lots : Nat → List Int) (c : Nat) : (vals g lots c).1.length = g.regs.length := by cases c <;> simp [vals]
section
variable {g : Gr} {lots : Nat → List Int} {f : Int → Option D}
theorem vals_bits (ok : Ok g) (b : ∀ c, Bits (lots c)) : ∀ c, Bits (vals g lots c).1
  | 0 => fun x hx => by
    obtain ⟨p, hp, rfl⟩ := List.mem_map.mp hx
    exact (ok.wr p hp).1
  | c + 1 => fun x hx => by
    obtain ⟨p, hp, rfl⟩ := List.mem_map.mp hx
    rw [vals_snd]
    exact lit_bit (nodes_bits (b c) (vals_bits ok b c)) _
theorem node_reg {st lot : List Int} {j : Nat} {v : Int} (h1 : lot.length = g.ins) (h : st[j]? = some v) : (nodes g st lot)[1 + g.ins.toNat + j]? = some v := by
  have hj : j < st.length := (List.getElem?_eq_some_iff.mp h).1
  unfold nodes
  rw [nodesF_get (by simp; omega)]
  rw [show 1 + g.ins.toNat + j = (lot.length + j) + 1 by omega, List.getElem?_cons_succ, List.getElem?_append_right (by omega)]
  rw [show lot.length + j - lot.length = j by omega]
  exact h
theorem same2_kept {z x : Int} (tz : Tru f z ∨ Tru f (-z)) (h1 : Tru f z → Tru f x) (h2 : Tru f (-z) → Tru f (-x)) : Kept f (same2 z x) := by
  unfold same2
  rw [Kept.append]
  rcases tz with t | t
  · exact ⟨kept_cl ⟨x, by simp, h1 t⟩, kept_cl ⟨z, by simp, t⟩⟩
  · exact ⟨kept_cl ⟨-z, by simp, t⟩, kept_cl ⟨-x, by simp, h2 t⟩⟩
/-- a run's values keep the unrolled clauses -/
theorem run_kept (ok : Ok g) (hl : ∀ c, (lots c).length = g.ins) (b : ∀ c, Bits (lots c)) : ∀ (n : Nat), (∀ c < n, At f (c * sizG g) (vals g lots c).2) → Kept f (unrF g n)
  | 0, _ => Kept.nil
  | n + 1, a => by
    have ih := run_kept ok hl b n fun c hc => a c (by omega)
    have s0 : 0 ≤ sizG g := by have := ok.i0; simp [sizG]; omega
    have ns : (0 : Int) ≤ n * sizG g := Int.mul_nonneg (by omega) s0
    have an := a n (by omega)
    have vb := vals_bits ok b
    have vl := vals_len g lots
    rw [unrF, Kept.append, Kept.append]
    refine ⟨⟨ih, nodes_kept ok (hl n) (vl n) (b n) (vb n) ns (by rw [← vals_snd]; exact an)⟩, ?_⟩
    split
    · exact Kept.nil
    · rename_i hn
      rw [regF_kept]
      intro j p e
      have hp := ok.wr p (List.mem_of_getElem? e)
      have hj : j < g.regs.length := (List.getElem?_eq_some_iff.mp e).1
      obtain ⟨m, rfl⟩ : ∃ m, n = m + 1 := ⟨n - 1, by omega⟩
      have am := a m (by omega)
      have ms : (0 : Int) ≤ m * sizG g := Int.mul_nonneg (by omega) s0
      have Lm := nodes_len (g := g) (hl m) (vl m)
      rw [← vals_snd] at Lm
      have Bm : Bits (vals g lots m).2 := by rw [vals_snd]; exact nodes_bits (b m) (vb m)
      have ev : (vals g lots (m + 1)).1[j]? = some (lit (vals g lots m).2 p.2) := by
        show (g.regs.map fun p => lit (vals g lots m).2 p.2)[j]? = _
        rw [List.getElem?_map, e]
        rfl
      have en := node_reg (g := g) (hl (m + 1)) ev
      rw [← vals_snd] at en
      have tz := letter_tru an en ns
      have tx := far_tru am Bm ms hp.2.1 (by rw [Lm]; exact hp.2.2)
      have ez : ((m + 1 : Nat) : Int) * sizG g + g.ins + 2 + j = ((m + 1 : Nat) : Int) * sizG g + ((1 + g.ins.toNat + j : Nat) : Int) + 1 := by have := ok.i0; push_cast; omega
      have es : (((m + 1 : Nat) : Int) - 1) * sizG g = m * sizG g := by congr 1; push_cast; omega
      rw [ez, es]
      have hb := lit_bit Bm p.2
      refine same2_kept ?_ (fun t => tx.1.mpr (tz.1.mp t)) fun t => tx.2.mpr ?_
      · rcases hb with q | q
        · exact .inr (tz.2.mpr (by omega))
        · exact .inl (tz.1.mpr q)
      · have := tz.2.mp t
        rcases hb with q | q
        · exact q
        · exact absurd q this
theorem start_kept (ok : Ok g) (hl : ∀ c, (lots c).length = g.ins) (a : At f 0 (vals g lots 0).2) : Kept f (staF (g.ins + 2) g.regs) := by
  rw [staF_kept]
  intro j p e
  have hp := ok.wr p (List.mem_of_getElem? e)
  have ev : (vals g lots 0).1[j]? = some p.1 := by
    show (g.regs.map (·.1))[j]? = _
    rw [List.getElem?_map, e]
    rfl
  have en := node_reg (g := g) (hl 0) ev
  rw [← vals_snd] at en
  have tz := letter_tru a en (Int.le_refl 0)
  have ez : g.ins + 2 + (j : Int) = 0 + ((1 + g.ins.toNat + j : Nat) : Int) + 1 := by have := ok.i0; push_cast; omega
  rw [ez]
  split
  · rename_i h
    exact tz.1.mpr h
  · rename_i h
    exact tz.2.mpr h
end
end Law

namespace Law
open PySem PySem.Spec PyProof.Rows L2 PyD
def r_p_moved_literal : DS := (dSeq (dAsg (dOp dAdd (dOp dAdd (dOp dFDiv (dVar 0) (dC (.int 2))) (dC (.int 1))) (dVar 1)) (gN 2))
    (dRet (dIfE (dB (dOp dEq (dOp dMod (dVar 0) (dC (.int 2))) (dC (.int 0)))) (dVar 2) (dUn dNeg (dVar 2)))))
def r_l_far : DS := (dSeq (dAsg (dOp dAdd (dOp dAdd (dOp dFDiv (dVar 0) (dC (.int 2))) (dC (.int 1))) (dVar 1)) (gN 2))
    (dRet (dIfE (dB (dOp dEq (dOp dMod (dCB cInt (dCons (dVar 0) dNil)) (dC (.int 2))) (dC (.int 0)))) (dVar 2) (dUn dNeg (dVar 2)))))
def r_p_first_and : DS := (dRet (dOp dAdd (dOp dAdd (dC (.int 1)) (dOp dIx (dVar 0) (dC (.int 0)))) (dCB cLen (dCons (dOp dIx (dVar 0) (dC (.int 1))) dNil))))
def r_l_size : DS := (dRet (dOp dAdd (dOp dAdd (dOp dAdd (dC (.int 1)) (dOp dIx (dVar 0) (dC (.int 0)))) (dCB cLen (dCons (dOp dIx (dVar 0) (dC (.int 1))) dNil))) (dCB cLen (dCons (dOp dIx (dVar 0) (dC (.int 2))) dNil))))
def r_l_literal : DS := (dRet (dOp dBxor (dOp dIx (dVar 0) (dOp dFDiv (dVar 1) (dC (.int 2)))) (dOp dMul (dVar 2) (dOp dMod (dCB cInt (dCons (dVar 1) dNil)) (dC (.int 2))))))
def r_p_put_clause : DS := (dSeq (dAsg (dDc (dISeq (dVar 1)) (gN 3) dYes (dVar 3) (dC (.bl true)) [3]) (gN 2))
    (dIf (dNot (dB (dCB cAny (dCons (dLockE (dLc (dIKeys (dVar 2)) (gN 3) dYes (dOp dIn (dUn dNeg (dVar 3)) (dVar 2)) [3])) dNil)))) (dDrop (dMt mAppend (dVar 0) (dCons (dCB cTuple (dCons (dSortAbs (dVar 2)) dNil)) dNil))) dNext))
def r_l_put : DS := (dSeq (dAsg (dSortSet (dLc (dISeq (dVar 1)) (gN 3) dYes (dCB cAbs (dCons (dVar 3) dNil)) [3])) (gN 2))
    (dIf (dB (dOp dEq (dLenSet (dVar 1)) (dCB cLen (dCons (dVar 2) dNil)))) (dDrop (dMt mAppend (dVar 0) (dCons (dCB cTuple (dCons (dLc (dISeq (dVar 2)) (gN 4) dYes (dIfE (dB (dOp dIn (dVar 4) (dVar 1))) (dVar 4) (dUn dNeg (dVar 4))) [4]) dNil)) dNil))) dNext))
def sp_p_moved_literal : DSp := fun ds M R => ∃ l s, ds = [.int l, .int s] ∧ R (.int (far l s)) M
def sp_l_far : DSp := sp_p_moved_literal
def sp_p_first_and : DSp := fun ds M R => ∃ g, ds = [gD g] ∧ R (.int (fstG g)) M
def sp_l_size : DSp := fun ds M R => ∃ g, ds = [gD g] ∧ R (.int (sizG g)) M
def sp_l_literal : DSp := fun ds M R => ∃ v vs l, ds = [.ref v, .int l, .int 1] ∧ M v = some (.lst (vs.map .int)) ∧ 0 ≤ l ∧ l / 2 < (vs.length : Int) ∧ R (.int (lit vs l)) M
def sp_p_put_clause : DSp := fun ds M R => ∃ (c lp : Addr) (cs : List D) (ls : List Int), ds = [.ref c, .ref lp] ∧ M c = some (.lst cs) ∧ M lp = some (.lst (ls.map .int)) ∧ ls.length ≤ 60 ∧ cs.length < 1000000 ∧ (∀ x ∈ ls, x ≠ 0) ∧
  ∀ M', M' c = some (.lst (cs ++ cD (cl ls))) → Keeps [c] M M' → R .non M'
def sp_l_put : DSp := sp_p_put_clause
theorem len_p_moved_literal : ∀ ds M R, sp_p_moved_literal ds M R → ds.length = 2 := by rintro _ _ _ ⟨_, _, rfl, _⟩; rfl
theorem len_l_far : ∀ ds M R, sp_l_far ds M R → ds.length = 2 := by rintro _ _ _ ⟨_, _, rfl, _⟩; rfl
theorem len_p_first_and : ∀ ds M R, sp_p_first_and ds M R → ds.length = 1 := by rintro _ _ _ ⟨_, rfl, _⟩; rfl
theorem len_l_size : ∀ ds M R, sp_l_size ds M R → ds.length = 1 := by rintro _ _ _ ⟨_, rfl, _⟩; rfl
theorem len_l_literal : ∀ ds M R, sp_l_literal ds M R → ds.length = 3 := by rintro _ _ _ ⟨_, _, _, rfl, _⟩; rfl
theorem len_p_put_clause : ∀ ds M R, sp_p_put_clause ds M R → ds.length = 2 := by rintro _ _ _ ⟨_, _, _, _, rfl, _⟩; rfl
theorem len_l_put : ∀ ds M R, sp_l_put ds M R → ds.length = 2 := by rintro _ _ _ ⟨_, _, _, _, rfl, _⟩; rfl
theorem pure_p_moved_literal : ∀ ds M R, sp_p_moved_literal ds M R → r_p_moved_literal { nx := fun _ M' => R .non M', rt := R } (startS 3 ds) M := by
  rintro ds M R ⟨l, s, rfl, h⟩
  unfold far at h
  simp [r_p_moved_literal, CDiv]
  split
  · rename_i e; rw [if_pos e] at h; exact h
  · rename_i e; rw [if_neg e] at h; exact h
theorem pure_l_far : ∀ ds M R, sp_l_far ds M R → r_l_far { nx := fun _ M' => R .non M', rt := R } (startS 3 ds) M := by
  rintro ds M R ⟨l, s, rfl, h⟩
  unfold far at h
  simp [r_l_far, CDiv]
  split
  · rename_i e; rw [if_pos e] at h; exact h
  · rename_i e; rw [if_neg e] at h; exact h
theorem pure_p_first_and : ∀ ds M R, sp_p_first_and ds M R → r_p_first_and { nx := fun _ M' => R .non M', rt := R } (startS 1 ds) M := by
  rintro ds M R ⟨g, rfl, h⟩
  simp [r_p_first_and, gD]
  exact h
theorem pure_l_size : ∀ ds M R, sp_l_size ds M R → r_l_size { nx := fun _ M' => R .non M', rt := R } (startS 1 ds) M := by
  rintro ds M R ⟨g, rfl, h⟩
  simp [r_l_size, gD]
  exact h
theorem pure_l_literal : ∀ ds M R, sp_l_literal ds M R → r_l_literal { nx := fun _ M' => R .non M', rt := R } (startS 3 ds) M := by
  rintro ds M R ⟨v, vs, l, rfl, hv, h0, hl, h⟩
  unfold lit at h
  obtain ⟨x, hx⟩ : ∃ x, vs[(l / 2).toNat]? = some x := ⟨_, List.getElem?_eq_getElem (by omega)⟩
  have e : atI (vs.map D.int) (l / 2) = some (.int x) := atI_int (by omega) (by rw [List.getElem?_map, hx]; rfl)
  rw [List.getD_eq_getElem?_getD, hx] at h
  simp [r_l_literal, hv, e, CDiv, CMul]
  exact h
theorem cl_clash {ls : List Int} (h : Clash ls) : cD (cl ls) = [] := by unfold cl; rw [if_pos h]; rfl
theorem cl_fine {ls : List Int} (h : ¬ Clash ls) : cD (cl ls) = [.tup ((canon ls).map .int)] := by unfold cl; rw [if_neg h]; rfl
theorem blsD_eq' {bs : List Bool} : blsD (bs.map D.bl) = some bs := blsD_map bs
theorem pure_p_put_clause : ∀ ds M R, sp_p_put_clause ds M R → r_p_put_clause { nx := fun _ M' => R .non M', rt := R } (startS 4 ds) M := by
  rintro ds M R ⟨c, lp, cs, ls, rfl, hc, hl, hn, hm, h0, h⟩
  simp [r_p_put_clause, dDc, hc, hl]
  intro p hp
  have pc := ne_none' hc hp
  have pl := ne_none' hl hp
  refine ⟨fun i M' => M' p = some (.dK (kI (ls.take i) (.bl true))) ∧ Keeps [] M M', ⟨by simp [kI], .new _ hp⟩, fun i M' _ h' => h'.2 _ _ (by simp) hl, ?_, ?_⟩
  · rintro i d M' x e rfl ⟨h1, h2⟩
    refine ⟨_, _, rfl, h1, ?_, ?_, h2.over _ hp⟩
    · obtain ⟨ks, ek, _, _, hlen⟩ := kI_keys (.bl true) (ls.take i)
      rw [ek, List.length_map]
      rw [List.length_take] at hlen
      exact len_line (by omega)
    · rw [updM_same, List.take_add_one, e, Option.toList, kI_snoc]
  · rintro M1 ⟨h1, k1⟩
    rw [List.take_length] at h1
    obtain ⟨ks, ek, nd, hmem, hlen⟩ := kI_keys (.bl true) ls
    rw [ek] at h1
    refine ⟨p, _, h1, rfl, ?_⟩
    simp [dLc]
    intro q hq
    have qp : ¬ q = p := fun z => by subst z; rw [updM_same] at hq; cases hq
    rw [updM_at qp] at hq
    refine ⟨LcI [] (mapT (fun k => .bl (decide (-k ∈ ks))) ks) (updM M1 p (.fro (.dK (ks.map fun k => (.inl k, .bl true))))) q, .begin (by rw [updM_at qp]; exact hq), ?_, ?_⟩
    · rintro i d M2 x e rfl I
      have ep : M2 p = some (.fro (.dK (ks.map fun k => (.inl k, .bl true)))) := I.keep _ _ (by simp) updM_same
      have hi : i < ks.length := (List.getElem?_eq_some_iff.mp e).1
      simp [ep, valD_kI]
      refine I.goes (by rw [updM_at qp]; exact hq) (by simp) (.refl _ _) (by omega) e ?_
      by_cases hk : -x ∈ ks <;> simp [hk]
    · intro M2 I
      have ep : M2 p = some (.fro (.dK (ks.map fun k => (.inl k, .bl true)))) := I.keep _ _ (by simp) updM_same
      have eq := I.all
      have ebs : ks.map (fun k => D.bl (decide (-k ∈ ks))) = (ks.map fun k => decide (-k ∈ ks)).map D.bl := by rw [List.map_map]; rfl
      have hc2 : M2 c = some (.lst cs) := by
        have h2 := k1 _ _ (by simp) hc
        exact I.keep _ _ (by simp) (by rw [updM_at (fun z => pc z.symm)]; exact h2)
      have ebl : blsD (ks.map (D.bl ∘ fun k => decide (-k ∈ ks))) = some (ks.map fun k => decide (-k ∈ ks)) := by rw [← List.map_map, blsD_map]
      rw [ebs] at eq
      refine ⟨ep, ?_⟩
      simp [updM_at qp, eq, ebl]
      have kk : Keeps [] M (updM M2 p (.dK (ks.map fun k => (.inl k, .bl true)))) := by
        refine Keeps.over _ hp fun b o hb e => ?_
        have bp : ¬ b = p := ne_none e hp
        exact I.keep _ _ hb (by rw [updM_at bp]; exact k1 _ _ hb e)
      split
      · rename_i hx
        obtain ⟨x, h1, h2⟩ := hx
        have hcl : Clash ls := ⟨x, (hmem x).mp h1, (hmem _).mp h2⟩
        refine h _ ?_ kk.nil
        rw [cl_clash hcl, List.append_nil, updM_at (fun z => pc z.symm)]
        exact hc2
      · rename_i hx
        have hcl : ¬ Clash ls := fun ⟨x, h1, h2⟩ => hx ⟨x, (hmem x).mpr h1, (hmem _).mpr h2⟩
        have pc' : ¬ c = p := fun z => pc z.symm
        simp [updM_at pc', hc2, intKs_map]
        refine ⟨by omega, fun r hr => ?_⟩
        have hc3 : updM M2 p (.dK (ks.map fun k => (.inl k, .bl true))) c = some (.lst cs) := by rw [updM_at pc']; exact hc2
        have rc : ¬ c = r := ne_none hc3 hr
        simp [updM_at rc, updM_at pc', hc2]
        refine ⟨len_line hm, h _ ?_ ?_⟩
        · rw [updM_same, cl_fine hcl, sortA_canon hcl nd hmem]
        · have r0 : M r = none := by
            cases e : M r with
            | none => rfl
            | some o => rw [kk _ _ (by simp) e] at hr; cases hr
          exact (Keeps.over _ r0 kk.nil).trans (.write _ (by simp))
theorem pure_l_put : ∀ ds M R, sp_l_put ds M R → r_l_put { nx := fun _ M' => R .non M', rt := R } (startS 5 ds) M := by
  rintro ds M R ⟨c, lp, cs, ls, rfl, hc, hl, hn, hm, h0, h⟩
  simp [r_l_put, dLc, hc, hl]
  intro p hp
  have pc := ne_none' hc hp
  have pl := ne_none' hl hp
  refine ⟨LcI [] (mapT (fun k => .int k.natAbs) ls) M p, .begin hp, fun i M' _ I => I.keep _ _ (by simp) hl, ?_, ?_⟩
  · rintro i d M' x e rfl I
    exact I.goes hp (by simp) (.refl _ _) (by omega) e rfl
  · intro M1 I
    have e1 := I.all
    have e2 : intsD (ls.map fun k => D.int k.natAbs) = some (absL ls) := by
      rw [← intsD_map (absL ls)]; simp [absL]; rfl
    simp [e1, e2]
    refine ⟨by simp [absL]; omega, ?_⟩
    intro q hq
    have ql : ¬ lp = q := ne_none (I.keep _ _ (by simp) hl) hq
    have qc : ¬ c = q := ne_none (I.keep _ _ (by simp) hc) hq
    simp [updM_at ql, updM_at qc, I.keep _ _ (by simp) hl, I.keep _ _ (by simp) hc]
    refine ⟨by omega, ?_⟩
    have kq : Keeps [] M (updM M1 q (.lst ((sortI (ddI (absL ls))).map .int))) := by
      refine Keeps.over _ ?_ I.keep
      cases e : M q with
      | none => rfl
      | some o => rw [I.keep _ _ (by simp) e] at hq; cases hq
    have esl : ((sortI (ddI (absL ls))).length : Int) = (ddI (absL ls)).length := by rw [(sortI_perm _).length_eq]
    rw [esl]
    split
    · rename_i he
      have hcl : ¬ Clash ls := (put_iff h0).mp (by omega)
      intro r hr
      have rl : ¬ lp = r := ne_none (kq _ _ (by simp) hl) hr
      have rc : ¬ c = r := ne_none (kq _ _ (by simp) hc) hr
      have rq : ¬ q = r := ne_none (updM_same) hr
      have r0 : M r = none := by
        cases e : M r with
        | none => rfl
        | some o => rw [kq _ _ (by simp) e] at hr; cases hr
      have small : (sortI (ddI (absL ls))).length ≤ 60 := by
        rw [(sortI_perm _).length_eq]
        have := nodup_len (nodup_ddI (absL ls)) (m := absL ls) fun k hk => mem_ddI.mp hk
        simp [absL] at this ⊢
        omega
      refine ⟨LcI [] (mapT (fun a => .int (if a ∈ ls then a else -a)) (sortI (ddI (absL ls)))) (updM M1 q (.lst ((sortI (ddI (absL ls))).map .int))) r, .begin hr, fun i M' _ I' => I'.keep _ _ (by simp) updM_same, ?_, ?_⟩
      · rintro i d M2 x e rfl I'
        have e2 : M2 lp = some (.lst (ls.map .int)) := I'.keep _ _ (by simp) (kq _ _ (by simp) hl)
        simp [e2]
        split
        · rename_i hx
          exact I'.goes hr (by simp) (.refl _ _) (by omega) e (by rw [if_pos hx])
        · rename_i hx
          exact I'.goes hr (by simp) (.refl _ _) (by omega) e (by rw [if_neg hx])
      · intro M2 I'
        have ev := I'.all
        have ec : M2 c = some (.lst cs) := I'.keep _ _ (by simp) (kq _ _ (by simp) hc)
        simp [ev, ec]
        refine ⟨len_line hm, h _ ?_ ?_⟩
        · rw [updM_same, cl_fine hcl, canon, List.map_map]
          rfl
        · exact (kq.nil.trans I'.keep.nil).trans (.write _ (by simp))
    · rename_i he
      have hcl : Clash ls := Classical.byContradiction fun hn => he (by rw [(put_iff h0).mpr hn])
      refine h _ ?_ kq.nil
      rw [cl_clash hcl, List.append_nil]
      exact kq _ _ (by simp) hc
end Law

namespace Law
open PySem PySem.Spec PyProof.Rows L2 PyD

def sp_p_literal_of : DSp := fun ds M R => ∃ l, ds = [.int l] ∧ R (.int (far l 0)) M
theorem len_p_literal_of : ∀ ds M R, sp_p_literal_of ds M R → ds.length = 1 := by rintro _ _ _ ⟨_, rfl, _⟩; rfl
def r_p_literal_of : DS := (dRet (dCall sp_p_moved_literal (dCons (dVar 0) (dCons (dC (.int 0)) dNil))))
theorem pure_p_literal_of : ∀ ds M R, sp_p_literal_of ds M R → r_p_literal_of { nx := fun _ M' => R .non M', rt := R } (startS 1 ds) M := by
  rintro ds M R ⟨l, rfl, h⟩
  simp [r_p_literal_of]
  exact ⟨l, 0, rfl, h⟩
theorem cl_len (ls : List Int) : (cD (cl ls)).length ≤ 1 := by unfold cl; split <;> simp [cD]
theorem neg_ne {x : Int} (h : x ≠ 0) : -x ≠ 0 := by omega
def sp_p_put_and : DSp := fun ds M R => ∃ (c : Addr) (cs : List D) (y a b : Int), ds = [.ref c, .int y, .int a, .int b] ∧ M c = some (.lst cs) ∧ cs.length < 900000 ∧ y ≠ 0 ∧ a ≠ 0 ∧ b ≠ 0 ∧
  ∀ M', M' c = some (.lst (cs ++ cD (and3 y a b))) → Keeps [c] M M' → R .non M'
theorem len_p_put_and : ∀ ds M R, sp_p_put_and ds M R → ds.length = 4 := by rintro _ _ _ ⟨_, _, _, _, _, rfl, _⟩; rfl
theorem sz3 {a b : Int} {n : Nat} : (3 : Nat) ≤ sizeLine := by rw [sizeLine_eq]; decide
theorem sz (n : Nat) (h : n ≤ 1000) : n ≤ sizeLine := by rw [sizeLine_eq]; omega
def r_p_put_and : DS := (dSeq (dDrop (dCall sp_p_put_clause (dCons (dVar 0) (dCons (dLst (dCons (dUn dNeg (dVar 1)) (dCons (dVar 2) dNil))) dNil))))
    (dSeq (dDrop (dCall sp_p_put_clause (dCons (dVar 0) (dCons (dLst (dCons (dUn dNeg (dVar 1)) (dCons (dVar 3) dNil))) dNil))))
    (dDrop (dCall sp_p_put_clause (dCons (dVar 0) (dCons (dLst (dCons (dVar 1) (dCons (dUn dNeg (dVar 2)) (dCons (dUn dNeg (dVar 3)) dNil)))) dNil))))))
theorem pure_p_put_and : ∀ ds M R, sp_p_put_and ds M R → r_p_put_and { nx := fun _ M' => R .non M', rt := R } (startS 4 ds) M := by
  rintro ds M R ⟨c, cs, y, a, b, rfl, hc, hm, hy, ha, hb, h⟩
  simp [r_p_put_and]
  refine ⟨sz 2 (by decide), fun p hp => ?_⟩
  have pc := ne_none hc hp
  refine ⟨c, p, cs, [-y, a], rfl, by rw [updM_at pc]; exact hc, updM_same, by simp, by omega, by simp; exact ⟨hy, ha⟩, fun M1 h1 k1 => ⟨sz 2 (by decide), fun q hq => ?_⟩⟩
  have qc := ne_none h1 hq
  have l1 := cl_len [-y, a]
  refine ⟨c, q, _, [-y, b], rfl, by rw [updM_at qc]; exact h1, updM_same, by simp, by rw [List.length_append]; omega, by simp; exact ⟨hy, hb⟩, fun M2 h2 k2 => ⟨sz 3 (by decide), fun r hr => ?_⟩⟩
  have rc := ne_none h2 hr
  have l2 := cl_len [-y, b]
  refine ⟨c, r, _, [y, -a, -b], rfl, by rw [updM_at rc]; exact h2, updM_same, by simp, by rw [List.length_append, List.length_append]; omega, by simp; exact ⟨hy, ha, hb⟩, fun M3 h3 k3 => h M3 ?_ ?_⟩
  · rw [h3, and3, cD_append, cD_append, List.append_assoc, List.append_assoc, List.append_assoc]
  · exact (((((Keeps.new _ hp).trans k1).trans (.new _ hq)).trans k2).trans (.new _ hr)).trans k3
def sp_p_put_same : DSp := fun ds M R => ∃ (c : Addr) (cs : List D) (z x : Int), ds = [.ref c, .int z, .int x] ∧ M c = some (.lst cs) ∧ cs.length < 900000 ∧ z ≠ 0 ∧ x ≠ 0 ∧
  ∀ M', M' c = some (.lst (cs ++ cD (same2 z x))) → Keeps [c] M M' → R .non M'
theorem len_p_put_same : ∀ ds M R, sp_p_put_same ds M R → ds.length = 3 := by rintro _ _ _ ⟨_, _, _, _, rfl, _⟩; rfl
def r_p_put_same : DS := (dSeq (dDrop (dCall sp_p_put_clause (dCons (dVar 0) (dCons (dLst (dCons (dUn dNeg (dVar 1)) (dCons (dVar 2) dNil))) dNil))))
    (dDrop (dCall sp_p_put_clause (dCons (dVar 0) (dCons (dLst (dCons (dVar 1) (dCons (dUn dNeg (dVar 2)) dNil))) dNil)))))
theorem pure_p_put_same : ∀ ds M R, sp_p_put_same ds M R → r_p_put_same { nx := fun _ M' => R .non M', rt := R } (startS 3 ds) M := by
  rintro ds M R ⟨c, cs, z, x, rfl, hc, hm, hz, hx, h⟩
  simp [r_p_put_same]
  refine ⟨sz 2 (by decide), fun p hp => ?_⟩
  have pc := ne_none hc hp
  refine ⟨c, p, cs, [-z, x], rfl, by rw [updM_at pc]; exact hc, updM_same, by simp, by omega, by simp; exact ⟨hz, hx⟩, fun M1 h1 k1 => ⟨sz 2 (by decide), fun q hq => ?_⟩⟩
  have qc := ne_none h1 hq
  have l1 := cl_len [-z, x]
  refine ⟨c, q, _, [z, -x], rfl, by rw [updM_at qc]; exact h1, updM_same, by simp, by rw [List.length_append]; omega, by simp; exact ⟨hz, hx⟩, fun M2 h2 k2 => h M2 ?_ ?_⟩
  · rw [h2, same2, cD_append, List.append_assoc]
  · exact ((((Keeps.new _ hp).trans k1).trans (.new _ hq)).trans k2)
def sp_p_size_of : DSp := sp_l_size
theorem len_p_size_of : ∀ ds M R, sp_p_size_of ds M R → ds.length = 1 := len_l_size
def r_p_size_of : DS := (dRet (dOp dAdd (dCall sp_p_first_and (dCons (dVar 0) dNil)) (dCB cLen (dCons (dOp dIx (dVar 0) (dC (.int 2))) dNil))))
theorem pure_p_size_of : ∀ ds M R, sp_p_size_of ds M R → r_p_size_of { nx := fun _ M' => R .non M', rt := R } (startS 1 ds) M := by
  rintro ds M R ⟨g, rfl, h⟩
  simp [r_p_size_of]
  refine ⟨g, rfl, ?_⟩
  simp [gD]
  exact h
def sp_p_register_letter : DSp := fun ds M R => ∃ g k c, ds = [gD g, .int k, .int c] ∧ CMul c (sizG g) ∧ R (.int (c * sizG g + g.ins + k + 2)) M
theorem len_p_register_letter : ∀ ds M R, sp_p_register_letter ds M R → ds.length = 3 := by rintro _ _ _ ⟨_, _, _, rfl, _⟩; rfl
def r_p_register_letter : DS := (dRet (dOp dAdd (dOp dAdd (dOp dAdd (dOp dMul (dVar 2) (dCall sp_p_size_of (dCons (dVar 0) dNil))) (dOp dIx (dVar 0) (dC (.int 0)))) (dVar 1)) (dC (.int 2))))
theorem pure_p_register_letter : ∀ ds M R, sp_p_register_letter ds M R → r_p_register_letter { nx := fun _ M' => R .non M', rt := R } (startS 3 ds) M := by
  rintro ds M R ⟨g, k, c, rfl, hcm, h⟩
  simp [r_p_register_letter]
  refine ⟨g, rfl, ?_⟩
  simp [gD]
  exact ⟨hcm, h⟩
def sp_l_draw_literal : DSp := fun ds M R => ∃ a c n, ds = [.ref a, .int n] ∧ 1 ≤ n ∧ n < 100000000 ∧ Src M a c ∧ ∀ l M', 0 ≤ l → l < 2 * n → Src M' a c → (∀ b, b ≠ a → b ≠ c → M' b = M b) → R (.int l) M'
theorem len_l_draw_literal : ∀ ds M R, sp_l_draw_literal ds M R → ds.length = 2 := by rintro _ _ _ ⟨_, _, _, rfl, _⟩; rfl
def r_l_draw_literal : DS := (dSeq (dAsg (dIfE (dB (dOp dGt (dCall sp_l_pick (dCons (dVar 0) (dCons (dC (.int 3)) dNil))) (dC (.int 0)))) (dOp dSub (dOp dSub (dVar 1) (dC (.int 1))) (dCall sp_l_pick (dCons (dVar 0) (dCons (dCB cMin2 (dCons (dVar 1) (dCons (dC (.int 10)) dNil))) dNil)))) (dCall sp_l_pick (dCons (dVar 0) (dCons (dVar 1) dNil)))) (gN 2))
    (dRet (dOp dAdd (dOp dMul (dC (.int 2)) (dVar 2)) (dCall sp_l_pick (dCons (dVar 0) (dCons (dC (.int 2)) dNil))))))
theorem pure_l_draw_literal : ∀ ds M R, sp_l_draw_literal ds M R → r_l_draw_literal { nx := fun _ M' => R .non M', rt := R } (startS 3 ds) M := by
  rintro ds M R ⟨a, c, n, rfl, h1, h2, hS, h⟩
  simp [r_l_draw_literal]
  refine ⟨a, c, 3, rfl, by omega, hS, fun k M1 k0 k1 S1 e1 => ?_⟩
  have fin : ∀ (j : Int) (M2 : DM), 0 ≤ j → j < n → Src M2 a c → (∀ b, b ≠ a → b ≠ c → M2 b = M b) → ∀ k M3, 0 ≤ k → k < max 1 2 → Src M3 a c → (∀ b, b ≠ a → b ≠ c → M3 b = M2 b) → R (.int (2 * j + k)) M3 :=
    fun j M2 j0 jn S2 e2 k M3 k0 k1 S3 e3 => h _ M3 (by omega) (by omega) S3 fun b hb hc => (e3 b hb hc).trans (e2 b hb hc)
  have cm : ∀ j, CMul 2 j := fun j => .inl ⟨by decide, by decide⟩
  simp
  split
  · refine ⟨a, c, _, rfl, by omega, S1, fun k2 M2 k20 k21 S2 e2 => ?_⟩
    simp
    refine ⟨cm _, a, c, 2, rfl, by omega, S2, fun k3 M3 k30 k31 S3 e3 => ?_⟩
    simp
    exact fin _ M2 (by omega) (by omega) S2 (fun b hb hc => (e2 b hb hc).trans (e1 b hb hc)) k3 M3 k30 k31 S3 e3
  · refine ⟨a, c, _, rfl, by omega, S1, fun k2 M2 k20 k21 S2 e2 => ?_⟩
    simp
    refine ⟨cm _, a, c, 2, rfl, by omega, S2, fun k3 M3 k30 k31 S3 e3 => ?_⟩
    simp
    exact fin _ M2 (by omega) (by omega) S2 (fun b hb hc => (e2 b hb hc).trans (e1 b hb hc)) k3 M3 k30 k31 S3 e3
def sp_l_source : DSp := fun ds M R => ∃ xs : List Int, ds = [.con (xs.map .int)] ∧ xs.length ≤ 63 ∧ ∀ a c M', Src M' a c → Keeps [] M M' → R (.ref a) M'
theorem len_l_source : ∀ ds M R, sp_l_source ds M R → ds.length = 1 := by rintro _ _ _ ⟨_, rfl, _⟩; rfl
def r_l_source_b1 : DS := (dAsg (dOp dMod (dCB cInt (dCons (dOp dAdd (dOp dAdd (dOp dMul (dVar 1) (dC (.int 69069))) (dOp dMul (dVar 2) (dC (.int 31)))) (dC (.int 5))) dNil)) (dC (.int 2147483629))) (gN 1))
def r_l_source_a1 : DS := (dRet (dDisp (((dC (.str ("cells" : Str))), (dRev (dLc (dISeq (dVar 0)) (gN 2) dYes (dCB cAbs (dCons (dVar 2) dNil)) [2]))) :: (((dC (.str ("left" : Str))), (dC (.int 1))) :: (((dC (.str ("mixed" : Str))), (dVar 1)) :: (((dC (.str ("turn" : Str))), (dC (.int 0))) :: []))))))
def r_l_source : DS := (dSeq (dAsg (dC (.int 11)) (gN 1))
    (dSeq (dFor (dISeq (dVar 0)) (gN 2) r_l_source_b1)
    r_l_source_a1))
theorem src_new {p : Addr} {m : Int} : putD (putD (putD (putD [] (Sum.inr (Str.ofString "cells") : Key) (D.ref p)) (Sum.inr (Str.ofString "left")) (D.int 1)) (Sum.inr (Str.ofString "mixed")) (D.int m)) (Sum.inr (Str.ofString "turn")) (D.int 0) = srcKv p 1 m 0 := by
  have e1 : putD [] (Sum.inr (Str.ofString "cells") : Key) (D.ref p) = [(.inr ("cells" : Str), .ref p)] := rfl
  rw [e1]
  simp [putD, srcKv, s1, s2, s3, s5, s6, s9]
theorem pure_l_source : ∀ ds M R, sp_l_source ds M R → r_l_source { nx := fun _ M' => R .non M', rt := R } (startS 3 ds) M := by
  rintro ds M R ⟨xs, rfl, hl, h⟩
  simp [r_l_source, dFor]
  refine ⟨fun i S M' => M' = M ∧ ∃ m e, S = [some (.con (xs.map .int)), some (.int m), e] ∧ 0 ≤ m, ⟨rfl, 11, none, rfl, by omega⟩, ?_, ?_⟩
  · rintro i d S M' x e rfl ⟨rfl, m, ev, rfl, hm⟩
    simp [r_l_source_b1]
    exact ⟨.inr ⟨by decide, by decide⟩, .inr ⟨by decide, by decide⟩, Int.emod_nonneg _ (by omega)⟩
  · rintro S M' ⟨rfl, m, ev, rfl, hm⟩
    simp [r_l_source_a1, dLc]
    intro p hp q hq
    have hpq : ¬ p = q := ne_none (updM_same) hq
    refine ⟨LcI [] (mapT (fun x => .int x.natAbs) xs) (updM M' p (.dK [])) q, .begin hq, ?_, ?_⟩
    · rintro i d M2 x e rfl I
      exact I.goes hq (by simp) (.refl _ _) (by omega) e rfl
    · intro M2 I
      have ev := I.all
      have ep := I.keep _ _ (by simp) (updM_same)
      simp [ev]
      intro r hr
      have rp : ¬ p = r := ne_none ep hr
      have rq : ¬ q = r := ne_none ev hr
      refine ⟨by rw [updM_at rp]; exact ep, ?_⟩
      rw [src_new]
      refine h _ r _ ⟨1, m, 0, (xs.map fun x => (x.natAbs : Int)).reverse, updM_same, ?_, by omega, hm, fun x hx => ?_⟩ ?_
      · rw [updM_at (fun z => rp z.symm), updM_same]
        simp
      · rw [List.mem_reverse] at hx
        obtain ⟨y, _, rfl⟩ := List.mem_map.mp hx
        omega
      · refine Keeps.over _ hp (Keeps.over _ ?_ ((Keeps.new _ hp).trans I.keep))
        cases e : M' r with
        | none => rfl
        | some o =>
          rw [I.keep _ _ (by simp) (Keeps.new (S := []) _ hp _ _ (by simp) e)] at hr
          cases hr
end Law

namespace Law
open PySem PySem.Spec PyProof.Rows L2 PyD
/-! ### dicts of letters -/
theorem valD_mem {κ : Type} [DecidableEq κ] {k : κ} {d : D} : ∀ {l : List (κ × D)}, valD l k = some d → (k, d) ∈ l
  | [], h => by cases h
  | p :: r, h => by
    rw [valD_cons] at h
    split at h
    · rename_i e
      cases h
      rw [← e]
      exact List.mem_cons_self ..
    · exact List.mem_cons_of_mem _ (valD_mem h)
theorem valD_of_mem {κ : Type} [DecidableEq κ] {k : κ} {d : D} : ∀ {l : List (κ × D)}, (l.map (·.1)).Nodup → (k, d) ∈ l → valD l k = some d
  | [], _, h => by cases h
  | p :: r, n, h => by
    rw [List.map_cons, List.nodup_cons] at n
    rw [valD_cons]
    rcases List.mem_cons.mp h with e | e
    · rw [← e, if_pos rfl]
    · rw [if_neg, valD_of_mem n.2 e]
      intro z
      exact n.1 (List.mem_map.mpr ⟨_, e, z.symm⟩)
theorem putD_new {κ : Type} [DecidableEq κ] {l : List (κ × D)} {k : κ} {d : D} (h : k ∉ l.map (·.1)) : putD l k d = l ++ [(k, d)] := by
  unfold putD
  rw [any_keys, if_neg (by simpa using h)]
theorem mergeD_new : ∀ {more kvs : List (Key × D)}, (kvs.map (·.1) ++ more.map (·.1)).Nodup → mergeD kvs more = kvs ++ more
  | [], kvs, _ => by simp
  | p :: r, kvs, h => by
    have hk : p.1 ∉ kvs.map (·.1) := fun z => by
      rw [List.nodup_append] at h
      exact h.2.2 _ z _ (List.mem_map.mpr ⟨p, List.mem_cons_self .., rfl⟩) rfl
    show mergeD (putD kvs p.1 p.2) r = _
    rw [putD_new hk, mergeD_new (by rw [List.map_append, List.append_assoc]; exact h), List.append_assoc]
    rfl
/-- letters and their values -/
def tQ (s : Int) : Int → List Int → List (Int × Int)
  | _, [] => []
  | n, v :: r => (n + 1 + s, if v = 1 then n + 1 + s else -n - 1 - s) :: tQ s (n + 1) r
theorem tQ_snoc {s v : Int} : ∀ (vs : List Int) (n : Int), tQ s n (vs ++ [v]) = tQ s n vs ++ [(n + vs.length + 1 + s, if v = 1 then n + vs.length + 1 + s else -(n + vs.length) - 1 - s)]
  | [], n => by simp [tQ]
  | u :: r, n => by
    rw [List.cons_append, tQ, tQ_snoc r, tQ, List.cons_append]
    have e : n + 1 + (r.length : Int) = n + ((u :: r).length : Nat) := by simp; omega
    rw [e]
theorem tQ_len {s : Int} : ∀ (vs : List Int) (n : Int), (tQ s n vs).length = vs.length
  | [], _ => rfl
  | v :: r, n => by simp [tQ, tQ_len r]
theorem tQ_mem {s : Int} {p : Int × Int} : ∀ {vs : List Int} {n : Int}, p ∈ tQ s n vs ↔ ∃ (j : Nat) (v : Int), vs[j]? = some v ∧ p.1 = n + j + 1 + s ∧ p.2 = if v = 1 then n + j + 1 + s else -(n + j) - 1 - s
  | [], n => by simp [tQ]
  | u :: r, n => by
    rw [tQ, List.mem_cons, tQ_mem]
    constructor
    · rintro (h | ⟨j, v, h1, h2, h3⟩)
      · subst h
        exact ⟨0, u, rfl, by simp, by simp⟩
      · refine ⟨j + 1, v, by simpa using h1, by rw [h2]; push_cast; omega, ?_⟩
        rw [h3]
        push_cast
        split <;> omega
    · rintro ⟨j, v, h1, h2, h3⟩
      cases j with
      | zero =>
        left
        simp at h1
        subst h1
        obtain ⟨a, b⟩ := p
        simp at h2 h3
        rw [h2, h3]
      | succ j =>
        right
        refine ⟨j, v, by simpa using h1, by rw [h2]; push_cast; omega, ?_⟩
        rw [h3]
        push_cast
        split <;> omega
def kvT (l : List (Int × Int)) : List (Key × D) := l.map fun p => (.inl p.1, .int p.2)
theorem prsD_map : ∀ l : List (Int × Int), prsD (l.map prD) = some (kvT l)
  | [] => rfl
  | p :: l => by
    show prsD (.tup [.int p.1, .int p.2] :: l.map prD) = _
    rw [prsD, prsD_map l]
    rfl
theorem kvT_keys (l : List (Int × Int)) : (kvT l).map (·.1) = (l.map (·.1)).map Sum.inl := by simp [kvT]
theorem tQ_nodup {s : Int} : ∀ (vs : List Int) (n : Int), ((tQ s n vs).map (·.1)).Nodup
  | [], _ => List.nodup_nil
  | v :: r, n => by
    rw [tQ, List.map_cons, List.nodup_cons]
    refine ⟨fun z => ?_, tQ_nodup r (n + 1)⟩
    obtain ⟨p, hp, e⟩ := List.mem_map.mp z
    obtain ⟨j, v, _, h2, _⟩ := tQ_mem.mp hp
    simp only at e
    omega
theorem inl_nodup {l : List Int} (h : l.Nodup) : (l.map (Sum.inl : Int → Key)).Nodup := by
  rw [List.Nodup, List.pairwise_map]
  exact h.imp fun h z => h (Sum.inl.inj z)
def vf (kvs : List (Key × D)) (k : Int) : Option D := valD kvs (.inl k)
theorem at_of {kvs : List (Key × D)} {s : Int} {vs : List Int} (nd : (kvs.map (·.1)).Nodup) (h : ∀ p ∈ tQ s 0 vs, ((Sum.inl p.1 : Key), D.int p.2) ∈ kvs) : At (vf kvs) s vs := fun n v e => by
  have := h (0 + n + 1 + s, if v = 1 then 0 + n + 1 + s else -(0 + n) - 1 - s) (tQ_mem.mpr ⟨n, v, e, rfl, rfl⟩)
  have q := valD_of_mem nd this
  unfold vf
  rw [show s + (n : Int) + 1 = 0 + n + 1 + s by omega, q]
  congr 2
  split <;> omega
/-! ### _law_kept -/
def trb (kvs : List (Key × D)) (x : Int) : Bool := match valD kvs (.inl (x.natAbs : Int)) with
  | some (.int i) => decide (i = x)
  | _ => false
def IntD (kvs : List (Key × D)) : Prop := ∀ k d, valD kvs k = some d → ∃ i, d = .int i
theorem trb_iff {kvs : List (Key × D)} {x : Int} (h : IntD kvs) : trb kvs x = true ↔ Tru (vf kvs) x := by
  unfold trb Tru vf
  cases e : valD kvs (.inl (x.natAbs : Int)) with
  | none => simp
  | some d =>
    obtain ⟨i, rfl⟩ := h _ _ e
    simp
def filT (kvs : List (Key × D)) (l : List Int) (i : Nat) : List D := ((l.take i).filter (trb kvs)).map .int
theorem filT_yes {kvs : List (Key × D)} {l : List Int} {i : Nat} {x : Int} (e : l[i]? = some x) (h : trb kvs x = true) : filT kvs l (i + 1) = filT kvs l i ++ [.int x] := by
  unfold filT
  rw [List.take_add_one, e]
  simp [h]
theorem filT_no {kvs : List (Key × D)} {l : List Int} {i : Nat} {x : Int} (e : l[i]? = some x) (h : trb kvs x = false) : filT kvs l (i + 1) = filT kvs l i := by
  unfold filT
  rw [List.take_add_one, e]
  simp [h]
theorem filT_len {kvs : List (Key × D)} {l : List Int} {i : Nat} (h : l.length < 1000000) : (filT kvs l i).length < sizeLine := by
  unfold filT
  rw [List.length_map]
  have := List.length_filter_le (trb kvs) (l.take i)
  rw [List.length_take] at this
  exact len_line (by omega)
def sp_l_kept : DSp := fun ds M R => ∃ (c t : Addr) (cls : List (List Int)) (kvs : List (Key × D)), ds = [.ref c, .ref t] ∧ M c = some (.lst (cD cls)) ∧ M t = some (.dK kvs) ∧ IntD kvs ∧ (∀ l ∈ cls, l.length < 1000) ∧
  ∀ b M', (b = true ↔ Kept (vf kvs) cls) → Keeps [] M M' → R (.bl b) M'
theorem len_l_kept : ∀ ds M R, sp_l_kept ds M R → ds.length = 2 := by rintro _ _ _ ⟨_, _, _, _, rfl, _⟩; rfl
def r_l_kept_b1 : DS := (dIf (dB (dOp dEq (dLc (dISeq (dVar 2)) (gN 3) (dB (dOp dEq (dGet1 (dVar 1) (dCB cAbs (dCons (dVar 3) dNil))) (dVar 3))) (dVar 3) [3]) (dLst dNil))) (dRet (dC (.bl false))) dNext)
def r_l_kept_a1 : DS := (dRet (dC (.bl true)))
def r_l_kept : DS := (dSeq (dFor (dISeq (dVar 0)) (gN 2) r_l_kept_b1)
    r_l_kept_a1)
theorem shaped_ints (l : List Int) : SeqAt.shaped (.list (l.map .int)) = true := by
  unfold SeqAt.shaped
  have h1 : (PyData.list (l.map .int)).canLay0 = true := canLay_all fun p hp => by
    obtain ⟨i, _, rfl⟩ := List.mem_map.mp hp
    rfl
  have h2 : (PyData.list (l.map .int)).depth ≤ 1 := by
    show PyData.depthAll _ + 1 ≤ 1
    have := depth_all (n := 0) (ps := l.map PyData.int) fun p hp => by
      obtain ⟨i, _, rfl⟩ := List.mem_map.mp hp
      exact Nat.le_refl 0
    omega
  rw [h1, Bool.true_and]
  exact decide_eq_true (by omega)
theorem pure_l_kept : ∀ ds M R, sp_l_kept ds M R → r_l_kept { nx := fun _ M' => R .non M', rt := R } (startS 4 ds) M := by
  rintro ds M R ⟨c, t, cls, kvs, rfl, hc, ht, hI, hl, h⟩
  simp [r_l_kept, dFor, hc]
  refine ⟨fun i S M' => Keeps [] M M' ∧ (∃ e, S = [some (.ref c), some (.ref t), e, none]) ∧ Kept (vf kvs) (cls.take i), ⟨.refl _ _, ⟨none, rfl⟩, by simpa using Kept.nil⟩, fun i S M' _ h' => h'.1 _ _ (by simp) hc, ?_, ?_⟩
  · rintro i d S M' e ⟨k1, ⟨e0, rfl⟩, hk⟩
    rw [cD, List.getElem?_map] at e
    obtain ⟨l, el, rfl⟩ := Option.map_eq_some_iff.mp e
    have hll := hl l (List.mem_of_getElem? el)
    simp [r_l_kept_b1, dLc]
    intro p hp
    refine ⟨LcI [] (filT kvs l) M' p, .start hp rfl, ?_, ?_⟩
    · rintro j d M2 x ex rfl I
      have et : M2 t = some (.dK kvs) := I.keep _ _ (by simp) (k1 _ _ (by simp) ht)
      simp [et, isDk]
      have tb : trb kvs x = match valD kvs (.inl (x.natAbs : Int)) with | some (.int i) => decide (i = x) | _ => false := rfl
      cases ev : valD kvs (.inl (x.natAbs : Int)) with
      | none =>
        rw [ev] at tb
        exact I.skip (by simp) (.refl _ _) (filT_no ex tb)
      | some d =>
        obtain ⟨y, rfl⟩ := hI _ _ ev
        rw [ev] at tb
        simp
        split
        · rename_i hx
          exact I.step hp (by simp) (.refl _ _) (filT_len (by omega)) (filT_yes ex (by rw [tb]; exact decide_eq_true hx))
        · rename_i hx
          exact I.skip (by simp) (.refl _ _) (filT_no ex (by rw [tb]; exact decide_eq_false hx))
    · intro M2 I
      have ev := I.val
      have ev2 : M2 p = some (.lst ((l.filter (trb kvs)).map .int)) := by rw [ev]; unfold filT; rw [List.take_length]
      intro q hq
      have pq : ¬ p = q := ne_none ev2 hq
      refine ⟨.list ((l.filter (trb kvs)).map .int), .list [], .lst (by rw [updM_at pq]; exact ev2) (deep_ints _), .lst updM_same .nil, shaped_ints _, rfl, ?_⟩
      have eb : PyData.eqv (.list ((l.filter (trb kvs)).map .int)) (.list []) = decide (l.filter (trb kvs) = []) := eqv_ints _ []
      have kk : Keeps [] M (updM M2 q (.lst [])) := by
        refine (k1.trans ?_).trans (.new _ hq)
        exact fun b o hb e => I.keep _ _ hb e
      rw [eb]
      by_cases hf : l.filter (trb kvs) = []
      · rw [decide_eq_true hf]
        show R (.bl false) (updM M2 q (.lst []))
        refine h false _ ?_ kk
        constructor
        · intro z; cases z
        · intro hK
          exfalso
          obtain ⟨x, hx, hT⟩ := hK l (List.mem_of_getElem? el)
          have : x ∈ l.filter (trb kvs) := List.mem_filter.mpr ⟨hx, (trb_iff hI).mpr hT⟩
          rw [hf] at this
          cases this
      · rw [decide_eq_false hf]
        show Keeps [] M (updM M2 q (.lst [])) ∧ Kept (vf kvs) (cls.take (i + 1))
        refine ⟨kk, ?_⟩
        rw [List.take_add_one, el, Option.toList, Kept.append]
        refine ⟨hk, Kept.cons.mpr ⟨?_, Kept.nil⟩⟩
        obtain ⟨x, hx⟩ := List.exists_mem_of_ne_nil _ hf
        obtain ⟨h1, h2⟩ := List.mem_filter.mp hx
        exact ⟨x, h1, (trb_iff hI).mp h2⟩
  · rintro S M' ⟨k1, ⟨e0, rfl⟩, hk⟩
    rw [List.take_length] at hk
    simp [r_l_kept_a1]
    exact h true _ (by simp [hk]) k1
/-! ### _law_true_of -/
def sp_l_true_of : DSp := fun ds M R => ∃ (v : Addr) (vs : List Int) (s : Int), ds = [.ref v, .int s] ∧ M v = some (.lst (vs.map .int)) ∧ vs.length ≤ 1000 ∧
  ∀ p M', M p = none → M' p = some (.dK (kvT (tQ s 0 vs))) → Keeps [] M M' → R (.ref p) M'
theorem len_l_true_of : ∀ ds M R, sp_l_true_of ds M R → ds.length = 2 := by rintro _ _ _ ⟨_, _, _, rfl, _⟩; rfl
def r_l_true_of : DS := (dRet (dDictP (dLc (dEnum (dVar 0)) (gT 2 (gsCons (gN 2) (gsCons (gN 3) gsNil))) dYes (dTup (dCons (dOp dAdd (dOp dAdd (dVar 2) (dC (.int 1))) (dVar 1)) (dCons (dIfE (dB (dOp dEq (dVar 3) (dC (.int 1)))) (dOp dAdd (dOp dAdd (dVar 2) (dC (.int 1))) (dVar 1)) (dOp dSub (dOp dSub (dUn dNeg (dVar 2)) (dC (.int 1))) (dVar 1))) dNil))) [2, 3])))
theorem pure_l_true_of : ∀ ds M R, sp_l_true_of ds M R → r_l_true_of { nx := fun _ M' => R .non M', rt := R } (startS 4 ds) M := by
  rintro ds M R ⟨v, vs, s, rfl, hv, hl, h⟩
  simp [r_l_true_of, dLc, hv]
  intro p hp
  refine ⟨LcI [] (fun i => (tQ s 0 (vs.take i)).map prD) M p, .start hp rfl, fun i M' _ I => I.keep _ _ (by simp) hv, ?_, ?_⟩
  · rintro i d M2 e I
    rw [enumD_get, List.getElem?_map] at e
    obtain ⟨y, ey, rfl⟩ := Option.map_eq_some_iff.mp e
    obtain ⟨x, ex, rfl⟩ := Option.map_eq_some_iff.mp ey
    have hi : i < vs.length := (List.getElem?_eq_some_iff.mp ex).1
    have gl : ((tQ s 0 (vs.take i)).map prD).length < sizeLine := by
      rw [List.length_map, tQ_len, List.length_take]; exact len_line (by omega)
    have ge : ∀ z : Int, z = (if x = 1 then (i : Int) + 1 + s else -i - 1 - s) → (tQ s 0 (vs.take (i + 1))).map prD = (tQ s 0 (vs.take i)).map prD ++ [.tup [.int ((i : Int) + 1 + s), .int z]] := by
      intro z hz
      rw [List.take_add_one, ex, Option.toList, tQ_snoc, List.map_append, List.length_take, Nat.min_eq_left (by omega)]
      subst hz
      simp [prD]
    simp
    split
    · rename_i hx
      exact ⟨sz 2 (by decide), I.step hp (by simp) (.refl _ _) gl (ge _ (by rw [if_pos hx]))⟩
    · rename_i hx
      exact ⟨sz 2 (by decide), I.step hp (by simp) (.refl _ _) gl (ge _ (by rw [if_neg hx]))⟩
  · intro M2 I
    have ev : M2 p = some (.lst ((tQ s 0 vs).map prD)) := by
      have := I.val
      rwa [List.take_length] at this
    simp [ev, prsD_map]
    intro q hq
    have em : (kvT (tQ s 0 vs)).foldl (fun acc kv => putD acc kv.1 kv.2) [] = kvT (tQ s 0 vs) := by
      have := mergeD_new (kvs := []) (more := kvT (tQ s 0 vs)) (by simpa [kvT_keys] using inl_nodup (tQ_nodup vs 0))
      simpa using this
    rw [em]
    refine h q _ ?_ updM_same (I.keep.trans (.new _ hq))
    cases e : M q with
    | none => rfl
    | some o => rw [I.keep _ _ (by simp) e] at hq; cases hq
end Law

namespace Law
open PySem PySem.Spec PyProof.Rows L2 PyD

@[simp high] theorem look_g0 (M : DM) (g : Gr) : lookD M (gD g) (.int 0) = some (.int g.ins) := by simp [gD]
@[simp high] theorem look_g1 (M : DM) (g : Gr) : lookD M (gD g) (.int 1) = some (.tup (g.regs.map prD)) := by simp [gD]
@[simp high] theorem look_g2 (M : DM) (g : Gr) : lookD M (gD g) (.int 2) = some (.tup (g.ands.map prD)) := by simp [gD]
@[simp high] theorem look_g3 (M : DM) (g : Gr) : lookD M (gD g) (.int 3) = some (.tup (g.outs.map .int)) := by simp [gD]
theorem none_keep {M M' : DM} {p : Addr} (k : Keeps [] M M') (h : M' p = none) : M p = none := k.nothing h
def sp_l_nodes : DSp := fun ds M R => ∃ g st lot, ds = [gD g, .tup (st.map .int), .tup (lot.map .int), .int 1] ∧ (lot.length : Int) = g.ins ∧ st.length = g.regs.length ∧ WFa (fstG g) g.ands ∧ lot.length ≤ 100 ∧ st.length ≤ 100 ∧ g.ands.length ≤ 100 ∧
  ∀ p M', M p = none → M' p = some (.lst ((nodes g st lot).map .int)) → Keeps [] M M' → R (.ref p) M'
theorem len_l_nodes : ∀ ds M R, sp_l_nodes ds M R → ds.length = 4 := by rintro _ _ _ ⟨_, _, _, rfl, _⟩; rfl
def r_l_nodes_b1 : DS := (dDrop (dMt mAppend (dVar 4) (dCons (dOp dBand (dCall sp_l_literal (dCons (dVar 4) (dCons (dVar 5) (dCons (dVar 3) dNil)))) (dCall sp_l_literal (dCons (dVar 4) (dCons (dVar 6) (dCons (dVar 3) dNil))))) dNil)))
def r_l_nodes_a1 : DS := (dRet (dVar 4))
def r_l_nodes : DS := (dSeq (dAsg (dOp dAdd (dOp dAdd (dLst (dCons (dC (.int 0)) dNil)) (dCB cList (dCons (dVar 2) dNil))) (dCB cList (dCons (dVar 1) dNil))) (gN 4))
    (dSeq (dFor (dISeq (dOp dIx (dVar 0) (dC (.int 2)))) (gT 2 (gsCons (gN 5) (gsCons (gN 6) gsNil))) r_l_nodes_b1)
    r_l_nodes_a1))
theorem pure_l_nodes : ∀ ds M R, sp_l_nodes ds M R → r_l_nodes { nx := fun _ M' => R .non M', rt := R } (startS 7 ds) M := by
  rintro ds M R ⟨g, st, lot, rfl, h1, h2, hw, z1, z2, z3, h⟩
  simp [r_l_nodes]
  refine ⟨sz 1 (by decide), fun p1 hp1 p2 hp2 => ?_⟩
  have n12 : ¬ p1 = p2 := ne_none updM_same hp2
  simp [updM_at n12]
  refine ⟨sz _ (by omega), fun p3 hp3 p4 hp4 => ?_⟩
  have n34 : ¬ p3 = p4 := ne_none updM_same hp4
  simp [updM_at n34]
  refine ⟨sz _ (by omega), fun p hp => ?_⟩
  generalize e0 : updM (updM (updM (updM M p1 (.lst [.int 0])) p2 (.lst (lot.map .int))) p3 (.lst (.int 0 :: lot.map .int))) p4 (.lst (st.map .int)) = M0 at hp ⊢
  have k0 : Keeps [] M M0 := by
    rw [← e0]
    exact (((Keeps.new _ hp1).trans (.new _ hp2)).trans (.new _ hp3)).trans (.new _ hp4)
  have v0 : (D.int 0 :: (lot.map D.int ++ st.map D.int)) = (0 :: (lot ++ st)).map D.int := by simp
  simp only [dFor, dISeq, dOp, dIx, dVar, dC, getS, look_g2, itemsD, v0]
  simp
  have S0 := start_len (g := g) (lot := lot) (st := st) h1 h2
  refine ⟨fun i S M' => (∃ e5 e6, S = [some (gD g), some (.tup (st.map .int)), some (.tup (lot.map .int)), some (.int 1), some (.ref p), e5, e6]) ∧ M' p = some (.lst ((nodesF (g.ands.take i) (0 :: (lot ++ st))).map .int)) ∧ Keeps [] M M', ⟨⟨none, none, rfl⟩, by rw [updM_same]; simp [nodesF], k0.trans (.new _ hp)⟩, ?_, ?_⟩
  · rintro i d S M' q1 q2 e rfl ⟨⟨e5, e6, rfl⟩, ev, kk⟩
    have w := hw.get e
    have hi : i < g.ands.length := (List.getElem?_eq_some_iff.mp e).1
    have L : (nodesF (g.ands.take i) (0 :: (lot ++ st))).length = (0 :: (lot ++ st)).length + i := by rw [nodesF_length, List.length_take]; omega
    simp [prD, r_l_nodes_b1]
    have Li : ((nodesF (g.ands.take i) (0 :: (lot ++ st))).length : Int) = fstG g + i := by omega
    simp only [ev, true_and]
    refine ⟨p, _, q1, rfl, ev, w.1, by rw [Li]; exact w.2.1, ?_⟩
    refine ⟨p, _, q2, rfl, ev, w.2.2.1, by rw [Li]; exact w.2.2.2, ?_⟩
    simp [ev]
    refine ⟨len_line (by simp at L; omega), ?_, kk.over _ (none_keep k0 hp)⟩
    rw [List.take_add_one, e, Option.toList, nodesF_snoc, stp, List.map_append]
    rfl
  · rintro S M' ⟨⟨e5, e6, rfl⟩, ev, kk⟩
    simp [r_l_nodes_a1]
    rw [List.take_length] at ev
    exact h p M' (none_keep k0 hp) ev kk
end Law

namespace Law
open PySem PySem.Spec PyProof.Rows L2 PyD

@[simp] theorem le_sz1 : 1 ≤ sizeLine := sz 1 (by decide)
@[simp] theorem le_sz2 : 2 ≤ sizeLine := sz 2 (by decide)
@[simp] theorem le_sz3 : 3 ≤ sizeLine := sz 3 (by decide)
@[simp] theorem le_sz4 : 4 ≤ sizeLine := sz 4 (by decide)
@[simp] theorem le_sz5 : 5 ≤ sizeLine := sz 5 (by decide)
theorem far_ne {l s : Int} (h : 0 ≤ l) (hs : 0 ≤ s) : far l s ≠ 0 := by unfold far; split <;> omega
theorem and3_len (y a b : Int) : (cD (and3 y a b)).length ≤ 3 := by
  unfold and3
  rw [cD_append, cD_append, List.length_append, List.length_append]
  have := cl_len [-y, a]
  have := cl_len [-y, b]
  have := cl_len [y, -a, -b]
  omega
theorem gclF_len {s : Int} : ∀ (r : List (Int × Int)) (y : Int), (cD (gclF y s r)).length ≤ 3 * r.length
  | [], _ => by simp [gclF]
  | p :: r, y => by
    rw [gclF, cD_append, List.length_append, List.length_cons]
    have := and3_len y (far p.1 s) (far p.2 s)
    have := gclF_len r (y + 1) (s := s)
    omega
def Pos (r : List (Int × Int)) : Prop := ∀ p ∈ r, 0 ≤ p.1 ∧ 0 ≤ p.2
def sp_p_put_graph : DSp := fun ds M R => ∃ (c : Addr) (cs : List D) (g : Gr) (s : Int), ds = [.ref c, gD g, .int s] ∧ M c = some (.lst cs) ∧ cs.length ≤ 100000 ∧ 0 ≤ s ∧ 0 ≤ g.ins ∧ Pos g.ands ∧ g.ands.length ≤ 1000 ∧
  ∀ M', M' c = some (.lst (cs ++ cD (gcl g s))) → Keeps [c] M M' → R .non M'
theorem len_p_put_graph : ∀ ds M R, sp_p_put_graph ds M R → ds.length = 3 := by rintro _ _ _ ⟨_, _, _, _, rfl, _⟩; rfl
def r_p_put_graph_b1 : DS := (dSeq (dAsg (dOp dAdd (dOp dAdd (dOp dAdd (dCall sp_p_first_and (dCons (dVar 1) dNil)) (dVar 3)) (dC (.int 1))) (dVar 2)) (gN 6))
    (dDrop (dCall sp_p_put_and (dCons (dVar 0) (dCons (dVar 6) (dCons (dCall sp_p_moved_literal (dCons (dVar 4) (dCons (dVar 2) dNil))) (dCons (dCall sp_p_moved_literal (dCons (dVar 5) (dCons (dVar 2) dNil))) dNil)))))))
def r_p_put_graph : DS := (dSeq (dDrop (dMt mAppend (dVar 0) (dCons (dTup (dCons (dOp dSub (dUn dNeg (dC (.int 1))) (dVar 2)) dNil)) dNil)))
    (dFor (dEnum (dOp dIx (dVar 1) (dC (.int 2)))) (gT 2 (gsCons (gN 3) (gsCons (gT 2 (gsCons (gN 4) (gsCons (gN 5) gsNil))) gsNil))) r_p_put_graph_b1))
theorem pure_p_put_graph : ∀ ds M R, sp_p_put_graph ds M R → r_p_put_graph { nx := fun _ M' => R .non M', rt := R } (startS 7 ds) M := by
  rintro ds M R ⟨c, cs, g, s, rfl, hc, hl, hs, hi, hp, ha, h⟩
  simp [r_p_put_graph, hc]
  refine ⟨len_line (by omega), ?_⟩
  simp only [dFor, dEnum, dOp, dIx, dVar, dC, getS, look_g2, itemsD]
  refine ⟨fun i S M' => (∃ e3 e4 e5 e6, S = [some (.ref c), some (gD g), some (.int s), e3, e4, e5, e6]) ∧ M' c = some (.lst (cs ++ (.tup [.int (-1 - s)] :: cD (gclF (fstG g + 1 + s) s (g.ands.take i))))) ∧ Keeps [c] M M',
    ⟨⟨none, none, none, none, rfl⟩, by rw [updM_same]; simp [gclF], .write _ (by simp)⟩, fun _ _ _ _ _ => trivial, ?_, ?_⟩
  · rintro i d S M' e ⟨⟨e3, e4, e5, e6, rfl⟩, ev, kk⟩
    rw [enumD_get, List.getElem?_map] at e
    obtain ⟨x, ex, rfl⟩ := Option.map_eq_some_iff.mp e
    obtain ⟨q, eq, rfl⟩ := Option.map_eq_some_iff.mp ex
    have hq := hp q (List.mem_of_getElem? eq)
    have hil : i < g.ands.length := (List.getElem?_eq_some_iff.mp eq).1
    have gl := gclF_len (s := s) (g.ands.take i) (fstG g + 1 + s)
    rw [List.length_take] at gl
    simp [prD, r_p_put_graph_b1]
    refine ⟨g, rfl, ?_⟩
    simp
    refine ⟨q.1, s, rfl, q.2, s, rfl, c, _, _, _, _, rfl, ev, ?_, ?_, far_ne hq.1 hs, far_ne hq.2 hs, fun M2 h2 k2 => ?_⟩
    · rw [List.length_append, List.length_cons]; omega
    · simp [fstG]; omega
    · refine ⟨?_, kk.trans k2⟩
      rw [h2, List.take_add_one, eq, Option.toList, gclF_snoc, cD_append, List.length_take, Nat.min_eq_left (by omega)]
      rw [show fstG g + 1 + s + (i : Int) = fstG g + i + 1 + s by omega]
      simp
  · rintro S M' ⟨⟨e3, e4, e5, e6, rfl⟩, ev, kk⟩
    rw [enumD_length, List.length_map, List.take_length] at ev
    exact h M' ev kk
def sp_p_clauses_of : DSp := fun ds M R => ∃ g : Gr, ds = [gD g] ∧ 0 ≤ g.ins ∧ Pos g.ands ∧ g.ands.length ≤ 1000 ∧ ∀ p M', M p = none → M' p = some (.lst (cD (gcl g 0))) → Keeps [] M M' → R (.ref p) M'
theorem len_p_clauses_of : ∀ ds M R, sp_p_clauses_of ds M R → ds.length = 1 := by rintro _ _ _ ⟨_, rfl, _⟩; rfl
def r_p_clauses_of : DS := (dSeq (dAsg (dLst dNil) (gN 1))
    (dSeq (dDrop (dCall sp_p_put_graph (dCons (dVar 1) (dCons (dVar 0) (dCons (dC (.int 0)) dNil)))))
    (dRet (dVar 1))))
theorem pure_p_clauses_of : ∀ ds M R, sp_p_clauses_of ds M R → r_p_clauses_of { nx := fun _ M' => R .non M', rt := R } (startS 2 ds) M := by
  rintro ds M R ⟨g, rfl, hi, hp, ha, h⟩
  simp [r_p_clauses_of]
  refine (fun p hpn => ⟨p, [], g, 0, rfl, updM_same, by simp, by omega, hi, hp, ha, fun M' h1 k1 => ?_⟩)
  simp at h1 ⊢
  exact h p M' hpn h1 (Keeps.sub hpn (.new _ hpn) k1)
def sp_l_graph_clauses : DSp := fun ds M R => ∃ (g : Gr) (s : Int), ds = [gD g, .int s] ∧ 0 ≤ s ∧ 0 ≤ g.ins ∧ Pos g.ands ∧ g.ands.length ≤ 1000 ∧ ∀ p M', M p = none → M' p = some (.lst (cD (gcl g s))) → Keeps [] M M' → R (.ref p) M'
theorem len_l_graph_clauses : ∀ ds M R, sp_l_graph_clauses ds M R → ds.length = 2 := by rintro _ _ _ ⟨_, _, rfl, _⟩; rfl
def r_l_graph_clauses_b1 : DS := (dDrop (dCall sp_l_put (dCons (dVar 2) (dCons (dVar 9) dNil))))
def r_l_graph_clauses_b2 : DS := (dSeq (dPar3 6 7 8 (dCons (dOp dAdd (dOp dAdd (dOp dAdd (dVar 3) (dVar 4)) (dC (.int 1))) (dVar 1)) (dCons (dCall sp_l_far (dCons (dOp dIx (dVar 5) (dC (.int 0))) (dCons (dVar 1) dNil))) (dCons (dCall sp_l_far (dCons (dOp dIx (dVar 5) (dC (.int 1))) (dCons (dVar 1) dNil))) dNil))))
    (dFor (dISeq (dTup (dCons (dLst (dCons (dUn dNeg (dVar 6)) (dCons (dVar 7) dNil))) (dCons (dLst (dCons (dUn dNeg (dVar 6)) (dCons (dVar 8) dNil))) (dCons (dLst (dCons (dVar 6) (dCons (dUn dNeg (dVar 7)) (dCons (dUn dNeg (dVar 8)) dNil)))) dNil))))) (gN 9) r_l_graph_clauses_b1))
def r_l_graph_clauses_a1 : DS := (dRet (dVar 2))
def r_l_graph_clauses : DS := (dSeq (dPar 2 3 (dCons (dLst (dCons (dTup (dCons (dOp dSub (dUn dNeg (dC (.int 1))) (dVar 1)) dNil)) dNil)) (dCons (dOp dAdd (dOp dAdd (dC (.int 1)) (dOp dIx (dVar 0) (dC (.int 0)))) (dCB cLen (dCons (dOp dIx (dVar 0) (dC (.int 1))) dNil))) dNil)))
    (dSeq (dFor (dEnum (dOp dIx (dVar 0) (dC (.int 2)))) (gT 2 (gsCons (gN 4) (gsCons (gN 5) gsNil))) r_l_graph_clauses_b2)
    r_l_graph_clauses_a1))
theorem pure_l_graph_clauses : ∀ ds M R, sp_l_graph_clauses ds M R → r_l_graph_clauses { nx := fun _ M' => R .non M', rt := R } (startS 10 ds) M := by
  rintro ds M R ⟨g, s, rfl, hs, hi, hp, ha, h⟩
  simp [r_l_graph_clauses, gD]
  intro p hpn
  simp only [dFor, dEnum, dOp, dIx, dVar, dC, getS, lookD, at_2, itemsD, List.getElem?_cons_succ, List.getElem?_cons_zero]
  refine ⟨fun i S M' => (∃ e4 e5 e6 e7 e8 e9, S = [some (gD g), some (.int s), some (.ref p), some (.int (fstG g)), e4, e5, e6, e7, e8, e9]) ∧ M' p = some (.lst (.tup [.int (-1 - s)] :: cD (gclF (fstG g + 1 + s) s (g.ands.take i)))) ∧ Keeps [] M M',
    ⟨⟨none, none, none, none, none, none, rfl⟩, by rw [updM_same]; simp [gclF], .new _ hpn⟩, fun _ _ _ _ _ => trivial, ?_, ?_⟩
  · rintro i d S M' e ⟨⟨e4, e5, e6, e7, e8, e9, rfl⟩, ev, kk⟩
    rw [enumD_get, List.getElem?_map] at e
    obtain ⟨x, ex, rfl⟩ := Option.map_eq_some_iff.mp e
    obtain ⟨q, eq, rfl⟩ := Option.map_eq_some_iff.mp ex
    have hq := hp q (List.mem_of_getElem? eq)
    have hil : i < g.ands.length := (List.getElem?_eq_some_iff.mp eq).1
    have gl := gclF_len (s := s) (g.ands.take i) (fstG g + 1 + s)
    rw [List.length_take] at gl
    simp [prD, r_l_graph_clauses_b2]
    refine ⟨q.1, s, rfl, ?_⟩
    simp
    refine ⟨q.2, s, rfl, ?_⟩
    simp
    simp only [dFor, dISeq, dTup, dCons, dLst, dNil, dUn, dNeg, dVar, getS, itemsD]
    refine ⟨le_sz2, fun p1 hp1 => ⟨le_sz2, fun p2 hp2 => ⟨le_sz3, fun p3 hp3 => ⟨le_sz3, for_chain ?_⟩⟩⟩⟩
    simp [chainF, r_l_graph_clauses_b1]
    generalize hy : fstG g + (i : Int) + 1 + s = y at hp1 hp2 hp3 ⊢
    have y0 : y ≠ 0 := by simp [fstG] at hy; omega
    generalize hA : updM M' p1 (.lst [.int (-y), .int (far q.1 s)]) = MA at hp2 hp3 ⊢
    have A1 : MA p1 = some (.lst ([-y, far q.1 s].map .int)) := by rw [← hA, updM_same]; rfl
    have kA : Keeps [] M' MA := by rw [← hA]; exact .new _ hp1
    generalize hB : updM MA p2 (.lst [.int (-y), .int (far q.2 s)]) = MB at hp3 ⊢
    have B2 : MB p2 = some (.lst ([-y, far q.2 s].map .int)) := by rw [← hB, updM_same]; rfl
    have kB : Keeps [] MA MB := by rw [← hB]; exact .new _ hp2
    generalize hC : updM MB p3 (.lst [.int y, .int (-far q.1 s), .int (-far q.2 s)]) = MC
    have C3 : MC p3 = some (.lst ([y, -far q.1 s, -far q.2 s].map .int)) := by rw [← hC, updM_same]; rfl
    have kC : Keeps [] MB MC := by rw [← hC]; exact .new _ hp3
    have cP : MC p = some (.lst (.tup [.int (-1 - s)] :: cD (gclF (fstG g + 1 + s) s (g.ands.take i)))) := kC _ _ (by simp) (kB _ _ (by simp) (kA _ _ (by simp) ev))
    have n1 : ¬ p1 = p := ne_none' ev hp1
    have n2 : ¬ p2 = p := ne_none' (kA _ _ (by simp) ev) hp2
    have n3 : ¬ p3 = p := ne_none' (kB _ _ (by simp) (kA _ _ (by simp) ev)) hp3
    have C1 := kC _ _ (by simp) (kB _ _ (by simp) A1)
    have C2 := kC _ _ (by simp) B2
    have f1 := far_ne hq.1 hs
    have f2 := far_ne hq.2 hs
    have l1 := cl_len [-y, far q.1 s]
    have l2 := cl_len [-y, far q.2 s]
    refine ⟨p, p1, _, [-y, far q.1 s], rfl, cP, C1, by simp, by rw [List.length_cons]; omega, by simp; exact ⟨y0, f1⟩, fun D1 d1 j1 => ?_⟩
    refine ⟨p, p2, _, [-y, far q.2 s], rfl, d1, j1 _ _ (by simpa using n2) C2, by simp, by rw [List.length_append, List.length_cons]; omega, by simp; exact ⟨y0, f2⟩, fun D2 d2 j2 => ?_⟩
    refine ⟨p, p3, _, [y, -far q.1 s, -far q.2 s], rfl, d2, j2 _ _ (by simpa using n3) (j1 _ _ (by simpa using n3) C3), by simp, by rw [List.length_append, List.length_append, List.length_cons]; omega, by simp; exact ⟨y0, f1, f2⟩, fun D3 d3 j3 => ⟨?_, ?_⟩⟩
    · rw [d3, List.take_add_one, eq, Option.toList, gclF_snoc, cD_append, List.length_take, Nat.min_eq_left (by omega), show fstG g + 1 + s + (i : Int) = y by omega, and3, cD_append, cD_append]
      simp
    · refine Keeps.sub hpn (kk.trans ((kA.trans kB).trans kC)) ((j1.trans j2).trans j3)
  · rintro S M' ⟨⟨e4, e5, e6, e7, e8, e9, rfl⟩, ev, kk⟩
    rw [enumD_length, List.length_map, List.take_length] at ev
    simp [r_l_graph_clauses_a1]
    exact h p M' hpn ev kk
end Law

namespace Law
open PySem PySem.Spec PyProof.Rows L2 PyD

theorem same2_len (z x : Int) : (cD (same2 z x)).length ≤ 2 := by
  unfold same2
  rw [cD_append, List.length_append]
  have := cl_len [-z, x]
  have := cl_len [z, -x]
  omega
theorem regF_len {s : Int} : ∀ (r : List (Int × Int)) (z : Int), (cD (regF z s r)).length ≤ 2 * r.length
  | [], _ => by simp [regF]
  | p :: r, z => by
    rw [regF, cD_append, List.length_append, List.length_cons]
    have := same2_len z (far p.2 s)
    have := regF_len r (z + 1) (s := s)
    omega
theorem gcl_len (g : Gr) (s : Int) : (cD (gcl g s)).length ≤ 1 + 3 * g.ands.length := by
  unfold gcl
  have := gclF_len (s := s) g.ands (fstG g + 1 + s)
  simp at this ⊢
  omega
theorem unrF_len {g : Gr} (ok : Ok g) : ∀ n : Nat, (cD (unrF g n)).length ≤ n * 100
  | 0 => by simp [unrF]
  | n + 1 => by
    have h1 := unrF_len ok n
    have h2 := gcl_len g (n * sizG g)
    have h3 := regF_len (s := ((n : Int) - 1) * sizG g) g.regs (n * sizG g + g.ins + 2)
    have h4 := ok.a13
    have h5 := ok.r3
    rw [unrF, cD_append, cD_append, List.length_append, List.length_append]
    split
    · simp at h1 h2 ⊢; omega
    · omega
theorem Ok.pos {g : Gr} (ok : Ok g) : Pos g.ands := fun p hp => by
  obtain ⟨j, hj⟩ := List.mem_iff_getElem?.mp hp
  have := ok.wa.get hj
  exact ⟨this.1, this.2.2.1⟩
theorem Ok.siz0 {g : Gr} (ok : Ok g) : 1 ≤ sizG g ∧ sizG g ≤ 20 := by
  have := ok.i0
  have := ok.i3
  have := ok.r3
  have := ok.a13
  simp [sizG]
  omega
theorem cmul_small {c s : Int} (h0 : -1000 ≤ c) (h1 : c ≤ 1000) : CMul c s := .inl ⟨by omega, by omega⟩
def sp_p_unrolled : DSp := fun ds M R => ∃ (g : Gr) (n : Nat), ds = [gD g, .int n] ∧ Ok g ∧ n ≤ 10 ∧ ∀ p M', M p = none → M' p = some (.lst (cD (unrF g n))) → Keeps [] M M' → R (.ref p) M'
theorem len_p_unrolled : ∀ ds M R, sp_p_unrolled ds M R → ds.length = 2 := by rintro _ _ _ ⟨_, _, rfl, _⟩; rfl
def r_p_unrolled_b1 : DS := (dDrop (dCall sp_p_put_same (dCons (dVar 2) (dCons (dCall sp_p_register_letter (dCons (dVar 0) (dCons (dVar 5) (dCons (dVar 4) dNil)))) (dCons (dCall sp_p_moved_literal (dCons (dVar 7) (dCons (dOp dMul (dOp dSub (dVar 4) (dC (.int 1))) (dVar 3)) dNil))) dNil)))))
def r_p_unrolled_b2 : DS := (dSeq (dDrop (dCall sp_p_put_graph (dCons (dVar 2) (dCons (dVar 0) (dCons (dOp dMul (dVar 4) (dVar 3)) dNil)))))
    (dFor (dEnum (dIfE (dB (dOp dGt (dVar 4) (dC (.int 0)))) (dOp dIx (dVar 0) (dC (.int 1))) (dTup dNil))) (gT 2 (gsCons (gN 5) (gsCons (gT 2 (gsCons (gN 6) (gsCons (gN 7) gsNil))) gsNil))) r_p_unrolled_b1))
def r_p_unrolled_a1 : DS := (dRet (dVar 2))
def r_p_unrolled : DS := (dSeq (dPar 2 3 (dCons (dLst dNil) (dCons (dCall sp_p_size_of (dCons (dVar 0) dNil)) dNil)))
    (dSeq (dFor (dRng1 (dCons (dVar 1) dNil)) (gN 4) r_p_unrolled_b2)
    r_p_unrolled_a1))
theorem rng_get0 {n i : Nat} {d : D} (h : (rngD 0 n)[i]? = some d) : i < n ∧ d = .int (i : Nat) := by
  obtain ⟨h1, h2⟩ := rngD_get h
  exact ⟨h1, by rw [h2]; simp⟩
theorem pure_p_unrolled : ∀ ds M R, sp_p_unrolled ds M R → r_p_unrolled { nx := fun _ M' => R .non M', rt := R } (startS 8 ds) M := by
  rintro ds M R ⟨g, n, rfl, ok, hn, h⟩
  simp [r_p_unrolled]
  intro p hpn
  refine ⟨g, rfl, ?_⟩
  simp
  simp only [dFor, dRng1, dCons, dVar, dNil, getS]
  refine ⟨⟨by omega, by omega⟩, fun i S M' => (∃ e4 e5 e6 e7, S = [some (gD g), some (.int n), some (.ref p), some (.int (sizG g)), e4, e5, e6, e7]) ∧ M' p = some (.lst (cD (unrF g i))) ∧ Keeps [] M M',
    ⟨⟨none, none, none, none, rfl⟩, by rw [updM_same]; rfl, .new _ hpn⟩, fun _ _ _ _ _ => trivial, ?_, ?_⟩
  · rintro i d S M' e ⟨⟨e4, e5, e6, e7, rfl⟩, ev, kk⟩
    obtain ⟨hi, rfl⟩ := rng_get0 e
    have hin : i ≤ 10 := by simp at hi; omega
    have ul := unrF_len ok i
    have sz := ok.siz0
    have i0 := ok.i0
    have ns : (0 : Int) ≤ i * sizG g := Int.mul_nonneg (by omega) (by omega)
    simp [r_p_unrolled_b2]
    refine ⟨cmul_small (by omega) (by omega), p, _, g, _, rfl, ev, by omega, ns, i0, ok.pos, by have := ok.a13; omega, fun M1 h1 k1 => ?_⟩
    simp only [dFor, dEnum, dIfE, dB, dOp, dB0, dVar, dC, getS, dIx, lookD, gD, at_1, List.getElem?_cons_succ, List.getElem?_cons_zero, dTup, dNil]
    by_cases hz : i = 0
    · subst hz
      simp only [show decide ((0 : Int) < ((0 : Nat) : Int)) = false from rfl, Bool.false_eq_true, if_false]
      refine ⟨Nat.zero_le _, for_chain ?_⟩
      simp [chainF, enumD]
      refine ⟨?_, Keeps.sub hpn kk k1⟩
      rw [h1, unrF, unrF]
      simp [cD_append, unrF]
    · have hd : decide ((0 : Int) < (i : Int)) = true := decide_eq_true (by omega)
      simp only [hd, if_true, itemsD]
      refine ⟨fun j S M2 => (∃ e5 e6 e7, S = [some (gD g), some (.int n), some (.ref p), some (.int (sizG g)), some (.int i), e5, e6, e7]) ∧ M2 p = some (.lst (cD (unrF g i) ++ cD (gcl g (i * sizG g)) ++ cD (regF (i * sizG g + g.ins + 2) (((i : Int) - 1) * sizG g) (g.regs.take j)))) ∧ Keeps [] M M2,
        ⟨⟨_, _, _, rfl⟩, by rw [h1]; simp [regF], Keeps.sub hpn kk k1⟩, fun _ _ _ _ _ => trivial, ?_, ?_⟩
      · rintro j d S M2 e' ⟨⟨f5, f6, f7, rfl⟩, ev2, kk2⟩
        rw [enumD_get, List.getElem?_map] at e'
        obtain ⟨x, ex, rfl⟩ := Option.map_eq_some_iff.mp e'
        obtain ⟨q, eq, rfl⟩ := Option.map_eq_some_iff.mp ex
        have hq := ok.wr q (List.mem_of_getElem? eq)
        have hjl : j < g.regs.length := (List.getElem?_eq_some_iff.mp eq).1
        have ns1 : (0 : Int) ≤ ((i : Int) - 1) * sizG g := Int.mul_nonneg (by omega) (by omega)
        have rl := regF_len (s := ((i : Int) - 1) * sizG g) (g.regs.take j) (i * sizG g + g.ins + 2)
        rw [List.length_take] at rl
        have gl := gcl_len g (i * sizG g)
        have := ok.a13
        have := ok.r3
        simp [prD, r_p_unrolled_b1]
        refine ⟨g, j, i, rfl, cmul_small (by omega) (by omega), ?_⟩
        simp
        refine ⟨cmul_small (by omega) (by omega), q.2, _, rfl, p, _, _, _, rfl, ev2, ?_, by omega, far_ne hq.2.1 ns1, fun M3 h3 k3 => ⟨?_, Keeps.sub hpn kk2 k3⟩⟩
        · rw [List.length_append, List.length_append]
          omega
        · rw [h3, List.take_add_one, eq, Option.toList, regF_snoc, cD_append, List.length_take, Nat.min_eq_left (by omega)]
          rw [show (i : Int) * sizG g + g.ins + 2 + (j : Int) = i * sizG g + g.ins + j + 2 by omega]
          simp
      · rintro S M2 ⟨⟨f5, f6, f7, rfl⟩, ev2, kk2⟩
        rw [enumD_length, List.length_map, List.take_length] at ev2
        refine ⟨⟨_, _, _, _, rfl⟩, ?_, kk2⟩
        rw [ev2, unrF, if_neg hz, cD_append, cD_append]
  · rintro S M' ⟨⟨e4, e5, e6, e7, rfl⟩, ev, kk⟩
    simp [r_p_unrolled_a1]
    rw [rngD_length] at ev
    exact h p M' hpn ev kk
end Law

namespace Law
open PySem PySem.Spec PyProof.Rows L2 PyD

def sp_l_unrolled : DSp := sp_p_unrolled
theorem len_l_unrolled : ∀ ds M R, sp_l_unrolled ds M R → ds.length = 2 := len_p_unrolled
def r_l_unrolled_b1 : DS := (dDrop (dCall sp_l_put (dCons (dVar 2) (dCons (dVar 9) dNil))))
def r_l_unrolled_b2 : DS := (dSeq (dPar 7 8 (dCons (dOp dAdd (dOp dAdd (dOp dAdd (dOp dMul (dVar 4) (dVar 3)) (dOp dIx (dVar 0) (dC (.int 0)))) (dVar 5)) (dC (.int 2))) (dCons (dCall sp_l_far (dCons (dOp dIx (dVar 6) (dC (.int 1))) (dCons (dOp dMul (dOp dSub (dVar 4) (dC (.int 1))) (dVar 3)) dNil))) dNil)))
    (dFor (dISeq (dTup (dCons (dLst (dCons (dUn dNeg (dVar 7)) (dCons (dVar 8) dNil))) (dCons (dLst (dCons (dVar 7) (dCons (dUn dNeg (dVar 8)) dNil))) dNil)))) (gN 9) r_l_unrolled_b1))
def r_l_unrolled_b3 : DS := (dSeq (dAsg (dOp dAdd (dVar 2) (dCall sp_l_graph_clauses (dCons (dVar 0) (dCons (dOp dMul (dVar 4) (dVar 3)) dNil)))) (gN 2))
    (dFor (dEnum (dIfE (dB (dOp dGt (dVar 4) (dC (.int 0)))) (dOp dIx (dVar 0) (dC (.int 1))) (dTup dNil))) (gT 2 (gsCons (gN 5) (gsCons (gN 6) gsNil))) r_l_unrolled_b2))
def r_l_unrolled_a1 : DS := (dRet (dVar 2))
def r_l_unrolled : DS := (dSeq (dPar 2 3 (dCons (dLst dNil) (dCons (dCall sp_l_size (dCons (dVar 0) dNil)) dNil)))
    (dSeq (dFor (dRng1 (dCons (dVar 1) dNil)) (gN 4) r_l_unrolled_b3)
    r_l_unrolled_a1))
theorem pure_l_unrolled : ∀ ds M R, sp_l_unrolled ds M R → r_l_unrolled { nx := fun _ M' => R .non M', rt := R } (startS 10 ds) M := by
  rintro ds M R ⟨g, n, rfl, ok, hn, h⟩
  simp [r_l_unrolled]
  intro p hpn
  refine ⟨g, rfl, ?_⟩
  simp
  simp only [dFor, dRng1, dCons, dVar, dNil, getS]
  refine ⟨⟨by omega, by omega⟩, fun i S M' => ∃ (p : Addr), M p = none ∧ (∃ e4 e5 e6 e7 e8 e9, S = [some (gD g), some (.int n), some (.ref p), some (.int (sizG g)), e4, e5, e6, e7, e8, e9]) ∧ M' p = some (.lst (cD (unrF g i))) ∧ Keeps [] M M',
    ⟨p, hpn, ⟨none, none, none, none, none, none, rfl⟩, by rw [updM_same]; rfl, .new _ hpn⟩, fun _ _ _ _ _ => trivial, ?_, ?_⟩
  · rintro i d S M' e ⟨p, hpn, ⟨e4, e5, e6, e7, e8, e9, rfl⟩, ev, kk⟩
    obtain ⟨hi, rfl⟩ := rng_get0 e
    have hin : i ≤ 10 := by simp at hi; omega
    have ul := unrF_len ok i
    have sz := ok.siz0
    have i0 := ok.i0
    have a13 := ok.a13
    have r3 := ok.r3
    have gl := gcl_len g (i * sizG g)
    have ns : (0 : Int) ≤ i * sizG g := Int.mul_nonneg (by omega) (by omega)
    simp [r_l_unrolled_b3]
    refine ⟨cmul_small (by omega) (by omega), g, _, rfl, ns, i0, ok.pos, by omega, fun q M1 hq h1 k1 => ?_⟩
    have ep : M1 p = some (.lst (cD (unrF g i))) := k1 _ _ (by simp) ev
    simp [ep, h1]
    simp at ul gl
    refine ⟨Nat.le_of_lt (len_line (by omega)), fun r hr => ?_⟩
    have r0 : M r = none := by
      cases e : M r with
      | none => rfl
      | some o => rw [k1 _ _ (by simp) (kk _ _ (by simp) e)] at hr; cases hr
    have kr : Keeps [] M (updM M1 r (.lst (cD (unrF g i) ++ cD (gcl g (i * sizG g))))) := (kk.trans k1).trans (.new _ hr)
    simp only [dFor, dEnum, dIfE, dB, dOp, dB0, dVar, dC, getS, dIx, lookD, gD, at_1, List.getElem?_cons_succ, List.getElem?_cons_zero, dTup, dNil]
    by_cases hz : i = 0
    · subst hz
      simp only [show decide ((0 : Int) < ((0 : Nat) : Int)) = false from rfl, Bool.false_eq_true, if_false]
      refine ⟨Nat.zero_le _, for_chain ?_⟩
      simp [chainF, enumD]
      refine ⟨r, r0, rfl, ?_, by simpa using kr⟩
      rw [updM_same, unrF, unrF]
      simp [cD_append, unrF]
    · have hd : decide ((0 : Int) < (i : Int)) = true := decide_eq_true (by omega)
      simp only [hd, if_true, itemsD]
      refine ⟨fun j S M2 => (∃ e5 e6 e7 e8 e9, S = [some (gD g), some (.int n), some (.ref r), some (.int (sizG g)), some (.int i), e5, e6, e7, e8, e9]) ∧ M2 r = some (.lst (cD (unrF g i) ++ cD (gcl g (i * sizG g)) ++ cD (regF (i * sizG g + g.ins + 2) (((i : Int) - 1) * sizG g) (g.regs.take j)))) ∧ Keeps [] M M2,
        ⟨⟨_, _, _, _, _, rfl⟩, by rw [updM_same]; simp [regF], kr⟩, fun _ _ _ _ _ => trivial, ?_, ?_⟩
      · rintro j d S M2 e' ⟨⟨f5, f6, f7, f8, f9, rfl⟩, ev2, kk2⟩
        rw [enumD_get, List.getElem?_map] at e'
        obtain ⟨x, ex, rfl⟩ := Option.map_eq_some_iff.mp e'
        obtain ⟨q2, eq, rfl⟩ := Option.map_eq_some_iff.mp ex
        have hq2 := ok.wr q2 (List.mem_of_getElem? eq)
        have hjl : j < g.regs.length := (List.getElem?_eq_some_iff.mp eq).1
        have ns1 : (0 : Int) ≤ ((i : Int) - 1) * sizG g := Int.mul_nonneg (by omega) (by omega)
        have rl := regF_len (s := ((i : Int) - 1) * sizG g) (g.regs.take j) (i * sizG g + g.ins + 2)
        rw [List.length_take] at rl
        simp [prD, r_l_unrolled_b2, gD]
        refine ⟨cmul_small (by omega) (by omega), cmul_small (by omega) (by omega), q2.2, _, rfl, ?_⟩
        simp
        simp only [dFor, dISeq, dTup, dCons, dLst, dNil, dUn, dNeg, dVar, getS, itemsD]
        refine ⟨le_sz2, fun p1 hp1 => ⟨le_sz2, fun p2 hp2 => ⟨le_sz2, for_chain ?_⟩⟩⟩
        simp [chainF, r_l_unrolled_b1]
        generalize hy : (i : Int) * sizG g + g.ins + j + 2 = z at hp1 hp2 ⊢
        generalize hx : far q2.2 (((i : Int) - 1) * sizG g) = x at hp1 hp2 ⊢
        have z0 : z ≠ 0 := by omega
        have x0 : x ≠ 0 := by rw [← hx]; exact far_ne hq2.2.1 ns1
        generalize hA : updM M2 p1 (.lst [.int (-z), .int x]) = MA at hp2 ⊢
        have A1 : MA p1 = some (.lst ([-z, x].map .int)) := by rw [← hA, updM_same]; rfl
        have kA : Keeps [] M2 MA := by rw [← hA]; exact .new _ hp1
        generalize hB : updM MA p2 (.lst [.int z, .int (-x)]) = MB
        have B2 : MB p2 = some (.lst ([z, -x].map .int)) := by rw [← hB, updM_same]; rfl
        have kB : Keeps [] MA MB := by rw [← hB]; exact .new _ hp2
        have bR := kB _ _ (by simp) (kA _ _ (by simp) ev2)
        have n1 : ¬ p1 = r := ne_none' ev2 hp1
        have n2 : ¬ p2 = r := ne_none' (kA _ _ (by simp) ev2) hp2
        have B1 := kB _ _ (by simp) A1
        have l1 := cl_len [-z, x]
        simp at rl
        refine ⟨r, p1, _, [-z, x], rfl, bR, B1, by simp, by simp; omega, by simp; exact ⟨z0, x0⟩, fun D1 d1 j1 => ?_⟩
        refine ⟨r, p2, _, [z, -x], rfl, d1, j1 _ _ (by simpa using n2) B2, by simp, by rw [List.length_append]; simp at l1 ⊢; omega, by simp; exact ⟨z0, x0⟩, fun D2 d2 j2 => ⟨?_, ?_⟩⟩
        · rw [d2, List.take_add_one, eq, Option.toList, regF_snoc, cD_append, List.length_take, Nat.min_eq_left (by omega), show (i : Int) * sizG g + g.ins + 2 + (j : Int) = z by omega, hx, same2, cD_append]
          simp
        · exact Keeps.sub r0 (kk2.trans (kA.trans kB)) (j1.trans j2)
      · rintro S M2 ⟨⟨f5, f6, f7, f8, f9, rfl⟩, ev2, kk2⟩
        rw [enumD_length, List.length_map, List.take_length] at ev2
        refine ⟨r, r0, ⟨_, _, _, _, _, _, rfl⟩, ?_, kk2⟩
        rw [ev2, unrF, if_neg hz, cD_append, cD_append]
  · rintro S M' ⟨p, hpn, ⟨e4, e5, e6, e7, e8, e9, rfl⟩, ev, kk⟩
    simp [r_l_unrolled_a1]
    rw [rngD_length] at ev
    exact h p M' hpn ev kk
end Law

namespace Law
open PySem PySem.Spec PyProof.Rows L2 PyD

theorem staF_snoc {p : Int × Int} : ∀ (r : List (Int × Int)) (z : Int), staF z (r ++ [p]) = staF z r ++ [[if p.1 = 1 then z + r.length else -(z + r.length)]]
  | [], z => by simp [staF]
  | q :: r, z => by
    have e : z + 1 + (r.length : Int) = z + ((q :: r).length : Nat) := by simp; omega
    rw [List.cons_append, staF, staF_snoc r, e]
    rfl
theorem staF_len : ∀ (r : List (Int × Int)) (z : Int), (staF z r).length = r.length
  | [], _ => rfl
  | p :: r, z => by rw [staF, List.length_cons, staF_len r]; rfl
def letT (z : Int) (i : Nat) : List D := (List.range i).map fun k => .int (z + (k : Nat))
theorem letT_step (z : Int) (i : Nat) : letT z (i + 1) = letT z i ++ [.int (z + (i : Nat))] := by unfold letT; rw [List.range_succ]; simp
theorem letT_len (z : Int) (i : Nat) : (letT z i).length = i := by simp [letT]
theorem letT_get {z : Int} {n i : Nat} {d : D} (h : (letT z n)[i]? = some d) : d = .int (z + (i : Nat)) := by
  unfold letT at h
  rw [List.getElem?_map] at h
  obtain ⟨k, hk, rfl⟩ := Option.map_eq_some_iff.mp h
  obtain ⟨h1, h2⟩ := List.getElem?_eq_some_iff.mp hk
  simp at h2
  rw [h2]
def staT (g : Gr) (i : Nat) : List D := cD (staF (g.ins + 2) (g.regs.take i))
theorem staT_step {g : Gr} {i : Nat} {q : Int × Int} (e : g.regs[i]? = some q) : staT g (i + 1) = staT g i ++ [.tup [.int (if q.1 = 1 then g.ins + 2 + i else -(g.ins + 2 + i))]] := by
  have hi : i < g.regs.length := (List.getElem?_eq_some_iff.mp e).1
  unfold staT
  rw [List.take_add_one, e, Option.toList, staF_snoc, cD_snoc, List.length_take, Nat.min_eq_left (by omega)]
  rfl
theorem staT_len (g : Gr) (i : Nat) : (staT g i).length ≤ g.regs.length := by
  unfold staT
  rw [cD_length, staF_len, List.length_take]
  omega
theorem staT_all (g : Gr) : staT g g.regs.length = cD (staF (g.ins + 2) g.regs) := by unfold staT; rw [List.take_length]
def sp_p_starting : DSp := fun ds M R => ∃ g : Gr, ds = [gD g] ∧ g.regs.length ≤ 1000 ∧ ∀ p M', M p = none → M' p = some (.lst (cD (staF (g.ins + 2) g.regs))) → Keeps [] M M' → R (.ref p) M'
theorem len_p_starting : ∀ ds M R, sp_p_starting ds M R → ds.length = 1 := by rintro _ _ _ ⟨_, rfl, _⟩; rfl
def r_p_starting : DS := (dSeq (dAsg (dLc (dRng1 (dCons (dCB cLen (dCons (dOp dIx (dVar 0) (dC (.int 1))) dNil)) dNil)) (gN 2) dYes (dCall sp_p_register_letter (dCons (dVar 0) (dCons (dVar 2) (dCons (dC (.int 0)) dNil)))) [2]) (gN 1))
    (dRet (dLc (dZipST (dVar 1) (dOp dIx (dVar 0) (dC (.int 1)))) (gT 2 (gsCons (gN 3) (gsCons (gT 2 (gsCons (gN 4) (gsCons (gN 5) gsNil))) gsNil))) dYes (dTup (dCons (dIfE (dB (dOp dEq (dVar 4) (dC (.int 1)))) (dVar 3) (dUn dNeg (dVar 3))) dNil)) [3, 4, 5])))
theorem pure_p_starting : ∀ ds M R, sp_p_starting ds M R → r_p_starting { nx := fun _ M' => R .non M', rt := R } (startS 6 ds) M := by
  rintro ds M R ⟨g, rfl, hl, h⟩
  simp [r_p_starting, gD]
  simp only [dLc, dRng1, dCons, dCB, cLen, dOp, dIx, dVar, dC, getS, lookD, at_1, List.getElem?_cons_succ, List.getElem?_cons_zero, lenD, List.length_map, dNil]
  refine ⟨⟨by omega, by omega⟩, fun p hp => ⟨LcI [] (letT (g.ins + 2)) M p, .start hp rfl, fun _ _ _ _ => trivial, ?_, ?_⟩⟩
  · rintro i d M2 e I
    obtain ⟨hi, rfl⟩ := rng_get0 e
    simp at hi
    simp
    refine ⟨g, i, 0, rfl, cmul_small (by omega) (by omega), ?_⟩
    exact I.step hp (by simp) (.refl _ _) (by rw [letT_len]; exact len_line (by omega)) (by rw [letT_step]; simp; omega)
  · intro M2 I
    have ev := I.val
    rw [rngD_length] at ev
    simp at ev
    simp [gD]
    simp only [ev]
    refine ⟨by rw [letT_len, List.length_map], fun q hq => ⟨LcI [] (staT g) M2 q, .start hq rfl, fun i M' _ I' => ⟨I'.keep _ _ (by simp) ev, trivial⟩, ?_, ?_⟩⟩
    · rintro i d M3 e I'
      obtain ⟨x, y, ex, ey, rfl⟩ := zipD_get e
      have hx := letT_get ex
      subst hx
      rw [List.getElem?_map] at ey
      obtain ⟨w, ew, rfl⟩ := Option.map_eq_some_iff.mp ey
      have sl := staT_len g i
      simp [prD]
      split
      · rename_i hw
        exact I'.step hq (by simp) (.refl _ _) (len_line (by omega)) (by rw [staT_step ew, if_pos hw])
      · rename_i hw
        exact I'.step hq (by simp) (.refl _ _) (len_line (by omega)) (by rw [staT_step ew, if_neg hw])
    · intro M3 I'
      have ev3 := I'.val
      rw [zipD_length, letT_len, List.length_map, Nat.min_self, staT_all] at ev3
      exact h q M3 (none_keep I.keep hq) ev3 (I.keep.trans I'.keep)
def sp_l_starting : DSp := sp_p_starting
theorem len_l_starting : ∀ ds M R, sp_l_starting ds M R → ds.length = 1 := len_p_starting
def r_l_starting : DS := (dSeq (dAsg (dLc (dRng1 (dCons (dCB cLen (dCons (dOp dIx (dVar 0) (dC (.int 1))) dNil)) dNil)) (gN 2) dYes (dOp dAdd (dOp dAdd (dOp dIx (dVar 0) (dC (.int 0))) (dVar 2)) (dC (.int 2))) [2]) (gN 1))
    (dRet (dLc (dZip (dVar 1) (dOp dIx (dVar 0) (dC (.int 1)))) (gT 2 (gsCons (gN 3) (gsCons (gN 4) gsNil))) dYes (dIfE (dB (dOp dEq (dOp dIx (dVar 4) (dC (.int 0))) (dC (.int 1)))) (dTup (dCons (dVar 3) dNil)) (dTup (dCons (dUn dNeg (dVar 3)) dNil))) [3, 4])))
theorem pure_l_starting : ∀ ds M R, sp_l_starting ds M R → r_l_starting { nx := fun _ M' => R .non M', rt := R } (startS 5 ds) M := by
  rintro ds M R ⟨g, rfl, hl, h⟩
  simp [r_l_starting, gD]
  simp only [dLc, dRng1, dCons, dCB, cLen, dOp, dIx, dVar, dC, getS, lookD, at_1, List.getElem?_cons_succ, List.getElem?_cons_zero, lenD, List.length_map, dNil]
  refine ⟨⟨by omega, by omega⟩, fun p hp => ⟨LcI [] (letT (g.ins + 2)) M p, .start hp rfl, fun _ _ _ _ => trivial, ?_, ?_⟩⟩
  · rintro i d M2 e I
    obtain ⟨hi, rfl⟩ := rng_get0 e
    simp at hi
    simp
    exact I.step hp (by simp) (.refl _ _) (by rw [letT_len]; exact len_line (by omega)) (by rw [letT_step]; simp; omega)
  · intro M2 I
    have ev := I.val
    rw [rngD_length] at ev
    simp at ev
    simp [gD]
    simp only [ev]
    refine fun q hq => ⟨LcI [] (staT g) M2 q, .start hq rfl, fun i M' _ I' => ⟨I'.keep _ _ (by simp) ev, trivial⟩, ?_, ?_⟩
    · rintro i d M3 e I'
      obtain ⟨x, y, ex, ey, rfl⟩ := zipD_get e
      have hx := letT_get ex
      subst hx
      rw [List.getElem?_map] at ey
      obtain ⟨w, ew, rfl⟩ := Option.map_eq_some_iff.mp ey
      have sl := staT_len g i
      simp [prD]
      split
      · rename_i hw
        exact I'.step hq (by simp) (.refl _ _) (len_line (by omega)) (by rw [staT_step ew, if_pos hw])
      · rename_i hw
        exact I'.step hq (by simp) (.refl _ _) (len_line (by omega)) (by rw [staT_step ew, if_neg hw])
    · intro M3 I'
      have ev3 := I'.val
      rw [zipD_length, letT_len, List.length_map, Nat.min_self, staT_all] at ev3
      exact h q M3 (none_keep I.keep hq) ev3 (I.keep.trans I'.keep)
/-! ### _law_step_of -/
def sp_l_step_of : DSp := fun ds M R => ∃ g st lot, ds = [gD g, .tup (lot.map .int), .tup (st.map .int)] ∧ Ok g ∧ (lot.length : Int) = g.ins ∧ st.length = g.regs.length ∧
  ∀ o M', Keeps [] M M' → R (.tup [o, .tup ((g.regs.map fun p => lit (nodes g st lot) p.2).map .int)]) M'
theorem len_l_step_of : ∀ ds M R, sp_l_step_of ds M R → ds.length = 3 := by rintro _ _ _ ⟨_, _, _, rfl, _⟩; rfl
def r_l_step_of : DS := (dSeq (dAsg (dCall sp_l_nodes (dCons (dVar 0) (dCons (dVar 2) (dCons (dVar 1) (dCons (dC (.int 1)) dNil))))) (gN 3))
    (dSeq (dAsg (dCB cTuple (dCons (dLc (dISeq (dOp dIx (dVar 0) (dC (.int 3)))) (gN 5) dYes (dCall sp_l_literal (dCons (dVar 3) (dCons (dVar 5) (dCons (dC (.int 1)) dNil)))) [5]) dNil)) (gN 4))
    (dRet (dTup (dCons (dVar 4) (dCons (dCB cTuple (dCons (dLc (dISeq (dOp dIx (dVar 0) (dC (.int 1)))) (gN 6) dYes (dCall sp_l_literal (dCons (dVar 3) (dCons (dOp dIx (dVar 6) (dC (.int 1))) (dCons (dC (.int 1)) dNil)))) [6]) dNil)) dNil))))))
theorem pure_l_step_of : ∀ ds M R, sp_l_step_of ds M R → r_l_step_of { nx := fun _ M' => R .non M', rt := R } (startS 7 ds) M := by
  rintro ds M R ⟨g, st, lot, rfl, ok, h1, h2, h⟩
  have i3 := ok.i3
  have r3 := ok.r3
  have a13 := ok.a13
  have o6 := ok.o6
  have L := nodes_len (g := g) h1 h2
  simp [r_l_step_of]
  refine ⟨g, st, lot, rfl, h1, h2, ok.wa, by omega, by omega, by omega, fun p M1 hp e1 k1 => ?_⟩
  simp [gD, dLc]
  intro q hq
  have pq : ¬ p = q := ne_none e1 hq
  refine ⟨LcI [] (mapT (fun l => .int (lit (nodes g st lot) l)) g.outs) M1 q, .begin hq, ?_, ?_⟩
  · rintro i d M2 x e rfl I
    have hx := ok.wo x (List.mem_of_getElem? e)
    refine ⟨p, _, x, rfl, I.keep _ _ (by simp) e1, hx.1, by rw [L]; exact hx.2, ?_⟩
    exact I.goes hq (by simp) (.refl _ _) (by omega) e rfl
  · intro M2 I
    have ev := I.all
    simp [ev]
    intro r hr
    have e2 := I.keep _ _ (by simp) e1
    refine ⟨LcI [] (mapT (fun w : Int × Int => .int (lit (nodes g st lot) w.2)) g.regs) M2 r, .begin hr, ?_, ?_⟩
    · rintro i d M3 x1 x2 e rfl I'
      have hx := ok.wr _ (List.mem_of_getElem? e)
      simp [prD]
      refine ⟨p, _, x2, rfl, I'.keep _ _ (by simp) e2, hx.2.1, by rw [L]; exact hx.2.2, ?_⟩
      exact I'.goes hr (by simp) (.refl _ _) (by omega) e rfl
    · intro M3 I'
      have ev3 := I'.all
      simp [ev3]
      have := h (.tup (g.outs.map fun l => .int (lit (nodes g st lot) l))) M3 ((k1.trans I.keep).trans I'.keep)
      rw [List.map_map] at this
      exact this
end Law

namespace Law
open PySem PySem.Spec PyProof.Rows L2 PyD

/-! ### _law_all_bits -/
def allB : Nat → List (List Int)
  | 0 => [[]]
  | n + 1 => (allB n).map (· ++ [0]) ++ (allB n).map (· ++ [1])
theorem allB_len : ∀ n, (allB n).length = 2 ^ n
  | 0 => rfl
  | n + 1 => by rw [allB, List.length_append, List.length_map, List.length_map, allB_len n, Nat.pow_succ]; omega
theorem allB_mem : ∀ {n : Nat} {l : List Int}, l ∈ allB n → l.length = n ∧ Bits l
  | 0, l, h => by
    have : l = [] := by simpa [allB] using h
    subst this
    exact ⟨rfl, fun x hx => by cases hx⟩
  | n + 1, l, h => by
    rw [allB, List.mem_append] at h
    rcases h with h | h
    · obtain ⟨k, hk, rfl⟩ := List.mem_map.mp h
      have := allB_mem hk
      exact ⟨by simp [this.1], fun x hx => (List.mem_append.mp hx).elim (this.2 x) fun q => .inl (by simpa using q)⟩
    · obtain ⟨k, hk, rfl⟩ := List.mem_map.mp h
      have := allB_mem hk
      exact ⟨by simp [this.1], fun x hx => (List.mem_append.mp hx).elim (this.2 x) fun q => .inr (by simpa using q)⟩
theorem pow_le {n : Nat} (h : n ≤ 8) : 2 ^ n ≤ 256 := Nat.pow_le_pow_right (by decide) h (n := 2)
def sp_l_all_bits : DSp := fun ds M R => ∃ n : Nat, ds = [.int n] ∧ n ≤ 8 ∧ ∀ p M', M p = none → M' p = some (.lst (cD (allB n))) → Keeps [] M M' → R (.ref p) M'
theorem len_l_all_bits : ∀ ds M R, sp_l_all_bits ds M R → ds.length = 1 := by rintro _ _ _ ⟨_, rfl, _⟩; rfl
def r_l_all_bits_b1 : DS := (dAsg (dOp dAdd (dLc (dISeq (dVar 1)) (gN 3) dYes (dOp dAdd (dVar 3) (dTup (dCons (dC (.int 0)) dNil))) [3]) (dLc (dISeq (dVar 1)) (gN 3) dYes (dOp dAdd (dVar 3) (dTup (dCons (dC (.int 1)) dNil))) [3])) (gN 1))
def r_l_all_bits_a1 : DS := (dRet (dVar 1))
def r_l_all_bits : DS := (dSeq (dAsg (dLst (dCons (dTup dNil) dNil)) (gN 1))
    (dSeq (dFor (dRng1 (dCons (dVar 0) dNil)) (gN 2) r_l_all_bits_b1)
    r_l_all_bits_a1))
theorem pure_l_all_bits : ∀ ds M R, sp_l_all_bits ds M R → r_l_all_bits { nx := fun _ M' => R .non M', rt := R } (startS 4 ds) M := by
  rintro ds M R ⟨n, rfl, hn, h⟩
  simp [r_l_all_bits]
  intro p hp
  simp only [dFor, dRng1, dCons, dVar, dNil, getS]
  refine ⟨⟨by omega, by omega⟩, fun i S M' => ∃ p, M p = none ∧ (∃ e, S = [some (.int n), some (.ref p), e, none]) ∧ M' p = some (.lst (cD (allB i))) ∧ Keeps [] M M',
    ⟨p, hp, ⟨none, rfl⟩, by rw [updM_same]; rfl, .new _ hp⟩, fun _ _ _ _ _ => trivial, ?_, ?_⟩
  · rintro i d S M' e ⟨p, hp, ⟨e2, rfl⟩, ev, kk⟩
    obtain ⟨hi, rfl⟩ := rng_get0 e
    simp at hi
    have hl := allB_len i
    have hpw := pow_le (n := i) (by omega)
    simp [r_l_all_bits_b1, dLc, ev]
    intro q hq
    refine ⟨LcI [] (mapT (fun l : List Int => .tup (l.map .int ++ [.int 0])) (allB i)) M' q, .begin hq, fun j M2 _ I => I.keep _ _ (by simp) ev, ?_, ?_⟩
    · rintro j d M2 el I
      obtain ⟨l, el2, rfl⟩ : ∃ l, (allB i)[j]? = some l ∧ d = .tup (l.map .int) := by
        rw [cD, List.getElem?_map] at el
        obtain ⟨l, h1, h2⟩ := Option.map_eq_some_iff.mp el
        exact ⟨l, h1, h2.symm⟩
      have hl2 := (allB_mem (List.mem_of_getElem? el2)).1
      simp
      exact ⟨Nat.le_of_lt (len_line (by omega)), I.goes hq (by simp) (.refl _ _) (by omega) el2 rfl⟩
    · intro M2 I
      have e1 := I.keep _ _ (by simp) ev
      have e2 := I.all
      simp [e1]
      intro r hr
      have qr : ¬ q = r := ne_none e2 hr
      refine ⟨LcI [] (mapT (fun l : List Int => .tup (l.map .int ++ [.int 1])) (allB i)) M2 r, .begin hr, fun j M3 _ I' => I'.keep _ _ (by simp) e1, ?_, ?_⟩
      · rintro j d M3 el I'
        obtain ⟨l, el2, rfl⟩ : ∃ l, (allB i)[j]? = some l ∧ d = .tup (l.map .int) := by
          rw [cD, List.getElem?_map] at el
          obtain ⟨l, h1, h2⟩ := Option.map_eq_some_iff.mp el
          exact ⟨l, h1, h2.symm⟩
        have hl2 := (allB_mem (List.mem_of_getElem? el2)).1
        simp
        exact ⟨Nat.le_of_lt (len_line (by omega)), I'.goes hr (by simp) (.refl _ _) (by omega) el2 rfl⟩
      · intro M3 I'
        have e3 := I'.keep _ _ (by simp) e2
        have e4 := I'.all
        simp [e3, e4]
        refine ⟨Nat.le_of_lt (len_line (by omega)), fun t ht => ?_⟩
        have k3 : Keeps [] M M3 := (kk.trans I.keep).trans I'.keep
        refine ⟨t, none_keep k3 ht, rfl, ?_, k3.trans (.new _ ht)⟩
        rw [updM_same, allB, cD_append]
        simp [cD, Function.comp_def]
  · rintro S M' ⟨p, hp, ⟨e2, rfl⟩, ev, kk⟩
    simp [r_l_all_bits_a1]
    rw [rngD_length] at ev
    exact h p M' hp ev kk
end Law

namespace Law
open PySem PySem.Spec PyProof.Rows L2 PyD

/-! ### _law_draw_graph -/
def kvP (ps : List (Int × Int)) : List (List Key × D) := ps.map fun p => ([.inl p.1, .inl p.2], .bl true)
theorem kvP_put (ps : List (Int × Int)) (x y : Int) : putD (kvP ps) [.inl x, .inl y] (.bl true) = kvP ps ∨ putD (kvP ps) [.inl x, .inl y] (.bl true) = kvP (ps ++ [(x, y)]) := by
  unfold putD
  split
  · left
    unfold kvP
    rw [List.map_map]
    refine List.map_congr_left fun p _ => ?_
    show (if ([.inl p.1, .inl p.2] : List Key) = [.inl x, .inl y] then (([.inl p.1, .inl p.2] : List Key), D.bl true) else _) = _
    split <;> rfl
  · right
    simp [kvP]
theorem kvP_len (ps : List (Int × Int)) : (kvP ps).length = ps.length := by simp [kvP]
theorem kvP_tup (ps : List (Int × Int)) : ((kvP ps).map fun p => D.tup (p.1.map keyV)) = ps.map prD := by simp [kvP, prD]
theorem sort2 (x y : Int) : ∃ a b, sortI [x, y] = [a, b] ∧ (a = x ∨ a = y) ∧ (b = x ∨ b = y) := by
  have p := sortI_perm [x, y]
  have hl := p.length_eq
  match h : sortI [x, y], hl with
  | [a, b], _ =>
    rw [h] at p
    refine ⟨a, b, rfl, ?_, ?_⟩
    · have := p.mem_iff.mp (List.mem_cons_self ..)
      simpa using this
    · have := p.mem_iff.mp (List.mem_cons_of_mem _ (List.mem_cons_self ..))
      simpa using this
structure OkD (g : Gr) : Prop where
  ok : Ok g
  a9 : g.ands.length ≤ 9
  o4 : g.outs.length ≤ 4
def sp_l_draw_graph : DSp := fun ds M R => ∃ a c, ds = [.ref a, .int 3, .int 3, .int 9] ∧ Src M a c ∧ ∀ g M', OkD g → Src M' a c → Keeps [a, c] M M' → R (gD g) M'
theorem len_l_draw_graph : ∀ ds M R, sp_l_draw_graph ds M R → ds.length = 4 := by rintro _ _ _ ⟨_, _, rfl, _⟩; rfl
def r_l_draw_graph_b1 : DS := (dSeq (dAsg (dCB cTuple (dCons (dCB cSorted (dCons (dLc (dRng1 (dCons (dC (.int 2)) dNil)) (gN 13) dYes (dCall sp_l_draw_literal (dCons (dVar 0) (dCons (dOp dAdd (dVar 7) (dCB cLen (dCons (dVar 6) dNil))) dNil))) [13]) dNil)) dNil)) (gN 9))
    (dIf (dAnd (dB (dOp dGt (dOp dIx (dVar 9) (dC (.int 0))) (dC (.int 1)))) (dB (dOp dNe (dOp dFDiv (dOp dIx (dVar 9) (dC (.int 0))) (dC (.int 2))) (dOp dFDiv (dOp dIx (dVar 9) (dC (.int 1))) (dC (.int 2)))))) (dAsg (dC (.bl true)) (gS (dVar 6) (dVar 9))) dNext))
def r_l_draw_graph_a1 : DS := (dSeq (dAsg (dOp dAdd (dVar 7) (dCB cLen (dCons (dVar 6) dNil))) (gN 10))
    (dSeq (dAsg (dCB cTuple (dCons (dLc (dRng1 (dCons (dVar 5) dNil)) (gN 14) dYes (dTup (dCons (dCall sp_l_pick (dCons (dVar 0) (dCons (dC (.int 2)) dNil))) (dCons (dCall sp_l_draw_literal (dCons (dVar 0) (dCons (dVar 10) dNil))) dNil))) [14]) dNil)) (gN 11))
    (dSeq (dAsg (dCB cTuple (dCons (dLc (dRng1 (dCons (dOp dAdd (dC (.int 1)) (dCall sp_l_pick (dCons (dVar 0) (dCons (dC (.int 4)) dNil)))) dNil)) (gN 14) dYes (dCall sp_l_draw_literal (dCons (dVar 0) (dCons (dVar 10) dNil))) [14]) dNil)) (gN 12))
    (dRet (dTup (dCons (dVar 4) (dCons (dVar 11) (dCons (dTupDT (dVar 6)) (dCons (dVar 12) dNil)))))))))
def r_l_draw_graph : DS := (dSeq (dAsg (dTup (dCons (dCall sp_l_pick (dCons (dVar 0) (dCons (dOp dAdd (dVar 1) (dC (.int 1))) dNil))) (dCons (dCall sp_l_pick (dCons (dVar 0) (dCons (dOp dAdd (dVar 2) (dC (.int 1))) dNil))) (dCons dNewT dNil)))) (gT 3 (gsCons (gN 4) (gsCons (gN 5) (gsCons (gN 6) gsNil)))))
    (dSeq (dAsg (dOp dAdd (dOp dAdd (dC (.int 1)) (dVar 4)) (dVar 5)) (gN 7))
    (dSeq (dFor (dRng1 (dCons (dIfE (dB (dOp dGt (dVar 7) (dC (.int 2)))) (dCall sp_l_pick (dCons (dVar 0) (dCons (dOp dAdd (dVar 3) (dC (.int 1))) dNil))) (dC (.int 0))) dNil)) (gN 8) r_l_draw_graph_b1)
    r_l_draw_graph_a1)))
theorem drawn {a c : Addr} {M M' : DM} (h : ∀ b, b ≠ a → b ≠ c → M' b = M b) : Keeps [a, c] M M' := fun b o hb e => by
  simp at hb
  rw [h b hb.1 hb.2]
  exact e
theorem src_some {M : DM} {a c : Addr} (s : Src M a c) : M a ≠ none ∧ M c ≠ none := by
  obtain ⟨l, m, t, cs, e1, e2, _⟩ := s.ex
  exact ⟨by rw [e1]; simp, by rw [e2]; simp⟩
theorem src_fresh {M : DM} {a c p : Addr} (s : Src M a c) (h : M p = none) : p ∉ [a, c] := by
  have := src_some s
  intro z
  simp at z
  rcases z with z | z
  · subst z; exact this.1 h
  · subst z; exact this.2 h
theorem src_upd {M : DM} {a c p : Addr} {o : DO} (s : Src M a c) (h : p ∉ [a, c]) : Src (updM M p o) a c := by
  simp at h
  exact s.same (updM_ne fun z => h.1 z.symm) (updM_ne fun z => h.2 z.symm)
theorem pure_l_draw_graph : ∀ ds M R, sp_l_draw_graph ds M R → r_l_draw_graph { nx := fun _ M' => R .non M', rt := R } (startS 15 ds) M := by
  rintro ds M R ⟨a, c, rfl, hS, h⟩
  simp [r_l_draw_graph]
  refine ⟨a, c, 4, rfl, by omega, hS, fun ins M1 i0 i1 S1 k1 => ?_⟩
  simp
  refine ⟨a, c, 4, rfl, by omega, S1, fun nr M2 r0 r1 S2 k2 => ?_⟩
  simp
  intro kd hkd
  have q2 : Keeps [a, c] M M2 := (drawn k1).trans (drawn k2)
  have kds := src_fresh S2 hkd
  have kd0 : M kd = none := by
    cases e : M kd with
    | none => rfl
    | some o => rw [q2 _ _ kds e] at hkd; cases hkd
  have first0 : 1 ≤ 1 + ins + nr ∧ 1 + ins + nr ≤ 7 := by omega
  generalize hf : 1 + ins + nr = first at first0 ⊢
  have key : ∀ (n : Int) (M3 : DM), 0 ≤ n → n ≤ 9 → Src M3 a c → M3 kd = some (.dT []) → Keeps [a, c] M M3 → dFor (dRng1 (dCons (dC (.int n)) dNil)) (gN 8) r_l_draw_graph_b1 { nx := r_l_draw_graph_a1 { nx := fun x M' => R D.non M', rt := R }, rt := R }
      [some (D.ref a), some (D.int 3), some (D.int 3), some (D.int 9), some (D.int ins), some (D.int nr), some (D.ref kd), some (D.int first), none, none, none, none, none, none, none] M3 := by
    intro n M3 n0 n9 S3 e3 q3
    simp only [dFor, dRng1, dCons, dC, dNil]
    refine ⟨⟨by omega, by omega⟩, fun i S M' => ∃ (ps : List (Int × Int)) (e8 e9 : Option D), S = [some (D.ref a), some (D.int 3), some (D.int 3), some (D.int 9), some (D.int ins), some (D.int nr), some (D.ref kd), some (D.int first), e8, e9, none, none, none, none, none] ∧
      M' kd = some (.dT (kvP ps)) ∧ ps.length ≤ i ∧ WFa first ps ∧ Src M' a c ∧ Keeps [a, c] M M', ⟨[], none, none, rfl, e3, Nat.zero_le _, trivial, S3, q3⟩, fun _ _ _ _ _ => trivial, ?_, ?_⟩
    · rintro i d S M' e ⟨ps, e8, e9, rfl, ek, hl, hw, Sx, qx⟩
      obtain ⟨hi, rfl⟩ := rng_get0 e
      simp at hi
      simp only [gN, setS, r_l_draw_graph_b1, dSeq, dAsg, dCB, dCons, dNil, dLc, dRng1, dC]
      refine ⟨⟨by omega, by omega⟩, fun p hp => lc_chain (g := gN 13) (tt := dYes) (re := dCall sp_l_draw_literal (dCons (dVar 0) (dCons (dOp dAdd (dVar 7) (dCB cLen (dCons (dVar 6) dNil))) dNil))) ?_⟩
      have hps := src_fresh Sx hp
      have hpk : ¬ kd = p := ne_none ek hp
      rw [show rngD 0 (Int.toNat 2) = [.int 0, .int 1] from rfl]
      simp [chainL, updM_at hpk, ek, kvP_len]
      refine ⟨a, c, _, rfl, by omega, by omega, src_upd Sx hps, fun l1 M4 l10 l11 S4 k4 => ?_⟩
      have n4 := fun b (hb : b ≠ a) (hc : b ≠ c) => k4 b hb hc
      have pac : p ≠ a ∧ p ≠ c := by simpa using hps
      have kac : kd ≠ a ∧ kd ≠ c := by simpa using kds
      have e4 : M4 p = some (.lst []) := by rw [k4 p pac.1 pac.2, updM_same]
      have g4 : M4 kd = some (.dT (kvP ps)) := by rw [k4 kd kac.1 kac.2, updM_at hpk, ek]
      simp [e4]
      refine ⟨len_line (by omega), ?_⟩
      simp [updM_at hpk, g4, kvP_len]
      refine ⟨a, c, _, rfl, by omega, by omega, src_upd S4 hps, fun l2 M5 l20 l21 S5 k5 => ?_⟩
      have e5 : M5 p = some (.lst [.int l1]) := by rw [k5 p pac.1 pac.2, updM_same]
      have g5 : M5 kd = some (.dT (kvP ps)) := by rw [k5 kd kac.1 kac.2, updM_at hpk, g4]
      simp [e5]
      refine ⟨len_line (by omega), fun q hq => ?_⟩
      obtain ⟨x, y, exy, hx, hy⟩ := sort2 l1 l2
      have hpq : ¬ p = q := ne_none updM_same hq
      have hkq : ¬ kd = q := ne_none (show updM M5 p (.lst [.int l1, .int l2]) kd = _ by rw [updM_at hpk, g5]) hq
      have qac : q ≠ a ∧ q ≠ c := by
        have := src_fresh (src_upd (o := .lst [.int l1, .int l2]) S5 hps) hq
        simpa using this
      have kM : Keeps [a, c] M (updM (updM M5 p (.lst [.int l1, .int l2])) q (.lst ((sortI [l1, l2]).map .int))) := by
        have p0 : M p = none := by
          cases e : M p with
          | none => rfl
          | some o => rw [qx _ _ hps e] at hp; cases hp
        have z5 : Keeps [a, c] M M5 := (((qx.trans (.new _ hp)).trans (drawn k4)).over _ p0 |>.trans (drawn k5))
        refine Keeps.trans (z5.over _ p0) (.new _ hq)
      have SM : Src (updM (updM M5 p (.lst [.int l1, .int l2])) q (.lst ((sortI [l1, l2]).map .int))) a c := src_upd (src_upd S5 hps) (by simpa using qac)
      have gM : updM (updM M5 p (.lst [.int l1, .int l2])) q (.lst ((sortI [l1, l2]).map .int)) kd = some (.dT (kvP ps)) := by rw [updM_at hkq, updM_at hpk, g5]
      rw [exy] at kM SM gM ⊢
      generalize updM (updM M5 p (.lst [.int l1, .int l2])) q (.lst ([x, y].map .int)) = MM at kM SM gM ⊢
      have bx : 0 ≤ x ∧ x / 2 < first + ps.length := by rcases hx with rfl | rfl <;> omega
      have bty : 0 ≤ y ∧ y / 2 < first + ps.length := by rcases hy with rfl | rfl <;> omega
      simp
      have c2 : CDiv x 2 ∧ CDiv y 2 := ⟨⟨by omega, by omega⟩, ⟨by omega, by omega⟩⟩
      have stay : ∃ ps, MM kd = some (.dT (kvP ps)) ∧ ps.length ≤ i + 1 ∧ WFa first ps ∧ Src MM a c ∧ PyD.Keeps [a, c] M MM := ⟨ps, gM, by omega, hw, SM, kM⟩
      split
      · refine ⟨c2.1, c2.2, ?_⟩
        split
        · exact stay
        · simp only [gM]
          refine ⟨by rw [kvP_len]; exact len_line (by omega), ?_⟩
          have S6 : ∀ o, Src (updM MM kd o) a c := fun o => src_upd SM kds
          have k6 : ∀ o, Keeps [a, c] M (updM MM kd o) := fun o => kM.over _ kd0
          rcases kvP_put ps x y with e | e
          · exact ⟨ps, e, by omega, hw, S6 _, k6 _⟩
          · exact ⟨ps ++ [(x, y)], e, by simp; omega, WFa.append hw ⟨⟨bx.1, bx.2, bty.1, bty.2⟩, trivial⟩, S6 _, k6 _⟩
      · exact stay
    · rintro S M' ⟨ps, e8, e9, rfl, ek, hl, hw, Sx, qx⟩
      rw [rngD_length] at hl
      have hl9 : ps.length ≤ 9 := by omega
      simp [r_l_draw_graph_a1]
      simp only [ek, kvP_len]
      have many0 : 1 ≤ first + (ps.length : Int) ∧ first + (ps.length : Int) ≤ 16 := by omega
      simp only [dLc, dRng1, dCons, dVar, getS, dNil]
      refine ⟨⟨by omega, by omega⟩, fun p hp => ?_⟩
      have hps := src_fresh Sx hp
      have pac : p ≠ a ∧ p ≠ c := by simpa using hps
      have hpk : ¬ kd = p := ne_none ek hp
      have p0 : M p = none := by
        cases e : M p with
        | none => rfl
        | some o => rw [qx _ _ hps e] at hp; cases hp
      refine ⟨fun j M3 => ∃ rs : List (Int × Int), rs.length = j ∧ (∀ w ∈ rs, Bit w.1 ∧ 0 ≤ w.2 ∧ w.2 / 2 < first + (ps.length : Int)) ∧ M3 p = some (.lst (rs.map prD)) ∧ M3 kd = some (.dT (kvP ps)) ∧ Src M3 a c ∧ Keeps [a, c] M M3,
        ⟨[], rfl, by simp, updM_same, by rw [updM_at hpk, ek], src_upd Sx hps, qx.trans (.new _ hp)⟩, fun _ _ _ _ => trivial, ?_, ?_⟩
      · rintro j d M3 e ⟨rs, rl, rw1, r1, r2, S3, q3⟩
        have hj : j < nr.toNat := by
          have := (List.getElem?_eq_some_iff.mp e).1
          rwa [rngD_length] at this
        simp
        refine ⟨a, c, 2, rfl, by omega, S3, fun b M4 b0 b1 S4 k4 => ?_⟩
        refine ⟨a, c, _, rfl, many0.1, by omega, S4, fun l M5 l0 l1 S5 k5 => ?_⟩
        have e5 : M5 p = some (.lst (rs.map prD)) := by rw [k5 p pac.1 pac.2, k4 p pac.1 pac.2, r1]
        have kac : kd ≠ a ∧ kd ≠ c := by simpa using kds
        have g5 : M5 kd = some (.dT (kvP ps)) := by rw [k5 kd kac.1 kac.2, k4 kd kac.1 kac.2, r2]
        simp [e5]
        refine ⟨len_line (by omega), rs ++ [(b, l)], by simp; omega, ?_, by simp [prD], by rw [updM_at hpk, g5], src_upd S5 hps, ((q3.trans (drawn k4)).trans (drawn k5)).over _ p0⟩
        intro w1 w2 hw
        simp at hw
        rcases hw with hw | ⟨rfl, rfl⟩
        · exact rw1 _ hw
        · exact ⟨by unfold Bit; omega, by omega, by omega⟩
      · rintro M3 ⟨rs, rl, rw1, r1, r2, S3, q3⟩
        rw [rngD_length] at rl
        simp [r1]
        refine ⟨a, c, 4, rfl, by omega, S3, fun b M4 b0 b1 S4 k4 => ?_⟩
        simp
        refine ⟨⟨by omega, by omega⟩, fun q hq => ?_⟩
        have hqs := src_fresh S4 hq
        have qac : q ≠ a ∧ q ≠ c := by simpa using hqs
        have kac : kd ≠ a ∧ kd ≠ c := by simpa using kds
        have g4 : M4 kd = some (.dT (kvP ps)) := by rw [k4 kd kac.1 kac.2, r2]
        have hqk : ¬ kd = q := ne_none g4 hq
        have q4 := q3.trans (drawn k4)
        have q0 : M q = none := by
          cases e : M q with
          | none => rfl
          | some o => rw [q4 _ _ hqs e] at hq; cases hq
        refine ⟨fun j M5 => ∃ os : List Int, os.length = j ∧ (∀ w ∈ os, 0 ≤ w ∧ w / 2 < first + (ps.length : Int)) ∧ M5 q = some (.lst (os.map .int)) ∧ M5 kd = some (.dT (kvP ps)) ∧ Src M5 a c ∧ Keeps [a, c] M M5,
          ⟨[], rfl, by simp, updM_same, by rw [updM_at hqk, g4], src_upd S4 hqs, q4.trans (.new _ hq)⟩, ?_, ?_⟩
        · rintro j d M5 e ⟨os, ol, ow, o1, o2, S5, q5⟩
          have hj : j < (1 + b).toNat := by
            have := (List.getElem?_eq_some_iff.mp e).1
            rwa [rngD_length] at this
          refine ⟨a, c, _, rfl, many0.1, by omega, S5, fun l M6 l0 l1 S6 k6 => ?_⟩
          have e6 : M6 q = some (.lst (os.map .int)) := by rw [k6 q qac.1 qac.2, o1]
          have g6 : M6 kd = some (.dT (kvP ps)) := by rw [k6 kd kac.1 kac.2, o2]
          refine ⟨_, e6, by rw [List.length_map]; exact len_line (by omega), os ++ [l], by simp; omega, ?_, by simp, by rw [updM_at hqk, g6], src_upd S6 hqs, (q5.trans (drawn k6)).over _ q0⟩
          intro w hw
          rcases List.mem_append.mp hw with hw | hw
          · exact ow _ hw
          · have : w = l := by simpa using hw
            subst this
            exact ⟨by omega, by omega⟩
        · rintro M5 ⟨os, ol, ow, o1, o2, S5, q5⟩
          rw [rngD_length] at ol
          simp [o1, o2]
          rw [kvP_tup]
          have hfst : fstG ⟨ins, rs, ps, os⟩ = first := by simp [fstG]; omega
          have hsiz : sizG ⟨ins, rs, ps, os⟩ = first + (ps.length : Int) := by simp [sizG]; omega
          exact h ⟨ins, rs, ps, os⟩ M5 ⟨⟨i0, by simp; omega, by simp; omega, by simp; omega, by simp; omega, by rw [hfst]; exact hw, fun w hw' => by rw [hsiz]; exact rw1 w hw', fun w hw' => by rw [hsiz]; exact ow w hw'⟩, by simp; omega, by simp; omega⟩ S5 q5
  simp only [dFor, dRng1, dCons, dIfE, dB, dOp, dB0, dVar, dC, getS, dAdd, dNil, dCall]
  have S3 := src_upd (o := .dT []) S2 kds
  have q3 : Keeps [a, c] M (updM M2 kd (.dT [])) := q2.trans (.new _ hkd)
  split
  · refine ⟨a, c, _, rfl, by omega, S3, fun n M3 n0 n1 S4 k4 => ?_⟩
    have kac : kd ≠ a ∧ kd ≠ c := by simpa using kds
    exact key n M3 n0 (by omega) S4 (by rw [k4 kd kac.1 kac.2, updM_same]) (q3.trans (drawn k4))
  · exact key 0 _ (by omega) (by omega) S3 updM_same q3
end Law

namespace Law
open PySem PySem.Spec PyProof.Rows L2 PyD

theorem cut_take (xs : List D) (k : Nat) : cutD xs none (some (k : Int)) = xs.take k := by
  unfold PyD.cutD
  rw [HT.sIx_none, HT.sIx_nat, List.drop_zero, Nat.sub_zero]
  by_cases h : k ≤ xs.length
  · rw [Nat.min_eq_left h]
  · rw [Nat.min_eq_right (by omega), List.take_length, List.take_of_length_le (by omega)]
theorem cut_drop (xs : List D) (k : Nat) : cutD xs (some (k : Int)) none = xs.drop k := by
  unfold PyD.cutD
  rw [HT.sIx_none, HT.sIx_nat]
  by_cases h : k ≤ xs.length
  · rw [Nat.min_eq_left h]
    exact List.take_of_length_le (by simp)
  · rw [Nat.min_eq_right (by omega), List.drop_length, List.drop_eq_nil_of_le (by omega)]
    simp
def sp_l_rough_graph : DSp := fun ds M R => ∃ a c, ds = [.ref a] ∧ Src M a c ∧ ∀ g M', Ok g → Src M' a c → Keeps [a, c] M M' → R (gD g) M'
theorem len_l_rough_graph : ∀ ds M R, sp_l_rough_graph ds M R → ds.length = 1 := by rintro _ _ _ ⟨_, _, rfl, _⟩; rfl
def r_l_rough_graph : DS := (dSeq (dAsg (dCall sp_l_draw_graph (dCons (dVar 0) (dCons (dC (.int 3)) (dCons (dC (.int 3)) (dCons (dC (.int 9)) dNil))))) (gN 1))
    (dSeq (dIf (dB (dOp dEq (dCall sp_l_pick (dCons (dVar 0) (dCons (dC (.int 2)) dNil))) (dC (.int 0)))) (dRet (dVar 1)) dNext)
    (dSeq (dAsg (dCall sp_l_pick (dCons (dVar 0) (dCons (dOp dMul (dC (.int 2)) (dCall sp_l_size (dCons (dVar 1) dNil))) dNil))) (gN 2))
    (dSeq (dAsg (dOp dAdd (dOp dIx (dVar 1) (dC (.int 2))) (dSl (dTup (dCons (dTup (dCons (dVar 2) (dCons (dVar 2) dNil))) (dCons (dTup (dCons (dVar 2) (dCons (dOp dBxor (dVar 2) (dC (.int 1))) dNil))) (dCons (dTup (dCons (dVar 2) (dCons (dC (.int 0)) dNil))) (dCons (dTup (dCons (dC (.int 1)) (dCons (dVar 2) dNil))) dNil))))) dNoPart (dPart (dOp dAdd (dC (.int 1)) (dCall sp_l_pick (dCons (dVar 0) (dCons (dC (.int 4)) dNil))))))) (gN 3))
    (dRet (dTup (dCons (dOp dIx (dVar 1) (dC (.int 0))) (dCons (dOp dIx (dVar 1) (dC (.int 1))) (dCons (dVar 3) (dCons (dOp dAdd (dOp dIx (dVar 1) (dC (.int 3))) (dTup (dCons (dOp dMul (dC (.int 2)) (dOp dAdd (dCall sp_l_size (dCons (dVar 1) dNil)) (dCall sp_l_pick (dCons (dVar 0) (dCons (dC (.int 1)) dNil))))) dNil))) dNil))))))))))
theorem xor1 {l : Int} : Builtin.bitXor l 1 = l + 1 - 2 * (l % 2) := by rw [bitXor_and, bitAnd_m1]
def extX (l x : Int) : List (Int × Int) := [(l, l), (l, x), (l, 0), (1, l)]
theorem wf_take : ∀ (r : List (Int × Int)) (n : Int) (k : Nat), WFa n r → WFa n (r.take k)
  | [], _, _, h => by simpa using h
  | p :: r, n, 0, h => trivial
  | p :: r, n, k + 1, h => ⟨h.1, wf_take r _ k h.2⟩
theorem ext_wf {n l x : Int} (h0 : 0 ≤ l) (h1 : l / 2 < n) (hn : 1 ≤ n) (hx : 0 ≤ x) (hx2 : x / 2 = l / 2) (k : Nat) : WFa n ((extX l x).take k) := by
  refine wf_take _ _ _ ?_
  simp only [extX, WFa]
  refine ⟨⟨h0, h1, h0, h1⟩, ⟨h0, by omega, hx, by omega⟩, ⟨h0, by omega, by omega, by omega⟩, ⟨by omega, by omega, h0, by omega⟩, trivial⟩
theorem sz2' : 0 + 1 + 1 ≤ sizeLine := sz 2 (by decide)
theorem sz1' : 0 + 1 ≤ sizeLine := sz 1 (by decide)
theorem sz' {n : Nat} (h : n ≤ 1000) : n ≤ sizeLine := sz n h
theorem sz4' : 0 + 1 + 1 + 1 + 1 ≤ sizeLine := sz 4 (by decide)
theorem pure_l_rough_graph : ∀ ds M R, sp_l_rough_graph ds M R → r_l_rough_graph { nx := fun _ M' => R .non M', rt := R } (startS 4 ds) M := by
  rintro ds M R ⟨a, c, rfl, hS, h⟩
  simp only [r_l_rough_graph, dSeq, dAsg, dCall, dCons, dVar, dNil, startS, getS, dC, List.map, List.length, List.cons_append, List.nil_append, gN, setS, List.replicate, dIf, dB, dOp, dRet, Nat.reduceSub, Nat.reduceAdd]
  refine ⟨a, c, rfl, hS, fun g M1 od S1 q1 => ?_⟩
  refine ⟨a, c, 2, rfl, by omega, S1, fun b M2 b0 b1 S2 k2 => ?_⟩
  have q2 := q1.trans (drawn k2)
  have sz := od.ok.siz0
  simp only [dEq_i]
  split
  · exact h g M2 od.ok S2 q2
  · simp only [dNext]
    refine ⟨g, rfl, ?_⟩
    simp only [dMul_i]
    refine ⟨cmul_small (by omega) (by omega), a, c, _, rfl, by omega, S2, fun l M3 l0 l1 S3 k3 => ?_⟩
    have q3 := q2.trans (drawn k3)
    simp only [dIx, look_g2, dSl, dTup, dNil, dCons, dC, dVar, getS, dNoPart, dPart, dOp, dBxor, dI0, List.length, Nat.reduceAdd]
    refine ⟨sz2', sz2', sz2', sz2', sz4', a, c, 4, rfl, by omega, S3, fun k M4 k0 k1 S4 k4 => ?_⟩
    have q4 := q3.trans (drawn k4)
    obtain ⟨kn, rfl⟩ : ∃ kn : Nat, k = kn := ⟨k.toNat, by omega⟩
    have hx0 : 0 ≤ Builtin.bitXor l 1 ∧ Builtin.bitXor l 1 / 2 = l / 2 := by rw [xor1]; omega
    simp only [dAdd_i, slv_t]
    generalize Builtin.bitXor l 1 = x at hx0 ⊢
    have ec : PyD.cutD [.tup [.int l, .int l], .tup [.int l, .int x], .tup [.int l, .int 0], .tup [.int 1, .int l]] none (some (1 + (kn : Int))) = ((extX l x).take (1 + kn)).map prD := by
      have := cut_take [.tup [.int l, .int l], .tup [.int l, .int x], .tup [.int l, .int 0], .tup [.int 1, .int l]] (1 + kn)
      rw [show ((1 + kn : Nat) : Int) = 1 + (kn : Int) by push_cast; rfl] at this
      rw [this, List.map_take]
      rfl
    simp only [ec]
    have kn4 : kn < 4 := by omega
    have el : ((extX l x).take (1 + kn)).length = 1 + kn := by
      rw [List.length_take]
      have : (extX l x).length = 4 := rfl
      omega
    have w1 := od.ok.wa
    have hsz : sizG g = fstG g + g.ands.length := by simp [sizG, fstG]
    have w2 : WFa (fstG g + g.ands.length) ((extX l x).take (1 + kn)) := ext_wf l0 (by omega) (by omega) hx0.1 hx0.2 _
    generalize (extX l x).take (1 + kn) = ex at el w2 ⊢
    simp only [dAdd_t, ← List.map_append]
    have a9 := od.a9
    have o4 := od.o4
    refine ⟨by simp; exact sz' (by omega), ?_⟩
    simp only [gN, setS, dRet, dTup, dCons, dNil, dOp, dIx, dVar, getS, look_g0, look_g1, look_g3, dC, dCall]
    refine ⟨g, rfl, a, c, 1, rfl, by omega, S4, fun z M5 z0 z1 S5 k5 => ?_⟩
    have q5 := q4.trans (drawn k5)
    have hz : z = 0 := by omega
    subst hz
    simp only [dAdd_i, dMul_i, dAdd_t, List.length, Nat.reduceAdd]
    refine ⟨cmul_small (by omega) (by omega), sz1', by simp; exact sz' (by omega), sz4', ?_⟩
    have eo : g.outs.map D.int ++ [.int (2 * (sizG g + 0))] = (g.outs ++ [2 * sizG g]).map .int := by simp
    rw [eo]
    have ok := od.ok
    have s2 : sizG ⟨g.ins, g.regs, g.ands ++ ex, g.outs ++ [2 * sizG g]⟩ = sizG g + (1 + kn) := by simp [sizG, el]; omega
    have f2 : fstG ⟨g.ins, g.regs, g.ands ++ ex, g.outs ++ [2 * sizG g]⟩ = fstG g := rfl
    exact h ⟨g.ins, g.regs, g.ands ++ ex, g.outs ++ [2 * sizG g]⟩ M5 ⟨ok.i0, ok.i3, ok.r3, by simp; omega, by simp; omega, by rw [f2]; exact WFa.append w1 w2, fun w hw => by
      have := ok.wr w hw
      rw [s2]
      exact ⟨this.1, this.2.1, by omega⟩, fun w hw => by
      rw [s2]
      rcases List.mem_append.mp hw with hw | hw
      · have := ok.wo w hw
        exact ⟨this.1, by omega⟩
      · have : w = 2 * sizG g := by simpa using hw
        subst this
        exact ⟨by omega, by omega⟩⟩ S5 q5
end Law

namespace Law
open PySem PySem.Spec PyProof.Rows L2 PyD

theorem kvT_int (l : List (Int × Int)) : IntD (kvT l) := fun k d h => by
  have := valD_mem h
  obtain ⟨p, _, e⟩ := List.mem_map.mp this
  cases e
  exact ⟨_, rfl⟩
theorem kvT_at (s : Int) (vs : List Int) : At (vf (kvT (tQ s 0 vs))) s vs := at_of (by rw [kvT_keys]; exact inl_nodup (tQ_nodup vs 0)) fun p hp => List.mem_map.mpr ⟨p, hp, rfl⟩
structure Fine (cls : List (List Int)) : Prop where
  f : ∀ l ∈ cls, l.length ≤ 3 ∧ ∀ x ∈ l, x.natAbs < 1000000
theorem Fine.app {a b : List (List Int)} (x : Fine a) (y : Fine b) : Fine (a ++ b) := ⟨fun l hl => (List.mem_append.mp hl).elim (x.f l) (y.f l)⟩
theorem Fine.nil : Fine [] := ⟨fun l hl => by cases hl⟩
theorem canon_len (ls : List Int) : (canon ls).length ≤ ls.length := by
  unfold canon
  rw [List.length_map, (sortI_perm _).length_eq]
  have := nodup_len (nodup_ddI (absL ls)) (m := absL ls) fun k hk => mem_ddI.mp hk
  simpa [absL] using this
theorem Fine.cl {ls : List Int} (h1 : ls.length ≤ 3) (h2 : ∀ x ∈ ls, x.natAbs < 1000000) : Fine (cl ls) := by
  unfold Law.cl
  split
  · exact Fine.nil
  · rename_i hc
    refine ⟨fun l hl => ?_⟩
    have : l = canon ls := by simpa using hl
    subst this
    exact ⟨Nat.le_trans (canon_len ls) h1, fun x hx => h2 x ((mem_canon hc).mp hx)⟩
theorem Fine.and3 {y a b : Int} (hy : y.natAbs < 1000000) (ha : a.natAbs < 1000000) (hb : b.natAbs < 1000000) : Fine (and3 y a b) := by
  unfold Law.and3
  refine Fine.app (Fine.app (Fine.cl (by simp) ?_) (Fine.cl (by simp) ?_)) (Fine.cl (by simp) ?_) <;> intro x hx <;> simp at hx <;> omega
theorem Fine.same2 {z x : Int} (hz : z.natAbs < 1000000) (hx : x.natAbs < 1000000) : Fine (same2 z x) := by
  unfold Law.same2
  refine Fine.app (Fine.cl (by simp) ?_) (Fine.cl (by simp) ?_) <;> intro x hx <;> simp at hx <;> omega
theorem far_small {l s : Int} (h0 : 0 ≤ l) (h1 : l / 2 < 1000) (h2 : 0 ≤ s) (h3 : s < 100000) : (far l s).natAbs < 1000000 := by unfold far; split <;> omega
theorem gclF_fine {s : Int} (h2 : 0 ≤ s) (h3 : s < 100000) : ∀ (r : List (Int × Int)) (y : Int), 0 ≤ y → y + r.length < 200000 → (∀ p ∈ r, 0 ≤ p.1 ∧ p.1 / 2 < 1000 ∧ 0 ≤ p.2 ∧ p.2 / 2 < 1000) → Fine (gclF y s r)
  | [], _, _, _, _ => Fine.nil
  | p :: r, y, y0, y1, h => by
    rw [List.length_cons] at y1
    have hp := h p (List.mem_cons_self ..)
    rw [gclF]
    exact (Fine.and3 (by omega) (far_small hp.1 hp.2.1 h2 h3) (far_small hp.2.2.1 hp.2.2.2 h2 h3)).app (gclF_fine h2 h3 r (y + 1) (by omega) (by push_cast at y1; omega) fun q hq => h q (List.mem_cons_of_mem _ hq))
theorem regF_fine {s : Int} (h2 : 0 ≤ s) (h3 : s < 100000) : ∀ (r : List (Int × Int)) (z : Int), 0 ≤ z → z + r.length < 200000 → (∀ p ∈ r, 0 ≤ p.2 ∧ p.2 / 2 < 1000) → Fine (regF z s r)
  | [], _, _, _, _ => Fine.nil
  | p :: r, z, y0, y1, h => by
    rw [List.length_cons] at y1
    have hp := h p (List.mem_cons_self ..)
    rw [regF]
    exact (Fine.same2 (by omega) (far_small hp.1 hp.2 h2 h3)).app (regF_fine h2 h3 r (z + 1) (by omega) (by push_cast at y1; omega) fun q hq => h q (List.mem_cons_of_mem _ hq))
theorem Ok.lits {g : Gr} (ok : Ok g) : ∀ p ∈ g.ands, 0 ≤ p.1 ∧ p.1 / 2 < 1000 ∧ 0 ≤ p.2 ∧ p.2 / 2 < 1000 := fun p hp => by
  obtain ⟨j, hj⟩ := List.mem_iff_getElem?.mp hp
  have := ok.wa.get hj
  have hl : j < g.ands.length := (List.getElem?_eq_some_iff.mp hj).1
  have := ok.siz0
  have hsz : sizG g = fstG g + g.ands.length := by simp [sizG, fstG]
  omega
theorem gcl_fine {g : Gr} (ok : Ok g) {s : Int} (h2 : 0 ≤ s) (h3 : s < 100000) : Fine (gcl g s) := by
  have := ok.siz0
  have i0 := ok.i0
  have hsz : sizG g = fstG g + g.ands.length := by simp [sizG, fstG]
  have hf : 1 ≤ fstG g := by simp [fstG]; omega
  unfold gcl
  refine ⟨fun l hl => ?_⟩
  rcases List.mem_cons.mp hl with e | e
  · subst e
    refine ⟨by simp, fun x hx => ?_⟩
    have : x = -1 - s := by simpa using hx
    subst this
    omega
  · exact (gclF_fine h2 h3 g.ands (fstG g + 1 + s) (by omega) (by omega) ok.lits).f l e
theorem unrF_fine {g : Gr} (ok : Ok g) : ∀ n : Nat, n ≤ 10 → Fine (unrF g n)
  | 0, _ => Fine.nil
  | n + 1, hn => by
    have sz := ok.siz0
    have i0 := ok.i0
    have i3 := ok.i3
    have r3 := ok.r3
    have b0 : (0 : Int) ≤ n * sizG g := Int.mul_nonneg (by omega) (by omega)
    have b1 : (n : Int) * sizG g ≤ 10 * 20 := Int.mul_le_mul (by omega) sz.2 (by omega) (by omega)
    rw [unrF]
    refine ((unrF_fine ok n (by omega)).app (gcl_fine ok b0 (by omega))).app ?_
    split
    · exact Fine.nil
    · have c0 : (0 : Int) ≤ ((n : Int) - 1) * sizG g := Int.mul_nonneg (by omega) (by omega)
      have c1 : ((n : Int) - 1) * sizG g ≤ 10 * 20 := Int.mul_le_mul (by omega) sz.2 (by omega) (by omega)
      exact regF_fine c0 (by omega) _ _ (by omega) (by omega) fun p hp => ⟨(ok.wr p hp).2.1, by have := (ok.wr p hp).2.2; omega⟩
theorem staF_fine : ∀ (r : List (Int × Int)) (z : Int), 0 ≤ z → z + r.length < 200000 → Fine (staF z r)
  | [], _, _, _ => Fine.nil
  | p :: r, z, y0, y1 => by
    rw [List.length_cons] at y1
    rw [staF]
    refine ⟨fun l hl => ?_⟩
    rcases List.mem_cons.mp hl with e | e
    · subst e
      refine ⟨by simp, fun x hx => ?_⟩
      have : x = if p.1 = 1 then z else -z := by simpa using hx
      subst this
      split <;> omega
    · exact (staF_fine r (z + 1) (by omega) (by push_cast at y1; omega)).f l e
def sp_l_values_right : DSp := fun ds M R => ∃ a c g cl, ds = [.ref a, gD g, .ref cl] ∧ Ok g ∧ Src M a c ∧ M cl = some (.lst (cD (gcl g 0))) ∧ cl ∉ [a, c] ∧ ∀ M', Src M' a c → Keeps [a, c] M M' → R (.bl true) M'
theorem len_l_values_right : ∀ ds M R, sp_l_values_right ds M R → ds.length = 3 := by rintro _ _ _ ⟨_, _, _, _, rfl, _⟩; rfl
def r_l_values_right_b1 : DS := (dSeq (dAsg (dCall sp_l_nodes (dCons (dVar 1) (dCons (dSl (dVar 5) (dPart (dOp dIx (dVar 1) (dC (.int 0)))) dNoPart) (dCons (dSl (dVar 5) dNoPart (dPart (dOp dIx (dVar 1) (dC (.int 0))))) (dCons (dC (.int 1)) dNil))))) (gN 6))
    (dSeq (dIf (dNot (dB (dCall sp_l_kept (dCons (dVar 2) (dCons (dCall sp_l_true_of (dCons (dVar 6) (dCons (dC (.int 0)) dNil))) dNil))))) (dRet (dC (.bl false))) dNext)
    (dSeq (dAsg (dIfE (dB (dOp dGt (dVar 4) (dVar 3))) (dOp dAdd (dCall sp_l_pick (dCons (dVar 0) (dCons (dOp dSub (dVar 4) (dVar 3)) dNil))) (dVar 3)) (dC (.int 0))) (gN 7))
    (dSeq (dAsg (dOp dSub (dC (.int 1)) (dOp dIx (dVar 6) (dVar 7))) (gS (dVar 6) (dVar 7)))
    (dIf (dB (dCall sp_l_kept (dCons (dVar 2) (dCons (dCall sp_l_true_of (dCons (dVar 6) (dCons (dC (.int 0)) dNil))) dNil)))) (dRet (dC (.bl false))) dNext)))))
def r_l_values_right_a1 : DS := (dRet (dC (.bl true)))
def r_l_values_right : DS := (dSeq (dPar 3 4 (dCons (dOp dAdd (dOp dAdd (dC (.int 1)) (dOp dIx (dVar 1) (dC (.int 0)))) (dCB cLen (dCons (dOp dIx (dVar 1) (dC (.int 1))) dNil))) (dCons (dCall sp_l_size (dCons (dVar 1) dNil)) dNil)))
    (dSeq (dFor (dISeq (dCall sp_l_all_bits (dCons (dOp dSub (dVar 3) (dC (.int 1))) dNil))) (gN 5) r_l_values_right_b1)
    r_l_values_right_a1))
theorem src_keep {M M' : DM} {a c : Addr} (s : Src M a c) (k : Keeps [] M M') : Src M' a c := by
  obtain ⟨l, m, t, cs, e1, e2, r⟩ := s.ex
  exact ⟨l, m, t, cs, k _ _ (by simp) e1, k _ _ (by simp) e2, r⟩
theorem pure_l_values_right : ∀ ds M R, sp_l_values_right ds M R → r_l_values_right { nx := fun _ M' => R .non M', rt := R } (startS 8 ds) M := by
  rintro ds M R ⟨a, c, g, cl, rfl, ok, hS, hcl, hca, h⟩
  have sz := ok.siz0
  have i0 := ok.i0
  have i3 := ok.i3
  have r3 := ok.r3
  have a13 := ok.a13
  simp only [r_l_values_right, dSeq, dPar, dCons, dNil, dOp, dIx, dVar, dC, startS, getS, List.map, List.length, List.cons_append, List.nil_append, List.replicate, Nat.reduceSub, Nat.reduceAdd, look_g0, look_g1, dAdd_i, dCB, cLen, lenD, dCall, List.length_map]
  refine ⟨g, rfl, ?_⟩
  simp only [setS]
  have hf : (1 : Int) + g.ins + (g.regs.length : Nat) = fstG g := rfl
  simp only [hf]
  simp only [dFor, dISeq, dCall, dCons, dNil, dOp, dVar, dC, getS, dSub, dI0]
  have hf0 : fstG g - 1 = ((g.ins.toNat + g.regs.length : Nat) : Int) := by simp [fstG]; omega
  refine ⟨g.ins.toNat + g.regs.length, by rw [hf0], by omega, fun p M1 hp e1 k1 => ?_⟩
  simp only [itemsD, e1]
  refine ⟨fun i S M' => (∃ e5 e6 e7, S = [some (.ref a), some (gD g), some (.ref cl), some (.int (fstG g)), some (.int (sizG g)), e5, e6, e7]) ∧ Src M' a c ∧ Keeps [a, c] M1 M', ⟨⟨_, _, _, rfl⟩, src_keep hS k1, .refl _ _⟩, fun i S M' _ h' => h'.2.2 _ _ (src_fresh hS hp) e1, ?_, ?_⟩
  · rintro i d S M' e ⟨⟨e5, e6, e7, rfl⟩, Sx, kx⟩
    obtain ⟨bits, eb, rfl⟩ : ∃ l, (allB (g.ins.toNat + g.regs.length))[i]? = some l ∧ d = .tup (l.map .int) := by
      rw [cD, List.getElem?_map] at e
      obtain ⟨l, h1, h2⟩ := Option.map_eq_some_iff.mp e
      exact ⟨l, h1, h2.symm⟩
    obtain ⟨bl, bb⟩ := allB_mem (List.mem_of_getElem? eb)
    have kcl : M' cl = some (.lst (cD (gcl g 0))) := kx _ _ hca (k1 _ _ (by simp) hcl)
    obtain ⟨iN, hiN⟩ : ∃ iN : Nat, g.ins = iN := ⟨g.ins.toNat, by omega⟩
    simp only [gN, setS, r_l_values_right_b1, dSeq, dAsg, dCall, dCons, dNil, dSl, dPart, dNoPart, dVar, getS, dOp, dIx, dC, look_g0, slv_t]
    rw [hiN, cut_drop, cut_take, ← List.map_drop, ← List.map_take]
    have bs : Bits (bits.drop iN) := fun x hx => bb x (List.mem_of_mem_drop hx)
    have bo : Bits (bits.take iN) := fun x hx => bb x (List.mem_of_mem_take hx)
    have l1 : ((bits.take iN).length : Int) = g.ins := by rw [List.length_take]; omega
    have l2 : (bits.drop iN).length = g.regs.length := by rw [List.length_drop]; omega
    refine ⟨g, bits.drop iN, bits.take iN, rfl, l1, l2, ok.wa, by omega, by omega, by omega, fun v M2 hv e2 k2 => ?_⟩
    have LV := nodes_len (g := g) l1 l2
    have BV := nodes_bits (g := g) bo bs
    generalize hvs : nodes g (bits.drop iN) (bits.take iN) = vs at e2 LV BV ⊢
    simp only [dIf, dNot, dB, dVar, getS, dCall, dCons, dNil, dC, gN, setS]
    refine ⟨v, vs, 0, rfl, e2, by omega, fun t M3 ht e3 k3 => ?_⟩
    have fine : ∀ l ∈ gcl g 0, l.length < 1000 := fun l hl => by have := ((gcl_fine ok (Int.le_refl 0) (by omega)).f l hl).1; omega
    refine ⟨cl, t, gcl g 0, _, rfl, k3 _ _ (by simp) (k2 _ _ (by simp) kcl), e3, kvT_int _, fine, fun b M4 hb k4 => ?_⟩
    have hbt : b = true := hb.mpr (nodes_kept ok l1 l2 bo bs (Int.le_refl 0) (by rw [hvs]; exact kvT_at 0 vs))
    subst hbt
    simp only [Bool.not_true, Bool.false_eq_true, if_false, dNext]
    have k24 : Keeps [] M' M4 := (k2.trans k3).trans k4
    have S4 := src_keep Sx k24
    have v4 : M4 v = some (.lst (vs.map .int)) := k4 _ _ (by simp) (k3 _ _ (by simp) e2)
    have c4 : M4 cl = some (.lst (cD (gcl g 0))) := k24 _ _ (by simp) kcl
    have q4 : Keeps [a, c] M1 M4 := kx.trans k24.nil
    have hva := src_fresh Sx hv
    have hvc : cl ≠ v := ne_none kcl hv
    have hvp : M1 v = none := by
      cases e : M1 v with
      | none => rfl
      | some o => rw [kx _ _ hva e] at hv; cases hv
    have step2 : ∀ (n : Nat) (M5 : DM), n < vs.length → (fstG g ≤ n ∨ (n = 0 ∧ g.ands = [])) → Src M5 a c → M5 v = some (.lst (vs.map .int)) → M5 cl = some (.lst (cD (gcl g 0))) → Keeps [a, c] M1 M5 →
        dSeq (dAsg (dOp dSub (dC (D.int 1)) (dOp dIx (dVar 6) (dVar 7))) (gS (dVar 6) (dVar 7)))
          (dIf (dB (dCall sp_l_kept (dCons (dVar 2) (dCons (dCall sp_l_true_of (dCons (dVar 6) (dCons (dC (D.int 0)) dNil))) dNil)))) (dRet (dC (D.bl false))) dNext)
          { nx := fun S M' => (∃ e5 e6 e7, S = [some (D.ref a), some (gD g), some (D.ref cl), some (D.int (fstG g)), some (D.int (sizG g)), e5, e6, e7]) ∧ Src M' a c ∧ PyD.Keeps [a, c] M1 M', rt := R, bk := r_l_values_right_a1 { nx := fun x M' => R D.non M', rt := R },
            ct := fun S M' => (∃ e5 e6 e7, S = [some (D.ref a), some (gD g), some (D.ref cl), some (D.int (fstG g)), some (D.int (sizG g)), e5, e6, e7]) ∧ Src M' a c ∧ PyD.Keeps [a, c] M1 M' }
          [some (D.ref a), some (gD g), some (D.ref cl), some (D.int (fstG g)), some (D.int (sizG g)), some (.tup (bits.map .int)), some (.ref v), some (.int n)] M5 := by
      intro n M5 hn hw S5 v5 c5 q5
      obtain ⟨x, hx⟩ : ∃ x, vs[n]? = some x := ⟨_, List.getElem?_eq_getElem hn⟩
      have ea : atI (vs.map D.int) (n : Int) = some (.int x) := by rw [PyD.atI_nat, List.getElem?_map, hx]; rfl
      have ei : ixN (vs.map D.int).length (n : Int) = some n := by
        unfold ixN
        rw [if_pos (by omega), if_pos (by rw [List.length_map]; omega)]
        simp
      simp only [dSeq, dAsg, dOp, dC, dVar, getS, dIx, look_r, v5, ea, dSub, dI0, gS, dSetV, ei]
      have es : (vs.map D.int).set n (.int (1 - x)) = (vs.set n (1 - x)).map .int := by rw [List.map_set]
      rw [es]
      simp only [dIf, dB, dCall, dCons, dNil, dVar, dC, getS]
      refine ⟨v, vs.set n (1 - x), 0, rfl, updM_same, by rw [List.length_set]; omega, fun t M6 ht e6 k6 => ?_⟩
      refine ⟨cl, t, gcl g 0, _, rfl, k6 _ _ (by simp) (by rw [updM_at hvc]; exact c5), e6, kvT_int _, fine, fun b M7 hb k7 => ?_⟩
      have hbf : b = false := by
        cases b with
        | false => rfl
        | true => exact absurd (hb.mp rfl) (flip_breaks ok l1 l2 bo bs (by rw [hvs]; exact hx) hw (by rw [hvs]; exact kvT_at 0 _))
      subst hbf
      simp only [Bool.false_eq_true, if_false, dNext]
      have k67 := k6.trans k7
      refine ⟨⟨_, _, _, rfl⟩, src_keep (src_upd S5 hva) k67, ?_⟩
      exact (q5.over _ hvp).trans k67.nil
    simp only [dSeq, dAsg, dIfE, dB, dOp, dGt, dB0, dVar, getS, dSub, dI0, dCall, dCons, dNil, dC, gN, setS] at step2 ⊢
    have hsz : sizG g = fstG g + g.ands.length := by simp [sizG, fstG]
    have hfp : 1 ≤ fstG g := by simp [fstG]; omega
    split
    · rename_i hlt
      have hlt' : fstG g < sizG g := by simpa using hlt
      refine ⟨a, c, _, rfl, by omega, S4, fun z M5 z0 z1 S5 k5 => ?_⟩
      simp only [dAdd_i]
      obtain ⟨n, hn⟩ : ∃ n : Nat, z + fstG g = n := ⟨(z + fstG g).toNat, by omega⟩
      rw [hn]
      have va : v ≠ a ∧ v ≠ c := by simpa using hva
      have ca : cl ≠ a ∧ cl ≠ c := by simpa using hca
      exact step2 n M5 (by omega) (.inl (by omega)) S5 (by rw [k5 v va.1 va.2]; exact v4) (by rw [k5 cl ca.1 ca.2]; exact c4) (q4.trans (drawn k5))
    · rename_i hlt
      have hlt' : ¬ fstG g < sizG g := by simpa using hlt
      have ha : g.ands = [] := List.eq_nil_of_length_eq_zero (by omega)
      exact step2 0 M4 (by omega) (.inr ⟨rfl, ha⟩) S4 v4 c4 q4
  · rintro S M' ⟨⟨e5, e6, e7, rfl⟩, Sx, kx⟩
    simp [r_l_values_right_a1]
    exact h M' Sx (k1.nil.trans kx)
end Law

namespace Law
open PySem PySem.Spec PyProof.Rows L2 PyD

theorem vals_congr {g : Gr} {u v : Nat → List Int} : ∀ {n : Nat}, (∀ c, c < n → u c = v c) → (vals g u n).1 = (vals g v n).1
  | 0, _ => rfl
  | n + 1, h => by
    show (g.regs.map fun p => lit (vals g u n).2 p.2) = g.regs.map fun p => lit (vals g v n).2 p.2
    rw [vals_snd, vals_snd, vals_congr (n := n) fun c hc => h c (by omega), h n (by omega)]
def tL (g : Gr) (lots : Nat → List Int) : Nat → List (Int × Int)
  | 0 => []
  | n + 1 => tL g lots n ++ tQ (n * sizG g) 0 (vals g lots n).2
theorem tL_congr {g : Gr} {u v : Nat → List Int} : ∀ {n : Nat}, (∀ c, c < n → u c = v c) → tL g u n = tL g v n
  | 0, _ => rfl
  | n + 1, h => by
    rw [tL, tL, tL_congr (n := n) fun c hc => h c (by omega), vals_snd, vals_snd, vals_congr (n := n) fun c hc => h c (by omega), h n (by omega)]
section
variable {g : Gr} {lots : Nat → List Int}
theorem vals_slen (hl : ∀ c, ((lots c).length : Int) = g.ins) (c : Nat) : ((vals g lots c).2.length : Int) = sizG g := by
  rw [vals_snd]; exact nodes_len (hl c) (vals_len g lots c)
theorem tL_bound (ok : Ok g) (hl : ∀ c, ((lots c).length : Int) = g.ins) : ∀ {n : Nat} {p : Int × Int}, p ∈ tL g lots n → 1 ≤ p.1 ∧ p.1 ≤ n * sizG g
  | 0, p, h => by cases h
  | n + 1, p, h => by
    have sz := ok.siz0
    have b0 : (0 : Int) ≤ n * sizG g := Int.mul_nonneg (by omega) (by omega)
    have e : ((n + 1 : Nat) : Int) * sizG g = n * sizG g + sizG g := by push_cast; rw [Int.add_mul]; omega
    rw [e]
    rcases List.mem_append.mp h with h | h
    · have := tL_bound ok hl h
      omega
    · obtain ⟨j, v, h1, h2, _⟩ := tQ_mem.mp h
      have hj : j < (vals g lots n).2.length := (List.getElem?_eq_some_iff.mp h1).1
      have := vals_slen hl n
      omega
theorem tL_nodup (ok : Ok g) (hl : ∀ c, ((lots c).length : Int) = g.ins) : ∀ n : Nat, ((tL g lots n).map (·.1)).Nodup
  | 0 => List.nodup_nil
  | n + 1 => by
    rw [tL, List.map_append, List.nodup_append]
    refine ⟨tL_nodup ok hl n, tQ_nodup _ _, fun x hx y hy => ?_⟩
    obtain ⟨p, hp, rfl⟩ := List.mem_map.mp hx
    obtain ⟨q, hq, rfl⟩ := List.mem_map.mp hy
    have := tL_bound ok hl hp
    obtain ⟨j, v, _, h2, _⟩ := tQ_mem.mp hq
    omega
theorem tL_len (hl : ∀ c, ((lots c).length : Int) = g.ins) : ∀ n : Nat, ((tL g lots n).length : Int) = n * sizG g
  | 0 => by simp [tL]
  | n + 1 => by
    rw [tL, List.length_append, tQ_len]
    push_cast
    rw [tL_len hl n, vals_slen hl n, Int.add_mul]
    omega
theorem tL_sub {n c : Nat} (h : c < n) : ∀ p ∈ tQ (c * sizG g) 0 (vals g lots c).2, p ∈ tL g lots n := by
  induction n with
  | zero => omega
  | succ n ih =>
    intro p hp
    rw [tL]
    by_cases e : c = n
    · subst e; exact List.mem_append_right _ hp
    · exact List.mem_append_left _ (ih (by omega) p hp)
theorem tL_at (ok : Ok g) (hl : ∀ c, ((lots c).length : Int) = g.ins) {n c : Nat} (h : c < n) : At (vf (kvT (tL g lots n))) (c * sizG g) (vals g lots c).2 :=
  at_of (by rw [kvT_keys]; exact inl_nodup (tL_nodup ok hl n)) fun p hp => List.mem_map.mpr ⟨p, tL_sub h p hp, rfl⟩
theorem tL_merge (ok : Ok g) (hl : ∀ c, ((lots c).length : Int) = g.ins) (n : Nat) : mergeD (kvT (tL g lots n)) (kvT (tQ (n * sizG g) 0 (vals g lots n).2)) = kvT (tL g lots (n + 1)) := by
  rw [mergeD_new]
  · rw [tL]; simp [kvT]
  · rw [kvT_keys, kvT_keys, ← List.map_append]
    have := inl_nodup (tL_nodup ok hl (n + 1))
    rw [tL, List.map_append] at this
    exact this
end
theorem Fine.small {n : Nat} {cls : List (List Int)} (f : Fine cls) (h : (cD cls).length ≤ n) : Small n cls := ⟨by rwa [cD_length] at h, f.f⟩
theorem repr_cD {M : DM} {a : Addr} {n : Nat} {cls : List (List Int)} {Q : DQ} (e : M a = some (.lst (cD cls))) (s : Small n cls) (hn : n ≤ 100000) (h : Q (.str (cP cls).shown) M) : cRepr [.ref a] M Q :=
  have z := cP_shown s hn
  ⟨cP cls, deep_cD e, z.1, z.2.1, z.2.2, trivial, h⟩
def sp_l_run_right : DSp := fun ds M R => ∃ a c g, ds = [.ref a, gD g] ∧ Ok g ∧ Src M a c ∧ ∀ M', Src M' a c → Keeps [a, c] M M' → R (.bl true) M'
theorem len_l_run_right : ∀ ds M R, sp_l_run_right ds M R → ds.length = 2 := by rintro _ _ _ ⟨_, _, _, rfl, _⟩; rfl
def r_l_run_right_b1 : DS := (dSeq (dAsg (dCB cTuple (dCons (dLc (dRng1 (dCons (dOp dIx (dVar 1) (dC (.int 0))) dNil)) (gN 9) dYes (dCall sp_l_pick (dCons (dVar 0) (dCons (dC (.int 2)) dNil))) [9]) dNil)) (gN 7))
    (dSeq (dDrop (dUpdate (dVar 4) (dCall sp_l_true_of (dCons (dCall sp_l_nodes (dCons (dVar 1) (dCons (dVar 3) (dCons (dVar 7) (dCons (dC (.int 1)) dNil))))) (dCons (dOp dMul (dVar 6) (dCall sp_l_size (dCons (dVar 1) dNil))) dNil)))))
    (dAsg (dOp dIx (dCall sp_l_step_of (dCons (dVar 1) (dCons (dVar 7) (dCons (dVar 3) dNil)))) (dC (.int 1))) (gN 3))))
def r_l_run_right_a1 : DS := (dRet (dAndV (dCall sp_l_kept (dCons (dVar 5) (dCons (dVar 4) dNil))) (dCall sp_l_kept (dCons (dCall sp_p_starting (dCons (dVar 1) dNil)) (dCons (dVar 4) dNil)))))
def r_l_run_right : DS := (dSeq (dPar3 2 3 4 (dCons (dOp dAdd (dC (.int 1)) (dCall sp_l_pick (dCons (dVar 0) (dCons (dC (.int 4)) dNil)))) (dCons (dCB cTuple (dCons (dLc (dISeq (dOp dIx (dVar 1) (dC (.int 1)))) (gN 8) dYes (dOp dIx (dVar 8) (dC (.int 0))) [8]) dNil)) (dCons dNew dNil))))
    (dSeq (dAsg (dCall sp_p_unrolled (dCons (dVar 1) (dCons (dVar 2) dNil))) (gN 5))
    (dSeq (dIf (dOr (dB (dOp dNe (dCB cRepr (dCons (dVar 5) dNil)) (dCB cRepr (dCons (dCall sp_l_unrolled (dCons (dVar 1) (dCons (dVar 2) dNil))) dNil)))) (dB (dOp dNe (dCB cRepr (dCons (dCall sp_p_starting (dCons (dVar 1) dNil)) dNil)) (dCB cRepr (dCons (dCall sp_l_starting (dCons (dVar 1) dNil)) dNil))))) (dRet (dC (.bl false))) dNext)
    (dSeq (dFor (dRng1 (dCons (dVar 2) dNil)) (gN 6) r_l_run_right_b1)
    r_l_run_right_a1))))
theorem pure_l_run_right : ∀ ds M R, sp_l_run_right ds M R → r_l_run_right { nx := fun _ M' => R .non M', rt := R } (startS 10 ds) M := by
  rintro ds M R ⟨a, c, g, rfl, ok, hS, h⟩
  have sz := ok.siz0
  have i0 := ok.i0
  have i3 := ok.i3
  have r3 := ok.r3
  have a13 := ok.a13
  simp only [r_l_run_right, dSeq, dPar3, dCons, dNil, dOp, dVar, dC, startS, getS, List.map, List.length, List.cons_append, List.nil_append, List.replicate, Nat.reduceSub, Nat.reduceAdd, dCall]
  refine ⟨a, c, 4, rfl, by omega, hS, fun nn M1 n0 n1 S1 k1 => ?_⟩
  simp only [dAdd_i, dCB]
  have q1 := drawn k1
  simp only [dCons, dNil, dLc, dISeq, dOp, dVar, dC, getS, dIx, look_g1, itemsD]
  intro p hp
  refine ⟨LcI [] (mapT (fun w : Int × Int => .int w.1) g.regs) M1 p, .begin hp, fun _ _ _ _ => trivial, ?_, ?_⟩
  · rintro i d M2 e I
    rw [List.getElem?_map] at e
    obtain ⟨w, ew, rfl⟩ := Option.map_eq_some_iff.mp e
    simp [prD]
    exact I.goes hp (by simp) (.refl _ _) (by omega) ew rfl
  · intro M2 I
    rw [List.length_map] at I
    have ev := I.all
    simp only [cTuple, seqD, ev, dNew]
    intro t ht
    have S2 := src_keep S1 I.keep
    have tac := src_fresh S2 ht
    obtain ⟨n, hn⟩ : ∃ n : Nat, 1 + nn = n := ⟨(1 + nn).toNat, by omega⟩
    rw [hn]
    simp only [setS, dAsg, dCall, dCons, dVar, getS, dNil]
    have S3 : Src (updM M2 t (.dK [])) a c := src_upd S2 tac
    have q3 : Keeps [a, c] M (updM M2 t (.dK [])) := (q1.trans I.keep.nil).trans (.new _ ht)
    have e3 : updM M2 t (.dK []) t = some (.dK []) := updM_same
    generalize updM M2 t (.dK []) = M3 at S3 q3 e3 ⊢
    refine ⟨g, n, rfl, ok, by omega, fun cl M4 hcl e4 k4 => ?_⟩
    have fu := (unrF_fine ok n (by omega)).small (n := 1000) (by have := unrF_len ok n; omega)
    have fs : Small 1000 (staF (g.ins + 2) g.regs) := (staF_fine g.regs (g.ins + 2) (by omega) (by omega)).small (by rw [cD_length, staF_len]; omega)
    simp only [dSeq, gN, setS, dIf, dOr, dB, dOp, dCB, dCons, dNil, dVar, getS, dCall]
    refine repr_cD e4 fu (by omega) ?_
    refine ⟨g, n, rfl, ok, by omega, fun c2 M5 hc2 e5 k5 => ?_⟩
    refine repr_cD e5 fu (by omega) ?_
    simp only [dNe_s, decide_true, Bool.not_true, Bool.false_eq_true, if_false]
    refine ⟨g, rfl, by omega, fun c3 M6 hc3 e6 k6 => ?_⟩
    refine repr_cD e6 fs (by omega) ?_
    refine ⟨g, rfl, by omega, fun c4 M7 hc4 e7 k7 => ?_⟩
    refine repr_cD e7 fs (by omega) ?_
    simp only [dNe_s, decide_true, Bool.not_true, Bool.false_eq_true, if_false, dNext]
    have k47 := ((k4.trans k5).trans k6).trans k7
    have S7 := src_keep S3 k47
    have q7 : Keeps [a, c] M M7 := q3.trans k47.nil
    have e7t := k47 _ _ (by simp) e3
    have e7c := (((k5.trans k6).trans k7)) _ _ (by simp) e4
    have clac := src_fresh S3 hcl
    have clt : cl ≠ t := ne_none' e3 hcl
    have t0 : M t = none := by
      cases e : M t with
      | none => rfl
      | some o => rw [(q1.trans I.keep.nil) _ _ tac e] at ht; cases ht
    simp only [dSeq, dFor, dRng1, dCons, dNil, dVar, getS]
    refine ⟨⟨by omega, by omega⟩, fun i S M' => ∃ (ls : Nat → List Int) (e6 e7 : Option D), (∀ c, ((ls c).length : Int) = g.ins) ∧ (∀ c, Bits (ls c)) ∧ S = [some (D.ref a), some (gD g), some (D.int n), some (.tup ((vals g ls i).1.map .int)), some (D.ref t), some (D.ref cl), e6, e7, none, none] ∧
      M' t = some (.dK (kvT (tL g ls i))) ∧ M' cl = some (.lst (cD (unrF g n))) ∧ Src M' a c ∧ Keeps [a, c] M M',
      ⟨fun _ => List.replicate g.ins.toNat 0, none, none, fun c => by simp; omega, fun c x hx => .inl (List.eq_of_mem_replicate hx), by simp [vals], e7t, e7c, S7, q7⟩, fun _ _ _ _ _ => trivial, ?_, ?_⟩
    · rintro i d S M' e ⟨ls, e6, e7, hl, hb, rfl, et, ec, Sx, qx⟩
      obtain ⟨hi, rfl⟩ := rng_get0 e
      simp at hi
      have b0 : (0 : Int) ≤ i * sizG g := Int.mul_nonneg (by omega) (by omega)
      have b1 : (i : Int) * sizG g ≤ 10 * 20 := Int.mul_le_mul (by omega) sz.2 (by omega) (by omega)
      simp only [gN, setS, r_l_run_right_b1, dSeq, dAsg, dCB, dCons, dNil, dLc, dRng1, dOp, dIx, dVar, dC, getS, look_g0]
      refine ⟨⟨by omega, by omega⟩, fun p2 hp2 => ?_⟩
      have p2s := src_fresh Sx hp2
      have p2ac : p2 ≠ a ∧ p2 ≠ c := by simpa using p2s
      have p2t : ¬ t = p2 := ne_none et hp2
      have p2c : ¬ cl = p2 := ne_none ec hp2
      have tac' : t ≠ a ∧ t ≠ c := by simpa using tac
      have clac' : cl ≠ a ∧ cl ≠ c := by simpa using clac
      have p20 : M p2 = none := by
        cases e : M p2 with
        | none => rfl
        | some o => rw [qx _ _ p2s e] at hp2; cases hp2
      refine ⟨fun j M8 => ∃ lo : List Int, lo.length = j ∧ Bits lo ∧ M8 p2 = some (.lst (lo.map .int)) ∧ M8 t = some (.dK (kvT (tL g ls i))) ∧ M8 cl = some (.lst (cD (unrF g n))) ∧ Src M8 a c ∧ Keeps [a, c] M M8,
        ⟨[], rfl, (fun x hx => by cases hx), updM_same, by rw [updM_at p2t]; exact et, by rw [updM_at p2c]; exact ec, src_upd Sx p2s, qx.trans (.new _ hp2)⟩, fun _ _ _ _ => trivial, ?_, ?_⟩
      · rintro j d M8 e' ⟨lo, ll, lb, f1, f2, f3, S8, q8⟩
        have hj : j < g.ins.toNat := by
          have := (List.getElem?_eq_some_iff.mp e').1
          rwa [rngD_length] at this
        simp
        refine ⟨a, c, 2, rfl, by omega, S8, fun b M9 b0 b1 S9 k9 => ?_⟩
        refine ⟨_, (by rw [k9 p2 p2ac.1 p2ac.2]; exact f1), by rw [List.length_map]; exact len_line (by omega), lo ++ [b], by simp; omega, ?_, by simp, by rw [updM_at p2t, k9 t tac'.1 tac'.2]; exact f2, by rw [updM_at p2c, k9 cl clac'.1 clac'.2]; exact f3, src_upd S9 p2s, (q8.trans (drawn k9)).over _ p20⟩
        intro x hx
        rcases List.mem_append.mp hx with hx | hx
        · exact lb _ hx
        · have : x = b := by simpa using hx
          subst this
          unfold Bit; omega
      · rintro M8 ⟨lo, ll, lb, f1, f2, f3, S8, q8⟩
        rw [rngD_length] at ll
        simp only [cTuple, seqD, f1, setS]
        have lol : (lo.length : Int) = g.ins := by omega
        generalize hls : (fun c => if c = i then lo else ls c) = ls'
        have hi' : ls' i = lo := by rw [← hls]; simp
        have hlt : ∀ c, c < i → ls c = ls' c := fun c hc => by rw [← hls]; simp; intro z; omega
        have hl' : ∀ c, ((ls' c).length : Int) = g.ins := fun c => by
          rw [← hls]
          show ((if c = i then lo else ls c).length : Int) = _
          split
          · exact lol
          · exact hl c
        have hb' : ∀ c, Bits (ls' c) := fun c => by
          rw [← hls]
          show Bits (if c = i then lo else ls c)
          split
          · exact lb
          · exact hb c
        rw [vals_congr hlt, tL_congr hlt] at *
        simp only [dDrop, dUpdate, dVar, getS, dCall, dCons, dNil, dC, dOp]
        refine ⟨by simp [isDk, f2], g, _, lo, rfl, lol, vals_len g ls' i, ok.wa, by omega, by rw [vals_len]; omega, by omega, fun v M9 hv e9 k9 => ?_⟩
        refine ⟨g, rfl, ?_⟩
        simp only [dMul_i]
        refine ⟨cmul_small (by omega) (by omega), ?_⟩
        have enode : nodes g (vals g ls' i).1 lo = (vals g ls' i).2 := by rw [vals_snd, hi']
        rw [enode] at e9
        have vl := vals_slen (g := g) hl' i
        refine ⟨v, _, _, rfl, e9, by omega, fun q M10 hq e10 k10 => ?_⟩
        have k810 := k9.trans k10
        have f2' := k810 _ _ (by simp) f2
        have f3' := k810 _ _ (by simp) f3
        have tq : t ≠ q := ne_none (k9 _ _ (by simp) f2) hq
        simp only [f2', e10]
        have tl := tL_len (g := g) hl' i
        refine ⟨⟨tq, sz' (by simp only [kvT, List.length_map, tQ_len]; omega)⟩, ?_⟩
        rw [tL_merge ok hl' i]
        refine ⟨g, _, lo, rfl, ok, lol, vals_len g ls' i, fun o M11 k11 => ?_⟩
        simp only [look_t, at_1, List.getElem?_cons_succ, List.getElem?_cons_zero]
        refine ⟨ls', some (.int i), some (.tup (lo.map .int)), hl', hb', ?_, k11 _ _ (by simp) updM_same, k11 _ _ (by simp) (by rw [updM_at clt]; exact f3'), src_keep (src_upd (src_keep S8 k810) tac) k11, (((q8.trans k810.nil).over _ t0).trans k11.nil)⟩
        rw [enode]
        rfl
    · rintro S M' ⟨ls, e6, e7, hl, hb, rfl, et, ec, Sx, qx⟩
      rw [rngD_length] at et
      simp at et
      simp only [r_l_run_right_a1, dRet, dAndV, dCall, dCons, dVar, getS, dNil]
      have fine1 : ∀ l ∈ unrF g n, l.length < 1000 := fun l hl => by have := ((unrF_fine ok n (by omega)).f l hl).1; omega
      have fine2 : ∀ l ∈ staF (g.ins + 2) g.regs, l.length < 1000 := fun l hl => by have := ((staF_fine g.regs (g.ins + 2) (by omega) (by omega)).f l hl).1; omega
      refine ⟨cl, t, unrF g n, _, rfl, ec, et, kvT_int _, fine1, fun b M8 hb8 k8 => ?_⟩
      have hbt : b = true := hb8.mpr (run_kept ok hl hb n fun c hc => tL_at ok hl hc)
      subst hbt
      simp only [if_true]
      refine ⟨g, rfl, by omega, fun q M9 hq e9 k9 => ?_⟩
      refine ⟨q, t, _, _, rfl, e9, k9 _ _ (by simp) (k8 _ _ (by simp) et), kvT_int _, fine2, fun b M10 hb10 k10 => ?_⟩
      have hbt : b = true := hb10.mpr (start_kept ok hl (by simpa using tL_at ok hl (n := n) (c := 0) (by omega)))
      subst hbt
      have kk := (k8.trans k9).trans k10
      exact h M10 (src_keep Sx kk) (qx.trans kk.nil)
end Law

namespace Law
open PySem PySem.Spec PyProof.Rows L2 PyD

def sp_p_law : DSp := fun ds M R => ∃ xs : List Int, ds = [.con (xs.map .int)] ∧ xs.length ≤ 63 ∧ ∀ M', R (.bl true) M'
theorem len_p_law : ∀ ds M R, sp_p_law ds M R → ds.length = 1 := by rintro _ _ _ ⟨_, rfl, _⟩; rfl
def lastG : Gr := ⟨1, [(0, 6)], [(2, 4)], [7, 5]⟩
theorem cl_eq {ls r : List Int} (h : ¬ ∃ x ∈ ls, -x ∈ ls) (h2 : canon ls = r) : cl ls = [r] := by
  unfold cl
  rw [if_neg (show ¬ Clash ls from h), h2]
theorem canon_of {ls ms r : List Int} (p : ms.Perm (ddI (absL ls))) (w : ms.Pairwise (· ≤ ·)) (h : (ms.map fun a => if a ∈ ls then a else -a) = r) : canon ls = r := by
  unfold canon
  rw [← sorted_unique w (sortI_pw _) (p.trans (sortI_perm _).symm)]
  exact h
theorem last_gcl : gcl lastG 0 = [[-1], [2, -4], [3, -4], [-2, -3, 4]] := by
  show [-1] :: (cl [-4, 2] ++ cl [-4, 3] ++ cl [4, -2, -3] ++ []) = _
  rw [cl_eq (ls := [-4, 2]) (r := [2, -4]) (by decide) (canon_of (ms := [2, 4]) (by decide) (by decide) (by decide)), cl_eq (ls := [-4, 3]) (r := [3, -4]) (by decide) (canon_of (ms := [3, 4]) (by decide) (by decide) (by decide)), cl_eq (ls := [4, -2, -3]) (r := [-2, -3, 4]) (by decide) (canon_of (ms := [2, 3, 4]) (by decide) (by decide) (by decide))]
  rfl
theorem ne_m {M : DM} {a b : Addr} {o : DO} (h : M a = some o) (h2 : M b = none) : a ≠ b := by rintro rfl; rw [h] at h2; cases h2
def r_p_law_b1 : DS := (dSeq (dAsg (dCall sp_l_pick (dCons (dVar 1) (dCons (dOp dMul (dC (.int 2)) (dCall sp_l_size (dCons (dVar 2) dNil))) dNil))) (gN 7))
    (dIf (dB (dOp dNe (dCB cRepr (dCons (dCall sp_p_literal_of (dCons (dVar 7) dNil)) dNil)) (dCB cRepr (dCons (dCall sp_l_far (dCons (dVar 7) (dCons (dC (.int 0)) dNil))) dNil)))) (dRet (dC (.bl false))) dNext))
def r_p_law_a1 : DS := (dSeq (dIf (dOr (dNot (dB (dCall sp_l_values_right (dCons (dVar 1) (dCons (dVar 2) (dCons (dVar 3) dNil)))))) (dNot (dB (dCall sp_l_run_right (dCons (dVar 1) (dCons (dVar 2) dNil)))))) (dRet (dC (.bl false))) dNext)
    (dRet (dOp dEq (dCall sp_p_clauses_of (dCons (dTup (dCons (dC (.int 1)) (dCons (dTup (dCons (dTup (dCons (dC (.int 0)) (dCons (dC (.int 6)) dNil))) dNil)) (dCons (dTup (dCons (dTup (dCons (dC (.int 2)) (dCons (dC (.int 4)) dNil))) dNil)) (dCons (dTup (dCons (dC (.int 7)) (dCons (dC (.int 5)) dNil))) dNil))))) dNil)) (dLst (dCons (dTup (dCons (dUn dNeg (dC (.int 1))) dNil)) (dCons (dTup (dCons (dC (.int 2)) (dCons (dUn dNeg (dC (.int 4))) dNil))) (dCons (dTup (dCons (dC (.int 3)) (dCons (dUn dNeg (dC (.int 4))) dNil))) (dCons (dTup (dCons (dUn dNeg (dC (.int 2))) (dCons (dUn dNeg (dC (.int 3))) (dCons (dC (.int 4)) dNil)))) dNil))))))))
def r_p_law : DS := (dSeq (dAsg (dCall sp_l_source (dCons (dVar 0) dNil)) (gN 1))
    (dSeq (dAsg (dCall sp_l_rough_graph (dCons (dVar 1) dNil)) (gN 2))
    (dSeq (dAsg (dCall sp_p_clauses_of (dCons (dVar 2) dNil)) (gN 3))
    (dSeq (dAsg (dCB cRepr (dCons (dCall sp_l_graph_clauses (dCons (dVar 2) (dCons (dC (.int 0)) dNil))) dNil)) (gN 4))
    (dSeq (dIf (dOr (dB (dOp dNe (dCB cRepr (dCons (dVar 3) dNil)) (dVar 4))) (dB (dOp dNe (dCB cRepr (dCons (dCall sp_p_clauses_of (dCons (dVar 2) dNil)) dNil)) (dVar 4)))) (dRet (dC (.bl false))) dNext)
    (dSeq (dAsg (dCall sp_p_clauses_of (dCons (dVar 2) dNil)) (gN 5))
    (dSeq (dDrop (dMt mAppend (dVar 5) (dCons (dTup dNil) dNil)))
    (dSeq (dIf (dB (dOp dNe (dCB cRepr (dCons (dCall sp_p_clauses_of (dCons (dVar 2) dNil)) dNil)) (dVar 4))) (dRet (dC (.bl false))) dNext)
    (dSeq (dFor (dRng1 (dCons (dC (.int 4)) dNil)) (gN 6) r_p_law_b1)
    r_p_law_a1)))))))))
theorem pure_p_law : ∀ ds M R, sp_p_law ds M R → r_p_law { nx := fun _ M' => R .non M', rt := R } (startS 8 ds) M := by
  rintro ds M R ⟨xs, rfl, hxs, h⟩
  try simp only [r_p_law, dSeq, dAsg, dCall, dCons, dNil, dVar, dC, startS, getS, List.map, List.length, List.cons_append, List.nil_append, List.replicate, Nat.reduceSub, Nat.reduceAdd, dIf, dOr, dB, dOp, dCB, gN, setS, dDrop, dMt, dTup, dNot, dRet, dNext]
  refine ⟨xs, rfl, hxs, fun a c M1 S1 k1 => ?_⟩
  try simp only [gN, setS, getS, dSeq, dAsg, dIf, dOr, dB, dOp, dCB, dCons, dNil, dVar, dCall, dC, dDrop, dMt, dTup, dNot, dRet, dNext]
  refine ⟨a, c, rfl, S1, fun g M2 ok S2 k2 => ?_⟩
  try simp only [gN, setS, getS, dSeq, dAsg, dIf, dOr, dB, dOp, dCB, dCons, dNil, dVar, dCall, dC, dDrop, dMt, dTup, dNot, dRet, dNext]
  have i0 := ok.i0
  have a13 := ok.a13
  have sz := ok.siz0
  refine ⟨g, rfl, i0, ok.pos, by omega, fun cl M3 hcl e3 k3 => ?_⟩
  have S3 := src_keep S2 k3
  have clac := src_fresh S2 hcl
  have fs : Small 1000 (gcl g 0) := (gcl_fine ok (s := 0) (by omega) (by omega)).small (by have := gcl_len g 0; omega)
  try simp only [gN, setS, getS, dCB, dCons, dNil, dCall, dVar, dC, dSeq, dAsg, dIf, dOr, dB, dOp, dDrop, dMt, dTup, dNot, dRet, dNext]
  refine ⟨g, 0, rfl, by omega, i0, ok.pos, by omega, fun p M4 hp e4 k4 => ?_⟩
  try simp only [dNil, dCons, dCB, dOp, dCall, dVar, gN, setS, getS, dSeq, dAsg, dIf, dOr, dB, dC, dDrop, dMt, dTup, dNot, dRet, dNext]
  refine repr_cD e4 fs (by omega) ?_
  have e34 := k4 _ _ (by simp) e3
  try simp only [gN, setS, getS, dIf, dOr, dB, dOp, dCB, dCons, dNil, dVar, dCall, dSeq, dAsg, dC, dDrop, dMt, dTup, dNot, dRet, dNext]
  refine repr_cD e34 fs (by omega) ?_
  simp only [dNe_s, decide_true, Bool.not_true, Bool.false_eq_true, if_false]
  refine ⟨g, rfl, i0, ok.pos, by omega, fun p5 M5 hp5 e5 k5 => ?_⟩
  try simp only [dNil, dCons, dCB, dOp, dCall, dVar, gN, setS, getS, dSeq, dAsg, dIf, dOr, dB, dC, dDrop, dMt, dTup, dNot, dRet, dNext]
  refine repr_cD e5 fs (by omega) ?_
  simp only [dNe_s, decide_true, Bool.not_true, Bool.false_eq_true, if_false, dNext]
  refine ⟨g, rfl, i0, ok.pos, by omega, fun p6 M6 hp6 e6 k6 => ?_⟩
  have k46 := (k4.trans k5).trans k6
  have S6 := src_keep S3 k46
  have e36 := k46 _ _ (by simp) e3
  have S5 := src_keep S3 (k4.trans k5)
  have p6ac := src_fresh S5 hp6
  have p6c : ¬ cl = p6 := ne_m ((k4.trans k5) _ _ (by simp) e3) hp6
  try simp only [gN, setS, getS, dDrop, dMt, dCons, dNil, dVar, dTup, mAppend, dSeq, dAsg, dIf, dOr, dB, dOp, dCB, dCall, dC, dNot, dRet, dNext]
  refine ⟨by simp [isLst, e6], Nat.zero_le _, ?_⟩
  simp only [e6]
  refine ⟨by have := gcl_len g 0; exact len_line (by omega), ?_⟩
  have S7 := src_upd S6 p6ac (o := .lst (cD (gcl g 0) ++ [D.tup []]))
  have e37 : updM M6 p6 (.lst (cD (gcl g 0) ++ [D.tup []])) cl = some (.lst (cD (gcl g 0))) := by rw [updM_at p6c]; exact e36
  generalize updM M6 p6 (.lst (cD (gcl g 0) ++ [D.tup []])) = M7 at S7 e37 ⊢
  refine ⟨g, rfl, i0, ok.pos, by omega, fun p8 M8 hp8 e8 k8 => ?_⟩
  try simp only [dNil, dCons, dCB, dOp, dCall, dVar, gN, setS, getS, dSeq, dAsg, dIf, dOr, dB, dC, dDrop, dMt, dTup, dNot, dRet, dNext]
  refine repr_cD e8 fs (by omega) ?_
  simp only [dNe_s, decide_true, Bool.not_true, Bool.false_eq_true, if_false, dNext]
  have S8 := src_keep S7 k8
  have e38 := k8 _ _ (by simp) e37
  try simp only [dFor, dRng1, dCons, dNil, dC, dSeq, dAsg, dIf, dOr, dB, dOp, dCB, dVar, dCall, gN, setS, getS, dDrop, dMt, dTup, dNot, dRet, dNext]
  refine ⟨⟨by omega, by omega⟩, fun i S M' => ∃ (e6 e7 : Option D), S = [some (.con (xs.map .int)), some (D.ref a), some (gD g), some (D.ref cl), some (.str (cP (gcl g 0)).shown), some (D.ref p6), e6, e7] ∧
      M' cl = some (.lst (cD (gcl g 0))) ∧ Src M' a c,
      ⟨none, none, rfl, e38, S8⟩, fun _ _ _ _ _ => trivial, ?_, ?_⟩
  · rintro i d S M' e ⟨e6, e7, rfl, ec, Sx⟩
    obtain ⟨hi, rfl⟩ := rng_get0 e
    try simp only [gN, setS, r_p_law_b1, dSeq, dAsg, dCB, dCall, dCons, dNil, dOp, dVar, dC, getS, dIf, dOr, dB, dDrop, dMt, dTup, dNot, dRet, dNext]
    refine ⟨g, rfl, ?_⟩
    simp only [dMul_i]
    refine ⟨cmul_small (by omega) (by omega), ?_⟩
    refine ⟨a, c, 2 * sizG g, rfl, by omega, Sx, fun l M9 l0 l1 S9 k9 => ?_⟩
    have clac' : cl ≠ a ∧ cl ≠ c := by simpa using clac
    have ec9 : M9 cl = some (.lst (cD (gcl g 0))) := by rw [k9 cl clac'.1 clac'.2]; exact ec
    have fsm : (far l 0).natAbs.log2 < 1920 := of_decide_eq_true (showable_int (Nat.lt_trans (far_small l0 (by omega) (by omega) (by omega)) (by decide)))
    try simp only [dIf, dB, dOp, dCB, dCall, dCons, dNil, dVar, dC, getS, dSeq, dAsg, dOr, gN, setS, dDrop, dMt, dTup, dNot, dRet, dNext]
    refine ⟨l, rfl, ?_⟩
    try simp only [dNil, dCons, dCB, dOp, dCall, dVar, gN, setS, getS, dSeq, dAsg, dIf, dOr, dB, dC, dDrop, dMt, dTup, dNot, dRet, dNext]
    refine ⟨fsm, ?_⟩
    refine ⟨l, 0, rfl, ?_⟩
    try simp only [dNil, dCons, dCB, dOp, dCall, dVar, gN, setS, getS, dSeq, dAsg, dIf, dOr, dB, dC, dDrop, dMt, dTup, dNot, dRet, dNext]
    refine ⟨fsm, ?_⟩
    simp only [dNe_s, decide_true, Bool.not_true, Bool.false_eq_true, if_false, dNext]
    exact ⟨_, _, rfl, ec9, S9⟩
  · rintro S M' ⟨e6, e7, rfl, ec, Sx⟩
    try simp only [r_p_law_a1, dSeq, dIf, dOr, dNot, dB, dCall, dCons, dVar, getS, dNil, dAsg, dOp, dCB, dC, gN, setS, dDrop, dMt, dTup, dRet, dNext]
    refine ⟨a, c, g, cl, rfl, ok, Sx, ec, clac, fun M9 S9 k9 => ?_⟩
    simp only [Bool.not_true, Bool.false_eq_true, if_false]
    refine ⟨a, c, g, rfl, ok, S9, fun M10 S10 k10 => ?_⟩
    try simp only [Bool.not_true, Bool.false_eq_true, if_false, dNext, dRet, dOp, dCall, dCons, dTup, dC, dNil, dLst, dUn, dSeq, dAsg, dIf, dOr, dB, dCB, dVar, gN, setS, getS, dDrop, dMt, dNot]
    refine ⟨by decide, by decide, by decide, by decide, by decide, by decide, ?_⟩
    refine ⟨lastG, rfl, by decide, fun p hp => ?_, by decide, fun p M11 hp e11 k11 => ?_⟩
    · have : p = (2, 4) := by simpa [lastG] using hp
      subst this
      decide
    · rw [last_gcl] at e11
      try simp only [dNil, dCons, dCB, dOp, dCall, dVar, gN, setS, getS, dSeq, dAsg, dC, dTup, dRet, dNeg]
      refine ⟨by decide, by decide, by decide, by decide, by decide, fun q hq => ?_⟩
      have pq : p ≠ q := ne_m e11 hq
      simp only [dEq_r]
      refine ⟨cP _, cP _, deep_cD (by rw [updM_at pq]; exact e11), deep_cD (cls := [[-1], [2, -4], [3, -4], [-2, -3, 4]]) updM_same, by decide +kernel, by decide +kernel, ?_⟩
      have : PyData.eqv (cP [[-1], [2, -4], [3, -4], [-2, -3, 4]]) (cP [[-1], [2, -4], [3, -4], [-2, -3, 4]]) = true := by decide +kernel
      rw [this]
      exact h _
end Law

namespace Law
open PySem PySem.Spec PyProof.Rows L2 PyD
def tp (i : Nat) : Stmt := PySem.Challenge.pw_bitloom_k84_whole_clauses_of_graphs.main.body.getD i (.Pass ⟨0, 0, 0, 0⟩)
abbrev s_p_moved_literal : Stmt := tp 2
abbrev s_p_put_clause : Stmt := tp 3
abbrev s_p_first_and : Stmt := tp 6
abbrev s_l_literal : Stmt := tp 14
abbrev s_l_source : Stmt := tp 18
abbrev s_l_pick : Stmt := tp 19
abbrev s_l_all_bits : Stmt := tp 20
abbrev s_l_kept : Stmt := tp 21
abbrev s_l_put : Stmt := tp 22
abbrev s_l_far : Stmt := tp 23
abbrev s_l_size : Stmt := tp 25
abbrev s_l_starting : Stmt := tp 27
abbrev s_l_true_of : Stmt := tp 30
abbrev s_p_literal_of : Stmt := tp 1
abbrev s_p_put_and : Stmt := tp 4
abbrev s_p_put_same : Stmt := tp 5
abbrev s_p_size_of : Stmt := tp 7
abbrev s_l_nodes : Stmt := tp 15
abbrev s_l_draw_literal : Stmt := tp 16
abbrev s_l_graph_clauses : Stmt := tp 24
abbrev s_p_put_graph : Stmt := tp 8
abbrev s_p_register_letter : Stmt := tp 10
abbrev s_l_draw_graph : Stmt := tp 17
abbrev s_l_unrolled : Stmt := tp 26
abbrev s_l_step_of : Stmt := tp 28
abbrev s_l_values_right : Stmt := tp 31
abbrev s_p_clauses_of : Stmt := tp 9
abbrev s_p_unrolled : Stmt := tp 11
abbrev s_p_starting : Stmt := tp 12
abbrev s_l_rough_graph : Stmt := tp 29
abbrev s_l_run_right : Stmt := tp 32
abbrev s_p_law : Stmt := tp 33
theorem sc_p_moved_literal : FnScope ["literal", "shift", "letter"] ["literal", "shift"] (defScope s_p_moved_literal) := ⟨rfl, rfl, rfl, by decide +kernel, rfl, by decide +kernel, by decide +kernel⟩
theorem sc_p_put_clause : FnScope ["clauses", "literals", "found", "literal"] ["clauses", "literals"] (defScope s_p_put_clause) := ⟨rfl, rfl, rfl, by decide +kernel, rfl, by decide +kernel, by decide +kernel⟩
theorem sc_p_first_and : FnScope ["graph"] ["graph"] (defScope s_p_first_and) := ⟨rfl, rfl, rfl, by decide +kernel, rfl, by decide +kernel, by decide +kernel⟩
theorem sc_l_literal : FnScope ["_law_values", "_law_l", "_law_full"] ["_law_values", "_law_l", "_law_full"] (defScope s_l_literal) := ⟨rfl, rfl, rfl, by decide +kernel, rfl, by decide +kernel, by decide +kernel⟩
theorem sc_l_source : FnScope ["_law_script", "_law_mixed", "_law_cell"] ["_law_script"] (defScope s_l_source) := ⟨rfl, rfl, rfl, by decide +kernel, rfl, by decide +kernel, by decide +kernel⟩
theorem sc_l_pick : FnScope ["_law_source_here", "_law_many", "_law_left", "_law_mixed"] ["_law_source_here", "_law_many"] (defScope s_l_pick) := ⟨rfl, rfl, rfl, by decide +kernel, rfl, by decide +kernel, by decide +kernel⟩
theorem sc_l_all_bits : FnScope ["_law_many", "_law_found", "_law_lap", "_law_bits"] ["_law_many"] (defScope s_l_all_bits) := ⟨rfl, rfl, rfl, by decide +kernel, rfl, by decide +kernel, by decide +kernel⟩
theorem sc_l_kept : FnScope ["_law_clauses", "_law_true", "_law_clause", "_law_one"] ["_law_clauses", "_law_true"] (defScope s_l_kept) := ⟨rfl, rfl, rfl, by decide +kernel, rfl, by decide +kernel, by decide +kernel⟩
theorem sc_l_put : FnScope ["_law_clauses", "_law_literals", "_law_some", "_law_one", "_law_letter"] ["_law_clauses", "_law_literals"] (defScope s_l_put) := ⟨rfl, rfl, rfl, by decide +kernel, rfl, by decide +kernel, by decide +kernel⟩
theorem sc_l_far : FnScope ["_law_literal_here", "_law_shift", "_law_letter"] ["_law_literal_here", "_law_shift"] (defScope s_l_far) := ⟨rfl, rfl, rfl, by decide +kernel, rfl, by decide +kernel, by decide +kernel⟩
theorem sc_l_size : FnScope ["_law_graph"] ["_law_graph"] (defScope s_l_size) := ⟨rfl, rfl, rfl, by decide +kernel, rfl, by decide +kernel, by decide +kernel⟩
theorem sc_l_starting : FnScope ["_law_graph", "_law_letters", "_law_k", "_law_z", "_law_reg"] ["_law_graph"] (defScope s_l_starting) := ⟨rfl, rfl, rfl, by decide +kernel, rfl, by decide +kernel, by decide +kernel⟩
theorem sc_l_true_of : FnScope ["_law_values", "_law_shift", "_law_n", "_law_bit"] ["_law_values", "_law_shift"] (defScope s_l_true_of) := ⟨rfl, rfl, rfl, by decide +kernel, rfl, by decide +kernel, by decide +kernel⟩
theorem sc_p_literal_of : FnScope ["literal"] ["literal"] (defScope s_p_literal_of) := ⟨rfl, rfl, rfl, by decide +kernel, rfl, by decide +kernel, by decide +kernel⟩
theorem sc_p_put_and : FnScope ["clauses", "letter", "one", "other"] ["clauses", "letter", "one", "other"] (defScope s_p_put_and) := ⟨rfl, rfl, rfl, by decide +kernel, rfl, by decide +kernel, by decide +kernel⟩
theorem sc_p_put_same : FnScope ["clauses", "one", "other"] ["clauses", "one", "other"] (defScope s_p_put_same) := ⟨rfl, rfl, rfl, by decide +kernel, rfl, by decide +kernel, by decide +kernel⟩
theorem sc_p_size_of : FnScope ["graph"] ["graph"] (defScope s_p_size_of) := ⟨rfl, rfl, rfl, by decide +kernel, rfl, by decide +kernel, by decide +kernel⟩
theorem sc_l_nodes : FnScope ["_law_graph", "_law_state", "_law_lot", "_law_full", "_law_found", "_law_l", "_law_m"] ["_law_graph", "_law_state", "_law_lot", "_law_full"] (defScope s_l_nodes) := ⟨rfl, rfl, rfl, by decide +kernel, rfl, by decide +kernel, by decide +kernel⟩
theorem sc_l_draw_literal : FnScope ["_law_source_here", "_law_many", "_law_node"] ["_law_source_here", "_law_many"] (defScope s_l_draw_literal) := ⟨rfl, rfl, rfl, by decide +kernel, rfl, by decide +kernel, by decide +kernel⟩
theorem sc_l_graph_clauses : FnScope ["_law_graph", "_law_shift", "_law_found", "_law_first", "_law_number", "_law_pair", "_law_y", "_law_a", "_law_b", "_law_some"] ["_law_graph", "_law_shift"] (defScope s_l_graph_clauses) := ⟨rfl, rfl, rfl, by decide +kernel, rfl, by decide +kernel, by decide +kernel⟩
theorem sc_p_put_graph : FnScope ["clauses", "graph", "shift", "number", "one", "other", "letter"] ["clauses", "graph", "shift"] (defScope s_p_put_graph) := ⟨rfl, rfl, rfl, by decide +kernel, rfl, by decide +kernel, by decide +kernel⟩
theorem sc_p_register_letter : FnScope ["graph", "index", "clock"] ["graph", "index", "clock"] (defScope s_p_register_letter) := ⟨rfl, rfl, rfl, by decide +kernel, rfl, by decide +kernel, by decide +kernel⟩
theorem sc_l_draw_graph : FnScope ["_law_source_here", "_law_many_ins", "_law_many_regs", "_law_most", "_law_ins", "_law_regs", "_law_known", "_law_first", "_law_lap", "_law_pair", "_law_many", "_law_told", "_law_outs", "_law_side", "_law_k"] ["_law_source_here", "_law_many_ins", "_law_many_regs", "_law_most"] (defScope s_l_draw_graph) := ⟨rfl, rfl, rfl, by decide +kernel, rfl, by decide +kernel, by decide +kernel⟩
theorem sc_l_unrolled : FnScope ["_law_graph", "_law_clocks", "_law_found", "_law_size_here", "_law_clock", "_law_k", "_law_reg", "_law_z", "_law_x", "_law_some"] ["_law_graph", "_law_clocks"] (defScope s_l_unrolled) := ⟨rfl, rfl, rfl, by decide +kernel, rfl, by decide +kernel, by decide +kernel⟩
theorem sc_l_step_of : FnScope ["_law_graph", "_law_lot", "_law_state", "_law_values", "_law_outs", "_law_l", "_law_reg"] ["_law_graph", "_law_lot", "_law_state"] (defScope s_l_step_of) := ⟨rfl, rfl, rfl, by decide +kernel, rfl, by decide +kernel, by decide +kernel⟩
theorem sc_l_values_right : FnScope ["_law_source_here", "_law_graph", "_law_clauses", "_law_first", "_law_size_here", "_law_bits", "_law_values", "_law_spot"] ["_law_source_here", "_law_graph", "_law_clauses"] (defScope s_l_values_right) := ⟨rfl, rfl, rfl, by decide +kernel, rfl, by decide +kernel, by decide +kernel⟩
theorem sc_p_clauses_of : FnScope ["graph", "clauses"] ["graph"] (defScope s_p_clauses_of) := ⟨rfl, rfl, rfl, by decide +kernel, rfl, by decide +kernel, by decide +kernel⟩
theorem sc_p_unrolled : FnScope ["graph", "clocks", "clauses", "size", "clock", "index", "start", "taken"] ["graph", "clocks"] (defScope s_p_unrolled) := ⟨rfl, rfl, rfl, by decide +kernel, rfl, by decide +kernel, by decide +kernel⟩
theorem sc_p_starting : FnScope ["graph", "letters", "index", "letter", "start", "taken"] ["graph"] (defScope s_p_starting) := ⟨rfl, rfl, rfl, by decide +kernel, rfl, by decide +kernel, by decide +kernel⟩
theorem sc_l_rough_graph : FnScope ["_law_source_here", "_law_graph", "_law_l", "_law_ands"] ["_law_source_here"] (defScope s_l_rough_graph) := ⟨rfl, rfl, rfl, by decide +kernel, rfl, by decide +kernel, by decide +kernel⟩
theorem sc_l_run_right : FnScope ["_law_source_here", "_law_graph", "_law_clocks", "_law_state", "_law_true", "_law_clauses", "_law_clock", "_law_lot", "_law_reg", "_law_k"] ["_law_source_here", "_law_graph"] (defScope s_l_run_right) := ⟨rfl, rfl, rfl, by decide +kernel, rfl, by decide +kernel, by decide +kernel⟩
theorem sc_p_law : FnScope ["_law_script", "_law_source_here", "_law_graph", "_law_clauses", "_law_due", "_law_again", "_law_lap", "_law_l"] ["_law_script"] (defScope s_p_law) := ⟨rfl, rfl, rfl, by decide +kernel, rfl, by decide +kernel, by decide +kernel⟩
structure Tx (K : PySem.W.Frag) (mg : Str → Option Value) where
  a_p_moved_literal : Addr
  d_p_moved_literal : FuncData
  F_p_moved_literal : FunD K "moved_literal" "moved_literal" (defArgs s_p_moved_literal) (defBody s_p_moved_literal) (defScope s_p_moved_literal) [] [] a_p_moved_literal d_p_moved_literal
  b_p_moved_literal : Binds K d_p_moved_literal ["literal", "shift"] []
  g_p_moved_literal : mg "moved_literal" = some (.ref a_p_moved_literal)
  a_p_put_clause : Addr
  d_p_put_clause : FuncData
  F_p_put_clause : FunD K "put_clause" "put_clause" (defArgs s_p_put_clause) (defBody s_p_put_clause) (defScope s_p_put_clause) [] [] a_p_put_clause d_p_put_clause
  b_p_put_clause : Binds K d_p_put_clause ["clauses", "literals"] []
  g_p_put_clause : mg "put_clause" = some (.ref a_p_put_clause)
  a_p_first_and : Addr
  d_p_first_and : FuncData
  F_p_first_and : FunD K "first_and" "first_and" (defArgs s_p_first_and) (defBody s_p_first_and) (defScope s_p_first_and) [] [] a_p_first_and d_p_first_and
  b_p_first_and : Binds K d_p_first_and ["graph"] []
  g_p_first_and : mg "first_and" = some (.ref a_p_first_and)
  a_l_literal : Addr
  d_l_literal : FuncData
  F_l_literal : FunD K "_law_literal" "_law_literal" (defArgs s_l_literal) (defBody s_l_literal) (defScope s_l_literal) [] [] a_l_literal d_l_literal
  b_l_literal : Binds K d_l_literal ["_law_values", "_law_l", "_law_full"] []
  g_l_literal : mg "_law_literal" = some (.ref a_l_literal)
  a_l_source : Addr
  d_l_source : FuncData
  F_l_source : FunD K "_law_source" "_law_source" (defArgs s_l_source) (defBody s_l_source) (defScope s_l_source) [] [] a_l_source d_l_source
  b_l_source : Binds K d_l_source ["_law_script"] []
  g_l_source : mg "_law_source" = some (.ref a_l_source)
  a_l_pick : Addr
  d_l_pick : FuncData
  F_l_pick : FunD K "_law_pick" "_law_pick" (defArgs s_l_pick) (defBody s_l_pick) (defScope s_l_pick) [] [] a_l_pick d_l_pick
  b_l_pick : Binds K d_l_pick ["_law_source_here", "_law_many"] []
  g_l_pick : mg "_law_pick" = some (.ref a_l_pick)
  a_l_all_bits : Addr
  d_l_all_bits : FuncData
  F_l_all_bits : FunD K "_law_all_bits" "_law_all_bits" (defArgs s_l_all_bits) (defBody s_l_all_bits) (defScope s_l_all_bits) [] [] a_l_all_bits d_l_all_bits
  b_l_all_bits : Binds K d_l_all_bits ["_law_many"] []
  g_l_all_bits : mg "_law_all_bits" = some (.ref a_l_all_bits)
  a_l_kept : Addr
  d_l_kept : FuncData
  F_l_kept : FunD K "_law_kept" "_law_kept" (defArgs s_l_kept) (defBody s_l_kept) (defScope s_l_kept) [] [] a_l_kept d_l_kept
  b_l_kept : Binds K d_l_kept ["_law_clauses", "_law_true"] []
  g_l_kept : mg "_law_kept" = some (.ref a_l_kept)
  a_l_put : Addr
  d_l_put : FuncData
  F_l_put : FunD K "_law_put" "_law_put" (defArgs s_l_put) (defBody s_l_put) (defScope s_l_put) [] [] a_l_put d_l_put
  b_l_put : Binds K d_l_put ["_law_clauses", "_law_literals"] []
  g_l_put : mg "_law_put" = some (.ref a_l_put)
  a_l_far : Addr
  d_l_far : FuncData
  F_l_far : FunD K "_law_far" "_law_far" (defArgs s_l_far) (defBody s_l_far) (defScope s_l_far) [] [] a_l_far d_l_far
  b_l_far : Binds K d_l_far ["_law_literal_here", "_law_shift"] []
  g_l_far : mg "_law_far" = some (.ref a_l_far)
  a_l_size : Addr
  d_l_size : FuncData
  F_l_size : FunD K "_law_size" "_law_size" (defArgs s_l_size) (defBody s_l_size) (defScope s_l_size) [] [] a_l_size d_l_size
  b_l_size : Binds K d_l_size ["_law_graph"] []
  g_l_size : mg "_law_size" = some (.ref a_l_size)
  a_l_starting : Addr
  d_l_starting : FuncData
  F_l_starting : FunD K "_law_starting" "_law_starting" (defArgs s_l_starting) (defBody s_l_starting) (defScope s_l_starting) [] [] a_l_starting d_l_starting
  b_l_starting : Binds K d_l_starting ["_law_graph"] []
  g_l_starting : mg "_law_starting" = some (.ref a_l_starting)
  a_l_true_of : Addr
  d_l_true_of : FuncData
  F_l_true_of : FunD K "_law_true_of" "_law_true_of" (defArgs s_l_true_of) (defBody s_l_true_of) (defScope s_l_true_of) [] [] a_l_true_of d_l_true_of
  b_l_true_of : Binds K d_l_true_of ["_law_values", "_law_shift"] []
  g_l_true_of : mg "_law_true_of" = some (.ref a_l_true_of)
  a_p_literal_of : Addr
  d_p_literal_of : FuncData
  F_p_literal_of : FunD K "literal_of" "literal_of" (defArgs s_p_literal_of) (defBody s_p_literal_of) (defScope s_p_literal_of) [] [] a_p_literal_of d_p_literal_of
  b_p_literal_of : Binds K d_p_literal_of ["literal"] []
  g_p_literal_of : mg "literal_of" = some (.ref a_p_literal_of)
  a_p_put_and : Addr
  d_p_put_and : FuncData
  F_p_put_and : FunD K "put_and" "put_and" (defArgs s_p_put_and) (defBody s_p_put_and) (defScope s_p_put_and) [] [] a_p_put_and d_p_put_and
  b_p_put_and : Binds K d_p_put_and ["clauses", "letter", "one", "other"] []
  g_p_put_and : mg "put_and" = some (.ref a_p_put_and)
  a_p_put_same : Addr
  d_p_put_same : FuncData
  F_p_put_same : FunD K "put_same" "put_same" (defArgs s_p_put_same) (defBody s_p_put_same) (defScope s_p_put_same) [] [] a_p_put_same d_p_put_same
  b_p_put_same : Binds K d_p_put_same ["clauses", "one", "other"] []
  g_p_put_same : mg "put_same" = some (.ref a_p_put_same)
  a_p_size_of : Addr
  d_p_size_of : FuncData
  F_p_size_of : FunD K "size_of" "size_of" (defArgs s_p_size_of) (defBody s_p_size_of) (defScope s_p_size_of) [] [] a_p_size_of d_p_size_of
  b_p_size_of : Binds K d_p_size_of ["graph"] []
  g_p_size_of : mg "size_of" = some (.ref a_p_size_of)
  a_l_nodes : Addr
  d_l_nodes : FuncData
  F_l_nodes : FunD K "_law_nodes" "_law_nodes" (defArgs s_l_nodes) (defBody s_l_nodes) (defScope s_l_nodes) [] [] a_l_nodes d_l_nodes
  b_l_nodes : Binds K d_l_nodes ["_law_graph", "_law_state", "_law_lot", "_law_full"] []
  g_l_nodes : mg "_law_nodes" = some (.ref a_l_nodes)
  a_l_draw_literal : Addr
  d_l_draw_literal : FuncData
  F_l_draw_literal : FunD K "_law_draw_literal" "_law_draw_literal" (defArgs s_l_draw_literal) (defBody s_l_draw_literal) (defScope s_l_draw_literal) [] [] a_l_draw_literal d_l_draw_literal
  b_l_draw_literal : Binds K d_l_draw_literal ["_law_source_here", "_law_many"] []
  g_l_draw_literal : mg "_law_draw_literal" = some (.ref a_l_draw_literal)
  a_l_graph_clauses : Addr
  d_l_graph_clauses : FuncData
  F_l_graph_clauses : FunD K "_law_graph_clauses" "_law_graph_clauses" (defArgs s_l_graph_clauses) (defBody s_l_graph_clauses) (defScope s_l_graph_clauses) [] [] a_l_graph_clauses d_l_graph_clauses
  b_l_graph_clauses : Binds K d_l_graph_clauses ["_law_graph", "_law_shift"] []
  g_l_graph_clauses : mg "_law_graph_clauses" = some (.ref a_l_graph_clauses)
  a_p_put_graph : Addr
  d_p_put_graph : FuncData
  F_p_put_graph : FunD K "put_graph" "put_graph" (defArgs s_p_put_graph) (defBody s_p_put_graph) (defScope s_p_put_graph) [] [] a_p_put_graph d_p_put_graph
  b_p_put_graph : Binds K d_p_put_graph ["clauses", "graph", "shift"] []
  g_p_put_graph : mg "put_graph" = some (.ref a_p_put_graph)
  a_p_register_letter : Addr
  d_p_register_letter : FuncData
  F_p_register_letter : FunD K "register_letter" "register_letter" (defArgs s_p_register_letter) (defBody s_p_register_letter) (defScope s_p_register_letter) [] [] a_p_register_letter d_p_register_letter
  b_p_register_letter : Binds K d_p_register_letter ["graph", "index", "clock"] []
  g_p_register_letter : mg "register_letter" = some (.ref a_p_register_letter)
  a_l_draw_graph : Addr
  d_l_draw_graph : FuncData
  F_l_draw_graph : FunD K "_law_draw_graph" "_law_draw_graph" (defArgs s_l_draw_graph) (defBody s_l_draw_graph) (defScope s_l_draw_graph) [] [] a_l_draw_graph d_l_draw_graph
  b_l_draw_graph : Binds K d_l_draw_graph ["_law_source_here", "_law_many_ins", "_law_many_regs", "_law_most"] []
  g_l_draw_graph : mg "_law_draw_graph" = some (.ref a_l_draw_graph)
  a_l_unrolled : Addr
  d_l_unrolled : FuncData
  F_l_unrolled : FunD K "_law_unrolled" "_law_unrolled" (defArgs s_l_unrolled) (defBody s_l_unrolled) (defScope s_l_unrolled) [] [] a_l_unrolled d_l_unrolled
  b_l_unrolled : Binds K d_l_unrolled ["_law_graph", "_law_clocks"] []
  g_l_unrolled : mg "_law_unrolled" = some (.ref a_l_unrolled)
  a_l_step_of : Addr
  d_l_step_of : FuncData
  F_l_step_of : FunD K "_law_step_of" "_law_step_of" (defArgs s_l_step_of) (defBody s_l_step_of) (defScope s_l_step_of) [] [] a_l_step_of d_l_step_of
  b_l_step_of : Binds K d_l_step_of ["_law_graph", "_law_lot", "_law_state"] []
  g_l_step_of : mg "_law_step_of" = some (.ref a_l_step_of)
  a_l_values_right : Addr
  d_l_values_right : FuncData
  F_l_values_right : FunD K "_law_values_right" "_law_values_right" (defArgs s_l_values_right) (defBody s_l_values_right) (defScope s_l_values_right) [] [] a_l_values_right d_l_values_right
  b_l_values_right : Binds K d_l_values_right ["_law_source_here", "_law_graph", "_law_clauses"] []
  g_l_values_right : mg "_law_values_right" = some (.ref a_l_values_right)
  a_p_clauses_of : Addr
  d_p_clauses_of : FuncData
  F_p_clauses_of : FunD K "clauses_of" "clauses_of" (defArgs s_p_clauses_of) (defBody s_p_clauses_of) (defScope s_p_clauses_of) [] [] a_p_clauses_of d_p_clauses_of
  b_p_clauses_of : Binds K d_p_clauses_of ["graph"] []
  g_p_clauses_of : mg "clauses_of" = some (.ref a_p_clauses_of)
  a_p_unrolled : Addr
  d_p_unrolled : FuncData
  F_p_unrolled : FunD K "unrolled" "unrolled" (defArgs s_p_unrolled) (defBody s_p_unrolled) (defScope s_p_unrolled) [] [] a_p_unrolled d_p_unrolled
  b_p_unrolled : Binds K d_p_unrolled ["graph", "clocks"] []
  g_p_unrolled : mg "unrolled" = some (.ref a_p_unrolled)
  a_p_starting : Addr
  d_p_starting : FuncData
  F_p_starting : FunD K "starting" "starting" (defArgs s_p_starting) (defBody s_p_starting) (defScope s_p_starting) [] [] a_p_starting d_p_starting
  b_p_starting : Binds K d_p_starting ["graph"] []
  g_p_starting : mg "starting" = some (.ref a_p_starting)
  a_l_rough_graph : Addr
  d_l_rough_graph : FuncData
  F_l_rough_graph : FunD K "_law_rough_graph" "_law_rough_graph" (defArgs s_l_rough_graph) (defBody s_l_rough_graph) (defScope s_l_rough_graph) [] [] a_l_rough_graph d_l_rough_graph
  b_l_rough_graph : Binds K d_l_rough_graph ["_law_source_here"] []
  g_l_rough_graph : mg "_law_rough_graph" = some (.ref a_l_rough_graph)
  a_l_run_right : Addr
  d_l_run_right : FuncData
  F_l_run_right : FunD K "_law_run_right" "_law_run_right" (defArgs s_l_run_right) (defBody s_l_run_right) (defScope s_l_run_right) [] [] a_l_run_right d_l_run_right
  b_l_run_right : Binds K d_l_run_right ["_law_source_here", "_law_graph"] []
  g_l_run_right : mg "_law_run_right" = some (.ref a_l_run_right)
  a_p_law : Addr
  d_p_law : FuncData
  F_p_law : FunD K "law" "law" (defArgs s_p_law) (defBody s_p_law) (defScope s_p_law) [] [] a_p_law d_p_law
  b_p_law : Binds K d_p_law ["_law_script"] []
  g_p_law : mg "law" = some (.ref a_p_law)
  z_abs : mg "abs" = none
  z_any : mg "any" = none
  z_dict : mg "dict" = none
  z_enumerate : mg "enumerate" = none
  z_int : mg "int" = none
  z_len : mg "len" = none
  z_list : mg "list" = none
  z_max : mg "max" = none
  z_min : mg "min" = none
  z_range : mg "range" = none
  z_repr : mg "repr" = none
  z_set : mg "set" = none
  z_sorted : mg "sorted" = none
  z_tuple : mg "tuple" = none
  z_zip : mg "zip" = none
end Law

namespace Law
open PySem PySem.Spec PyProof.Rows L2 PyD
section
variable {P : Program} {w : World} {K : PySem.W.Frag} {mg : Str → Option Value} {base : Heap}
theorem ok_p_moved_literal (T : Tx K mg) : FnOkG P w K mg base CX0 1 T.a_p_moved_literal T.d_p_moved_literal ["literal", "shift"] (LSp K sp_p_moved_literal) :=
  fn_okG (r := r_p_moved_literal) T.F_p_moved_literal sc_p_moved_literal len_p_moved_literal (by decide) (fun cdv A outer s H E hr =>
    (dss_cons (ds_set (i := 2) sc_p_moved_literal.nd (by rfl) (by first | exact Or.inl rfl | exact Or.inr rfl) (by first | exact Or.inl rfl | exact Or.inr rfl) (de_op dop_add (de_op dop_add (de_op dop_fdiv (dv 0) de_int) de_int) (dv 1)))
      (dss_one (ds_ret (de_if (dt_cmp (dop_eq hr.units) (de_op dop_mod (dv 0) de_int) de_int (nomark _)) (dv 2) (de_un dun_neg (dv 2))))))) pure_p_moved_literal
theorem ok_p_put_clause (T : Tx K mg) : FnOkG P w K mg base CX0 1 T.a_p_put_clause T.d_p_put_clause ["clauses", "literals"] (LSp K sp_p_put_clause) :=
  fn_okG (r := r_p_put_clause) T.F_p_put_clause sc_p_put_clause len_p_put_clause (by decide) (fun cdv A outer s H E hr =>
    (dss_cons (ds_set (i := 2) sc_p_put_clause.nd (by rfl) (by first | exact Or.inl rfl | exact Or.inr rfl) (by first | exact Or.inl rfl | exact Or.inr rfl) (de_dc (own := [("literal", 3)]) (ow := [3]) rfl sc_p_put_clause.nd (di_seq (dv 1)) (blkOk_by (by first | decide +kernel | rfl)) (by decide) (fun _ _ _ _ _ => (dg_n (i := 3) sc_p_put_clause.nd (by rfl) (by first | exact Or.inl rfl | exact Or.inr rfl) (by first | exact Or.inl rfl | exact Or.inr rfl))) (fun _ _ _ _ _ => dts_nil) (fun _ _ _ _ _ => (dv 3)) (fun _ _ _ _ _ => de_bl)))
      (dss_one (ds_if (dt_not (dt_b (de_callB (dc_any rfl) (by rfl) T.z_any (by decide +kernel) (da_cons (de_lock (de_lc (own := [("literal", 3)]) (ow := [3]) rfl sc_p_put_clause.nd (di_keys (dv 2)) (blkOk_by (by first | decide +kernel | rfl)) (by decide) (fun _ _ _ _ _ => (dg_n (i := 3) sc_p_put_clause.nd (by rfl) (by first | exact Or.inl rfl | exact Or.inr rfl) (by first | exact Or.inl rfl | exact Or.inr rfl))) (fun _ _ _ _ _ => dts_nil) (fun _ _ _ _ _ => (de_cmp (dop_in hr.hu) (de_un dun_neg (dv 3)) (dv 2) (by rfl))))) da_nil)))) (dss_one (ds_expr (de_mt PySem.F.slot_list_append PySem.F.type_list_append dm_append (dv 0) (da_cons (de_callTy dc_tuple (by rfl) T.z_tuple (by decide +kernel) (da_cons (de_sortAbs rfl hr.units (by rfl) T.z_sorted (by rfl) T.z_abs (dv 2)) da_nil)) da_nil)))) dss_nil)))) pure_p_put_clause
theorem ok_p_first_and (T : Tx K mg) : FnOkG P w K mg base CX0 1 T.a_p_first_and T.d_p_first_and ["graph"] (LSp K sp_p_first_and) :=
  fn_okG (r := r_p_first_and) T.F_p_first_and sc_p_first_and len_p_first_and (by decide) (fun cdv A outer s H E hr =>
    (dss_one (ds_ret (de_op dop_add (de_op dop_add de_int (de_ix hr.hu (dv 0) de_int)) (de_callB dc_len (by rfl) T.z_len (by decide +kernel) (da_cons (de_ix hr.hu (dv 0) de_int) da_nil)))))) pure_p_first_and
theorem ok_l_literal (T : Tx K mg) : FnOkG P w K mg base CX0 1 T.a_l_literal T.d_l_literal ["_law_values", "_law_l", "_law_full"] (LSp K sp_l_literal) :=
  fn_okG (r := r_l_literal) T.F_l_literal sc_l_literal len_l_literal (by decide) (fun cdv A outer s H E hr =>
    (dss_one (ds_ret (de_op dop_bxor (de_ix hr.hu (dv 0) (de_op dop_fdiv (dv 1) de_int)) (de_op dop_mul (dv 2) (de_op dop_mod (de_callTy dc_int (by rfl) T.z_int (by decide +kernel) (da_cons (dv 1) da_nil)) de_int)))))) pure_l_literal
theorem ok_l_source (T : Tx K mg) : FnOkG P w K mg base CX0 1 T.a_l_source T.d_l_source ["_law_script"] (LSp K sp_l_source) :=
  fn_okG (r := r_l_source) T.F_l_source sc_l_source len_l_source (by decide) (fun cdv A outer s H E hr =>
    (dss_cons (ds_set (i := 1) sc_l_source.nd (by rfl) (by first | exact Or.inl rfl | exact Or.inr rfl) (by first | exact Or.inl rfl | exact Or.inr rfl) de_int)
      (dss_cons (ds_for PassesOwn.never rfl (di_seq (dv 0)) (dg_n (i := 2) sc_l_source.nd (by rfl) (by first | exact Or.inl rfl | exact Or.inr rfl) (by first | exact Or.inl rfl | exact Or.inr rfl)) (dss_one (ds_set (i := 1) sc_l_source.nd (by rfl) (by first | exact Or.inl rfl | exact Or.inr rfl) (by first | exact Or.inl rfl | exact Or.inr rfl) (de_op dop_mod (de_callTy dc_int (by rfl) T.z_int (by decide +kernel) (da_cons (de_op dop_add (de_op dop_add (de_op dop_mul (dv 1) de_int) (de_op dop_mul (dv 2) de_int)) de_int) da_nil)) de_int))))
      (dss_one (ds_ret (de_disp (dps_cons de_str (de_rev (de_lc (own := [("_law_cell", 2)]) (ow := [2]) rfl sc_l_source.nd (di_seq (dv 0)) (blkOk_by (by first | decide +kernel | rfl)) (by decide) (fun _ _ _ _ _ => (dg_n (i := 2) sc_l_source.nd (by rfl) (by first | exact Or.inl rfl | exact Or.inr rfl) (by first | exact Or.inl rfl | exact Or.inr rfl))) (fun _ _ _ _ _ => dts_nil) (fun _ _ _ _ _ => (de_callB dc_abs (by rfl) T.z_abs (by decide +kernel) (da_cons (dv 2) da_nil))))) (dps_cons de_str de_int (dps_cons de_str (dv 1) (dps_cons de_str de_int dps_nil)))) rfl rfl (fun z => by cases z) (by decide))))))) pure_l_source
theorem ok_l_pick (T : Tx K mg) : FnOkG P w K mg base CX0 1 T.a_l_pick T.d_l_pick ["_law_source_here", "_law_many"] (LSp K sp_l_pick) :=
  fn_okG (r := r_l_pick) T.F_l_pick sc_l_pick len_l_pick (by decide) (fun cdv A outer s H E hr =>
    (dss_cons (ds_while PassesOwn.never (dt_w (dw_and (dt_cmp dop_gt (dv 1) de_int (nomark _)) (dw_and (dt_cmp dop_lt (de_ix hr.hu (dv 0) de_str) de_int (nomark _)) (dw_and1 (dt_cmp dop_gt (de_callB dc_len (by rfl) T.z_len (by decide +kernel) (da_cons (de_ix hr.hu (dv 0) de_str) da_nil)) de_int (nomark _)))))) (dss_one (ds_asg (de_mt0 PySem.F.slot_list_pop PySem.F.type_list_pop dm_pop (de_ix hr.hu (dv 0) de_str)) (dg_s (ow := []) hr.hu (dv 0) de_str))))
      (dss_cons (ds_set (i := 2) sc_l_pick.nd (by rfl) (by first | exact Or.inl rfl | exact Or.inr rfl) (by first | exact Or.inl rfl | exact Or.inr rfl) (de_ix hr.hu (dv 0) de_str))
      (dss_cons (ds_if (dt_w (dw_or (dt_cmp dop_lt (dv 1) de_int (nomark _)) (dw_or1 (dt_cmp dop_gt (dv 2) de_int (nomark _))))) (dss_cons (ds_asg (de_op dop_fdiv (dv 2) (de_callB (dc_max2 rfl) (by rfl) T.z_max (by decide +kernel) (da_cons de_int (da_cons (dv 1) da_nil)))) (dg_s (ow := []) hr.hu (dv 0) de_str))
      (dss_one (ds_ret (de_op dop_mod (de_callTy dc_int (by rfl) T.z_int (by decide +kernel) (da_cons (dv 2) da_nil)) (de_callB (dc_max2 rfl) (by rfl) T.z_max (by decide +kernel) (da_cons de_int (da_cons (dv 1) da_nil))))))) dss_nil)
      (dss_cons (ds_asg (de_op dop_add (de_ix hr.hu (dv 0) de_str) de_int) (dg_s (ow := []) hr.hu (dv 0) de_str))
      (dss_cons (ds_set (i := 3) sc_l_pick.nd (by rfl) (by first | exact Or.inl rfl | exact Or.inr rfl) (by first | exact Or.inl rfl | exact Or.inr rfl) (de_op dop_mod (de_callTy dc_int (by rfl) T.z_int (by decide +kernel) (da_cons (de_op dop_add (de_ix hr.hu (dv 0) de_str) (de_op dop_mul (de_ix hr.hu (dv 0) de_str) de_int)) da_nil)) de_int))
      (dss_cons (ds_set (i := 3) sc_l_pick.nd (by rfl) (by first | exact Or.inl rfl | exact Or.inr rfl) (by first | exact Or.inl rfl | exact Or.inr rfl) (de_op dop_mod (de_callTy dc_int (by rfl) T.z_int (by decide +kernel) (da_cons (de_op dop_add (de_op dop_mul (dv 3) (dv 3)) (de_op dop_mul (de_ix hr.hu (dv 0) de_str) de_int)) da_nil)) de_int))
      (dss_cons (ds_asg (dv 3) (dg_s (ow := []) hr.hu (dv 0) de_str))
      (dss_one (ds_ret (de_op dop_mod (de_callTy dc_int (by rfl) T.z_int (by decide +kernel) (da_cons (de_op dop_fdiv (dv 3) de_int) da_nil)) (dv 1)))))))))))) pure_l_pick
theorem ok_l_all_bits (T : Tx K mg) : FnOkG P w K mg base CX0 1 T.a_l_all_bits T.d_l_all_bits ["_law_many"] (LSp K sp_l_all_bits) :=
  fn_okG (r := r_l_all_bits) T.F_l_all_bits sc_l_all_bits len_l_all_bits (by decide) (fun cdv A outer s H E hr =>
    (dss_cons (ds_set (i := 1) sc_l_all_bits.nd (by rfl) (by first | exact Or.inl rfl | exact Or.inr rfl) (by first | exact Or.inl rfl | exact Or.inr rfl) (de_lst (da_cons (de_tup da_nil) da_nil)))
      (dss_cons (ds_for PassesOwn.never rfl (di_rng1 (by rfl) T.z_range (da_cons (dv 0) da_nil)) (dg_n (i := 2) sc_l_all_bits.nd (by rfl) (by first | exact Or.inl rfl | exact Or.inr rfl) (by first | exact Or.inl rfl | exact Or.inr rfl)) (dss_one (ds_set (i := 1) sc_l_all_bits.nd (by rfl) (by first | exact Or.inl rfl | exact Or.inr rfl) (by first | exact Or.inl rfl | exact Or.inr rfl) (de_op dop_add (de_lc (own := [("_law_bits", 3)]) (ow := [3]) rfl sc_l_all_bits.nd (di_seq (dv 1)) (blkOk_by (by first | decide +kernel | rfl)) (by decide) (fun _ _ _ _ _ => (dg_n (i := 3) sc_l_all_bits.nd (by rfl) (by first | exact Or.inl rfl | exact Or.inr rfl) (by first | exact Or.inl rfl | exact Or.inr rfl))) (fun _ _ _ _ _ => dts_nil) (fun _ _ _ _ _ => (de_op dop_add (dv 3) (de_tup (da_cons de_int da_nil))))) (de_lc (own := [("_law_bits", 3)]) (ow := [3]) rfl sc_l_all_bits.nd (di_seq (dv 1)) (blkOk_by (by first | decide +kernel | rfl)) (by decide) (fun _ _ _ _ _ => (dg_n (i := 3) sc_l_all_bits.nd (by rfl) (by first | exact Or.inl rfl | exact Or.inr rfl) (by first | exact Or.inl rfl | exact Or.inr rfl))) (fun _ _ _ _ _ => dts_nil) (fun _ _ _ _ _ => (de_op dop_add (dv 3) (de_tup (da_cons de_int da_nil)))))))))
      (dss_one (ds_ret (dv 1)))))) pure_l_all_bits
theorem ok_l_kept (T : Tx K mg) : FnOkG P w K mg base CX0 1 T.a_l_kept T.d_l_kept ["_law_clauses", "_law_true"] (LSp K sp_l_kept) :=
  fn_okG (r := r_l_kept) T.F_l_kept sc_l_kept len_l_kept (by decide) (fun cdv A outer s H E hr =>
    (dss_cons (ds_for PassesOwn.never rfl (di_seq (dv 0)) (dg_n (i := 2) sc_l_kept.nd (by rfl) (by first | exact Or.inl rfl | exact Or.inr rfl) (by first | exact Or.inl rfl | exact Or.inr rfl)) (dss_one (ds_if (dt_cmp (dop_eq hr.units) (de_lc (own := [("_law_one", 3)]) (ow := [3]) rfl sc_l_kept.nd (di_seq (dv 2)) (blkOk_by (by first | decide +kernel | rfl)) (by decide) (fun _ _ _ _ _ => (dg_n (i := 3) sc_l_kept.nd (by rfl) (by first | exact Or.inl rfl | exact Or.inr rfl) (by first | exact Or.inl rfl | exact Or.inr rfl))) (fun _ _ _ _ _ => (dts_one (dt_cmp (dop_eq hr.units) (de_get1 hr.hu (dv 1) (de_callB dc_abs (by rfl) T.z_abs (by decide +kernel) (da_cons (dv 3) da_nil))) (dv 3) (nomark _)))) (fun _ _ _ _ _ => (dv 3))) (de_lst da_nil) (nomark _)) (dss_one (ds_ret de_bl)) dss_nil)))
      (dss_one (ds_ret de_bl)))) pure_l_kept
theorem ok_l_put (T : Tx K mg) : FnOkG P w K mg base CX0 1 T.a_l_put T.d_l_put ["_law_clauses", "_law_literals"] (LSp K sp_l_put) :=
  fn_okG (r := r_l_put) T.F_l_put sc_l_put len_l_put (by decide) (fun cdv A outer s H E hr =>
    (dss_cons (ds_set (i := 2) sc_l_put.nd (by rfl) (by first | exact Or.inl rfl | exact Or.inr rfl) (by first | exact Or.inl rfl | exact Or.inr rfl) (de_sortSet rfl (by rfl) T.z_sorted (by rfl) T.z_set (de_lc (own := [("_law_one", 3)]) (ow := [3]) rfl sc_l_put.nd (di_seq (dv 1)) (blkOk_by (by first | decide +kernel | rfl)) (by decide) (fun _ _ _ _ _ => (dg_n (i := 3) sc_l_put.nd (by rfl) (by first | exact Or.inl rfl | exact Or.inr rfl) (by first | exact Or.inl rfl | exact Or.inr rfl))) (fun _ _ _ _ _ => dts_nil) (fun _ _ _ _ _ => (de_callB dc_abs (by rfl) T.z_abs (by decide +kernel) (da_cons (dv 3) da_nil))))))
      (dss_one (ds_if (dt_cmp (dop_eq hr.units) (de_lenSet rfl (by rfl) T.z_len (by rfl) T.z_set (dv 1)) (de_callB dc_len (by rfl) T.z_len (by decide +kernel) (da_cons (dv 2) da_nil)) (nomark _)) (dss_one (ds_expr (de_mt PySem.F.slot_list_append PySem.F.type_list_append dm_append (dv 0) (da_cons (de_callTy dc_tuple (by rfl) T.z_tuple (by decide +kernel) (da_cons (de_lc (own := [("_law_letter", 4)]) (ow := [4]) rfl sc_l_put.nd (di_seq (dv 2)) (blkOk_by (by first | decide +kernel | rfl)) (by decide) (fun _ _ _ _ _ => (dg_n (i := 4) sc_l_put.nd (by rfl) (by first | exact Or.inl rfl | exact Or.inr rfl) (by first | exact Or.inl rfl | exact Or.inr rfl))) (fun _ _ _ _ _ => dts_nil) (fun _ _ _ _ _ => (de_if (dt_cmp (dop_in hr.hu) (dv 4) (dv 1) (by rfl)) (dv 4) (de_un dun_neg (dv 4))))) da_nil)) da_nil)))) dss_nil)))) pure_l_put
theorem ok_l_far (T : Tx K mg) : FnOkG P w K mg base CX0 1 T.a_l_far T.d_l_far ["_law_literal_here", "_law_shift"] (LSp K sp_l_far) :=
  fn_okG (r := r_l_far) T.F_l_far sc_l_far len_l_far (by decide) (fun cdv A outer s H E hr =>
    (dss_cons (ds_set (i := 2) sc_l_far.nd (by rfl) (by first | exact Or.inl rfl | exact Or.inr rfl) (by first | exact Or.inl rfl | exact Or.inr rfl) (de_op dop_add (de_op dop_add (de_op dop_fdiv (dv 0) de_int) de_int) (dv 1)))
      (dss_one (ds_ret (de_if (dt_cmp (dop_eq hr.units) (de_op dop_mod (de_callTy dc_int (by rfl) T.z_int (by decide +kernel) (da_cons (dv 0) da_nil)) de_int) de_int (nomark _)) (dv 2) (de_un dun_neg (dv 2))))))) pure_l_far
theorem ok_l_size (T : Tx K mg) : FnOkG P w K mg base CX0 1 T.a_l_size T.d_l_size ["_law_graph"] (LSp K sp_l_size) :=
  fn_okG (r := r_l_size) T.F_l_size sc_l_size len_l_size (by decide) (fun cdv A outer s H E hr =>
    (dss_one (ds_ret (de_op dop_add (de_op dop_add (de_op dop_add de_int (de_ix hr.hu (dv 0) de_int)) (de_callB dc_len (by rfl) T.z_len (by decide +kernel) (da_cons (de_ix hr.hu (dv 0) de_int) da_nil))) (de_callB dc_len (by rfl) T.z_len (by decide +kernel) (da_cons (de_ix hr.hu (dv 0) de_int) da_nil)))))) pure_l_size
theorem ok_l_starting (T : Tx K mg) : FnOkG P w K mg base CX0 1 T.a_l_starting T.d_l_starting ["_law_graph"] (LSp K sp_l_starting) :=
  fn_okG (r := r_l_starting) T.F_l_starting sc_l_starting len_l_starting (by decide) (fun cdv A outer s H E hr =>
    (dss_cons (ds_setLc (i := 1) (own := [("_law_k", 2)]) (ow := [2]) rfl sc_l_starting.nd (by rfl) rfl (sw_true rfl rfl rfl (by decide +kernel)) (di_rng1 (by rfl) T.z_range (da_cons (de_callB dc_len (by rfl) T.z_len (by decide +kernel) (da_cons (de_ix hr.hu (dv 0) de_int) da_nil)) da_nil)) (blkOk_by (by first | decide +kernel | rfl)) (by decide) (fun _ _ _ _ _ => (dg_n (i := 2) sc_l_starting.nd (by rfl) (by first | exact Or.inl rfl | exact Or.inr rfl) (by first | exact Or.inl rfl | exact Or.inr rfl))) (fun _ _ _ _ _ => dts_nil) (fun _ _ _ _ _ => (de_op dop_add (de_op dop_add (de_ix hr.hu (dv 0) de_int) (dv 2)) de_int)))
      (dss_one (ds_ret (de_lc (own := [("_law_z", 3), ("_law_reg", 4)]) (ow := [3, 4]) rfl sc_l_starting.nd (di_zip (by rfl) T.z_zip (dv 1) (de_ix hr.hu (dv 0) de_int)) (blkOk_by (by first | decide +kernel | rfl)) (by decide) (fun _ _ _ _ _ => (dg_t rfl (dgs_cons (dg_n (i := 3) sc_l_starting.nd (by rfl) (by first | exact Or.inl rfl | exact Or.inr rfl) (by first | exact Or.inl rfl | exact Or.inr rfl)) (dgs_cons (dg_n (i := 4) sc_l_starting.nd (by rfl) (by first | exact Or.inl rfl | exact Or.inr rfl) (by first | exact Or.inl rfl | exact Or.inr rfl)) (dgs_nil (ow := [])))))) (fun _ _ _ _ _ => dts_nil) (fun _ _ _ _ _ => (de_if (dt_cmp (dop_eq hr.units) (de_ix hr.hu (dv 4) de_int) de_int (nomark _)) (de_tup (da_cons (dv 3) da_nil)) (de_tup (da_cons (de_un dun_neg (dv 3)) da_nil))))))))) pure_l_starting
theorem ok_l_true_of (T : Tx K mg) : FnOkG P w K mg base CX0 1 T.a_l_true_of T.d_l_true_of ["_law_values", "_law_shift"] (LSp K sp_l_true_of) :=
  fn_okG (r := r_l_true_of) T.F_l_true_of sc_l_true_of len_l_true_of (by decide) (fun cdv A outer s H E hr =>
    (dss_one (ds_ret (de_dictP rfl (by rfl) T.z_dict (de_lc (own := [("_law_n", 2), ("_law_bit", 3)]) (ow := [2, 3]) rfl sc_l_true_of.nd (di_enum (by rfl) T.z_enumerate (dv 0)) (blkOk_by (by first | decide +kernel | rfl)) (by decide) (fun _ _ _ _ _ => (dg_t rfl (dgs_cons (dg_n (i := 2) sc_l_true_of.nd (by rfl) (by first | exact Or.inl rfl | exact Or.inr rfl) (by first | exact Or.inl rfl | exact Or.inr rfl)) (dgs_cons (dg_n (i := 3) sc_l_true_of.nd (by rfl) (by first | exact Or.inl rfl | exact Or.inr rfl) (by first | exact Or.inl rfl | exact Or.inr rfl)) (dgs_nil (ow := [])))))) (fun _ _ _ _ _ => dts_nil) (fun _ _ _ _ _ => (de_tup (da_cons (de_op dop_add (de_op dop_add (dv 2) de_int) (dv 1)) (da_cons (de_if (dt_cmp (dop_eq hr.units) (dv 3) de_int (nomark _)) (de_op dop_add (de_op dop_add (dv 2) de_int) (dv 1)) (de_op dop_sub (de_op dop_sub (de_un dun_neg (dv 2)) de_int) (dv 1))) da_nil))))))))) pure_l_true_of
theorem ok_p_literal_of (T : Tx K mg) : FnOkG P w K mg base CX0 2 T.a_p_literal_of T.d_p_literal_of ["literal"] (LSp K sp_p_literal_of) :=
  fn_okG (r := r_p_literal_of) T.F_p_literal_of sc_p_literal_of len_p_literal_of (by decide) (fun cdv A outer s H E hr =>
    (dss_one (ds_ret (de_callG (ok_p_moved_literal T) (hr.mono (by decide)) (by rfl) T.g_p_moved_literal T.F_p_moved_literal.kp T.b_p_moved_literal (da_cons (dv 0) (da_cons de_int da_nil)))))) pure_p_literal_of
theorem ok_p_put_and (T : Tx K mg) : FnOkG P w K mg base CX0 2 T.a_p_put_and T.d_p_put_and ["clauses", "letter", "one", "other"] (LSp K sp_p_put_and) :=
  fn_okG (r := r_p_put_and) T.F_p_put_and sc_p_put_and len_p_put_and (by decide) (fun cdv A outer s H E hr =>
    (dss_cons (ds_expr (de_callG (ok_p_put_clause T) (hr.mono (by decide)) (by rfl) T.g_p_put_clause T.F_p_put_clause.kp T.b_p_put_clause (da_cons (dv 0) (da_cons (de_lst (da_cons (de_un dun_neg (dv 1)) (da_cons (dv 2) da_nil))) da_nil))))
      (dss_cons (ds_expr (de_callG (ok_p_put_clause T) (hr.mono (by decide)) (by rfl) T.g_p_put_clause T.F_p_put_clause.kp T.b_p_put_clause (da_cons (dv 0) (da_cons (de_lst (da_cons (de_un dun_neg (dv 1)) (da_cons (dv 3) da_nil))) da_nil))))
      (dss_one (ds_expr (de_callG (ok_p_put_clause T) (hr.mono (by decide)) (by rfl) T.g_p_put_clause T.F_p_put_clause.kp T.b_p_put_clause (da_cons (dv 0) (da_cons (de_lst (da_cons (dv 1) (da_cons (de_un dun_neg (dv 2)) (da_cons (de_un dun_neg (dv 3)) da_nil)))) da_nil)))))))) pure_p_put_and
theorem ok_p_put_same (T : Tx K mg) : FnOkG P w K mg base CX0 2 T.a_p_put_same T.d_p_put_same ["clauses", "one", "other"] (LSp K sp_p_put_same) :=
  fn_okG (r := r_p_put_same) T.F_p_put_same sc_p_put_same len_p_put_same (by decide) (fun cdv A outer s H E hr =>
    (dss_cons (ds_expr (de_callG (ok_p_put_clause T) (hr.mono (by decide)) (by rfl) T.g_p_put_clause T.F_p_put_clause.kp T.b_p_put_clause (da_cons (dv 0) (da_cons (de_lst (da_cons (de_un dun_neg (dv 1)) (da_cons (dv 2) da_nil))) da_nil))))
      (dss_one (ds_expr (de_callG (ok_p_put_clause T) (hr.mono (by decide)) (by rfl) T.g_p_put_clause T.F_p_put_clause.kp T.b_p_put_clause (da_cons (dv 0) (da_cons (de_lst (da_cons (dv 1) (da_cons (de_un dun_neg (dv 2)) da_nil))) da_nil))))))) pure_p_put_same
theorem ok_p_size_of (T : Tx K mg) : FnOkG P w K mg base CX0 2 T.a_p_size_of T.d_p_size_of ["graph"] (LSp K sp_p_size_of) :=
  fn_okG (r := r_p_size_of) T.F_p_size_of sc_p_size_of len_p_size_of (by decide) (fun cdv A outer s H E hr =>
    (dss_one (ds_ret (de_op dop_add (de_callG (ok_p_first_and T) (hr.mono (by decide)) (by rfl) T.g_p_first_and T.F_p_first_and.kp T.b_p_first_and (da_cons (dv 0) da_nil)) (de_callB dc_len (by rfl) T.z_len (by decide +kernel) (da_cons (de_ix hr.hu (dv 0) de_int) da_nil)))))) pure_p_size_of
theorem ok_l_nodes (T : Tx K mg) : FnOkG P w K mg base CX0 2 T.a_l_nodes T.d_l_nodes ["_law_graph", "_law_state", "_law_lot", "_law_full"] (LSp K sp_l_nodes) :=
  fn_okG (r := r_l_nodes) T.F_l_nodes sc_l_nodes len_l_nodes (by decide) (fun cdv A outer s H E hr =>
    (dss_cons (ds_set (i := 4) sc_l_nodes.nd (by rfl) (by first | exact Or.inl rfl | exact Or.inr rfl) (by first | exact Or.inl rfl | exact Or.inr rfl) (de_op dop_add (de_op dop_add (de_lst (da_cons de_int da_nil)) (de_callTy dc_list (by rfl) T.z_list (by decide +kernel) (da_cons (dv 2) da_nil))) (de_callTy dc_list (by rfl) T.z_list (by decide +kernel) (da_cons (dv 1) da_nil))))
      (dss_cons (ds_for PassesOwn.never rfl (di_seq (de_ix hr.hu (dv 0) de_int)) (dg_t rfl (dgs_cons (dg_n (i := 5) sc_l_nodes.nd (by rfl) (by first | exact Or.inl rfl | exact Or.inr rfl) (by first | exact Or.inl rfl | exact Or.inr rfl)) (dgs_cons (dg_n (i := 6) sc_l_nodes.nd (by rfl) (by first | exact Or.inl rfl | exact Or.inr rfl) (by first | exact Or.inl rfl | exact Or.inr rfl)) (dgs_nil (ow := []))))) (dss_one (ds_expr (de_mt PySem.F.slot_list_append PySem.F.type_list_append dm_append (dv 4) (da_cons (de_op dop_band (de_callG (ok_l_literal T) (hr.mono (by decide)) (by rfl) T.g_l_literal T.F_l_literal.kp T.b_l_literal (da_cons (dv 4) (da_cons (dv 5) (da_cons (dv 3) da_nil)))) (de_callG (ok_l_literal T) (hr.mono (by decide)) (by rfl) T.g_l_literal T.F_l_literal.kp T.b_l_literal (da_cons (dv 4) (da_cons (dv 6) (da_cons (dv 3) da_nil))))) da_nil)))))
      (dss_one (ds_ret (dv 4)))))) pure_l_nodes
theorem ok_l_draw_literal (T : Tx K mg) : FnOkG P w K mg base CX0 2 T.a_l_draw_literal T.d_l_draw_literal ["_law_source_here", "_law_many"] (LSp K sp_l_draw_literal) :=
  fn_okG (r := r_l_draw_literal) T.F_l_draw_literal sc_l_draw_literal len_l_draw_literal (by decide) (fun cdv A outer s H E hr =>
    (dss_cons (ds_set (i := 2) sc_l_draw_literal.nd (by rfl) (by first | exact Or.inl rfl | exact Or.inr rfl) (by first | exact Or.inl rfl | exact Or.inr rfl) (de_if (dt_cmp dop_gt (de_callG (ok_l_pick T) (hr.mono (by decide)) (by rfl) T.g_l_pick T.F_l_pick.kp T.b_l_pick (da_cons (dv 0) (da_cons de_int da_nil))) de_int (nomark _)) (de_op dop_sub (de_op dop_sub (dv 1) de_int) (de_callG (ok_l_pick T) (hr.mono (by decide)) (by rfl) T.g_l_pick T.F_l_pick.kp T.b_l_pick (da_cons (dv 0) (da_cons (de_callB (dc_min2 rfl) (by rfl) T.z_min (by decide +kernel) (da_cons (dv 1) (da_cons de_int da_nil))) da_nil)))) (de_callG (ok_l_pick T) (hr.mono (by decide)) (by rfl) T.g_l_pick T.F_l_pick.kp T.b_l_pick (da_cons (dv 0) (da_cons (dv 1) da_nil)))))
      (dss_one (ds_ret (de_op dop_add (de_op dop_mul de_int (dv 2)) (de_callG (ok_l_pick T) (hr.mono (by decide)) (by rfl) T.g_l_pick T.F_l_pick.kp T.b_l_pick (da_cons (dv 0) (da_cons de_int da_nil)))))))) pure_l_draw_literal
theorem ok_l_graph_clauses (T : Tx K mg) : FnOkG P w K mg base CX0 2 T.a_l_graph_clauses T.d_l_graph_clauses ["_law_graph", "_law_shift"] (LSp K sp_l_graph_clauses) :=
  fn_okG (r := r_l_graph_clauses) T.F_l_graph_clauses sc_l_graph_clauses len_l_graph_clauses (by decide) (fun cdv A outer s H E hr =>
    (dss_cons (ds_par (i := 2) (j := 3) rfl sc_l_graph_clauses.nd (by rfl) (by rfl) (by decide) rfl rfl (da_cons (de_lst (da_cons (de_tup (da_cons (de_op dop_sub (de_un dun_neg de_int) (dv 1)) da_nil)) da_nil)) (da_cons (de_op dop_add (de_op dop_add de_int (de_ix hr.hu (dv 0) de_int)) (de_callB dc_len (by rfl) T.z_len (by decide +kernel) (da_cons (de_ix hr.hu (dv 0) de_int) da_nil))) da_nil)) (by rfl))
      (dss_cons (ds_for PassesOwn.never rfl (di_enum (by rfl) T.z_enumerate (de_ix hr.hu (dv 0) de_int)) (dg_t rfl (dgs_cons (dg_n (i := 4) sc_l_graph_clauses.nd (by rfl) (by first | exact Or.inl rfl | exact Or.inr rfl) (by first | exact Or.inl rfl | exact Or.inr rfl)) (dgs_cons (dg_n (i := 5) sc_l_graph_clauses.nd (by rfl) (by first | exact Or.inl rfl | exact Or.inr rfl) (by first | exact Or.inl rfl | exact Or.inr rfl)) (dgs_nil (ow := []))))) (dss_cons (ds_par3 (i := 6) (j := 7) (l := 8) rfl sc_l_graph_clauses.nd (by rfl) (by rfl) (by rfl) (by decide) (by decide) (by decide) rfl rfl rfl (da_cons (de_op dop_add (de_op dop_add (de_op dop_add (dv 3) (dv 4)) de_int) (dv 1)) (da_cons (de_callG (ok_l_far T) (hr.mono (by decide)) (by rfl) T.g_l_far T.F_l_far.kp T.b_l_far (da_cons (de_ix hr.hu (dv 5) de_int) (da_cons (dv 1) da_nil))) (da_cons (de_callG (ok_l_far T) (hr.mono (by decide)) (by rfl) T.g_l_far T.F_l_far.kp T.b_l_far (da_cons (de_ix hr.hu (dv 5) de_int) (da_cons (dv 1) da_nil))) da_nil))) (by rfl))
      (dss_one (ds_for PassesOwn.never rfl (di_seq (de_tup (da_cons (de_lst (da_cons (de_un dun_neg (dv 6)) (da_cons (dv 7) da_nil))) (da_cons (de_lst (da_cons (de_un dun_neg (dv 6)) (da_cons (dv 8) da_nil))) (da_cons (de_lst (da_cons (dv 6) (da_cons (de_un dun_neg (dv 7)) (da_cons (de_un dun_neg (dv 8)) da_nil)))) da_nil))))) (dg_n (i := 9) sc_l_graph_clauses.nd (by rfl) (by first | exact Or.inl rfl | exact Or.inr rfl) (by first | exact Or.inl rfl | exact Or.inr rfl)) (dss_one (ds_expr (de_callG (ok_l_put T) (hr.mono (by decide)) (by rfl) T.g_l_put T.F_l_put.kp T.b_l_put (da_cons (dv 2) (da_cons (dv 9) da_nil)))))))))
      (dss_one (ds_ret (dv 2)))))) pure_l_graph_clauses
theorem ok_p_put_graph (T : Tx K mg) : FnOkG P w K mg base CX0 3 T.a_p_put_graph T.d_p_put_graph ["clauses", "graph", "shift"] (LSp K sp_p_put_graph) :=
  fn_okG (r := r_p_put_graph) T.F_p_put_graph sc_p_put_graph len_p_put_graph (by decide) (fun cdv A outer s H E hr =>
    (dss_cons (ds_expr (de_mt PySem.F.slot_list_append PySem.F.type_list_append dm_append (dv 0) (da_cons (de_tup (da_cons (de_op dop_sub (de_un dun_neg de_int) (dv 2)) da_nil)) da_nil)))
      (dss_one (ds_for PassesOwn.never rfl (di_enum (by rfl) T.z_enumerate (de_ix hr.hu (dv 1) de_int)) (dg_t rfl (dgs_cons (dg_n (i := 3) sc_p_put_graph.nd (by rfl) (by first | exact Or.inl rfl | exact Or.inr rfl) (by first | exact Or.inl rfl | exact Or.inr rfl)) (dgs_cons (dg_t rfl (dgs_cons (dg_n (i := 4) sc_p_put_graph.nd (by rfl) (by first | exact Or.inl rfl | exact Or.inr rfl) (by first | exact Or.inl rfl | exact Or.inr rfl)) (dgs_cons (dg_n (i := 5) sc_p_put_graph.nd (by rfl) (by first | exact Or.inl rfl | exact Or.inr rfl) (by first | exact Or.inl rfl | exact Or.inr rfl)) (dgs_nil (ow := []))))) (dgs_nil (ow := []))))) (dss_cons (ds_set (i := 6) sc_p_put_graph.nd (by rfl) (by first | exact Or.inl rfl | exact Or.inr rfl) (by first | exact Or.inl rfl | exact Or.inr rfl) (de_op dop_add (de_op dop_add (de_op dop_add (de_callG (ok_p_first_and T) (hr.mono (by decide)) (by rfl) T.g_p_first_and T.F_p_first_and.kp T.b_p_first_and (da_cons (dv 1) da_nil)) (dv 3)) de_int) (dv 2)))
      (dss_one (ds_expr (de_callG (ok_p_put_and T) (hr.mono (by decide)) (by rfl) T.g_p_put_and T.F_p_put_and.kp T.b_p_put_and (da_cons (dv 0) (da_cons (dv 6) (da_cons (de_callG (ok_p_moved_literal T) (hr.mono (by decide)) (by rfl) T.g_p_moved_literal T.F_p_moved_literal.kp T.b_p_moved_literal (da_cons (dv 4) (da_cons (dv 2) da_nil))) (da_cons (de_callG (ok_p_moved_literal T) (hr.mono (by decide)) (by rfl) T.g_p_moved_literal T.F_p_moved_literal.kp T.b_p_moved_literal (da_cons (dv 5) (da_cons (dv 2) da_nil))) da_nil)))))))))))) pure_p_put_graph
theorem ok_p_register_letter (T : Tx K mg) : FnOkG P w K mg base CX0 3 T.a_p_register_letter T.d_p_register_letter ["graph", "index", "clock"] (LSp K sp_p_register_letter) :=
  fn_okG (r := r_p_register_letter) T.F_p_register_letter sc_p_register_letter len_p_register_letter (by decide) (fun cdv A outer s H E hr =>
    (dss_one (ds_ret (de_op dop_add (de_op dop_add (de_op dop_add (de_op dop_mul (dv 2) (de_callG (ok_p_size_of T) (hr.mono (by decide)) (by rfl) T.g_p_size_of T.F_p_size_of.kp T.b_p_size_of (da_cons (dv 0) da_nil))) (de_ix hr.hu (dv 0) de_int)) (dv 1)) de_int)))) pure_p_register_letter
theorem ok_l_draw_graph (T : Tx K mg) : FnOkG P w K mg base CX0 3 T.a_l_draw_graph T.d_l_draw_graph ["_law_source_here", "_law_many_ins", "_law_many_regs", "_law_most"] (LSp K sp_l_draw_graph) :=
  fn_okG (r := r_l_draw_graph) T.F_l_draw_graph sc_l_draw_graph len_l_draw_graph (by decide) (fun cdv A outer s H E hr =>
    (dss_cons (ds_asg (de_tup (da_cons (de_callG (ok_l_pick T) (hr.mono (by decide)) (by rfl) T.g_l_pick T.F_l_pick.kp T.b_l_pick (da_cons (dv 0) (da_cons (de_op dop_add (dv 1) de_int) da_nil))) (da_cons (de_callG (ok_l_pick T) (hr.mono (by decide)) (by rfl) T.g_l_pick T.F_l_pick.kp T.b_l_pick (da_cons (dv 0) (da_cons (de_op dop_add (dv 2) de_int) da_nil))) (da_cons de_dnewT da_nil)))) (dg_t rfl (dgs_cons (dg_n (i := 4) sc_l_draw_graph.nd (by rfl) (by first | exact Or.inl rfl | exact Or.inr rfl) (by first | exact Or.inl rfl | exact Or.inr rfl)) (dgs_cons (dg_n (i := 5) sc_l_draw_graph.nd (by rfl) (by first | exact Or.inl rfl | exact Or.inr rfl) (by first | exact Or.inl rfl | exact Or.inr rfl)) (dgs_cons (dg_n (i := 6) sc_l_draw_graph.nd (by rfl) (by first | exact Or.inl rfl | exact Or.inr rfl) (by first | exact Or.inl rfl | exact Or.inr rfl)) (dgs_nil (ow := [])))))))
      (dss_cons (ds_set (i := 7) sc_l_draw_graph.nd (by rfl) (by first | exact Or.inl rfl | exact Or.inr rfl) (by first | exact Or.inl rfl | exact Or.inr rfl) (de_op dop_add (de_op dop_add de_int (dv 4)) (dv 5)))
      (dss_cons (ds_for PassesOwn.never rfl (di_rng1 (by rfl) T.z_range (da_cons (de_if (dt_cmp dop_gt (dv 7) de_int (nomark _)) (de_callG (ok_l_pick T) (hr.mono (by decide)) (by rfl) T.g_l_pick T.F_l_pick.kp T.b_l_pick (da_cons (dv 0) (da_cons (de_op dop_add (dv 3) de_int) da_nil))) de_int) da_nil)) (dg_n (i := 8) sc_l_draw_graph.nd (by rfl) (by first | exact Or.inl rfl | exact Or.inr rfl) (by first | exact Or.inl rfl | exact Or.inr rfl)) (dss_cons (ds_set (i := 9) sc_l_draw_graph.nd (by rfl) (by first | exact Or.inl rfl | exact Or.inr rfl) (by first | exact Or.inl rfl | exact Or.inr rfl) (de_callTy dc_tuple (by rfl) T.z_tuple (by decide +kernel) (da_cons (de_callB dc_sorted (by rfl) T.z_sorted (by decide +kernel) (da_cons (de_lc (own := [("_law_side", 13)]) (ow := [13]) rfl sc_l_draw_graph.nd (di_rng1 (by rfl) T.z_range (da_cons de_int da_nil)) (blkOk_by (by first | decide +kernel | rfl)) (by decide) (fun _ _ _ _ _ => (dg_n (i := 13) sc_l_draw_graph.nd (by rfl) (by first | exact Or.inl rfl | exact Or.inr rfl) (by first | exact Or.inl rfl | exact Or.inr rfl))) (fun _ _ _ _ _ => dts_nil) (fun _ _ _ _ _ => (de_callG (ok_l_draw_literal T) (hr.mono (by decide)) (by rfl) T.g_l_draw_literal T.F_l_draw_literal.kp T.b_l_draw_literal (da_cons (dv 0) (da_cons (de_op dop_add (dv 7) (de_callB dc_len (by rfl) T.z_len (by decide +kernel) (da_cons (dv 6) da_nil))) da_nil))))) da_nil)) da_nil)))
      (dss_one (ds_if (dt_w (dw_and (dt_cmp dop_gt (de_ix hr.hu (dv 9) de_int) de_int (nomark _)) (dw_and1 (dt_cmp (dop_ne hr.units) (de_op dop_fdiv (de_ix hr.hu (dv 9) de_int) de_int) (de_op dop_fdiv (de_ix hr.hu (dv 9) de_int) de_int) (nomark _))))) (dss_one (ds_asg de_bl (dg_s (ow := []) hr.hu (dv 6) (dv 9)))) dss_nil))))
      (dss_cons (ds_set (i := 10) sc_l_draw_graph.nd (by rfl) (by first | exact Or.inl rfl | exact Or.inr rfl) (by first | exact Or.inl rfl | exact Or.inr rfl) (de_op dop_add (dv 7) (de_callB dc_len (by rfl) T.z_len (by decide +kernel) (da_cons (dv 6) da_nil))))
      (dss_cons (ds_set (i := 11) sc_l_draw_graph.nd (by rfl) (by first | exact Or.inl rfl | exact Or.inr rfl) (by first | exact Or.inl rfl | exact Or.inr rfl) (de_callTy dc_tuple (by rfl) T.z_tuple (by decide +kernel) (da_cons (de_lc (own := [("_law_k", 14)]) (ow := [14]) rfl sc_l_draw_graph.nd (di_rng1 (by rfl) T.z_range (da_cons (dv 5) da_nil)) (blkOk_by (by first | decide +kernel | rfl)) (by decide) (fun _ _ _ _ _ => (dg_n (i := 14) sc_l_draw_graph.nd (by rfl) (by first | exact Or.inl rfl | exact Or.inr rfl) (by first | exact Or.inl rfl | exact Or.inr rfl))) (fun _ _ _ _ _ => dts_nil) (fun _ _ _ _ _ => (de_tup (da_cons (de_callG (ok_l_pick T) (hr.mono (by decide)) (by rfl) T.g_l_pick T.F_l_pick.kp T.b_l_pick (da_cons (dv 0) (da_cons de_int da_nil))) (da_cons (de_callG (ok_l_draw_literal T) (hr.mono (by decide)) (by rfl) T.g_l_draw_literal T.F_l_draw_literal.kp T.b_l_draw_literal (da_cons (dv 0) (da_cons (dv 10) da_nil))) da_nil))))) da_nil)))
      (dss_cons (ds_set (i := 12) sc_l_draw_graph.nd (by rfl) (by first | exact Or.inl rfl | exact Or.inr rfl) (by first | exact Or.inl rfl | exact Or.inr rfl) (de_callTy dc_tuple (by rfl) T.z_tuple (by decide +kernel) (da_cons (de_lc (own := [("_law_k", 14)]) (ow := [14]) rfl sc_l_draw_graph.nd (di_rng1 (by rfl) T.z_range (da_cons (de_op dop_add de_int (de_callG (ok_l_pick T) (hr.mono (by decide)) (by rfl) T.g_l_pick T.F_l_pick.kp T.b_l_pick (da_cons (dv 0) (da_cons de_int da_nil)))) da_nil)) (blkOk_by (by first | decide +kernel | rfl)) (by decide) (fun _ _ _ _ _ => (dg_n (i := 14) sc_l_draw_graph.nd (by rfl) (by first | exact Or.inl rfl | exact Or.inr rfl) (by first | exact Or.inl rfl | exact Or.inr rfl))) (fun _ _ _ _ _ => dts_nil) (fun _ _ _ _ _ => (de_callG (ok_l_draw_literal T) (hr.mono (by decide)) (by rfl) T.g_l_draw_literal T.F_l_draw_literal.kp T.b_l_draw_literal (da_cons (dv 0) (da_cons (dv 10) da_nil))))) da_nil)))
      (dss_one (ds_ret (de_tup (da_cons (dv 4) (da_cons (dv 11) (da_cons (de_tupDT rfl (by rfl) T.z_tuple (dv 6)) (da_cons (dv 12) da_nil)))))))))))))) pure_l_draw_graph
theorem ok_l_unrolled (T : Tx K mg) : FnOkG P w K mg base CX0 3 T.a_l_unrolled T.d_l_unrolled ["_law_graph", "_law_clocks"] (LSp K sp_l_unrolled) :=
  fn_okG (r := r_l_unrolled) T.F_l_unrolled sc_l_unrolled len_l_unrolled (by decide) (fun cdv A outer s H E hr =>
    (dss_cons (ds_par (i := 2) (j := 3) rfl sc_l_unrolled.nd (by rfl) (by rfl) (by decide) rfl rfl (da_cons (de_lst da_nil) (da_cons (de_callG (ok_l_size T) (hr.mono (by decide)) (by rfl) T.g_l_size T.F_l_size.kp T.b_l_size (da_cons (dv 0) da_nil)) da_nil)) (by rfl))
      (dss_cons (ds_for PassesOwn.never rfl (di_rng1 (by rfl) T.z_range (da_cons (dv 1) da_nil)) (dg_n (i := 4) sc_l_unrolled.nd (by rfl) (by first | exact Or.inl rfl | exact Or.inr rfl) (by first | exact Or.inl rfl | exact Or.inr rfl)) (dss_cons (ds_set (i := 2) sc_l_unrolled.nd (by rfl) (by first | exact Or.inl rfl | exact Or.inr rfl) (by first | exact Or.inl rfl | exact Or.inr rfl) (de_op dop_add (dv 2) (de_callG (ok_l_graph_clauses T) (hr.mono (by decide)) (by rfl) T.g_l_graph_clauses T.F_l_graph_clauses.kp T.b_l_graph_clauses (da_cons (dv 0) (da_cons (de_op dop_mul (dv 4) (dv 3)) da_nil)))))
      (dss_one (ds_for PassesOwn.never rfl (di_enum (by rfl) T.z_enumerate (de_if (dt_cmp dop_gt (dv 4) de_int (nomark _)) (de_ix hr.hu (dv 0) de_int) (de_tup da_nil))) (dg_t rfl (dgs_cons (dg_n (i := 5) sc_l_unrolled.nd (by rfl) (by first | exact Or.inl rfl | exact Or.inr rfl) (by first | exact Or.inl rfl | exact Or.inr rfl)) (dgs_cons (dg_n (i := 6) sc_l_unrolled.nd (by rfl) (by first | exact Or.inl rfl | exact Or.inr rfl) (by first | exact Or.inl rfl | exact Or.inr rfl)) (dgs_nil (ow := []))))) (dss_cons (ds_par (i := 7) (j := 8) rfl sc_l_unrolled.nd (by rfl) (by rfl) (by decide) rfl rfl (da_cons (de_op dop_add (de_op dop_add (de_op dop_add (de_op dop_mul (dv 4) (dv 3)) (de_ix hr.hu (dv 0) de_int)) (dv 5)) de_int) (da_cons (de_callG (ok_l_far T) (hr.mono (by decide)) (by rfl) T.g_l_far T.F_l_far.kp T.b_l_far (da_cons (de_ix hr.hu (dv 6) de_int) (da_cons (de_op dop_mul (de_op dop_sub (dv 4) de_int) (dv 3)) da_nil))) da_nil)) (by rfl))
      (dss_one (ds_for PassesOwn.never rfl (di_seq (de_tup (da_cons (de_lst (da_cons (de_un dun_neg (dv 7)) (da_cons (dv 8) da_nil))) (da_cons (de_lst (da_cons (dv 7) (da_cons (de_un dun_neg (dv 8)) da_nil))) da_nil)))) (dg_n (i := 9) sc_l_unrolled.nd (by rfl) (by first | exact Or.inl rfl | exact Or.inr rfl) (by first | exact Or.inl rfl | exact Or.inr rfl)) (dss_one (ds_expr (de_callG (ok_l_put T) (hr.mono (by decide)) (by rfl) T.g_l_put T.F_l_put.kp T.b_l_put (da_cons (dv 2) (da_cons (dv 9) da_nil))))))))))))
      (dss_one (ds_ret (dv 2)))))) pure_l_unrolled
theorem ok_l_step_of (T : Tx K mg) : FnOkG P w K mg base CX0 3 T.a_l_step_of T.d_l_step_of ["_law_graph", "_law_lot", "_law_state"] (LSp K sp_l_step_of) :=
  fn_okG (r := r_l_step_of) T.F_l_step_of sc_l_step_of len_l_step_of (by decide) (fun cdv A outer s H E hr =>
    (dss_cons (ds_set (i := 3) sc_l_step_of.nd (by rfl) (by first | exact Or.inl rfl | exact Or.inr rfl) (by first | exact Or.inl rfl | exact Or.inr rfl) (de_callG (ok_l_nodes T) (hr.mono (by decide)) (by rfl) T.g_l_nodes T.F_l_nodes.kp T.b_l_nodes (da_cons (dv 0) (da_cons (dv 2) (da_cons (dv 1) (da_cons de_int da_nil))))))
      (dss_cons (ds_set (i := 4) sc_l_step_of.nd (by rfl) (by first | exact Or.inl rfl | exact Or.inr rfl) (by first | exact Or.inl rfl | exact Or.inr rfl) (de_callTy dc_tuple (by rfl) T.z_tuple (by decide +kernel) (da_cons (de_lc (own := [("_law_l", 5)]) (ow := [5]) rfl sc_l_step_of.nd (di_seq (de_ix hr.hu (dv 0) de_int)) (blkOk_by (by first | decide +kernel | rfl)) (by decide) (fun _ _ _ _ _ => (dg_n (i := 5) sc_l_step_of.nd (by rfl) (by first | exact Or.inl rfl | exact Or.inr rfl) (by first | exact Or.inl rfl | exact Or.inr rfl))) (fun _ _ _ _ _ => dts_nil) (fun _ _ _ _ _ => (de_callG (ok_l_literal T) (hr.mono (by decide)) (by rfl) T.g_l_literal T.F_l_literal.kp T.b_l_literal (da_cons (dv 3) (da_cons (dv 5) (da_cons de_int da_nil)))))) da_nil)))
      (dss_one (ds_ret (de_tup (da_cons (dv 4) (da_cons (de_callTy dc_tuple (by rfl) T.z_tuple (by decide +kernel) (da_cons (de_lc (own := [("_law_reg", 6)]) (ow := [6]) rfl sc_l_step_of.nd (di_seq (de_ix hr.hu (dv 0) de_int)) (blkOk_by (by first | decide +kernel | rfl)) (by decide) (fun _ _ _ _ _ => (dg_n (i := 6) sc_l_step_of.nd (by rfl) (by first | exact Or.inl rfl | exact Or.inr rfl) (by first | exact Or.inl rfl | exact Or.inr rfl))) (fun _ _ _ _ _ => dts_nil) (fun _ _ _ _ _ => (de_callG (ok_l_literal T) (hr.mono (by decide)) (by rfl) T.g_l_literal T.F_l_literal.kp T.b_l_literal (da_cons (dv 3) (da_cons (de_ix hr.hu (dv 6) de_int) (da_cons de_int da_nil)))))) da_nil)) da_nil)))))))) pure_l_step_of
theorem ok_l_values_right (T : Tx K mg) : FnOkG P w K mg base CX0 3 T.a_l_values_right T.d_l_values_right ["_law_source_here", "_law_graph", "_law_clauses"] (LSp K sp_l_values_right) :=
  fn_okG (r := r_l_values_right) T.F_l_values_right sc_l_values_right len_l_values_right (by decide) (fun cdv A outer s H E hr =>
    (dss_cons (ds_par (i := 3) (j := 4) rfl sc_l_values_right.nd (by rfl) (by rfl) (by decide) rfl rfl (da_cons (de_op dop_add (de_op dop_add de_int (de_ix hr.hu (dv 1) de_int)) (de_callB dc_len (by rfl) T.z_len (by decide +kernel) (da_cons (de_ix hr.hu (dv 1) de_int) da_nil))) (da_cons (de_callG (ok_l_size T) (hr.mono (by decide)) (by rfl) T.g_l_size T.F_l_size.kp T.b_l_size (da_cons (dv 1) da_nil)) da_nil)) (by rfl))
      (dss_cons (ds_for PassesOwn.never rfl (di_seq (de_callG (ok_l_all_bits T) (hr.mono (by decide)) (by rfl) T.g_l_all_bits T.F_l_all_bits.kp T.b_l_all_bits (da_cons (de_op dop_sub (dv 3) de_int) da_nil))) (dg_n (i := 5) sc_l_values_right.nd (by rfl) (by first | exact Or.inl rfl | exact Or.inr rfl) (by first | exact Or.inl rfl | exact Or.inr rfl)) (dss_cons (ds_set (i := 6) sc_l_values_right.nd (by rfl) (by first | exact Or.inl rfl | exact Or.inr rfl) (by first | exact Or.inl rfl | exact Or.inr rfl) (de_callG (ok_l_nodes T) (hr.mono (by decide)) (by rfl) T.g_l_nodes T.F_l_nodes.kp T.b_l_nodes (da_cons (dv 1) (da_cons (de_sl (dv 5) (dpo_some (de_ix hr.hu (dv 1) de_int)) dpo_none) (da_cons (de_sl (dv 5) dpo_none (dpo_some (de_ix hr.hu (dv 1) de_int))) (da_cons de_int da_nil))))))
      (dss_cons (ds_if (dt_not (dt_b (de_callG (ok_l_kept T) (hr.mono (by decide)) (by rfl) T.g_l_kept T.F_l_kept.kp T.b_l_kept (da_cons (dv 2) (da_cons (de_callG (ok_l_true_of T) (hr.mono (by decide)) (by rfl) T.g_l_true_of T.F_l_true_of.kp T.b_l_true_of (da_cons (dv 6) (da_cons de_int da_nil))) da_nil))))) (dss_one (ds_ret de_bl)) dss_nil)
      (dss_cons (ds_set (i := 7) sc_l_values_right.nd (by rfl) (by first | exact Or.inl rfl | exact Or.inr rfl) (by first | exact Or.inl rfl | exact Or.inr rfl) (de_if (dt_cmp dop_gt (dv 4) (dv 3) (nomark _)) (de_op dop_add (de_callG (ok_l_pick T) (hr.mono (by decide)) (by rfl) T.g_l_pick T.F_l_pick.kp T.b_l_pick (da_cons (dv 0) (da_cons (de_op dop_sub (dv 4) (dv 3)) da_nil))) (dv 3)) de_int))
      (dss_cons (ds_asg (de_op dop_sub de_int (de_ix hr.hu (dv 6) (dv 7))) (dg_s (ow := []) hr.hu (dv 6) (dv 7)))
      (dss_one (ds_if (dt_b (de_callG (ok_l_kept T) (hr.mono (by decide)) (by rfl) T.g_l_kept T.F_l_kept.kp T.b_l_kept (da_cons (dv 2) (da_cons (de_callG (ok_l_true_of T) (hr.mono (by decide)) (by rfl) T.g_l_true_of T.F_l_true_of.kp T.b_l_true_of (da_cons (dv 6) (da_cons de_int da_nil))) da_nil)))) (dss_one (ds_ret de_bl)) dss_nil)))))))
      (dss_one (ds_ret de_bl))))) pure_l_values_right
theorem ok_p_clauses_of (T : Tx K mg) : FnOkG P w K mg base CX0 4 T.a_p_clauses_of T.d_p_clauses_of ["graph"] (LSp K sp_p_clauses_of) :=
  fn_okG (r := r_p_clauses_of) T.F_p_clauses_of sc_p_clauses_of len_p_clauses_of (by decide) (fun cdv A outer s H E hr =>
    (dss_cons (ds_set (i := 1) sc_p_clauses_of.nd (by rfl) (by first | exact Or.inl rfl | exact Or.inr rfl) (by first | exact Or.inl rfl | exact Or.inr rfl) (de_lst da_nil))
      (dss_cons (ds_expr (de_callG (ok_p_put_graph T) (hr.mono (by decide)) (by rfl) T.g_p_put_graph T.F_p_put_graph.kp T.b_p_put_graph (da_cons (dv 1) (da_cons (dv 0) (da_cons de_int da_nil)))))
      (dss_one (ds_ret (dv 1)))))) pure_p_clauses_of
theorem ok_p_unrolled (T : Tx K mg) : FnOkG P w K mg base CX0 4 T.a_p_unrolled T.d_p_unrolled ["graph", "clocks"] (LSp K sp_p_unrolled) :=
  fn_okG (r := r_p_unrolled) T.F_p_unrolled sc_p_unrolled len_p_unrolled (by decide) (fun cdv A outer s H E hr =>
    (dss_cons (ds_par (i := 2) (j := 3) rfl sc_p_unrolled.nd (by rfl) (by rfl) (by decide) rfl rfl (da_cons (de_lst da_nil) (da_cons (de_callG (ok_p_size_of T) (hr.mono (by decide)) (by rfl) T.g_p_size_of T.F_p_size_of.kp T.b_p_size_of (da_cons (dv 0) da_nil)) da_nil)) (by rfl))
      (dss_cons (ds_for PassesOwn.never rfl (di_rng1 (by rfl) T.z_range (da_cons (dv 1) da_nil)) (dg_n (i := 4) sc_p_unrolled.nd (by rfl) (by first | exact Or.inl rfl | exact Or.inr rfl) (by first | exact Or.inl rfl | exact Or.inr rfl)) (dss_cons (ds_expr (de_callG (ok_p_put_graph T) (hr.mono (by decide)) (by rfl) T.g_p_put_graph T.F_p_put_graph.kp T.b_p_put_graph (da_cons (dv 2) (da_cons (dv 0) (da_cons (de_op dop_mul (dv 4) (dv 3)) da_nil)))))
      (dss_one (ds_for PassesOwn.never rfl (di_enum (by rfl) T.z_enumerate (de_if (dt_cmp dop_gt (dv 4) de_int (nomark _)) (de_ix hr.hu (dv 0) de_int) (de_tup da_nil))) (dg_t rfl (dgs_cons (dg_n (i := 5) sc_p_unrolled.nd (by rfl) (by first | exact Or.inl rfl | exact Or.inr rfl) (by first | exact Or.inl rfl | exact Or.inr rfl)) (dgs_cons (dg_t rfl (dgs_cons (dg_n (i := 6) sc_p_unrolled.nd (by rfl) (by first | exact Or.inl rfl | exact Or.inr rfl) (by first | exact Or.inl rfl | exact Or.inr rfl)) (dgs_cons (dg_n (i := 7) sc_p_unrolled.nd (by rfl) (by first | exact Or.inl rfl | exact Or.inr rfl) (by first | exact Or.inl rfl | exact Or.inr rfl)) (dgs_nil (ow := []))))) (dgs_nil (ow := []))))) (dss_one (ds_expr (de_callG (ok_p_put_same T) (hr.mono (by decide)) (by rfl) T.g_p_put_same T.F_p_put_same.kp T.b_p_put_same (da_cons (dv 2) (da_cons (de_callG (ok_p_register_letter T) (hr.mono (by decide)) (by rfl) T.g_p_register_letter T.F_p_register_letter.kp T.b_p_register_letter (da_cons (dv 0) (da_cons (dv 5) (da_cons (dv 4) da_nil)))) (da_cons (de_callG (ok_p_moved_literal T) (hr.mono (by decide)) (by rfl) T.g_p_moved_literal T.F_p_moved_literal.kp T.b_p_moved_literal (da_cons (dv 7) (da_cons (de_op dop_mul (de_op dop_sub (dv 4) de_int) (dv 3)) da_nil))) da_nil))))))))))
      (dss_one (ds_ret (dv 2)))))) pure_p_unrolled
theorem ok_p_starting (T : Tx K mg) : FnOkG P w K mg base CX0 4 T.a_p_starting T.d_p_starting ["graph"] (LSp K sp_p_starting) :=
  fn_okG (r := r_p_starting) T.F_p_starting sc_p_starting len_p_starting (by decide) (fun cdv A outer s H E hr =>
    (dss_cons (ds_setLc (i := 1) (own := [("index", 2)]) (ow := [2]) rfl sc_p_starting.nd (by rfl) rfl (sw_true rfl rfl rfl (by decide +kernel)) (di_rng1 (by rfl) T.z_range (da_cons (de_callB dc_len (by rfl) T.z_len (by decide +kernel) (da_cons (de_ix hr.hu (dv 0) de_int) da_nil)) da_nil)) (blkOk_by (by first | decide +kernel | rfl)) (by decide) (fun _ _ _ _ _ => (dg_n (i := 2) sc_p_starting.nd (by rfl) (by first | exact Or.inl rfl | exact Or.inr rfl) (by first | exact Or.inl rfl | exact Or.inr rfl))) (fun _ _ _ _ _ => dts_nil) (fun _ _ _ _ _ => (de_callG (ok_p_register_letter T) (hr.mono (by decide)) (by rfl) T.g_p_register_letter T.F_p_register_letter.kp T.b_p_register_letter (da_cons (dv 0) (da_cons (dv 2) (da_cons de_int da_nil))))))
      (dss_one (ds_ret (de_lc (own := [("letter", 3), ("start", 4), ("taken", 5)]) (ow := [3, 4, 5]) rfl sc_p_starting.nd (di_zipST (by rfl) T.z_zip (dv 1) (de_ix hr.hu (dv 0) de_int)) (blkOk_by (by first | decide +kernel | rfl)) (by decide) (fun _ _ _ _ _ => (dg_t rfl (dgs_cons (dg_n (i := 3) sc_p_starting.nd (by rfl) (by first | exact Or.inl rfl | exact Or.inr rfl) (by first | exact Or.inl rfl | exact Or.inr rfl)) (dgs_cons (dg_t rfl (dgs_cons (dg_n (i := 4) sc_p_starting.nd (by rfl) (by first | exact Or.inl rfl | exact Or.inr rfl) (by first | exact Or.inl rfl | exact Or.inr rfl)) (dgs_cons (dg_n (i := 5) sc_p_starting.nd (by rfl) (by first | exact Or.inl rfl | exact Or.inr rfl) (by first | exact Or.inl rfl | exact Or.inr rfl)) (dgs_nil (ow := []))))) (dgs_nil (ow := [])))))) (fun _ _ _ _ _ => dts_nil) (fun _ _ _ _ _ => (de_tup (da_cons (de_if (dt_cmp (dop_eq hr.units) (dv 4) de_int (nomark _)) (dv 3) (de_un dun_neg (dv 3))) da_nil)))))))) pure_p_starting
theorem ok_l_rough_graph (T : Tx K mg) : FnOkG P w K mg base CX0 4 T.a_l_rough_graph T.d_l_rough_graph ["_law_source_here"] (LSp K sp_l_rough_graph) :=
  fn_okG (r := r_l_rough_graph) T.F_l_rough_graph sc_l_rough_graph len_l_rough_graph (by decide) (fun cdv A outer s H E hr =>
    (dss_cons (ds_set (i := 1) sc_l_rough_graph.nd (by rfl) (by first | exact Or.inl rfl | exact Or.inr rfl) (by first | exact Or.inl rfl | exact Or.inr rfl) (de_callG (ok_l_draw_graph T) (hr.mono (by decide)) (by rfl) T.g_l_draw_graph T.F_l_draw_graph.kp T.b_l_draw_graph (da_cons (dv 0) (da_cons de_int (da_cons de_int (da_cons de_int da_nil))))))
      (dss_cons (ds_if (dt_cmp (dop_eq hr.units) (de_callG (ok_l_pick T) (hr.mono (by decide)) (by rfl) T.g_l_pick T.F_l_pick.kp T.b_l_pick (da_cons (dv 0) (da_cons de_int da_nil))) de_int (nomark _)) (dss_one (ds_ret (dv 1))) dss_nil)
      (dss_cons (ds_set (i := 2) sc_l_rough_graph.nd (by rfl) (by first | exact Or.inl rfl | exact Or.inr rfl) (by first | exact Or.inl rfl | exact Or.inr rfl) (de_callG (ok_l_pick T) (hr.mono (by decide)) (by rfl) T.g_l_pick T.F_l_pick.kp T.b_l_pick (da_cons (dv 0) (da_cons (de_op dop_mul de_int (de_callG (ok_l_size T) (hr.mono (by decide)) (by rfl) T.g_l_size T.F_l_size.kp T.b_l_size (da_cons (dv 1) da_nil))) da_nil))))
      (dss_cons (ds_set (i := 3) sc_l_rough_graph.nd (by rfl) (by first | exact Or.inl rfl | exact Or.inr rfl) (by first | exact Or.inl rfl | exact Or.inr rfl) (de_op dop_add (de_ix hr.hu (dv 1) de_int) (de_sl (de_tup (da_cons (de_tup (da_cons (dv 2) (da_cons (dv 2) da_nil))) (da_cons (de_tup (da_cons (dv 2) (da_cons (de_op dop_bxor (dv 2) de_int) da_nil))) (da_cons (de_tup (da_cons (dv 2) (da_cons de_int da_nil))) (da_cons (de_tup (da_cons de_int (da_cons (dv 2) da_nil))) da_nil))))) dpo_none (dpo_some (de_op dop_add de_int (de_callG (ok_l_pick T) (hr.mono (by decide)) (by rfl) T.g_l_pick T.F_l_pick.kp T.b_l_pick (da_cons (dv 0) (da_cons de_int da_nil))))))))
      (dss_one (ds_ret (de_tup (da_cons (de_ix hr.hu (dv 1) de_int) (da_cons (de_ix hr.hu (dv 1) de_int) (da_cons (dv 3) (da_cons (de_op dop_add (de_ix hr.hu (dv 1) de_int) (de_tup (da_cons (de_op dop_mul de_int (de_op dop_add (de_callG (ok_l_size T) (hr.mono (by decide)) (by rfl) T.g_l_size T.F_l_size.kp T.b_l_size (da_cons (dv 1) da_nil)) (de_callG (ok_l_pick T) (hr.mono (by decide)) (by rfl) T.g_l_pick T.F_l_pick.kp T.b_l_pick (da_cons (dv 0) (da_cons de_int da_nil))))) da_nil))) da_nil)))))))))))) pure_l_rough_graph
theorem ok_l_run_right (T : Tx K mg) : FnOkG P w K mg base CX0 5 T.a_l_run_right T.d_l_run_right ["_law_source_here", "_law_graph"] (LSp K sp_l_run_right) :=
  fn_okG (r := r_l_run_right) T.F_l_run_right sc_l_run_right len_l_run_right (by decide) (fun cdv A outer s H E hr =>
    (dss_cons (ds_par3 (i := 2) (j := 3) (l := 4) rfl sc_l_run_right.nd (by rfl) (by rfl) (by rfl) (by decide) (by decide) (by decide) rfl rfl rfl (da_cons (de_op dop_add de_int (de_callG (ok_l_pick T) (hr.mono (by decide)) (by rfl) T.g_l_pick T.F_l_pick.kp T.b_l_pick (da_cons (dv 0) (da_cons de_int da_nil)))) (da_cons (de_callTy dc_tuple (by rfl) T.z_tuple (by decide +kernel) (da_cons (de_lc (own := [("_law_reg", 8)]) (ow := [8]) rfl sc_l_run_right.nd (di_seq (de_ix hr.hu (dv 1) de_int)) (blkOk_by (by first | decide +kernel | rfl)) (by decide) (fun _ _ _ _ _ => (dg_n (i := 8) sc_l_run_right.nd (by rfl) (by first | exact Or.inl rfl | exact Or.inr rfl) (by first | exact Or.inl rfl | exact Or.inr rfl))) (fun _ _ _ _ _ => dts_nil) (fun _ _ _ _ _ => (de_ix hr.hu (dv 8) de_int))) da_nil)) (da_cons de_dnew da_nil))) (by rfl))
      (dss_cons (ds_set (i := 5) sc_l_run_right.nd (by rfl) (by first | exact Or.inl rfl | exact Or.inr rfl) (by first | exact Or.inl rfl | exact Or.inr rfl) (de_callG (ok_p_unrolled T) (hr.mono (by decide)) (by rfl) T.g_p_unrolled T.F_p_unrolled.kp T.b_p_unrolled (da_cons (dv 1) (da_cons (dv 2) da_nil))))
      (dss_cons (ds_if (dt_w (dw_or (dt_cmp (dop_ne hr.units) (de_callB (dc_repr hr) (by rfl) T.z_repr (by decide +kernel) (da_cons (dv 5) da_nil)) (de_callB (dc_repr hr) (by rfl) T.z_repr (by decide +kernel) (da_cons (de_callG (ok_l_unrolled T) (hr.mono (by decide)) (by rfl) T.g_l_unrolled T.F_l_unrolled.kp T.b_l_unrolled (da_cons (dv 1) (da_cons (dv 2) da_nil))) da_nil)) (nomark _)) (dw_or1 (dt_cmp (dop_ne hr.units) (de_callB (dc_repr hr) (by rfl) T.z_repr (by decide +kernel) (da_cons (de_callG (ok_p_starting T) (hr.mono (by decide)) (by rfl) T.g_p_starting T.F_p_starting.kp T.b_p_starting (da_cons (dv 1) da_nil)) da_nil)) (de_callB (dc_repr hr) (by rfl) T.z_repr (by decide +kernel) (da_cons (de_callG (ok_l_starting T) (hr.mono (by decide)) (by rfl) T.g_l_starting T.F_l_starting.kp T.b_l_starting (da_cons (dv 1) da_nil)) da_nil)) (nomark _))))) (dss_one (ds_ret de_bl)) dss_nil)
      (dss_cons (ds_for PassesOwn.never rfl (di_rng1 (by rfl) T.z_range (da_cons (dv 2) da_nil)) (dg_n (i := 6) sc_l_run_right.nd (by rfl) (by first | exact Or.inl rfl | exact Or.inr rfl) (by first | exact Or.inl rfl | exact Or.inr rfl)) (dss_cons (ds_set (i := 7) sc_l_run_right.nd (by rfl) (by first | exact Or.inl rfl | exact Or.inr rfl) (by first | exact Or.inl rfl | exact Or.inr rfl) (de_callTy dc_tuple (by rfl) T.z_tuple (by decide +kernel) (da_cons (de_lc (own := [("_law_k", 9)]) (ow := [9]) rfl sc_l_run_right.nd (di_rng1 (by rfl) T.z_range (da_cons (de_ix hr.hu (dv 1) de_int) da_nil)) (blkOk_by (by first | decide +kernel | rfl)) (by decide) (fun _ _ _ _ _ => (dg_n (i := 9) sc_l_run_right.nd (by rfl) (by first | exact Or.inl rfl | exact Or.inr rfl) (by first | exact Or.inl rfl | exact Or.inr rfl))) (fun _ _ _ _ _ => dts_nil) (fun _ _ _ _ _ => (de_callG (ok_l_pick T) (hr.mono (by decide)) (by rfl) T.g_l_pick T.F_l_pick.kp T.b_l_pick (da_cons (dv 0) (da_cons de_int da_nil))))) da_nil)))
      (dss_cons (ds_expr (de_update (dv 4) (de_callG (ok_l_true_of T) (hr.mono (by decide)) (by rfl) T.g_l_true_of T.F_l_true_of.kp T.b_l_true_of (da_cons (de_callG (ok_l_nodes T) (hr.mono (by decide)) (by rfl) T.g_l_nodes T.F_l_nodes.kp T.b_l_nodes (da_cons (dv 1) (da_cons (dv 3) (da_cons (dv 7) (da_cons de_int da_nil))))) (da_cons (de_op dop_mul (dv 6) (de_callG (ok_l_size T) (hr.mono (by decide)) (by rfl) T.g_l_size T.F_l_size.kp T.b_l_size (da_cons (dv 1) da_nil))) da_nil)))))
      (dss_one (ds_set (i := 3) sc_l_run_right.nd (by rfl) (by first | exact Or.inl rfl | exact Or.inr rfl) (by first | exact Or.inl rfl | exact Or.inr rfl) (de_ix hr.hu (de_callG (ok_l_step_of T) (hr.mono (by decide)) (by rfl) T.g_l_step_of T.F_l_step_of.kp T.b_l_step_of (da_cons (dv 1) (da_cons (dv 7) (da_cons (dv 3) da_nil)))) de_int))))))
      (dss_one (ds_ret (de_and (de_callG (ok_l_kept T) (hr.mono (by decide)) (by rfl) T.g_l_kept T.F_l_kept.kp T.b_l_kept (da_cons (dv 5) (da_cons (dv 4) da_nil))) (de_one (de_callG (ok_l_kept T) (hr.mono (by decide)) (by rfl) T.g_l_kept T.F_l_kept.kp T.b_l_kept (da_cons (de_callG (ok_p_starting T) (hr.mono (by decide)) (by rfl) T.g_p_starting T.F_p_starting.kp T.b_p_starting (da_cons (dv 1) da_nil)) (da_cons (dv 4) da_nil)))))))))))) pure_l_run_right
theorem ok_p_law (T : Tx K mg) : FnOkG P w K mg base CX0 6 T.a_p_law T.d_p_law ["_law_script"] (LSp K sp_p_law) :=
  fn_okG (r := r_p_law) T.F_p_law sc_p_law len_p_law (by decide) (fun cdv A outer s H E hr =>
    (dss_cons (ds_set (i := 1) sc_p_law.nd (by rfl) (by first | exact Or.inl rfl | exact Or.inr rfl) (by first | exact Or.inl rfl | exact Or.inr rfl) (de_callG (ok_l_source T) (hr.mono (by decide)) (by rfl) T.g_l_source T.F_l_source.kp T.b_l_source (da_cons (dv 0) da_nil)))
      (dss_cons (ds_set (i := 2) sc_p_law.nd (by rfl) (by first | exact Or.inl rfl | exact Or.inr rfl) (by first | exact Or.inl rfl | exact Or.inr rfl) (de_callG (ok_l_rough_graph T) (hr.mono (by decide)) (by rfl) T.g_l_rough_graph T.F_l_rough_graph.kp T.b_l_rough_graph (da_cons (dv 1) da_nil)))
      (dss_cons (ds_set (i := 3) sc_p_law.nd (by rfl) (by first | exact Or.inl rfl | exact Or.inr rfl) (by first | exact Or.inl rfl | exact Or.inr rfl) (de_callG (ok_p_clauses_of T) (hr.mono (by decide)) (by rfl) T.g_p_clauses_of T.F_p_clauses_of.kp T.b_p_clauses_of (da_cons (dv 2) da_nil)))
      (dss_cons (ds_set (i := 4) sc_p_law.nd (by rfl) (by first | exact Or.inl rfl | exact Or.inr rfl) (by first | exact Or.inl rfl | exact Or.inr rfl) (de_callB (dc_repr hr) (by rfl) T.z_repr (by decide +kernel) (da_cons (de_callG (ok_l_graph_clauses T) (hr.mono (by decide)) (by rfl) T.g_l_graph_clauses T.F_l_graph_clauses.kp T.b_l_graph_clauses (da_cons (dv 2) (da_cons de_int da_nil))) da_nil)))
      (dss_cons (ds_if (dt_w (dw_or (dt_cmp (dop_ne hr.units) (de_callB (dc_repr hr) (by rfl) T.z_repr (by decide +kernel) (da_cons (dv 3) da_nil)) (dv 4) (nomark _)) (dw_or1 (dt_cmp (dop_ne hr.units) (de_callB (dc_repr hr) (by rfl) T.z_repr (by decide +kernel) (da_cons (de_callG (ok_p_clauses_of T) (hr.mono (by decide)) (by rfl) T.g_p_clauses_of T.F_p_clauses_of.kp T.b_p_clauses_of (da_cons (dv 2) da_nil)) da_nil)) (dv 4) (nomark _))))) (dss_one (ds_ret de_bl)) dss_nil)
      (dss_cons (ds_set (i := 5) sc_p_law.nd (by rfl) (by first | exact Or.inl rfl | exact Or.inr rfl) (by first | exact Or.inl rfl | exact Or.inr rfl) (de_callG (ok_p_clauses_of T) (hr.mono (by decide)) (by rfl) T.g_p_clauses_of T.F_p_clauses_of.kp T.b_p_clauses_of (da_cons (dv 2) da_nil)))
      (dss_cons (ds_expr (de_mt PySem.F.slot_list_append PySem.F.type_list_append dm_append (dv 5) (da_cons (de_tup da_nil) da_nil)))
      (dss_cons (ds_if (dt_cmp (dop_ne hr.units) (de_callB (dc_repr hr) (by rfl) T.z_repr (by decide +kernel) (da_cons (de_callG (ok_p_clauses_of T) (hr.mono (by decide)) (by rfl) T.g_p_clauses_of T.F_p_clauses_of.kp T.b_p_clauses_of (da_cons (dv 2) da_nil)) da_nil)) (dv 4) (nomark _)) (dss_one (ds_ret de_bl)) dss_nil)
      (dss_cons (ds_for PassesOwn.never rfl (di_rng1 (by rfl) T.z_range (da_cons de_int da_nil)) (dg_n (i := 6) sc_p_law.nd (by rfl) (by first | exact Or.inl rfl | exact Or.inr rfl) (by first | exact Or.inl rfl | exact Or.inr rfl)) (dss_cons (ds_set (i := 7) sc_p_law.nd (by rfl) (by first | exact Or.inl rfl | exact Or.inr rfl) (by first | exact Or.inl rfl | exact Or.inr rfl) (de_callG (ok_l_pick T) (hr.mono (by decide)) (by rfl) T.g_l_pick T.F_l_pick.kp T.b_l_pick (da_cons (dv 1) (da_cons (de_op dop_mul de_int (de_callG (ok_l_size T) (hr.mono (by decide)) (by rfl) T.g_l_size T.F_l_size.kp T.b_l_size (da_cons (dv 2) da_nil))) da_nil))))
      (dss_one (ds_if (dt_cmp (dop_ne hr.units) (de_callB (dc_repr hr) (by rfl) T.z_repr (by decide +kernel) (da_cons (de_callG (ok_p_literal_of T) (hr.mono (by decide)) (by rfl) T.g_p_literal_of T.F_p_literal_of.kp T.b_p_literal_of (da_cons (dv 7) da_nil)) da_nil)) (de_callB (dc_repr hr) (by rfl) T.z_repr (by decide +kernel) (da_cons (de_callG (ok_l_far T) (hr.mono (by decide)) (by rfl) T.g_l_far T.F_l_far.kp T.b_l_far (da_cons (dv 7) (da_cons de_int da_nil))) da_nil)) (nomark _)) (dss_one (ds_ret de_bl)) dss_nil))))
      (dss_cons (ds_if (dt_w (dw_or (dt_not (dt_b (de_callG (ok_l_values_right T) (hr.mono (by decide)) (by rfl) T.g_l_values_right T.F_l_values_right.kp T.b_l_values_right (da_cons (dv 1) (da_cons (dv 2) (da_cons (dv 3) da_nil)))))) (dw_or1 (dt_not (dt_b (de_callG (ok_l_run_right T) (hr.mono (by decide)) (by rfl) T.g_l_run_right T.F_l_run_right.kp T.b_l_run_right (da_cons (dv 1) (da_cons (dv 2) da_nil)))))))) (dss_one (ds_ret de_bl)) dss_nil)
      (dss_one (ds_ret (de_cmp (dop_eq hr.units) (de_callG (ok_p_clauses_of T) (hr.mono (by decide)) (by rfl) T.g_p_clauses_of T.F_p_clauses_of.kp T.b_p_clauses_of (da_cons (de_tup (da_cons de_int (da_cons (de_tup (da_cons (de_tup (da_cons de_int (da_cons de_int da_nil))) da_nil)) (da_cons (de_tup (da_cons (de_tup (da_cons de_int (da_cons de_int da_nil))) da_nil)) (da_cons (de_tup (da_cons de_int (da_cons de_int da_nil))) da_nil))))) da_nil)) (de_lst (da_cons (de_tup (da_cons (de_un dun_neg de_int) da_nil)) (da_cons (de_tup (da_cons de_int (da_cons (de_un dun_neg de_int) da_nil))) (da_cons (de_tup (da_cons de_int (da_cons (de_un dun_neg de_int) da_nil))) (da_cons (de_tup (da_cons (de_un dun_neg de_int) (da_cons (de_un dun_neg de_int) (da_cons de_int da_nil)))) da_nil))))) (nomark _))))))))))))))) pure_p_law
end
end Law

namespace Law
open PySem PySem.Spec PyProof.Rows L2 PyD
def dd_p_moved_literal : He.DefD := ⟨("moved_literal", none), "moved_literal", "moved_literal", defArgs s_p_moved_literal, defBody s_p_moved_literal, defScope s_p_moved_literal, [], []⟩
def dd_p_put_clause : He.DefD := ⟨("put_clause", none), "put_clause", "put_clause", defArgs s_p_put_clause, defBody s_p_put_clause, defScope s_p_put_clause, [], []⟩
def dd_p_first_and : He.DefD := ⟨("first_and", none), "first_and", "first_and", defArgs s_p_first_and, defBody s_p_first_and, defScope s_p_first_and, [], []⟩
def dd_l_literal : He.DefD := ⟨("_law_literal", none), "_law_literal", "_law_literal", defArgs s_l_literal, defBody s_l_literal, defScope s_l_literal, [], []⟩
def dd_l_source : He.DefD := ⟨("_law_source", none), "_law_source", "_law_source", defArgs s_l_source, defBody s_l_source, defScope s_l_source, [], []⟩
def dd_l_pick : He.DefD := ⟨("_law_pick", none), "_law_pick", "_law_pick", defArgs s_l_pick, defBody s_l_pick, defScope s_l_pick, [], []⟩
def dd_l_all_bits : He.DefD := ⟨("_law_all_bits", none), "_law_all_bits", "_law_all_bits", defArgs s_l_all_bits, defBody s_l_all_bits, defScope s_l_all_bits, [], []⟩
def dd_l_kept : He.DefD := ⟨("_law_kept", none), "_law_kept", "_law_kept", defArgs s_l_kept, defBody s_l_kept, defScope s_l_kept, [], []⟩
def dd_l_put : He.DefD := ⟨("_law_put", none), "_law_put", "_law_put", defArgs s_l_put, defBody s_l_put, defScope s_l_put, [], []⟩
def dd_l_far : He.DefD := ⟨("_law_far", none), "_law_far", "_law_far", defArgs s_l_far, defBody s_l_far, defScope s_l_far, [], []⟩
def dd_l_size : He.DefD := ⟨("_law_size", none), "_law_size", "_law_size", defArgs s_l_size, defBody s_l_size, defScope s_l_size, [], []⟩
def dd_l_starting : He.DefD := ⟨("_law_starting", none), "_law_starting", "_law_starting", defArgs s_l_starting, defBody s_l_starting, defScope s_l_starting, [], []⟩
def dd_l_true_of : He.DefD := ⟨("_law_true_of", none), "_law_true_of", "_law_true_of", defArgs s_l_true_of, defBody s_l_true_of, defScope s_l_true_of, [], []⟩
def dd_p_literal_of : He.DefD := ⟨("literal_of", none), "literal_of", "literal_of", defArgs s_p_literal_of, defBody s_p_literal_of, defScope s_p_literal_of, [], []⟩
def dd_p_put_and : He.DefD := ⟨("put_and", none), "put_and", "put_and", defArgs s_p_put_and, defBody s_p_put_and, defScope s_p_put_and, [], []⟩
def dd_p_put_same : He.DefD := ⟨("put_same", none), "put_same", "put_same", defArgs s_p_put_same, defBody s_p_put_same, defScope s_p_put_same, [], []⟩
def dd_p_size_of : He.DefD := ⟨("size_of", none), "size_of", "size_of", defArgs s_p_size_of, defBody s_p_size_of, defScope s_p_size_of, [], []⟩
def dd_l_nodes : He.DefD := ⟨("_law_nodes", none), "_law_nodes", "_law_nodes", defArgs s_l_nodes, defBody s_l_nodes, defScope s_l_nodes, [], []⟩
def dd_l_draw_literal : He.DefD := ⟨("_law_draw_literal", none), "_law_draw_literal", "_law_draw_literal", defArgs s_l_draw_literal, defBody s_l_draw_literal, defScope s_l_draw_literal, [], []⟩
def dd_l_graph_clauses : He.DefD := ⟨("_law_graph_clauses", none), "_law_graph_clauses", "_law_graph_clauses", defArgs s_l_graph_clauses, defBody s_l_graph_clauses, defScope s_l_graph_clauses, [], []⟩
def dd_p_put_graph : He.DefD := ⟨("put_graph", none), "put_graph", "put_graph", defArgs s_p_put_graph, defBody s_p_put_graph, defScope s_p_put_graph, [], []⟩
def dd_p_register_letter : He.DefD := ⟨("register_letter", none), "register_letter", "register_letter", defArgs s_p_register_letter, defBody s_p_register_letter, defScope s_p_register_letter, [], []⟩
def dd_l_draw_graph : He.DefD := ⟨("_law_draw_graph", none), "_law_draw_graph", "_law_draw_graph", defArgs s_l_draw_graph, defBody s_l_draw_graph, defScope s_l_draw_graph, [], []⟩
def dd_l_unrolled : He.DefD := ⟨("_law_unrolled", none), "_law_unrolled", "_law_unrolled", defArgs s_l_unrolled, defBody s_l_unrolled, defScope s_l_unrolled, [], []⟩
def dd_l_step_of : He.DefD := ⟨("_law_step_of", none), "_law_step_of", "_law_step_of", defArgs s_l_step_of, defBody s_l_step_of, defScope s_l_step_of, [], []⟩
def dd_l_values_right : He.DefD := ⟨("_law_values_right", none), "_law_values_right", "_law_values_right", defArgs s_l_values_right, defBody s_l_values_right, defScope s_l_values_right, [], []⟩
def dd_p_clauses_of : He.DefD := ⟨("clauses_of", none), "clauses_of", "clauses_of", defArgs s_p_clauses_of, defBody s_p_clauses_of, defScope s_p_clauses_of, [], []⟩
def dd_p_unrolled : He.DefD := ⟨("unrolled", none), "unrolled", "unrolled", defArgs s_p_unrolled, defBody s_p_unrolled, defScope s_p_unrolled, [], []⟩
def dd_p_starting : He.DefD := ⟨("starting", none), "starting", "starting", defArgs s_p_starting, defBody s_p_starting, defScope s_p_starting, [], []⟩
def dd_l_rough_graph : He.DefD := ⟨("_law_rough_graph", none), "_law_rough_graph", "_law_rough_graph", defArgs s_l_rough_graph, defBody s_l_rough_graph, defScope s_l_rough_graph, [], []⟩
def dd_l_run_right : He.DefD := ⟨("_law_run_right", none), "_law_run_right", "_law_run_right", defArgs s_l_run_right, defBody s_l_run_right, defScope s_l_run_right, [], []⟩
def dd_p_law : He.DefD := ⟨("law", none), "law", "law", defArgs s_p_law, defBody s_p_law, defScope s_p_law, [], []⟩
def fnL : List He.DefD := [dd_p_moved_literal, dd_p_put_clause, dd_p_first_and, dd_l_literal, dd_l_source, dd_l_pick, dd_l_all_bits, dd_l_kept, dd_l_put, dd_l_far, dd_l_size, dd_l_starting, dd_l_true_of, dd_p_literal_of, dd_p_put_and, dd_p_put_same, dd_p_size_of, dd_l_nodes, dd_l_draw_literal, dd_l_graph_clauses, dd_p_put_graph, dd_p_register_letter, dd_l_draw_graph, dd_l_unrolled, dd_l_step_of, dd_l_values_right, dd_p_clauses_of, dd_p_unrolled, dd_p_starting, dd_l_rough_graph, dd_l_run_right, dd_p_law]
def faL : List He.Fa := [.glo "moved_literal", .glo "put_clause", .glo "first_and", .glo "_law_literal", .glo "_law_source", .glo "_law_pick", .glo "_law_all_bits", .glo "_law_kept", .glo "_law_put", .glo "_law_far", .glo "_law_size", .glo "_law_starting", .glo "_law_true_of", .glo "literal_of", .glo "put_and", .glo "put_same", .glo "size_of", .glo "_law_nodes", .glo "_law_draw_literal", .glo "_law_graph_clauses", .glo "put_graph", .glo "register_letter", .glo "_law_draw_graph", .glo "_law_unrolled", .glo "_law_step_of", .glo "_law_values_right", .glo "clauses_of", .glo "unrolled", .glo "starting", .glo "_law_rough_graph", .glo "_law_run_right", .glo "law", .free "abs", .free "any", .free "dict", .free "enumerate", .free "int", .free "len", .free "list", .free "max", .free "min", .free "range", .free "repr", .free "set", .free "sorted", .free "tuple", .free "zip"]
abbrev RO : PySem.W.OpenRow := PySem.W.OpenLaw.row PySem.Challenge.rw_bitloom_k84_whole_clauses_of_graphs
abbrev hkL : PySem.W.Hook := He.hookD 4 faL fnL
def obL (s : PySem.W.SharedT) : He.AlD := He.obsDG 4 faL fnL (HandSHeadRun.getT s)
theorem obL_eq (s : PySem.W.SharedT) : obL s = hkL.obs s.abs := He.obsDG_eq (HandSHeadRun.getT_eq s)
def looseL : List PySem.Str := ["moved_literal", "put_clause", "first_and", "_law_literal", "_law_source", "_law_pick", "_law_all_bits", "_law_kept", "_law_put", "_law_far", "_law_size", "_law_starting", "_law_true_of", "literal_of", "put_and", "put_same", "size_of", "_law_nodes", "_law_draw_literal", "_law_graph_clauses", "put_graph", "register_letter", "_law_draw_graph", "_law_unrolled", "_law_step_of", "_law_values_right", "clauses_of", "unrolled", "starting", "_law_rough_graph", "_law_run_right"]
theorem runL (w : World) : HandSHeadRun.RunEq RO (PySem.W.view RO.prog [33]) hkL obL 2000 looseL w := by
  intro os
  kernel_rfl
theorem factsL {K : PySem.W.Frag} {h : Heap} {mg : Str → Option Value} (X : K.In h) (G : h.Ns mainGlobals mg) (c : He.SaysD faL fnL K) : ∃ T : Tx K mg, ∀ (s : Shared) (v : Value), BindsTo s T.d_p_law ⟨[v], []⟩ [("_law_script", v)] := by
  obtain ⟨d0, F0⟩ := c.def_ 0 (d := dd_p_moved_literal) rfl
  obtain ⟨d1, F1⟩ := c.def_ 1 (d := dd_p_put_clause) rfl
  obtain ⟨d2, F2⟩ := c.def_ 2 (d := dd_p_first_and) rfl
  obtain ⟨d3, F3⟩ := c.def_ 3 (d := dd_l_literal) rfl
  obtain ⟨d4, F4⟩ := c.def_ 4 (d := dd_l_source) rfl
  obtain ⟨d5, F5⟩ := c.def_ 5 (d := dd_l_pick) rfl
  obtain ⟨d6, F6⟩ := c.def_ 6 (d := dd_l_all_bits) rfl
  obtain ⟨d7, F7⟩ := c.def_ 7 (d := dd_l_kept) rfl
  obtain ⟨d8, F8⟩ := c.def_ 8 (d := dd_l_put) rfl
  obtain ⟨d9, F9⟩ := c.def_ 9 (d := dd_l_far) rfl
  obtain ⟨d10, F10⟩ := c.def_ 10 (d := dd_l_size) rfl
  obtain ⟨d11, F11⟩ := c.def_ 11 (d := dd_l_starting) rfl
  obtain ⟨d12, F12⟩ := c.def_ 12 (d := dd_l_true_of) rfl
  obtain ⟨d13, F13⟩ := c.def_ 13 (d := dd_p_literal_of) rfl
  obtain ⟨d14, F14⟩ := c.def_ 14 (d := dd_p_put_and) rfl
  obtain ⟨d15, F15⟩ := c.def_ 15 (d := dd_p_put_same) rfl
  obtain ⟨d16, F16⟩ := c.def_ 16 (d := dd_p_size_of) rfl
  obtain ⟨d17, F17⟩ := c.def_ 17 (d := dd_l_nodes) rfl
  obtain ⟨d18, F18⟩ := c.def_ 18 (d := dd_l_draw_literal) rfl
  obtain ⟨d19, F19⟩ := c.def_ 19 (d := dd_l_graph_clauses) rfl
  obtain ⟨d20, F20⟩ := c.def_ 20 (d := dd_p_put_graph) rfl
  obtain ⟨d21, F21⟩ := c.def_ 21 (d := dd_p_register_letter) rfl
  obtain ⟨d22, F22⟩ := c.def_ 22 (d := dd_l_draw_graph) rfl
  obtain ⟨d23, F23⟩ := c.def_ 23 (d := dd_l_unrolled) rfl
  obtain ⟨d24, F24⟩ := c.def_ 24 (d := dd_l_step_of) rfl
  obtain ⟨d25, F25⟩ := c.def_ 25 (d := dd_l_values_right) rfl
  obtain ⟨d26, F26⟩ := c.def_ 26 (d := dd_p_clauses_of) rfl
  obtain ⟨d27, F27⟩ := c.def_ 27 (d := dd_p_unrolled) rfl
  obtain ⟨d28, F28⟩ := c.def_ 28 (d := dd_p_starting) rfl
  obtain ⟨d29, F29⟩ := c.def_ 29 (d := dd_l_rough_graph) rfl
  obtain ⟨d30, F30⟩ := c.def_ 30 (d := dd_l_run_right) rfl
  obtain ⟨d31, F31⟩ := c.def_ 31 (d := dd_p_law) rfl
  refine ⟨{
    a_p_moved_literal := _, d_p_moved_literal := d0, F_p_moved_literal := F0, b_p_moved_literal := F0.bindsN fun _ _ _ _ _ _ us hl => (match us, hl with | [_, _], _ => rfl), g_p_moved_literal := He.glo_ok X G (c.fact 0 (f := .glo "moved_literal") rfl),
    a_p_put_clause := _, d_p_put_clause := d1, F_p_put_clause := F1, b_p_put_clause := F1.bindsN fun _ _ _ _ _ _ us hl => (match us, hl with | [_, _], _ => rfl), g_p_put_clause := He.glo_ok X G (c.fact 1 (f := .glo "put_clause") rfl),
    a_p_first_and := _, d_p_first_and := d2, F_p_first_and := F2, b_p_first_and := F2.bindsN fun _ _ _ _ _ _ us hl => (match us, hl with | [_], _ => rfl), g_p_first_and := He.glo_ok X G (c.fact 2 (f := .glo "first_and") rfl),
    a_l_literal := _, d_l_literal := d3, F_l_literal := F3, b_l_literal := F3.bindsN fun _ _ _ _ _ _ us hl => (match us, hl with | [_, _, _], _ => rfl), g_l_literal := He.glo_ok X G (c.fact 3 (f := .glo "_law_literal") rfl),
    a_l_source := _, d_l_source := d4, F_l_source := F4, b_l_source := F4.bindsN fun _ _ _ _ _ _ us hl => (match us, hl with | [_], _ => rfl), g_l_source := He.glo_ok X G (c.fact 4 (f := .glo "_law_source") rfl),
    a_l_pick := _, d_l_pick := d5, F_l_pick := F5, b_l_pick := F5.bindsN fun _ _ _ _ _ _ us hl => (match us, hl with | [_, _], _ => rfl), g_l_pick := He.glo_ok X G (c.fact 5 (f := .glo "_law_pick") rfl),
    a_l_all_bits := _, d_l_all_bits := d6, F_l_all_bits := F6, b_l_all_bits := F6.bindsN fun _ _ _ _ _ _ us hl => (match us, hl with | [_], _ => rfl), g_l_all_bits := He.glo_ok X G (c.fact 6 (f := .glo "_law_all_bits") rfl),
    a_l_kept := _, d_l_kept := d7, F_l_kept := F7, b_l_kept := F7.bindsN fun _ _ _ _ _ _ us hl => (match us, hl with | [_, _], _ => rfl), g_l_kept := He.glo_ok X G (c.fact 7 (f := .glo "_law_kept") rfl),
    a_l_put := _, d_l_put := d8, F_l_put := F8, b_l_put := F8.bindsN fun _ _ _ _ _ _ us hl => (match us, hl with | [_, _], _ => rfl), g_l_put := He.glo_ok X G (c.fact 8 (f := .glo "_law_put") rfl),
    a_l_far := _, d_l_far := d9, F_l_far := F9, b_l_far := F9.bindsN fun _ _ _ _ _ _ us hl => (match us, hl with | [_, _], _ => rfl), g_l_far := He.glo_ok X G (c.fact 9 (f := .glo "_law_far") rfl),
    a_l_size := _, d_l_size := d10, F_l_size := F10, b_l_size := F10.bindsN fun _ _ _ _ _ _ us hl => (match us, hl with | [_], _ => rfl), g_l_size := He.glo_ok X G (c.fact 10 (f := .glo "_law_size") rfl),
    a_l_starting := _, d_l_starting := d11, F_l_starting := F11, b_l_starting := F11.bindsN fun _ _ _ _ _ _ us hl => (match us, hl with | [_], _ => rfl), g_l_starting := He.glo_ok X G (c.fact 11 (f := .glo "_law_starting") rfl),
    a_l_true_of := _, d_l_true_of := d12, F_l_true_of := F12, b_l_true_of := F12.bindsN fun _ _ _ _ _ _ us hl => (match us, hl with | [_, _], _ => rfl), g_l_true_of := He.glo_ok X G (c.fact 12 (f := .glo "_law_true_of") rfl),
    a_p_literal_of := _, d_p_literal_of := d13, F_p_literal_of := F13, b_p_literal_of := F13.bindsN fun _ _ _ _ _ _ us hl => (match us, hl with | [_], _ => rfl), g_p_literal_of := He.glo_ok X G (c.fact 13 (f := .glo "literal_of") rfl),
    a_p_put_and := _, d_p_put_and := d14, F_p_put_and := F14, b_p_put_and := F14.bindsN fun _ _ _ _ _ _ us hl => (match us, hl with | [_, _, _, _], _ => rfl), g_p_put_and := He.glo_ok X G (c.fact 14 (f := .glo "put_and") rfl),
    a_p_put_same := _, d_p_put_same := d15, F_p_put_same := F15, b_p_put_same := F15.bindsN fun _ _ _ _ _ _ us hl => (match us, hl with | [_, _, _], _ => rfl), g_p_put_same := He.glo_ok X G (c.fact 15 (f := .glo "put_same") rfl),
    a_p_size_of := _, d_p_size_of := d16, F_p_size_of := F16, b_p_size_of := F16.bindsN fun _ _ _ _ _ _ us hl => (match us, hl with | [_], _ => rfl), g_p_size_of := He.glo_ok X G (c.fact 16 (f := .glo "size_of") rfl),
    a_l_nodes := _, d_l_nodes := d17, F_l_nodes := F17, b_l_nodes := F17.bindsN fun _ _ _ _ _ _ us hl => (match us, hl with | [_, _, _, _], _ => rfl), g_l_nodes := He.glo_ok X G (c.fact 17 (f := .glo "_law_nodes") rfl),
    a_l_draw_literal := _, d_l_draw_literal := d18, F_l_draw_literal := F18, b_l_draw_literal := F18.bindsN fun _ _ _ _ _ _ us hl => (match us, hl with | [_, _], _ => rfl), g_l_draw_literal := He.glo_ok X G (c.fact 18 (f := .glo "_law_draw_literal") rfl),
    a_l_graph_clauses := _, d_l_graph_clauses := d19, F_l_graph_clauses := F19, b_l_graph_clauses := F19.bindsN fun _ _ _ _ _ _ us hl => (match us, hl with | [_, _], _ => rfl), g_l_graph_clauses := He.glo_ok X G (c.fact 19 (f := .glo "_law_graph_clauses") rfl),
    a_p_put_graph := _, d_p_put_graph := d20, F_p_put_graph := F20, b_p_put_graph := F20.bindsN fun _ _ _ _ _ _ us hl => (match us, hl with | [_, _, _], _ => rfl), g_p_put_graph := He.glo_ok X G (c.fact 20 (f := .glo "put_graph") rfl),
    a_p_register_letter := _, d_p_register_letter := d21, F_p_register_letter := F21, b_p_register_letter := F21.bindsN fun _ _ _ _ _ _ us hl => (match us, hl with | [_, _, _], _ => rfl), g_p_register_letter := He.glo_ok X G (c.fact 21 (f := .glo "register_letter") rfl),
    a_l_draw_graph := _, d_l_draw_graph := d22, F_l_draw_graph := F22, b_l_draw_graph := F22.bindsN fun _ _ _ _ _ _ us hl => (match us, hl with | [_, _, _, _], _ => rfl), g_l_draw_graph := He.glo_ok X G (c.fact 22 (f := .glo "_law_draw_graph") rfl),
    a_l_unrolled := _, d_l_unrolled := d23, F_l_unrolled := F23, b_l_unrolled := F23.bindsN fun _ _ _ _ _ _ us hl => (match us, hl with | [_, _], _ => rfl), g_l_unrolled := He.glo_ok X G (c.fact 23 (f := .glo "_law_unrolled") rfl),
    a_l_step_of := _, d_l_step_of := d24, F_l_step_of := F24, b_l_step_of := F24.bindsN fun _ _ _ _ _ _ us hl => (match us, hl with | [_, _, _], _ => rfl), g_l_step_of := He.glo_ok X G (c.fact 24 (f := .glo "_law_step_of") rfl),
    a_l_values_right := _, d_l_values_right := d25, F_l_values_right := F25, b_l_values_right := F25.bindsN fun _ _ _ _ _ _ us hl => (match us, hl with | [_, _, _], _ => rfl), g_l_values_right := He.glo_ok X G (c.fact 25 (f := .glo "_law_values_right") rfl),
    a_p_clauses_of := _, d_p_clauses_of := d26, F_p_clauses_of := F26, b_p_clauses_of := F26.bindsN fun _ _ _ _ _ _ us hl => (match us, hl with | [_], _ => rfl), g_p_clauses_of := He.glo_ok X G (c.fact 26 (f := .glo "clauses_of") rfl),
    a_p_unrolled := _, d_p_unrolled := d27, F_p_unrolled := F27, b_p_unrolled := F27.bindsN fun _ _ _ _ _ _ us hl => (match us, hl with | [_, _], _ => rfl), g_p_unrolled := He.glo_ok X G (c.fact 27 (f := .glo "unrolled") rfl),
    a_p_starting := _, d_p_starting := d28, F_p_starting := F28, b_p_starting := F28.bindsN fun _ _ _ _ _ _ us hl => (match us, hl with | [_], _ => rfl), g_p_starting := He.glo_ok X G (c.fact 28 (f := .glo "starting") rfl),
    a_l_rough_graph := _, d_l_rough_graph := d29, F_l_rough_graph := F29, b_l_rough_graph := F29.bindsN fun _ _ _ _ _ _ us hl => (match us, hl with | [_], _ => rfl), g_l_rough_graph := He.glo_ok X G (c.fact 29 (f := .glo "_law_rough_graph") rfl),
    a_l_run_right := _, d_l_run_right := d30, F_l_run_right := F30, b_l_run_right := F30.bindsN fun _ _ _ _ _ _ us hl => (match us, hl with | [_, _], _ => rfl), g_l_run_right := He.glo_ok X G (c.fact 30 (f := .glo "_law_run_right") rfl),
    a_p_law := _, d_p_law := d31, F_p_law := F31, b_p_law := F31.bindsN fun _ _ _ _ _ _ us hl => (match us, hl with | [_], _ => rfl), g_p_law := He.glo_ok X G (c.fact 31 (f := .glo "law") rfl),
    z_abs := He.free_ok X G (c.fact 32 (f := .free "abs") rfl),
    z_any := He.free_ok X G (c.fact 33 (f := .free "any") rfl),
    z_dict := He.free_ok X G (c.fact 34 (f := .free "dict") rfl),
    z_enumerate := He.free_ok X G (c.fact 35 (f := .free "enumerate") rfl),
    z_int := He.free_ok X G (c.fact 36 (f := .free "int") rfl),
    z_len := He.free_ok X G (c.fact 37 (f := .free "len") rfl),
    z_list := He.free_ok X G (c.fact 38 (f := .free "list") rfl),
    z_max := He.free_ok X G (c.fact 39 (f := .free "max") rfl),
    z_min := He.free_ok X G (c.fact 40 (f := .free "min") rfl),
    z_range := He.free_ok X G (c.fact 41 (f := .free "range") rfl),
    z_repr := He.free_ok X G (c.fact 42 (f := .free "repr") rfl),
    z_set := He.free_ok X G (c.fact 43 (f := .free "set") rfl),
    z_sorted := He.free_ok X G (c.fact 44 (f := .free "sorted") rfl),
    z_tuple := He.free_ok X G (c.fact 45 (f := .free "tuple") rfl),
    z_zip := He.free_ok X G (c.fact 46 (f := .free "zip") rfl) }, fun s v => ?_⟩
  exact FunD.bindsA (ps := ["_law_script"]) F31 (fun _ _ _ _ _ _ us hl => match us, hl with | [_], _ => rfl) s [v] rfl
theorem con_of {K : PySem.W.Frag} {H : Hp} {a : Addr} {xs : List V} (hO : Only H) (h : SqL K H a xs) : ConL K H a xs := by
  rcases h with h | h
  · refine .inl ?_
    rcases h with h | ⟨o, h⟩
    · rcases hO a with e | ⟨o, ys, e⟩
      · rw [e] at h; cases h
      · rw [e] at h; cases h
    · exact ⟨o, h⟩
  · exact .inr h
theorem spL {K : PySem.W.Frag} {H : Hp} {a : Addr} {ns : List Int} (hl : ns.length ≤ 63) (hO : Only H) (hS : SqL K H a (ns.map V.int)) : LSp K sp_p_law [.ref a] H (fun v _ => v = .bl true) fun _ _ _ => False :=
  ⟨[.con (ns.map .int)], fun _ => none, fun d _ => d = .bl true, .cons (.con (con_of hO hS) (RepL.of_ints _)) .nil, (fun _ _ e => by cases e), ⟨ns, rfl, hl, fun _ => rfl⟩, fun d M' v H' _ _ r h => by
    subst h
    cases r
    rfl⟩
end Law
open PySem PySem.W PySem.Calls PyProof.Rows
theorem PySem.Challenge.cw_bitloom_k84_whole_clauses_of_graphs_holds : PySem.Challenge.rw_bitloom_k84_whole_clauses_of_graphs.Holds := by
  w_on; o_law
  refine HandSHeadRun.head_any (r := OpenLaw.row PySem.Challenge.rw_bitloom_k84_whole_clauses_of_graphs) (q := view (OpenLaw.row PySem.Challenge.rw_bitloom_k84_whole_clauses_of_graphs).prog [33]) (H := Law.hkL) (ob := Law.obL) (M := 2000) (loose := Law.looseL) (d := HandSHeadRun.topDef (OpenLaw.row PySem.Challenge.rw_bitloom_k84_whole_clauses_of_graphs).prog 33) (kwd := []) Law.obL_eq
    (by kernel_rfl) (fun s => by kernel_rfl) Law.runL (by kernel_rfl) (by kernel_rfl) (by kernel_rfl) (by rfl) (by first | assumption | decide +kernel) (by decide +kernel) ⟨rfl, rfl, rfl, rfl, rfl, by decide +kernel⟩ ?hw ?hc
  case hw => w_witness2
  case hc =>
    refine PyD.walk_ofEG (l := PySem.Challenge.rw_bitloom_k84_whole_clauses_of_graphs) (n := 63) (k := 6) (x := "_law_script") (CX := L2.CX0) rfl (by decide) (by kernel_rfl) ⟨⟨rfl, by decide, by decide⟩, rfl⟩ ?F (fun _ _ _ _ z => z)
    intro w mg fa h Y G hmg0
    obtain ⟨K, KX, c⟩ := Y
    have hmg : mg ("law" : PySem.Str) = some (.ref fa) := by
      have e : (HandSHeadRun.topDef (OpenLaw.row PySem.Challenge.rw_bitloom_k84_whole_clauses_of_graphs).prog 33).name = ("law" : PySem.Str) := by kernel_rfl
      rw [← e]
      exact hmg0
    obtain ⟨T, hb⟩ := Law.factsL KX G c
    have e := hmg.symm.trans T.g_p_law
    have e2 : fa = T.a_p_law := by injection e with e; injection e
    subst e2
    exact ⟨K, T.d_p_law, PyD.LSp K Law.sp_p_law, KX, hb, fun H a ns hl hO hS => Law.spL hl hO hS, fun base _ _ => Law.ok_p_law T⟩
