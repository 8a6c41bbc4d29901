import PyProof.Rows.All
import Wide.All
import OpenK.AllK
import Wide.FinOn
import KE.KStateDown
import KE.KeyNested
import HandS.ForMost
import HandS.Conv
import HandS.Deep
import HandS.TupAny
import HandS.TupLe
import HandS.SortRule
import HandS.Wide
import HandS.Defaults
import HandS.HeadEnd
import HandS.HeadHook1
import HandS.HeadHook2
import HandS.WordsExc
import HandS.Text
import HandS.TupLen
import HandS.IsInst
import HandS.More
import HandS.ReCall
import HandS.Style
import HandS.HeadHook4
import HandS.Head0
import HandS.Head1
import HandS.Head2
import PySem.Challenge.RW_sameanswer_k06_terms_and_things
set_option Elab.async false
set_option linter.all false
set_option maxRecDepth 100000
set_option maxHeartbeats 0
set_option autoImplicit false
/-! EV1: tree values, own heap, how they stand to the hand layer's values and heap. -/
namespace EV
open PySem PySem.Spec PyProof.Rows L2

/-- a value as a tree: tuples, lists that nobody will change, dicts that nobody will change; ref: an object that may change -/
inductive T where
  | non
  | bl (b : Bool)
  | int (i : Int)
  | str (x : Str)
  | tup (xs : List T)
  | lst (xs : List T)
  | dct (ks vs : List T)
  | ref (a : Addr)
  | scr (ns : List Int)

mutual
def T.beq : T → T → Bool
  | .non, .non => true
  | .bl a, .bl b => decide (a = b)
  | .int a, .int b => decide (a = b)
  | .str a, .str b => decide (a = b)
  | .tup a, .tup b => T.beqs a b
  | .lst a, .lst b => T.beqs a b
  | .dct a c, .dct b d => T.beqs a b && T.beqs c d
  | .ref a, .ref b => decide (a = b)
  | .scr a, .scr b => decide (a = b)
  | _, _ => false
def T.beqs : List T → List T → Bool
  | [], [] => true
  | x :: xs, y :: ys => T.beq x y && T.beqs xs ys
  | _, _ => false
end
mutual
theorem T.beq_self : ∀ a : T, T.beq a a = true
  | .non => rfl
  | .bl a => by simp [T.beq]
  | .int a => by simp [T.beq]
  | .str a => by simp [T.beq]
  | .tup a => by rw [T.beq]; exact T.beqs_self a
  | .lst a => by rw [T.beq]; exact T.beqs_self a
  | .dct a b => by rw [T.beq, T.beqs_self a, T.beqs_self b]; rfl
  | .ref a => by simp [T.beq]
  | .scr a => by simp [T.beq]
theorem T.beqs_self : ∀ a : List T, T.beqs a a = true
  | [] => rfl
  | x :: xs => by rw [T.beqs, T.beq_self x, T.beqs_self xs]; rfl
end
mutual
theorem T.eq_of_beq : ∀ a b : T, T.beq a b = true → a = b
  | .non, b, h => by cases b <;> first | rfl | (simp [T.beq] at h)
  | .bl a, b, h => by cases b <;> simp [T.beq] at h; rw [h]
  | .int a, b, h => by cases b <;> simp [T.beq] at h; rw [h]
  | .str a, b, h => by cases b <;> simp [T.beq] at h; rw [h]
  | .tup a, b, h => by
    cases b with
    | tup b => rw [T.beq] at h; rw [T.eq_of_beqs a b h]
    | _ => simp [T.beq] at h
  | .lst a, b, h => by
    cases b with
    | lst b => rw [T.beq] at h; rw [T.eq_of_beqs a b h]
    | _ => simp [T.beq] at h
  | .dct a c, b, h => by
    cases b with
    | dct b d =>
      rw [T.beq, Bool.and_eq_true] at h
      rw [T.eq_of_beqs a b h.1, T.eq_of_beqs c d h.2]
    | _ => simp [T.beq] at h
  | .ref a, b, h => by cases b <;> simp [T.beq] at h; rw [h]
  | .scr a, b, h => by cases b <;> simp [T.beq] at h; rw [h]
theorem T.eq_of_beqs : ∀ a b : List T, T.beqs a b = true → a = b
  | [], [], _ => rfl
  | [], _ :: _, h => by simp [T.beqs] at h
  | _ :: _, [], h => by simp [T.beqs] at h
  | x :: xs, y :: ys, h => by
    rw [T.beqs, Bool.and_eq_true] at h
    rw [T.eq_of_beq x y h.1, T.eq_of_beqs xs ys h.2]
end
instance : DecidableEq T := fun a b => decidable_of_iff (T.beq a b = true) ⟨T.eq_of_beq a b, fun e => e ▸ T.beq_self a⟩

/-- what may change -/
inductive O where
  | lst (xs : List T)
  | dct (kvs : List (T × T))
  | ins (c : Str) (fs : List (Str × T))
  | lkd (ob : Obj) (kv : List (Key × V)) (kvs : List (T × T))
abbrev GH := Addr → Option O
def put (G : GH) (a : Addr) (o : O) : GH := fun b => if b = a then some o else G b
@[simp] theorem put_same {G : GH} {a : Addr} {o : O} : put G a o a = some o := if_pos rfl
theorem put_ne {G : GH} {a b : Addr} {o : O} (h : b ≠ a) : put G a o b = G b := if_neg h
@[simp] theorem put_put {G : GH} {a : Addr} {o u : O} : put (put G a o) a u = put G a u := by
  funext b; unfold put; split <;> rfl
theorem put_id {G : GH} {a : Addr} {o : O} (h : G a = some o) : put G a o = G := by
  funext b; unfold put; split
  · rename_i e; rw [e, h]
  · rfl
/-- forgetting -/
def Sub (G G' : GH) : Prop := ∀ a o, G a = some o → G' a = some o
theorem Sub.refl (G : GH) : Sub G G := fun _ _ h => h
theorem Sub.trans {G G' G'' : GH} (h : Sub G G') (h' : Sub G' G'') : Sub G G'' := fun a o e => h' a o (h a o e)
theorem Sub.put {G : GH} {a : Addr} {o : O} (h : G a = none) : Sub G (put G a o) := fun b u e => by
  rw [put_ne (fun z => by rw [z, h] at e; cases e)]; exact e

/-! ### keys of dicts -/
def T.key? : T → Option Key
  | .int i => some (.inl i)
  | .str x => some (.inr x)
  | _ => none
mutual
def T.nk? : T → Option NestedKey
  | .non => some .none
  | .int i => some (.num i)
  | .str x => some (.text x)
  | .tup xs => match T.nks? xs with
    | some ks => some (.tup ks)
    | none => none
  | _ => none
def T.nks? : List T → Option (List NestedKey)
  | [] => some []
  | x :: xs => match T.nk? x with
    | some k => match T.nks? xs with
      | some ks => some (k :: ks)
      | none => none
    | none => none
end

section
variable (K : PySem.W.Frag) (H : Hp) (G : GH)
/-- a tracked object that is not ours to change -/
def Held (a : Addr) (u : HO) : Prop := ∃ o, H a = some o ∧ G a = none ∧ (o = u ∨ ∃ ob, o = .frz ob u)
def TupAt (a : Addr) (xs : List V) : Prop := Held H G a (.tup xs) ∨ SqT K (fun _ => none) a xs
def LstAt (a : Addr) (xs : List V) : Prop := H a = some (.lst xs) ∧ G a = none
/-- the script: nobody changes it -/
def ScrAt (a : Addr) (ns : List Int) : Prop := Held H G a (.lst (ns.map V.int)) ∨ SqL K (fun _ => none) a (ns.map V.int)
/-- the dict at a has tuples as keys: its entries -/
def dPhi (P : Program) (w : World) (a : Addr) (xs : List (NestedKey × Addr × Value)) (h : Heap) : Prop :=
  (a == sysModules) = false ∧ ∃ o es ep, h.get? a = some o ∧ o.ExactDict ∧ o.data = .dict es ep ∧ es.toList = xs.map (entryOfKey (nestedKind P w)) ∧ (xs.map (·.1)).Nodup
end

variable (K : PySem.W.Frag)
mutual
inductive RT (H : Hp) (G : GH) : T → V → Prop
  | non : RT H G .non .non
  | bl (b : Bool) : RT H G (.bl b) (.bl b)
  | int (i : Int) : RT H G (.int i) (.int i)
  | str (x : Str) : RT H G (.str x) (.str x)
  | tup {a : Addr} {xs : List V} {ts : List T} : TupAt K H G a xs → RTs H G ts xs → RT H G (.tup ts) (.ref a)
  | lst {a : Addr} {xs : List V} {ts : List T} : LstAt H G a xs → RTs H G ts xs → RT H G (.lst ts) (.ref a)
  | dctK {a : Addr} {kvs : List (Key × V)} {ks vs : List T} : Held H G a (.dK kvs) → ks.map T.key? = kvs.map (fun p => some p.1) → RTs H G vs (kvs.map (·.2)) → RT H G (.dct ks vs) (.ref a)
  | ref (a : Addr) : RT H G (.ref a) (.ref a)
  | scr {a : Addr} {ns : List Int} : ScrAt K H G a ns → RT H G (.scr ns) (.ref a)
inductive RTs (H : Hp) (G : GH) : List T → List V → Prop
  | nil : RTs H G [] []
  | cons {t : T} {ts : List T} {x : V} {xs : List V} : RT H G t x → RTs H G ts xs → RTs H G (t :: ts) (x :: xs)
end

/-- how a thing of the own heap stands in the hand layer's -/
def ORel (P : Program) (w : World) (K : PySem.W.Frag) (H : Hp) (G : GH) (a : Addr) : O → Prop
  | .lst ts => ∃ xs, H a = some (.lst xs) ∧ RTs K H G ts xs
  | .dct kvs => (∃ kv : List (Key × V), H a = some (.dK kv) ∧ Paired (fun (p : T × T) (q : Key × V) => T.key? p.1 = some q.1 ∧ RT K H G p.2 q.2) kvs kv) ∨
      ∃ xs : List (NestedKey × Addr × Value), H a = some (.ext (dPhi P w a xs)) ∧ kvs.length ≤ sizeLine ∧ kvs ≠ [] ∧
        Paired (fun (p : T × T) (q : NestedKey × Addr × Value) => T.nk? p.1 = some q.1 ∧ q.1.depth ≤ 8 ∧ RT K H G p.1 (.ref q.2.1) ∧ ∃ v, RT K H G p.2 v ∧ RelV v q.2.2) kvs xs
  | .ins c fs => ∃ dx vfs, H a = some (.ins (He.ga K c) dx vfs) ∧ fs.map (·.1) = vfs.map (·.1) ∧ RTs K H G (fs.map (·.2)) (vfs.map (·.2))
  | .lkd ob kv kvs => H a = some (.frz ob (.dK kv)) ∧ Paired (fun (p : T × T) (q : Key × V) => T.key? p.1 = some q.1 ∧ RT K H G p.2 q.2) kvs kv
def RelG (P : Program) (w : World) (K : PySem.W.Frag) (G : GH) (H : Hp) : Prop := ∀ a o, G a = some o → ORel P w K H G a o
/-- what may have become of the heaps: all that is tracked and not ours is as it was -/
def Ext (G : GH) (H : Hp) (G' : GH) (H' : Hp) : Prop := ∀ a o, H a = some o → G a = none → H' a = some o ∧ G' a = none
theorem Ext.refl (G : GH) (H : Hp) : Ext G H G H := fun _ _ h g => ⟨h, g⟩
theorem Ext.trans {G G1 G2 : GH} {H H1 H2 : Hp} (a : Ext G H G1 H1) (b : Ext G1 H1 G2 H2) : Ext G H G2 H2 := fun c o h g => let ⟨h1, g1⟩ := a c o h g; b c o h1 g1

section
variable {K : PySem.W.Frag} {H H' : Hp} {G G' : GH}
theorem Held.ext (e : Ext G H G' H') {a : Addr} {u : HO} (h : Held H G a u) : Held H' G' a u := by
  obtain ⟨o, h1, h2, h3⟩ := h
  obtain ⟨h1', h2'⟩ := e a o h1 h2
  exact ⟨o, h1', h2', h3⟩
theorem TupAt.ext (e : Ext G H G' H') {a : Addr} {xs : List V} (h : TupAt K H G a xs) : TupAt K H' G' a xs := h.imp (·.ext e) id
theorem LstAt.ext (e : Ext G H G' H') {a : Addr} {xs : List V} (h : LstAt H G a xs) : LstAt H' G' a xs := e a _ h.1 h.2
theorem ScrAt.ext (e : Ext G H G' H') {a : Addr} {ns : List Int} (h : ScrAt K H G a ns) : ScrAt K H' G' a ns := h.imp (·.ext e) id
mutual
theorem RT.ext (e : Ext G H G' H') : ∀ {t : T} {v : V}, RT K H G t v → RT K H' G' t v
  | _, _, .non => .non
  | _, _, .bl b => .bl b
  | _, _, .int i => .int i
  | _, _, .str x => .str x
  | _, _, .tup h r => .tup (h.ext e) (RTs.ext e r)
  | _, _, .lst h r => .lst (h.ext e) (RTs.ext e r)
  | _, _, .dctK h k r => .dctK (h.ext e) k (RTs.ext e r)
  | _, _, .ref a => .ref a
  | _, _, .scr h => .scr (h.ext e)
theorem RTs.ext (e : Ext G H G' H') : ∀ {ts : List T} {xs : List V}, RTs K H G ts xs → RTs K H' G' ts xs
  | _, _, .nil => .nil
  | _, _, .cons h r => .cons (RT.ext e h) (RTs.ext e r)
end
theorem SqT.at {K : PySem.W.Frag} {H : Hp} {a : Addr} {xs : List V} (h : SqT K (fun _ => none) a xs) : SqT K H a xs := by
  rcases h with (h | ⟨o, h⟩) | h
  · cases h
  · cases h
  · exact .inr h
theorem SqL.at {K : PySem.W.Frag} {H : Hp} {a : Addr} {xs : List V} (h : SqL K (fun _ => none) a xs) : SqL K H a xs := by
  rcases h with (h | ⟨o, h⟩) | h
  · cases h
  · cases h
  · exact .inr h
theorem Held.rd {a : Addr} {u : HO} (h : Held H G a u) : Rd H a u := by
  obtain ⟨o, h1, _, rfl | ⟨ob, rfl⟩⟩ := h
  · exact .inl h1
  · exact .inr ⟨ob, h1⟩
theorem TupAt.sq {a : Addr} {xs : List V} (h : TupAt K H G a xs) : SqT K H a xs := by
  rcases h with h | h
  · exact .inl h.rd
  · exact SqT.at h
theorem ScrAt.sq {a : Addr} {ns : List Int} (h : ScrAt K H G a ns) : SqL K H a (ns.map V.int) := by
  rcases h with h | h
  · exact .inl h.rd
  · exact SqL.at h
theorem LstAt.sq {a : Addr} {xs : List V} (h : LstAt H G a xs) : SqL K H a xs := .inl (.inl h.1)
theorem RTs.length {ts : List T} {xs : List V} (r : RTs K H G ts xs) : ts.length = xs.length := by
  induction ts generalizing xs with
  | nil => cases r; rfl
  | cons t ts ih => cases r with | cons h r => rw [List.length_cons, List.length_cons, ih r]
theorem RTs.get {ts : List T} {xs : List V} (r : RTs K H G ts xs) {i : Nat} {t : T} (h : ts[i]? = some t) : ∃ x, xs[i]? = some x ∧ RT K H G t x := by
  induction ts generalizing xs i with
  | nil => simp at h
  | cons u ts ih =>
    cases r with
    | cons h1 r =>
      cases i with
      | zero => simp at h; subst h; exact ⟨_, rfl, h1⟩
      | succ i => simpa using ih r (by simpa using h)
theorem RTs.get' {ts : List T} {xs : List V} (r : RTs K H G ts xs) {i : Nat} {x : V} (h : xs[i]? = some x) : ∃ t, ts[i]? = some t ∧ RT K H G t x := by
  induction ts generalizing xs i with
  | nil => cases r; simp at h
  | cons u ts ih =>
    cases r with
    | cons h1 r =>
      cases i with
      | zero => simp at h; subst h; exact ⟨_, rfl, h1⟩
      | succ i => simpa using ih r (by simpa using h)
theorem RTs.append {ts us : List T} {xs ys : List V} (r : RTs K H G ts xs) (q : RTs K H G us ys) : RTs K H G (ts ++ us) (xs ++ ys) := by
  induction ts generalizing xs with
  | nil => cases r; exact q
  | cons t ts ih => cases r with | cons h r => exact .cons h (ih r)
theorem RTs.drop {ts : List T} {xs : List V} (r : RTs K H G ts xs) (n : Nat) : RTs K H G (ts.drop n) (xs.drop n) := by
  induction n generalizing ts xs with
  | zero => exact r
  | succ n ih => cases r with
    | nil => exact .nil
    | cons h r => exact ih r
theorem RTs.take {ts : List T} {xs : List V} (r : RTs K H G ts xs) (n : Nat) : RTs K H G (ts.take n) (xs.take n) := by
  induction n generalizing ts xs with
  | zero => exact .nil
  | succ n ih => cases r with
    | nil => exact .nil
    | cons h r => exact .cons h (ih r)
theorem RTs.one {t : T} {x : V} (h : RT K H G t x) : RTs K H G [t] [x] := .cons h .nil
end
section
variable {P : Program} {w : World} {K : PySem.W.Frag} {H H' : Hp} {G G' : GH}
theorem ORel.ext {a : Addr} {o : O} (h : ORel P w K H G a o) (e : Ext G H G' H') (ha : H' a = H a) : ORel P w K H' G' a o := by
  cases o with
  | lst ts => obtain ⟨xs, h1, h2⟩ := h; exact ⟨xs, ha.trans h1, h2.ext e⟩
  | dct kvs =>
    rcases h with ⟨kv, h1, h2⟩ | ⟨xs, h1, h2, h3, h4⟩
    · exact .inl ⟨kv, ha.trans h1, Paired.mapP h2 fun p q z => ⟨z.1, z.2.ext e⟩⟩
    · exact .inr ⟨xs, ha.trans h1, h2, h3, Paired.mapP h4 fun p q ⟨z1, z2, z3, v, z4, z5⟩ => ⟨z1, z2, z3.ext e, v, z4.ext e, z5⟩⟩
  | ins c fs => obtain ⟨dx, vfs, h1, h2, h3⟩ := h; exact ⟨dx, vfs, ha.trans h1, h2, h3.ext e⟩
  | lkd ob kv kvs => obtain ⟨h1, h2⟩ := h; exact ⟨ha.trans h1, Paired.mapP h2 fun p q z => ⟨z.1, z.2.ext e⟩⟩
theorem RelG.has {a : Addr} {o : O} (r : RelG P w K G H) (h : G a = some o) : ∃ u, H a = some u := by
  have q := r a o h
  cases o with
  | lst ts => obtain ⟨xs, h1, _⟩ := q; exact ⟨_, h1⟩
  | dct kvs => rcases q with ⟨kv, h1, _⟩ | ⟨xs, h1, _⟩ <;> exact ⟨_, h1⟩
  | ins c fs => obtain ⟨dx, vfs, h1, _⟩ := q; exact ⟨_, h1⟩
  | lkd ob kv kvs => obtain ⟨h1, _⟩ := q; exact ⟨_, h1⟩
theorem RelG.free {a : Addr} (r : RelG P w K G H) (h : H a = none) : G a = none := by
  cases e : G a with
  | none => rfl
  | some o => obtain ⟨u, h1⟩ := r.has e; rw [h] at h1; cases h1
theorem RelG.sub (r : RelG P w K G H) (s : Sub G' G) (h : ∀ a o, G' a = some o → ORel P w K H G a o → ORel P w K H G' a o) : RelG P w K G' H := fun a o e => h a o e (r a o (s a o e))
/-- a new object, untracked by ours -/
theorem Ext.laid {p : Addr} {u : HO} (h : H p = none) : Ext G H G (upd H p u) := fun a o e g => ⟨by rw [upd_ne (ne_of_none e h)]; exact e, g⟩
theorem RelG.laid {p : Addr} {u : HO} (r : RelG P w K G H) (h : H p = none) : RelG P w K G (upd H p u) := fun a o e => by
  obtain ⟨v, h1⟩ := r.has e
  exact (r a o e).ext (Ext.laid h) (upd_ne (ne_of_none h1 h))
/-- a new object of ours -/
theorem Ext.new {p : Addr} {u : HO} {o : O} (h : H p = none) : Ext G H (put G p o) (upd H p u) := fun a v e g => by
  have ne : a ≠ p := ne_of_none e h
  exact ⟨by rw [upd_ne ne]; exact e, by rw [put_ne ne]; exact g⟩
/-- an object of ours is changed -/
theorem Ext.write {p : Addr} {u : HO} {o o' : O} (h : G p = some o) : Ext G H (put G p o') (upd H p u) := fun a v e g => by
  have ne : a ≠ p := fun z => by rw [z, h] at g; cases g
  exact ⟨by rw [upd_ne ne]; exact e, by rw [put_ne ne]; exact g⟩
theorem RelG.put {p : Addr} {u : HO} {o : O} (r : RelG P w K G H) (e : Ext G H (put G p o) (upd H p u)) (h : ORel P w K (upd H p u) (EV.put G p o) p o) : RelG P w K (EV.put G p o) (upd H p u) := fun a v q => by
  by_cases ha : a = p
  · subst ha; rw [put_same] at q; cases q; exact h
  · rw [put_ne ha] at q
    exact (r a v q).ext e (upd_ne ha)
end

/-! ### slots -/
abbrev Sl := List (Option T)
inductive SR (K : PySem.W.Frag) (H : Hp) (G : GH) : Sl → L2.St → Prop
  | nil : SR K H G [] []
  | non {τ : Sl} {σ : L2.St} (x : Option V) : SR K H G τ σ → SR K H G (none :: τ) (x :: σ)
  | som {τ : Sl} {σ : L2.St} {t : T} {x : V} : RT K H G t x → SR K H G τ σ → SR K H G (some t :: τ) (some x :: σ)
section
variable {K : PySem.W.Frag} {H H' : Hp} {G G' : GH} {τ : Sl} {σ : L2.St}
theorem SR.ext (e : Ext G H G' H') (h : SR K H G τ σ) : SR K H' G' τ σ := by
  induction h with
  | nil => exact .nil
  | non _ _ ih => exact .non _ ih
  | som r _ ih => exact .som (r.ext e) ih
theorem SR.get (h : SR K H G τ σ) {i : Nat} {t : T} (e : τ[i]? = some (some t)) : ∃ x, σ[i]? = some (some x) ∧ RT K H G t x := by
  induction h generalizing i with
  | nil => simp at e
  | non _ _ ih =>
    cases i with
    | zero => simp at e
    | succ i => simpa using ih (by simpa using e)
  | som r _ ih =>
    cases i with
    | zero => simp at e; subst e; exact ⟨_, rfl, r⟩
    | succ i => simpa using ih (by simpa using e)
theorem SR.set (h : SR K H G τ σ) (i : Nat) {t : T} {x : V} (r : RT K H G t x) : SR K H G (τ.set i (some t)) (σ.set i (some x)) := by
  induction h generalizing i with
  | nil => exact .nil
  | non _ h ih =>
    cases i with
    | zero => exact .som r h
    | succ i => exact .non _ (ih i)
  | som q h ih =>
    cases i with
    | zero => exact .som r h
    | succ i => exact .som q (ih i)
theorem SR.wipe (h : SR K H G τ σ) (i : Nat) {x : Option V} : SR K H G (τ.set i none) (σ.set i x) := by
  induction h generalizing i with
  | nil => exact .nil
  | non _ h ih =>
    cases i with
    | zero => exact .non _ h
    | succ i => exact .non _ (ih i)
  | som q h ih =>
    cases i with
    | zero => exact .non _ h
    | succ i => exact .som q (ih i)
theorem SR.length (h : SR K H G τ σ) : τ.length = σ.length := by
  induction h with
  | nil => rfl
  | non _ _ ih => simp [ih]
  | som _ _ ih => simp [ih]
end

end EV

/-! EV2: a small syntax, what it wants (over trees), monotony. -/
namespace EV
open PySem PySem.Spec PyProof.Rows L2
abbrev strOk (x : Str) : Bool := x.cps.all (· < 0x110000)

/-- operations by values -/
inductive Prim where
  | add | sub | mul | fdiv | mod | pow
  | neg | abs | int | len
  | eq | ne | lt | le | gt | ge
  | isin | notin | isnone | notnone | istrue | nottrue | isfalse
  | isi (ty : String)
  | idx | tuple
  | index | append | extend | pop | popat
  | get1 | get2 | str | chr1 | iadd
  | shl | shr | band | max2 | min2 | maxs | mins | sums
  deriving DecidableEq
/-- operations that make a new list -/
inductive LPrim where
  | sorted | list | cat | rev
  deriving DecidableEq
inductive Tg where
  | name (i : Nat)
  | tup (ts : List Tg)
mutual
inductive E where
  | var (i : Nat)
  | cst (t : T)
  | tup (es : List E)
  | prim (p : Prim) (es : List E)
  | and (a b : E) | or (a b : E) | not (a : E) | ite (c a b : E)
  | call (f : Str) (es : List E)
  | meth (p : Prim) (o : E) (es : List E)
  | slc2 (a l u : E)
  | slcl (a l : E)
  | slcu (a u : E)
  | tmp (l : L)
  | own (l : L)
  | chain (p q : Prim) (a b c : E)
  | dcopy (e : E)
  | dnew
  | dict (ks : List Str) (es : List E)
  | fld (o : E) (f : Str)
inductive L where
  | disp (es : List E)
  | prim (p : LPrim) (es : List E)
  | comp (e : E) (tg : Tg) (vs : List Nat) (it : I) (c : E)
inductive I where
  | val (e : E)
  | rng1 (a : E)
  | rng2 (a b : E)
  | keys (e : E)
  | vals (e : E)
  | items (e : E)
end
inductive S where
  | asg (tg : Tg) (e : E)
  | setItem (o i v : E)
  | setFld (o : E) (f : Str) (v : E)
  | augName (i : Nat) (p : Prim) (e : E)
  | augItem (o i : E) (p : Prim) (e : E)
  | augFld (o : E) (f : Str) (p : Prim) (e : E)
  | expr (e : E)
  | cond (c : E) (a b : List S)
  | for_ (tg : Tg) (it : I) (body : List S)
  | while_ (c : E) (body : List S)
  | ret (e : E)
  | retN
  | brk | cont | pass

/-! ### values -/
/-- == : True is 1, False is 0 -/
def T.num : T → Option Int
  | .int i => some i
  | .bl b => some (if b then 1 else 0)
  | _ => none
mutual
def T.eqv : T → T → Bool
  | .non, .non => true
  | .bl a, .bl b => a == b
  | .bl a, .int b => decide ((if a = true then (1 : Int) else 0) = b)
  | .int a, .bl b => decide (a = (if b = true then (1 : Int) else 0))
  | .int a, .int b => decide (a = b)
  | .str a, .str b => decide (a = b)
  | .tup a, .tup b => T.eqvs a b
  | .lst a, .lst b => T.eqvs a b
  | _, _ => false
def T.eqvs : List T → List T → Bool
  | [], [] => true
  | x :: xs, y :: ys => T.eqv x y && T.eqvs xs ys
  | _, _ => false
end
-- data that == compares, its depth
mutual
def T.dat : T → Bool
  | .non => true
  | .bl _ => true
  | .int _ => true
  | .str x => strOk x
  | .tup xs => T.dats xs
  | .lst xs => T.dats xs
  | _ => false
def T.dats : List T → Bool
  | [] => true
  | x :: xs => T.dat x && T.dats xs
end
mutual
def T.dep : T → Nat
  | .tup xs => T.deps xs + 1
  | .lst xs => T.deps xs + 1
  | _ => 0
def T.deps : List T → Nat
  | [] => 0
  | x :: xs => max (T.dep x) (T.deps xs)
end
-- the order of data, by a row of numbers
mutual
def T.enc : T → List Int
  | .non => [1]
  | .int i => [2, i]
  | .str x => 3 :: (x.cps.toList.map (fun (c : Nat) => (c : Int) + 1) ++ [0])
  | .tup xs => 4 :: (T.encs xs ++ [0])
  | _ => []
def T.encs : List T → List Int
  | [] => []
  | x :: xs => T.enc x ++ T.encs xs
end
def ilt : List Int → List Int → Bool
  | [], _ :: _ => true
  | x :: xs, y :: ys => decide (x < y) || (decide (x = y) && ilt xs ys)
  | _, [] => false
def T.tlt (a b : T) : Bool := ilt (T.enc a) (T.enc b)
-- what has an order: whole numbers, texts, tuples of such, of one shape as far as they are compared
mutual
def T.cmp : T → T → Bool
  | .int _, .int _ => true
  | .str _, .str _ => true
  | .tup a, .tup b => T.cmps a b
  | _, _ => false
def T.cmps : List T → List T → Bool
  | x :: xs, y :: ys => (decide (x = y) || T.cmp x y) && T.cmps xs ys
  | _, _ => true
end
-- plain data: numbers, texts, None, tuples of such
mutual
def T.pl : T → Bool
  | .non => true
  | .int _ => true
  | .str x => strOk x
  | .tup xs => T.pls xs
  | _ => false
def T.pls : List T → Bool
  | [] => true
  | x :: xs => T.pl x && T.pls xs
end
/-- a thing's items as one reads them -/
def seqOf (G : GH) : T → Option (List T)
  | .lst ts => some ts
  | .tup ts => some ts
  | .scr ns => some (ns.map T.int)
  | .ref a => match G a with
    | some (.lst ts) => some ts
    | _ => none
  | _ => none
def lstOf (G : GH) : T → Option (List T)
  | .lst ts => some ts
  | .ref a => match G a with
    | some (.lst ts) => some ts
    | _ => none
  | _ => none
def dctOf (G : GH) : T → Option (List (T × T))
  | .dct ks vs => some (ks.zip vs)
  | .ref a => match G a with
    | some (.dct kvs) => some kvs
    | some (.lkd _ _ kvs) => some kvs
    | _ => none
  | _ => none
/-- a thing read as data -/
def datOf (G : GH) (t : T) : T := match t with
  | .ref a => match G a with
    | some (.lst ts) => .lst ts
    | _ => t
  | _ => t
def dget (kvs : List (T × T)) (k : T) : Option T := (kvs.find? fun p => decide (p.1 = k)).map (·.2)
def dput (kvs : List (T × T)) (k v : T) : List (T × T) :=
  if (dget kvs k).isSome then kvs.map fun p => if p.1 = k then (p.1, v) else p else kvs ++ [(k, v)]
/-- a key that goes with the keys of a dict: texts and numbers, or tuples -/
def keyOk (kvs : List (T × T)) (k : T) : Bool :=
  ((k.key?).isSome && kvs.all fun p => (p.1.key?).isSome) ||
  ((match k with | .tup _ => true | _ => false) && (k.nk?).isSome && decide (T.dep k ≤ 8) && kvs.all fun p => match p.1 with | .tup _ => true | _ => false)
def isTy (ty : String) : T → Bool
  | .non => false
  | .bl _ => decide (ty = "bool") || decide (ty = "int")
  | .int _ => decide (ty = "int")
  | .str _ => decide (ty = "str")
  | .tup _ => decide (ty = "tuple")
  | .lst _ => decide (ty = "list")
  | .dct _ _ => decide (ty = "dict")
  | .scr _ => decide (ty = "list")
  | .ref _ => false
/-- what sorted takes: all numbers, all texts, or all tuples whose first ones are so -/
def firstK : T → Nat
  | .int _ => 1
  | .str _ => 2
  | .tup (.int _ :: _) => 3
  | .tup (.str _ :: _) => 4
  | .tup (.tup _ :: _) => 5
  | _ => 0
def sortOk (ts : List T) : Bool := decide (ts.length < 2) || ts.all (fun t => firstK t == 1) || ts.all (fun t => firstK t == 2) || ts.all (fun t => firstK t == 3) || ts.all (fun t => firstK t == 4) || ts.all (fun t => firstK t == 5)
def isTyG (G : GH) (ty : String) : T → Option Bool
  | .ref a => match G a with
    | some (.lst _) => some (decide (ty = "list"))
    | some (.dct _) => some (decide (ty = "dict"))
    | some (.lkd _ _ _) => some (decide (ty = "dict"))
    | _ => none
  | t => some (isTy ty t)
def cutT (xs : List T) (lo hi : Option Int) : List T := (xs.drop (HT.sIx xs.length 0 lo)).take (HT.sIx xs.length xs.length hi - HT.sIx xs.length 0 lo)
def eqOk (a b : T) : Prop := T.dat a = true ∧ T.dat b = true ∧ T.dep a ≤ 64 ∧ T.dep b ≤ 64
def mem (x : T) (ts : List T) : Bool := ts.any fun y => T.eqv y x
abbrev QE := T → GH → Prop
def slcW (t : T) (lo hi : Option Int) (G : GH) (Q : QE) : Prop := match t with
  | .tup ts => Q (.tup (cutT ts lo hi)) G
  | .str x => x.length ≤ sizeLine ∧ Q (.str (cutS x lo hi)) G
  | t => ∃ ts, lstOf G t = some ts ∧ Q (.lst (cutT ts lo hi)) G
def Prim.wp : Prim → List T → GH → QE → Prop
  | .add, [.int i, .int j], G, Q => Q (.int (i + j)) G
  | .add, [.str a, .str b], G, Q => a.length + b.length ≤ sizeLine ∧ Q (.str (a ++ b)) G
  | .add, [.tup a, .tup b], G, Q => a.length + b.length ≤ sizeLine ∧ Q (.tup (a ++ b)) G
  | .add, [a, b], G, Q => ∃ ts us, lstOf G a = some ts ∧ lstOf G b = some us ∧ ts.length + us.length ≤ sizeLine ∧ Q (.lst (ts ++ us)) G
  | .iadd, [.int i, .int j], G, Q => Q (.int (i + j)) G
  | .iadd, [.str a, .str b], G, Q => a.length + b.length ≤ sizeLine ∧ Q (.str (a ++ b)) G
  | .sub, [.int i, .int j], G, Q => Q (.int (i - j)) G
  | .mul, [.int i, .int j], G, Q => CMul i j ∧ Q (.int (i * j)) G
  | .fdiv, [.int i, .int j], G, Q => (0 < j ∧ j < 1073741824) ∧ Q (.int (i / j)) G
  | .mod, [.int i, .int j], G, Q => 0 < j ∧ Q (.int (i % j)) G
  | .pow, [.int i, .int j], G, Q => CPow i j ∧ Q (.int (i ^ j.toNat)) G
  | .neg, [.int i], G, Q => Q (.int (-i)) G
  | .abs, [.int i], G, Q => Q (.int (if i < 0 then -i else i)) G
  | .int, [.int i], G, Q => Q (.int i) G
  | .int, [.bl b], G, Q => Q (.int (if b then 1 else 0)) G
  | .len, [.str x], G, Q => x.length ≤ sizeLine ∧ Q (.int x.length) G
  | .len, [t], G, Q => (∃ ts, seqOf G t = some ts ∧ Q (.int ts.length) G) ∨ (∃ kvs, dctOf G t = some kvs ∧ Q (.int kvs.length) G)
  | .eq, [a, b], G, Q => eqOk (datOf G a) (datOf G b) ∧ Q (.bl (T.eqv (datOf G a) (datOf G b))) G
  | .ne, [a, b], G, Q => eqOk (datOf G a) (datOf G b) ∧ Q (.bl (!T.eqv (datOf G a) (datOf G b))) G
  | .lt, [.int i, .int j], G, Q => Q (.bl (decide (i < j))) G
  | .le, [.int i, .int j], G, Q => Q (.bl (decide (i ≤ j))) G
  | .gt, [.int i, .int j], G, Q => Q (.bl (decide (j < i))) G
  | .ge, [.int i, .int j], G, Q => Q (.bl (decide (j ≤ i))) G
  | .isin, [x, .str y], G, Q => ∃ a, x = .str a ∧ Q (.bl (!(Builtin.Str.occurrences y a 0 y.length 1).isEmpty)) G
  | .isin, [x, t], G, Q => (∃ ts, seqOf G t = some ts ∧ T.dat x = true ∧ T.dats ts = true ∧ T.dep x ≤ 64 ∧ T.deps ts ≤ 63 ∧ Q (.bl (mem x ts)) G) ∨
      (∃ kvs, dctOf G t = some kvs ∧ keyOk kvs x = true ∧ Q (.bl (dget kvs x).isSome) G)
  | .notin, [x, .str y], G, Q => ∃ a, x = .str a ∧ Q (.bl (!(!(Builtin.Str.occurrences y a 0 y.length 1).isEmpty))) G
  | .notin, [x, t], G, Q => (∃ ts, seqOf G t = some ts ∧ T.dat x = true ∧ T.dats ts = true ∧ T.dep x ≤ 64 ∧ T.deps ts ≤ 63 ∧ Q (.bl (!mem x ts)) G) ∨
      (∃ kvs, dctOf G t = some kvs ∧ keyOk kvs x = true ∧ Q (.bl (!(dget kvs x).isSome)) G)
  | .isnone, [t], G, Q => Q (.bl (decide (t = .non))) G
  | .notnone, [t], G, Q => Q (.bl (!decide (t = .non))) G
  | .isi ty, [t], G, Q => ∃ b, isTyG G ty t = some b ∧ Q (.bl b) G
  | .idx, [.str x, .int i], G, Q => x.length ≤ sizeLine ∧ ∃ c, atI x.cps.toList i = some c ∧ Q (.str ⟨#[c]⟩) G
  | .idx, [t, k], G, Q => (∃ ts i v, seqOf G t = some ts ∧ k = .int i ∧ atI ts i = some v ∧ Q v G) ∨ (∃ kvs v, dctOf G t = some kvs ∧ keyOk kvs k = true ∧ dget kvs k = some v ∧ Q v G)
  | .tuple, [t], G, Q => (∃ ts, seqOf G t = some ts ∧ Q (.tup ts) G) ∨ (∃ kvs, dctOf G t = some kvs ∧ Q (.tup (kvs.map (·.1))) G)
  | .index, [t, x], G, Q => ∃ ts j, lstOf G t = some ts ∧ T.dat x = true ∧ T.dats ts = true ∧ T.dep x ≤ 64 ∧ T.deps ts ≤ 63 ∧ (ts.findIdx? fun y => T.eqv y x) = some j ∧ Q (.int (j : Nat)) G
  | .append, [.ref a, x], G, Q => ∃ ts, G a = some (.lst ts) ∧ ts.length < sizeLine ∧ Q .non (put G a (.lst (ts ++ [x])))
  | .extend, [.ref a, t], G, Q => ∃ ts us, G a = some (.lst ts) ∧ lstOf G t = some us ∧ t ≠ .ref a ∧ ts.length + us.length ≤ sizeLine ∧ Q .non (put G a (.lst (ts ++ us)))
  | .pop, [.ref a], G, Q => ∃ ts x, G a = some (.lst (ts ++ [x])) ∧ Q x (put G a (.lst ts))
  | .get1, [t, k], G, Q => ∃ kvs, dctOf G t = some kvs ∧ keyOk kvs k = true ∧ Q ((dget kvs k).getD .non) G
  | .get2, [t, k, d], G, Q => ∃ kvs, dctOf G t = some kvs ∧ keyOk kvs k = true ∧ Q ((dget kvs k).getD d) G
  | .str, [.int i], G, Q => i.natAbs.log2 < 1920 ∧ Q (.str (toString i)) G
  | .str, [.str x], G, Q => Q (.str x) G
  | .shl, [.int i, .int j], G, Q => CPow i j ∧ Q (.int (i * 2 ^ j.toNat)) G
  | .shr, [.int i, .int j], G, Q => 0 ≤ j ∧ Q (.int (i / 2 ^ j.toNat)) G
  | .band, [.int i, .int j], G, Q => Q (.int (Builtin.bitAnd i j)) G
  | .max2, [.int i, .int j], G, Q => Q (.int (if j > i then j else i)) G
  | .min2, [.int i, .int j], G, Q => Q (.int (if j < i then j else i)) G
  | .maxs, [t], G, Q => ∃ ns : List Int, lstOf G t = some (ns.map T.int) ∧ 0 < ns.length ∧ ∀ m, m ∈ ns → (∀ y, y ∈ ns → y ≤ m) → Q (.int m) G
  | .mins, [t], G, Q => ∃ ns : List Int, lstOf G t = some (ns.map T.int) ∧ 0 < ns.length ∧ ∀ m, m ∈ ns → (∀ y, y ∈ ns → m ≤ y) → Q (.int m) G
  | .sums, [t], G, Q => ∃ ns : List Int, lstOf G t = some (ns.map T.int) ∧ Q (.int ns.sum) G
  | _, _, _, _ => False
/-- the type of a method's object -/
def Prim.ty (p : Prim) (t : T) (G : GH) : Prop := match p with
  | .append => ∃ ts, lstOf G t = some ts
  | .extend => ∃ ts, lstOf G t = some ts
  | .pop => ∃ ts, lstOf G t = some ts
  | .popat => ∃ ts, lstOf G t = some ts
  | .index => ∃ ts, lstOf G t = some ts
  | .get1 => ∃ kvs, dctOf G t = some kvs
  | .get2 => ∃ kvs, dctOf G t = some kvs
  | _ => ∃ x, t = .str x
def LPrim.wp : LPrim → List T → GH → (List T → GH → Prop) → Prop
  | .sorted, [t], G, Q => ∃ ts, (seqOf G t = some ts ∨ ∃ kvs, dctOf G t = some kvs ∧ ts = kvs.map (·.1)) ∧ ts.length ≤ sizeLine ∧ T.pls ts = true ∧ T.deps ts ≤ 60 ∧ sortOk ts = true ∧ (∀ x ∈ ts, ∀ y ∈ ts, x = y ∨ T.cmp x y = true) ∧
      ∀ us : List T, us.Perm ts → us.Pairwise (fun x y => T.tlt y x = false) → Q us G
  | .list, [t], G, Q => ∃ ts, (seqOf G t = some ts ∨ ∃ kvs, dctOf G t = some kvs ∧ ts = kvs.map (·.1)) ∧ Q ts G
  | .cat, [a, b], G, Q => ∃ ts us, lstOf G a = some ts ∧ lstOf G b = some us ∧ ts.length + us.length ≤ sizeLine ∧ Q (ts ++ us) G
  | _, _, _, _ => False

/-! ### what a piece of syntax wants -/
abbrev XQ := Str → List (Str × T) → GH → Prop
/-- calls of defs: name, arguments, heap, what follows, what is raised -/
abbrev Calls := Str → List T → GH → QE → XQ → Prop
def noX : XQ := fun _ _ _ => False
structure DE where
  nx : Sl → GH → Prop
  rt : QE
  bk : Sl → GH → Prop := fun _ _ => False
  ct : Sl → GH → Prop := fun _ _ => False
/-- a dict that is locked: where, its object, its entries -/
abbrev Lk := Addr × Obj × List (Key × V) × List (T × T)
/-- behind a loop: what was locked is free again -/
abbrev DE.wr (l : Option Lk) (D : DE) : DE := match l with
  | none => D
  | some (a, ob, kv, kvs) => ⟨fun τ G => G a = some (.lkd ob kv kvs) ∧ D.nx τ (put G a (.dct kvs)), fun t G => G a = some (.lkd ob kv kvs) ∧ D.rt t (put G a (.dct kvs)),
    fun τ G => G a = some (.lkd ob kv kvs) ∧ D.bk τ (put G a (.dct kvs)), fun τ G => G a = some (.lkd ob kv kvs) ∧ D.ct τ (put G a (.dct kvs))⟩
abbrev wcF (l : Option Lk) (Q : List T → GH → Prop) : List T → GH → Prop := match l with
  | none => Q
  | some (a, ob, kv, kvs) => fun ts G => G a = some (.lkd ob kv kvs) ∧ Q ts (put G a (.dct kvs))
/-- what a loop walks: its items, what must stay so at each turn -/
structure ItV where
  its : List T
  ok : GH → Prop
  lk : Option Lk
def isT (Q : Bool → GH → Prop) : QE := fun t G => match t with
  | .bl b => Q b G
  | _ => False
mutual
def Tg.wp : Tg → T → Sl → (Sl → Prop) → Prop
  | .name i, t, τ, Q => Q (τ.set i (some t))
  | .tup ts, t, τ, Q => match t with
    | .tup xs => xs.length = ts.length ∧ Tg.wps ts xs τ Q
    | _ => False
def Tg.wps : List Tg → List T → Sl → (Sl → Prop) → Prop
  | [], [], τ, Q => Q τ
  | g :: gs, x :: xs, τ, Q => Tg.wp g x τ fun τ' => Tg.wps gs xs τ' Q
  | _, _, _, _ => False
end
def wipeS (τ : Sl) : List Nat → Sl
  | [] => τ
  | v :: vs => (wipeS τ vs).set v none
/-- a comprehension's turns -/
def compW (ok : GH → Prop) (turn : T → GH → (Option T → GH → Prop) → Prop) : List T → List T → GH → (List T → GH → Prop) → Prop
  | [], acc, G, Q => ok G ∧ Q acc G
  | x :: r, acc, G, Q => ok G ∧ turn x G fun y G' => match y with
    | some y => acc.length < sizeLine ∧ compW ok turn r (acc ++ [y]) G' Q
    | none => compW ok turn r acc G' Q
def keysOk (kvs : List (T × T)) : Bool := kvs.all fun p => (p.1.key?).isSome
/-- a dict is locked while its keys, values, items are walked -/
def lockW (W : GH → QE → Prop) (f : List (T × T) → List T) (G : GH) (Q : ItV → GH → Prop) : Prop := ∃ a kvs, G a = some (.dct kvs) ∧ keysOk kvs = true ∧ ∀ ob kv, W (put G a (.lkd ob kv kvs)) fun t G' =>
  t = .ref a ∧ G' a = some (.lkd ob kv kvs) ∧ Q ⟨f kvs, fun G'' => G'' a = some (.lkd ob kv kvs), some (a, ob, kv, kvs)⟩ G'
def dzip (ks : List Str) (ts : List T) : List (T × T) := (ks.map T.str).zip ts
mutual
def wE (C : Calls) (R : XQ) : E → Sl → GH → QE → Prop
  | .var i, τ, G, Q => match τ[i]? with
    | some (some t) => Q t G
    | _ => False
  | .cst t, _, G, Q => Q t G
  | .tup es, τ, G, Q => wEs C R es τ G fun ts G' => ts.length ≤ sizeLine ∧ Q (.tup ts) G'
  | .prim p es, τ, G, Q => wEs C R es τ G fun ts G' => p.wp ts G' Q
  | .and a b, τ, G, Q => wE C R a τ G fun t G' => match t with
    | .bl true => wE C R b τ G' Q
    | .bl false => Q (.bl false) G'
    | _ => False
  | .or a b, τ, G, Q => wE C R a τ G fun t G' => match t with
    | .bl true => Q (.bl true) G'
    | .bl false => wE C R b τ G' Q
    | _ => False
  | .not a, τ, G, Q => wE C R a τ G fun t G' => match t with
    | .bl b => Q (.bl (!b)) G'
    | _ => False
  | .ite c a b, τ, G, Q => wE C R c τ G fun t G' => match t with
    | .bl true => wE C R a τ G' Q
    | .bl false => wE C R b τ G' Q
    | _ => False
  | .call f es, τ, G, Q => wEs C R es τ G fun ts G' => C f ts G' Q R
  | .meth p o es, τ, G, Q => wE C R o τ G fun t G' => p.ty t G' ∧ wEs C R es τ G' fun ts G'' => p.wp (t :: ts) G'' Q
  | .slc2 a l u, τ, G, Q => wE C R a τ G fun t G1 => wE C R l τ G1 fun x G2 => ∃ i, x = .int i ∧ wE C R u τ G2 fun y G3 => ∃ j, y = .int j ∧ slcW t (some i) (some j) G3 Q
  | .slcl a l, τ, G, Q => wE C R a τ G fun t G1 => wE C R l τ G1 fun x G2 => ∃ i, x = .int i ∧ slcW t (some i) none G2 Q
  | .slcu a u, τ, G, Q => wE C R a τ G fun t G1 => wE C R u τ G1 fun y G2 => ∃ j, y = .int j ∧ slcW t none (some j) G2 Q
  | .tmp l, τ, G, Q => wL C R l τ G fun ts G' => Q (.lst ts) G'
  | .own l, τ, G, Q => wL C R l τ G fun ts G' => ∀ p, G' p = none → Q (.ref p) (put G' p (.lst ts))
  | .chain p q a b c, τ, G, Q => wE C R a τ G fun x G1 => wE C R b τ G1 fun y G2 => p.wp [x, y] G2 fun t G3 => match t with
    | .bl true => wE C R c τ G3 fun z G4 => q.wp [y, z] G4 Q
    | .bl false => Q (.bl false) G3
    | _ => False
  | .dcopy e, τ, G, Q => wE C R e τ G fun t G' => ∃ kvs, dctOf G' t = some kvs ∧ (kvs.all fun p => (p.1.key?).isSome) = true ∧ ∀ p, G' p = none → Q (.ref p) (put G' p (.dct kvs))
  | .dnew, _, G, Q => ∀ p, G p = none → Q (.ref p) (put G p (.dct []))
  | .dict ks es, τ, G, Q => wEs C R es τ G fun ts G' => ts.length = ks.length ∧ ks.length ≤ 15 ∧ ∀ p, G' p = none → Q (.ref p) (put G' p (.dct (dzip ks ts)))
  | .fld o f, τ, G, Q => wE C R o τ G fun t G' => ∃ a c fs v, t = .ref a ∧ G' a = some (.ins c fs) ∧ fs.lookup f = some v ∧ Q v G'
def wEs (C : Calls) (R : XQ) : List E → Sl → GH → (List T → GH → Prop) → Prop
  | [], _, G, Q => Q [] G
  | e :: es, τ, G, Q => wE C R e τ G fun t G' => wEs C R es τ G' fun ts G'' => Q (t :: ts) G''
def wL (C : Calls) (R : XQ) : L → Sl → GH → (List T → GH → Prop) → Prop
  | .disp es, τ, G, Q => wEs C R es τ G fun ts G' => ts.length ≤ sizeLine ∧ Q ts G'
  | .prim p es, τ, G, Q => wEs C R es τ G fun ts G' => p.wp ts G' Q
  | .comp e tg vs it c, τ, G, Q => wI C R it τ G fun iv G' => compW iv.ok (fun x G1 k => Tg.wp tg x (wipeS τ vs) fun τ1 => wE C noX c τ1 G1 fun t G2 => match t with
      | .bl true => wE C noX e τ1 G2 fun y G3 => k (some y) G3
      | .bl false => k none G2
      | _ => False) iv.its [] G' (wcF iv.lk Q)
def wI (C : Calls) (R : XQ) : I → Sl → GH → (ItV → GH → Prop) → Prop
  | .val e, τ, G, Q => wE C R e τ G fun t G' => match t with
    | .lst ts => Q ⟨ts, fun _ => True, none⟩ G'
    | .tup ts => Q ⟨ts, fun _ => True, none⟩ G'
    | .str x => Q ⟨x.cps.toList.map fun c => T.str ⟨#[c]⟩, fun _ => True, none⟩ G'
    | .ref a => ∃ ts, G' a = some (.lst ts) ∧ Q ⟨ts, fun G'' => G'' a = some (.lst ts), none⟩ G'
    | _ => False
  | .rng1 a, τ, G, Q => wE C R a τ G fun t G' => match t with
    | .int n => (-(2 ^ 62) ≤ n ∧ n < 2 ^ 62) ∧ Q ⟨(List.range n.toNat).map fun k => T.int (k : Nat), fun _ => True, none⟩ G'
    | _ => False
  | .rng2 a b, τ, G, Q => wE C R a τ G fun t G' => wE C R b τ G' fun u G'' => match t, u with
    | .int m, .int n => (-(2 ^ 62) ≤ m ∧ m < 2 ^ 62 ∧ -(2 ^ 62) ≤ n ∧ n < 2 ^ 62) ∧ Q ⟨(List.range (n - m).toNat).map fun k => T.int (m + (k : Nat)), fun _ => True, none⟩ G''
    | _, _ => False
  | .keys e, τ, G, Q => lockW (fun G Q => wE C R e τ G Q) (fun kvs => kvs.map (·.1)) G Q
  | .vals e, τ, G, Q => lockW (fun G Q => wE C R e τ G Q) (fun kvs => kvs.map (·.2)) G Q
  | .items e, τ, G, Q => lockW (fun G Q => wE C R e τ G Q) (fun kvs => kvs.map fun p => T.tup [p.1, p.2]) G Q
end

/-! ### knowing less -/
-- lists of ours that become lists that nobody will change
mutual
inductive Frz (G G' : GH) : T → T → Prop
  | same (t : T) : Frz G G' t t
  | lst {a : Addr} {ts us : List T} : G a = some (.lst ts) → G' a = none → Frzs G G' ts us → Frz G G' (.ref a) (.lst us)
  | tup {ts us : List T} : Frzs G G' ts us → Frz G G' (.tup ts) (.tup us)
inductive Frzs (G G' : GH) : List T → List T → Prop
  | nil : Frzs G G' [] []
  | cons {t u : T} {ts us : List T} : Frz G G' t u → Frzs G G' ts us → Frzs G G' (t :: ts) (u :: us)
end
theorem Frzs.same {G G' : GH} : ∀ ts : List T, Frzs G G' ts ts
  | [] => .nil
  | t :: ts => .cons (.same t) (Frzs.same ts)
/-- slots that are known less -/
inductive Wks (G G' : GH) : Sl → Sl → Prop
  | nil : Wks G G' [] []
  | drop {x : Option T} {τ τ' : Sl} : Wks G G' τ τ' → Wks G G' (x :: τ) (none :: τ')
  | keep {t t' : T} {τ τ' : Sl} : Frz G G' t t' → Wks G G' τ τ' → Wks G G' (some t :: τ) (some t' :: τ')
theorem Wks.same {G G' : GH} : ∀ τ : Sl, Wks G G' τ τ
  | [] => .nil
  | none :: τ => .drop (Wks.same τ)
  | some t :: τ => .keep (.same t) (Wks.same τ)
def Wk (τ : Sl) (G : GH) (τ' : Sl) (G' : GH) : Prop := Sub G' G ∧ Wks G G' τ τ'
theorem Wk.refl (τ : Sl) (G : GH) : Wk τ G τ G := ⟨Sub.refl G, Wks.same τ⟩

/-! ### statements -/
def setW (o i v : T) (G : GH) (Q : GH → Prop) : Prop := match o with
  | .ref a => match G a with
    | some (.lst ts) => ∃ j k, i = .int j ∧ ixN ts.length j = some k ∧ Q (put G a (.lst (ts.set k v)))
    | some (.dct kvs) => keyOk kvs i = true ∧ kvs.length < sizeLine ∧ Q (put G a (.dct (dput kvs i v)))
    | _ => False
  | _ => False
def putFT (f : Str) (v : T) : List (Str × T) → List (Str × T)
  | [] => [(f, v)]
  | p :: r => if p.1 = f then (f, v) :: r else p :: putFT f v r
def setFldW (o : T) (f : Str) (v : T) (G : GH) (Q : GH → Prop) : Prop := match o with
  | .ref a => match G a with
    | some (.ins c fs) => fs.length < 1000 ∧ Q (put G a (.ins c (putFT f v fs)))
    | _ => False
  | _ => False
def againW (W : Sl → GH → Prop) : Sl → GH → Prop := fun τ G => ∃ τ' G', Wk τ G τ' G' ∧ W τ' G'
def forW (ok : GH → Prop) (turn : T → DE → Sl → GH → Prop) (D : DE) : List T → Sl → GH → Prop
  | [], τ, G => ok G ∧ D.nx τ G
  | x :: r, τ, G => ok G ∧ turn x { nx := againW (forW ok turn D r), rt := D.rt, bk := D.nx, ct := againW (forW ok turn D r) } τ G
def whileW (step : (Sl → GH → Prop) → Sl → GH → Prop) : Nat → Sl → GH → Prop
  | 0 => fun _ _ => False
  | n + 1 => step (againW (whileW step n))
mutual
def wS (C : Calls) (R : XQ) : S → DE → Sl → GH → Prop
  | .asg tg e, D, τ, G => wE C R e τ G fun t G' => Tg.wp tg t τ fun τ' => D.nx τ' G'
  | .setItem o i v, D, τ, G => wE C R v τ G fun x G1 => wE C R o τ G1 fun y G2 => wE C R i τ G2 fun z G3 => setW y z x G3 fun G4 => D.nx τ G4
  | .setFld o f v, D, τ, G => wE C R v τ G fun x G1 => wE C R o τ G1 fun y G2 => setFldW y f x G2 fun G3 => D.nx τ G3
  | .augName i p e, D, τ, G => match τ[i]? with
    | some (some x) => wE C R e τ G fun y G1 => p.wp [x, y] G1 fun z G2 => D.nx (τ.set i (some z)) G2
    | _ => False
  | .augItem o i p e, D, τ, G => wE C R o τ G fun x G1 => wE C R i τ G1 fun y G2 => (∃ a, x = .ref a) ∧ Prim.idx.wp [x, y] G2 fun z G3 => wE C R e τ G3 fun v G4 => p.wp [z, v] G4 fun u G5 => setW x y u G5 fun G6 => D.nx τ G6
  | .augFld o f p e, D, τ, G => wE C R o τ G fun x G1 => ∃ a c fs z, x = .ref a ∧ G1 a = some (.ins c fs) ∧ fs.lookup f = some z ∧ wE C R e τ G1 fun v G4 => p.wp [z, v] G4 fun u G5 => setFldW x f u G5 fun G6 => D.nx τ G6
  | .expr e, D, τ, G => wE C R e τ G fun _ G' => D.nx τ G'
  | .cond c a b, D, τ, G => wE C R c τ G fun t G' => match t with
    | .bl true => wSs C R a D τ G'
    | .bl false => wSs C R b D τ G'
    | _ => False
  | .for_ tg it body, D, τ, G => wI C R it τ G fun iv G' => forW iv.ok (fun x D' τ1 G1 => Tg.wp tg x τ1 fun τ2 => wSs C R body D' τ2 G1) (D.wr iv.lk) iv.its τ G'
  | .while_ c body, D, τ, G => ∃ n, whileW (fun W τ1 G1 => wE C R c τ1 G1 fun t G2 => match t with
      | .bl true => wSs C R body { nx := W, rt := D.rt, bk := D.nx, ct := W } τ1 G2
      | .bl false => D.nx τ1 G2
      | _ => False) n τ G
  | .ret e, D, τ, G => wE C R e τ G D.rt
  | .retN, D, _, G => D.rt .non G
  | .brk, D, τ, G => D.bk τ G
  | .cont, D, τ, G => D.ct τ G
  | .pass, D, τ, G => D.nx τ G
def wSs (C : Calls) (R : XQ) : List S → DE → Sl → GH → Prop
  | [], D, τ, G => D.nx τ G
  | s :: r, D, τ, G => wS C R s { nx := wSs C R r D, rt := D.rt, bk := D.bk, ct := D.ct } τ G
end

/-! ### a table of defs -/
structure FDef where
  np : Nat
  ns : Nat
  body : List S
def exitW (Q : QE) : QE := fun t G => ∃ t' G', Sub G' G ∧ Frz G G' t t' ∧ Q t' G'
def startS (n : Nat) (ts : List T) : Sl := ts.map some ++ List.replicate (n - ts.length) none
def callW (Δ : Str → Option FDef) : Nat → Calls
  | 0 => fun _ _ _ _ _ => False
  | n + 1 => fun f ts G Q R => match Δ f with
    | some d => ts.length = d.np ∧ wSs (callW Δ n) R d.body { nx := fun _ G' => exitW Q .non G', rt := exitW Q } (startS d.ns ts) G
    | none => False

/-! ### wanting less -/
def QLe (Q Q' : QE) : Prop := ∀ t G, Q t G → Q' t G
def XLe (R R' : XQ) : Prop := ∀ c fs G, R c fs G → R' c fs G
def CLe (C C' : Calls) : Prop := ∀ f ts G Q Q' R R', QLe Q Q' → XLe R R' → C f ts G Q R → C' f ts G Q' R'
structure DLe (D D' : DE) : Prop where
  nx : ∀ τ G, D.nx τ G → D'.nx τ G
  rt : QLe D.rt D'.rt
  bk : ∀ τ G, D.bk τ G → D'.bk τ G
  ct : ∀ τ G, D.ct τ G → D'.ct τ G
theorem DLe.of {a a' : Sl → GH → Prop} {b b' : QE} {c c' d d' : Sl → GH → Prop} (h1 : ∀ τ G, a τ G → a' τ G) (h2 : QLe b b') (h3 : ∀ τ G, c τ G → c' τ G) (h4 : ∀ τ G, d τ G → d' τ G) : DLe ⟨a, b, c, d⟩ ⟨a', b', c', d'⟩ := ⟨h1, h2, h3, h4⟩
theorem slcW_mono {t : T} {lo hi : Option Int} {G : GH} {Q Q' : QE} (h : QLe Q Q') (q : slcW t lo hi G Q) : slcW t lo hi G Q' := by
  unfold slcW at q ⊢
  split at q
  · exact h _ _ q
  · exact ⟨q.1, h _ _ q.2⟩
  · obtain ⟨ts, e, q⟩ := q; exact ⟨ts, e, h _ _ q⟩
theorem Prim.mono (p : Prim) (ts : List T) (G : GH) {Q Q' : QE} (h : QLe Q Q') : p.wp ts G Q → p.wp ts G Q' := by
  unfold Prim.wp
  split <;> intro q <;> first
    | exact h _ _ q
    | exact q.elim
    | exact slcW_mono h q
    | (refine q.imp ?_ ?_ <;> intro q <;> (first | (obtain ⟨a, e, e1, e2, e3, e4, q⟩ := q; exact ⟨a, e, e1, e2, e3, e4, h _ _ q⟩) | (obtain ⟨a, b, c, e, e1, e2, q⟩ := q; exact ⟨a, b, c, e, e1, e2, h _ _ q⟩) | (obtain ⟨a, b, e, e1, e2, q⟩ := q; exact ⟨a, b, e, e1, e2, h _ _ q⟩) | (obtain ⟨a, e, e1, q⟩ := q; exact ⟨a, e, e1, h _ _ q⟩) | (obtain ⟨a, e, q⟩ := q; exact ⟨a, e, h _ _ q⟩)))
    | (refine ⟨q.1, ?_⟩; exact h _ _ q.2)
    | (obtain ⟨a, e, e1, q⟩ := q; exact ⟨a, e, e1, fun m h1 h2 => h _ _ (q m h1 h2)⟩)
    | (obtain ⟨a, b, e, e1, e2, e3, e4, e5, q⟩ := q; exact ⟨a, b, e, e1, e2, e3, e4, e5, h _ _ q⟩)
    | (obtain ⟨a, b, e, e1, e2, e3, q⟩ := q; exact ⟨a, b, e, e1, e2, e3, h _ _ q⟩)
    | (obtain ⟨a, b, e, e1, e2, q⟩ := q; exact ⟨a, b, e, e1, e2, h _ _ q⟩)
    | (obtain ⟨a, b, e, e1, q⟩ := q; exact ⟨a, b, e, e1, h _ _ q⟩)
    | (obtain ⟨a, b, e, q⟩ := q; exact ⟨a, b, e, h _ _ q⟩)
    | (obtain ⟨a, b, q⟩ := q; exact ⟨a, b, h _ _ q⟩)
theorem LPrim.mono (p : LPrim) (ts : List T) (G : GH) {Q Q' : List T → GH → Prop} (h : ∀ us G, Q us G → Q' us G) : p.wp ts G Q → p.wp ts G Q' := by
  unfold LPrim.wp
  split <;> intro q <;> first
    | exact q.elim
    | (obtain ⟨a, e, e1, e2, e3, e4, e5, q⟩ := q; exact ⟨a, e, e1, e2, e3, e4, e5, fun us p1 p2 => h _ _ (q us p1 p2)⟩)
    | (obtain ⟨a, b, e, e1, e2, q⟩ := q; exact ⟨a, b, e, e1, e2, h _ _ q⟩)
    | (obtain ⟨a, e, q⟩ := q; exact ⟨a, e, h _ _ q⟩)
mutual
theorem Tg.mono : ∀ (g : Tg) (t : T) (τ : Sl) {Q Q' : Sl → Prop}, (∀ τ, Q τ → Q' τ) → Tg.wp g t τ Q → Tg.wp g t τ Q'
  | .name i, t, τ, Q, Q', h, q => h _ q
  | .tup gs, t, τ, Q, Q', h, q => by
    cases t with
    | tup xs => exact ⟨q.1, Tg.monos gs xs τ h q.2⟩
    | _ => exact q.elim
theorem Tg.monos : ∀ (gs : List Tg) (ts : List T) (τ : Sl) {Q Q' : Sl → Prop}, (∀ τ, Q τ → Q' τ) → Tg.wps gs ts τ Q → Tg.wps gs ts τ Q'
  | [], [], τ, Q, Q', h, q => h _ q
  | g :: gs, t :: ts, τ, Q, Q', h, q => by
    rw [Tg.wps] at q ⊢
    exact Tg.mono g t τ (fun τ' => Tg.monos gs ts τ' h) q
  | [], _ :: _, τ, Q, Q', h, q => by simp [Tg.wps] at q
  | _ :: _, [], τ, Q, Q', h, q => by simp [Tg.wps] at q
end
theorem wcF_mono {l : Option Lk} {Q Q' : List T → GH → Prop} (h : ∀ ts G, Q ts G → Q' ts G) : ∀ ts G, wcF l Q ts G → wcF l Q' ts G := by
  cases l with
  | none => exact h
  | some l => exact fun ts G z => ⟨z.1, h _ _ z.2⟩
theorem DLe.wr {D D' : DE} (h : DLe D D') (l : Option Lk) : DLe (D.wr l) (D'.wr l) := by
  cases l with
  | none => exact h
  | some l => exact ⟨fun τ G z => ⟨z.1, h.nx _ _ z.2⟩, fun t G z => ⟨z.1, h.rt _ _ z.2⟩, fun τ G z => ⟨z.1, h.bk _ _ z.2⟩, fun τ G z => ⟨z.1, h.ct _ _ z.2⟩⟩
theorem lock_mono {W W' : GH → QE → Prop} {f : List (T × T) → List T} (hW : ∀ G Q Q', QLe Q Q' → W G Q → W' G Q') {G : GH} {Q Q' : ItV → GH → Prop} (h : ∀ iv G, Q iv G → Q' iv G) (q : lockW W f G Q) : lockW W' f G Q' := by
  obtain ⟨a, kvs, e1, e2, q⟩ := q
  exact ⟨a, kvs, e1, e2, fun ob kv => hW _ _ _ (fun t G' ⟨z1, z2, z3⟩ => ⟨z1, z2, h _ _ z3⟩) (q ob kv)⟩
theorem compW_mono {ok : GH → Prop} {turn turn' : T → GH → (Option T → GH → Prop) → Prop} (ht : ∀ x G k k', (∀ y G, k y G → k' y G) → turn x G k → turn' x G k') :
    ∀ (xs acc : List T) (G : GH) {Q Q' : List T → GH → Prop}, (∀ ts G, Q ts G → Q' ts G) → compW ok turn xs acc G Q → compW ok turn' xs acc G Q'
  | [], acc, G, Q, Q', h, q => ⟨q.1, h _ _ q.2⟩
  | x :: r, acc, G, Q, Q', h, q => ⟨q.1, ht x G _ _ (fun y G' z => by
    cases y with
    | some y => exact ⟨z.1, compW_mono ht r _ G' h z.2⟩
    | none => exact compW_mono ht r _ G' h z) q.2⟩
section
variable {C C' : Calls} (hC : CLe C C')
include hC
mutual
theorem wE_mono : ∀ (e : E) {R R' : XQ} (τ : Sl) (G : GH) {Q Q' : QE}, XLe R R' → QLe Q Q' → wE C R e τ G Q → wE C' R' e τ G Q'
  | .var i, R, R', τ, G, Q, Q', hR, h, q => by
    rw [wE] at q ⊢
    split at q
    · exact h _ _ q
    · exact q.elim
  | .cst t, R, R', τ, G, Q, Q', hR, h, q => by rw [wE] at q ⊢; exact h _ _ q
  | .tup es, R, R', τ, G, Q, Q', hR, h, q => by rw [wE] at q ⊢; exact wEs_mono es τ G hR (fun ts G' z => ⟨z.1, h _ _ z.2⟩) q
  | .prim p es, R, R', τ, G, Q, Q', hR, h, q => by rw [wE] at q ⊢; exact wEs_mono es τ G hR (fun ts G' => p.mono ts G' h) q
  | .and a b, R, R', τ, G, Q, Q', hR, h, q => by
    rw [wE] at q ⊢
    refine wE_mono a τ G hR (fun t G' z => ?_) q
    split at z
    · exact wE_mono b τ G' hR h z
    · exact h _ _ z
    · exact z.elim
  | .or a b, R, R', τ, G, Q, Q', hR, h, q => by
    rw [wE] at q ⊢
    refine wE_mono a τ G hR (fun t G' z => ?_) q
    split at z
    · exact h _ _ z
    · exact wE_mono b τ G' hR h z
    · exact z.elim
  | .not a, R, R', τ, G, Q, Q', hR, h, q => by
    rw [wE] at q ⊢
    refine wE_mono a τ G hR (fun t G' z => ?_) q
    split at z
    · exact h _ _ z
    · exact z.elim
  | .ite c a b, R, R', τ, G, Q, Q', hR, h, q => by
    rw [wE] at q ⊢
    refine wE_mono c τ G hR (fun t G' z => ?_) q
    split at z
    · exact wE_mono a τ G' hR h z
    · exact wE_mono b τ G' hR h z
    · exact z.elim
  | .call f es, R, R', τ, G, Q, Q', hR, h, q => by rw [wE] at q ⊢; exact wEs_mono es τ G hR (fun ts G' => hC f ts G' Q Q' R R' h hR) q
  | .meth p o es, R, R', τ, G, Q, Q', hR, h, q => by rw [wE] at q ⊢; exact wE_mono o τ G hR (fun t G' z => ⟨z.1, wEs_mono es τ G' hR (fun ts G'' => p.mono _ G'' h) z.2⟩) q
  | .slc2 a l u, R, R', τ, G, Q, Q', hR, h, q => by
    rw [wE] at q ⊢
    exact wE_mono a τ G hR (fun t G1 => wE_mono l τ G1 hR fun x G2 ⟨i, e, z⟩ => ⟨i, e, wE_mono u τ G2 hR (fun y G3 ⟨j, e, z⟩ => ⟨j, e, slcW_mono h z⟩) z⟩) q
  | .slcl a l, R, R', τ, G, Q, Q', hR, h, q => by
    rw [wE] at q ⊢
    exact wE_mono a τ G hR (fun t G1 => wE_mono l τ G1 hR fun x G2 ⟨i, e, z⟩ => ⟨i, e, slcW_mono h z⟩) q
  | .slcu a u, R, R', τ, G, Q, Q', hR, h, q => by
    rw [wE] at q ⊢
    exact wE_mono a τ G hR (fun t G1 => wE_mono u τ G1 hR fun x G2 ⟨i, e, z⟩ => ⟨i, e, slcW_mono h z⟩) q
  | .tmp l, R, R', τ, G, Q, Q', hR, h, q => by rw [wE] at q ⊢; exact wL_mono l τ G hR (fun ts G' => h _ _) q
  | .own l, R, R', τ, G, Q, Q', hR, h, q => by rw [wE] at q ⊢; exact wL_mono l τ G hR (fun ts G' z p hp => h _ _ (z p hp)) q
  | .chain p q' a b c, R, R', τ, G, Q, Q', hR, h, q => by
    rw [wE] at q ⊢
    refine wE_mono a τ G hR (fun x G1 => wE_mono b τ G1 hR (fun y G2 => p.mono _ G2 (fun t G3 z => ?_))) q
    split at z
    · exact wE_mono c τ G3 hR (fun z G4 => q'.mono _ G4 h) z
    · exact h _ _ z
    · exact z.elim
  | .dcopy e, R, R', τ, G, Q, Q', hR, h, q => by rw [wE] at q ⊢; exact wE_mono e τ G hR (fun t G' ⟨kvs, e1, e2, z⟩ => ⟨kvs, e1, e2, fun p hp => h _ _ (z p hp)⟩) q
  | .dnew, R, R', τ, G, Q, Q', hR, h, q => by rw [wE] at q ⊢; exact fun p hp => h _ _ (q p hp)
  | .dict ks es, R, R', τ, G, Q, Q', hR, h, q => by rw [wE] at q ⊢; exact wEs_mono es τ G hR (fun ts G' z => ⟨z.1, z.2.1, fun p hp => h _ _ (z.2.2 p hp)⟩) q
  | .fld o f, R, R', τ, G, Q, Q', hR, h, q => by
    rw [wE] at q ⊢
    exact wE_mono o τ G hR (fun t G' ⟨a, c, fs, v, e1, e2, e3, z⟩ => ⟨a, c, fs, v, e1, e2, e3, h _ _ z⟩) q
theorem wEs_mono : ∀ (es : List E) {R R' : XQ} (τ : Sl) (G : GH) {Q Q' : List T → GH → Prop}, XLe R R' → (∀ ts G, Q ts G → Q' ts G) → wEs C R es τ G Q → wEs C' R' es τ G Q'
  | [], R, R', τ, G, Q, Q', hR, h, q => by rw [wEs] at q ⊢; exact h _ _ q
  | e :: es, R, R', τ, G, Q, Q', hR, h, q => by rw [wEs] at q ⊢; exact wE_mono e τ G hR (fun t G' => wEs_mono es τ G' hR fun ts G'' => h _ _) q
theorem wL_mono : ∀ (l : L) {R R' : XQ} (τ : Sl) (G : GH) {Q Q' : List T → GH → Prop}, XLe R R' → (∀ ts G, Q ts G → Q' ts G) → wL C R l τ G Q → wL C' R' l τ G Q'
  | .disp es, R, R', τ, G, Q, Q', hR, h, q => by rw [wL] at q ⊢; exact wEs_mono es τ G hR (fun ts G' z => ⟨z.1, h _ _ z.2⟩) q
  | .prim p es, R, R', τ, G, Q, Q', hR, h, q => by rw [wL] at q ⊢; exact wEs_mono es τ G hR (fun ts G' => p.mono ts G' h) q
  | .comp e tg vs it c, R, R', τ, G, Q, Q', hR, h, q => by
    rw [wL] at q ⊢
    refine wI_mono it τ G hR (fun iv G' z => compW_mono (fun x G1 k k' hk => ?_) _ _ G' (wcF_mono h) z) q
    refine Tg.mono tg x _ fun τ1 => wE_mono c τ1 G1 (fun _ _ _ z => z) fun t G2 z => ?_
    split at z
    · exact wE_mono e τ1 G2 (fun _ _ _ z => z) (fun y G3 => hk _ _) z
    · exact hk _ _ z
    · exact z.elim
theorem wI_mono : ∀ (it : I) {R R' : XQ} (τ : Sl) (G : GH) {Q Q' : ItV → GH → Prop}, XLe R R' → (∀ iv G, Q iv G → Q' iv G) → wI C R it τ G Q → wI C' R' it τ G Q'
  | .val e, R, R', τ, G, Q, Q', hR, h, q => by
    rw [wI] at q ⊢
    refine wE_mono e τ G hR (fun t G' z => ?_) q
    split at z
    · exact h _ _ z
    · exact h _ _ z
    · exact h _ _ z
    · obtain ⟨ts, e1, z⟩ := z; exact ⟨ts, e1, h _ _ z⟩
    · exact z.elim
  | .rng1 a, R, R', τ, G, Q, Q', hR, h, q => by
    rw [wI] at q ⊢
    refine wE_mono a τ G hR (fun t G' z => ?_) q
    split at z
    · exact ⟨z.1, h _ _ z.2⟩
    · exact z.elim
  | .rng2 a b, R, R', τ, G, Q, Q', hR, h, q => by
    rw [wI] at q ⊢
    refine wE_mono a τ G hR (fun t G' => wE_mono b τ G' hR (fun u G'' z => ?_)) q
    split at z
    · exact ⟨z.1, h _ _ z.2⟩
    · exact z.elim
  | .keys e, R, R', τ, G, Q, Q', hR, h, q => by rw [wI] at q ⊢; exact lock_mono (fun G1 Q1 Q2 hq z => wE_mono e τ G1 hR hq z) h q
  | .vals e, R, R', τ, G, Q, Q', hR, h, q => by rw [wI] at q ⊢; exact lock_mono (fun G1 Q1 Q2 hq z => wE_mono e τ G1 hR hq z) h q
  | .items e, R, R', τ, G, Q, Q', hR, h, q => by rw [wI] at q ⊢; exact lock_mono (fun G1 Q1 Q2 hq z => wE_mono e τ G1 hR hq z) h q
end
end
theorem setW_mono {o i v : T} {G : GH} {Q Q' : GH → Prop} (h : ∀ G, Q G → Q' G) (q : setW o i v G Q) : setW o i v G Q' := by
  unfold setW at q ⊢
  split at q
  · split at q
    · obtain ⟨j, k, e1, e2, q⟩ := q; exact ⟨j, k, e1, e2, h _ q⟩
    · exact ⟨q.1, q.2.1, h _ q.2.2⟩
    · exact q.elim
  · exact q.elim
theorem setFldW_mono {o v : T} {f : Str} {G : GH} {Q Q' : GH → Prop} (h : ∀ G, Q G → Q' G) (q : setFldW o f v G Q) : setFldW o f v G Q' := by
  unfold setFldW at q ⊢
  split at q
  · split at q
    · exact ⟨q.1, h _ q.2⟩
    · exact q.elim
  · exact q.elim
theorem againW_mono {W W' : Sl → GH → Prop} (h : ∀ τ G, W τ G → W' τ G) (τ : Sl) (G : GH) (q : againW W τ G) : againW W' τ G := by
  obtain ⟨τ', G', k, q⟩ := q; exact ⟨τ', G', k, h _ _ q⟩
theorem forW_mono {ok : GH → Prop} {turn turn' : T → DE → Sl → GH → Prop} (ht : ∀ x D D' τ G, DLe D D' → turn x D τ G → turn' x D' τ G) {D D' : DE} (hD : DLe D D') :
    ∀ (xs : List T) (τ : Sl) (G : GH), forW ok turn D xs τ G → forW ok turn' D' xs τ G
  | [], τ, G, q => ⟨q.1, hD.nx _ _ q.2⟩
  | x :: r, τ, G, q => ⟨q.1, ht x _ _ τ G (.of (againW_mono (forW_mono ht hD r)) hD.rt hD.nx (againW_mono (forW_mono ht hD r))) q.2⟩
theorem whileW_mono {step step' : (Sl → GH → Prop) → Sl → GH → Prop} (hs : ∀ W W' τ G, (∀ τ G, W τ G → W' τ G) → step W τ G → step' W' τ G) :
    ∀ (n : Nat) (τ : Sl) (G : GH), whileW step n τ G → whileW step' n τ G
  | 0, _, _, q => q
  | n + 1, τ, G, q => hs _ _ τ G (againW_mono (whileW_mono hs n)) q
section
variable {C C' : Calls} (hC : CLe C C')
include hC
mutual
theorem wS_mono : ∀ (s : S) {R R' : XQ} {D D' : DE} (τ : Sl) (G : GH), XLe R R' → DLe D D' → wS C R s D τ G → wS C' R' s D' τ G
  | .asg tg e, R, R', D, D', τ, G, hR, h, q => by rw [wS] at q ⊢; exact wE_mono hC e τ G hR (fun t G' => Tg.mono tg t τ fun τ' => h.nx τ' G') q
  | .setItem o i v, R, R', D, D', τ, G, hR, h, q => by
    rw [wS] at q ⊢
    exact wE_mono hC v τ G hR (fun x G1 => wE_mono hC o τ G1 hR (fun y G2 => wE_mono hC i τ G2 hR fun z G3 => setW_mono fun G4 => h.nx τ G4)) q
  | .setFld o f v, R, R', D, D', τ, G, hR, h, q => by
    rw [wS] at q ⊢
    exact wE_mono hC v τ G hR (fun x G1 => wE_mono hC o τ G1 hR (fun y G2 => setFldW_mono fun G4 => h.nx τ G4)) q
  | .augName i p e, R, R', D, D', τ, G, hR, h, q => by
    rw [wS] at q ⊢
    split at q
    · exact wE_mono hC e τ G hR (fun y G1 => p.mono _ G1 fun z G2 => h.nx _ G2) q
    · exact q.elim
  | .augItem o i p e, R, R', D, D', τ, G, hR, h, q => by
    rw [wS] at q ⊢
    exact wE_mono hC o τ G hR (fun x G1 => wE_mono hC i τ G1 hR (fun y G2 z0 => ⟨z0.1, Prim.mono _ _ G2 (fun z G3 => wE_mono hC e τ G3 hR fun v G4 => p.mono _ G4 fun u G5 => setW_mono fun G6 => h.nx _ G6) z0.2⟩)) q
  | .augFld o f p e, R, R', D, D', τ, G, hR, h, q => by
    rw [wS] at q ⊢
    exact wE_mono hC o τ G hR (fun x G1 ⟨a, c, fs, z, e1, e2, e3, q⟩ => ⟨a, c, fs, z, e1, e2, e3, wE_mono hC e τ G1 hR (fun v G4 => p.mono _ G4 fun u G5 => setFldW_mono fun G6 => h.nx _ G6) q⟩) q
  | .expr e, R, R', D, D', τ, G, hR, h, q => by rw [wS] at q ⊢; exact wE_mono hC e τ G hR (fun t G' => h.nx τ G') q
  | .cond c a b, R, R', D, D', τ, G, hR, h, q => by
    rw [wS] at q ⊢
    refine wE_mono hC c τ G hR (fun t G' z => ?_) q
    split at z
    · exact wSs_mono a τ G' hR h z
    · exact wSs_mono b τ G' hR h z
    · exact z.elim
  | .for_ tg it body, R, R', D, D', τ, G, hR, h, q => by
    rw [wS] at q ⊢
    exact wI_mono hC it τ G hR (fun iv G' => forW_mono (fun x D1 D2 τ1 G1 hD => Tg.mono tg x τ1 fun τ2 => wSs_mono body τ2 G1 hR hD) (h.wr _) _ _ _) q
  | .while_ c body, R, R', D, D', τ, G, hR, h, q => by
    rw [wS] at q ⊢
    obtain ⟨n, q⟩ := q
    refine ⟨n, whileW_mono (fun W W' τ1 G1 hW => wE_mono hC c τ1 G1 hR fun t G2 z => ?_) n τ G q⟩
    split at z
    · exact wSs_mono body τ1 G2 hR (.of hW h.rt h.nx hW) z
    · exact h.nx _ _ z
    · exact z.elim
  | .ret e, R, R', D, D', τ, G, hR, h, q => by rw [wS] at q ⊢; exact wE_mono hC e τ G hR h.rt q
  | .retN, R, R', D, D', τ, G, hR, h, q => by rw [wS] at q ⊢; exact h.rt _ _ q
  | .brk, R, R', D, D', τ, G, hR, h, q => by rw [wS] at q ⊢; exact h.bk _ _ q
  | .cont, R, R', D, D', τ, G, hR, h, q => by rw [wS] at q ⊢; exact h.ct _ _ q
  | .pass, R, R', D, D', τ, G, hR, h, q => by rw [wS] at q ⊢; exact h.nx _ _ q
theorem wSs_mono : ∀ (ss : List S) {R R' : XQ} {D D' : DE} (τ : Sl) (G : GH), XLe R R' → DLe D D' → wSs C R ss D τ G → wSs C' R' ss D' τ G
  | [], R, R', D, D', τ, G, hR, h, q => by rw [wSs] at q ⊢; exact h.nx _ _ q
  | s :: r, R, R', D, D', τ, G, hR, h, q => by rw [wSs] at q ⊢; exact wS_mono s τ G hR (.of (fun τ' G' => wSs_mono r τ' G' hR h) h.rt h.bk h.ct) q
end
end
theorem exitW_mono {Q Q' : QE} (h : QLe Q Q') : QLe (exitW Q) (exitW Q') := fun t G ⟨t', G', a, b, q⟩ => ⟨t', G', a, b, h _ _ q⟩
theorem callW_mono (Δ : Str → Option FDef) : ∀ n, CLe (callW Δ n) (callW Δ n) := by
  intro n
  induction n with
  | zero => intro f ts G Q Q' R R' hQ hR q; exact q
  | succ n ih =>
    intro f ts G Q Q' R R' hQ hR q
    rw [callW] at q ⊢
    cases e : Δ f with
    | some d => simp only [e] at q ⊢; exact ⟨q.1, wSs_mono ih _ _ _ hR (.of (fun _ _ => exitW_mono hQ _ _) (exitW_mono hQ) (fun _ _ z => z) (fun _ _ z => z)) q.2⟩
    | none => simp only [e] at q
theorem callW_succ (Δ : Str → Option FDef) : ∀ n, CLe (callW Δ n) (callW Δ (n + 1)) := by
  intro n
  induction n with
  | zero => intro f ts G Q Q' R R' hQ hR q; exact q.elim
  | succ n ih =>
    intro f ts G Q Q' R R' hQ hR q
    rw [callW] at q ⊢
    cases e : Δ f with
    | some d => simp only [e] at q ⊢; exact ⟨q.1, wSs_mono ih _ _ _ hR (.of (fun _ _ => exitW_mono hQ _ _) (exitW_mono hQ) (fun _ _ z => z) (fun _ _ z => z)) q.2⟩
    | none => simp only [e] at q
theorem callW_le (Δ : Str → Option FDef) {m n : Nat} (h : m ≤ n) : CLe (callW Δ m) (callW Δ n) := by
  induction h with
  | refl => exact callW_mono Δ m
  | step _ ih => exact fun f ts G Q Q' R R' hQ hR q => callW_succ Δ _ f ts G Q' Q' R' R' (fun _ _ z => z) (fun _ _ _ z => z) (ih f ts G Q Q' R R' hQ hR q)
end EV

/-! EV3: operations by values: what the trees say holds of the machine. -/
namespace EV
open PySem PySem.Spec PyProof.Rows L2

structure At (P : Program) (w : World) (K : PySem.W.Frag) (G : GH) (H0 H : Hp) : Prop where
  sub : ∀ a o, H0 a = some o → H a = some o
  rel : RelG P w K G H0
/-- a step: what is ours may change, what is seen and not ours stays, what is not seen stays -/
structure Stp (G : GH) (H0 H : Hp) (G' : GH) (H0' H' : Hp) : Prop where
  ext : Ext G H0 G' H0'
  fr : ∀ a o, H a = some o → H0 a = none → H' a = some o ∧ H0' a = none
  gr : ∀ a, H' a = none → H a = none
theorem gr_upd {H : Hp} {p : Addr} {u : HO} (a : Addr) (h : upd H p u a = none) : H a = none := by
  by_cases e : a = p
  · subst e; rw [upd_same] at h; cases h
  · rw [upd_ne e] at h; exact h
theorem Stp.refl (G : GH) (H0 H : Hp) : Stp G H0 H G H0 H := ⟨Ext.refl _ _, fun _ _ h g => ⟨h, g⟩, fun _ h => h⟩
theorem Stp.trans {G G1 G2 : GH} {H0 H01 H02 H H1 H2 : Hp} (a : Stp G H0 H G1 H01 H1) (b : Stp G1 H01 H1 G2 H02 H2) : Stp G H0 H G2 H02 H2 :=
  ⟨a.ext.trans b.ext, fun c o h g => let ⟨h1, g1⟩ := a.fr c o h g; b.fr c o h1 g1, fun c h => a.gr c (b.gr c h)⟩
section
variable {P : Program} {w : World} {K : PySem.W.Frag} {G G' : GH} {H0 H H0' H' : Hp}
theorem At.off (A : At P w K G H0 H) {p : Addr} (h : H p = none) : H0 p = none := by
  cases e : H0 p with
  | none => rfl
  | some o => rw [A.sub p o e] at h; cases h
theorem At.gnone (A : At P w K G H0 H) {p : Addr} (h : H p = none) : G p = none := A.rel.free (A.off h)
/-- a new object, seen, not ours -/
theorem At.laid (A : At P w K G H0 H) {p : Addr} {u : HO} (h : H p = none) : At P w K G (upd H0 p u) (upd H p u) ∧ Stp G H0 H G (upd H0 p u) (upd H p u) := by
  have h0 := A.off h
  refine ⟨⟨fun a o e => ?_, A.rel.laid h0⟩, Ext.laid h0, fun a o e g => ?_, gr_upd⟩
  · by_cases ha : a = p
    · subst ha; rw [upd_same] at e ⊢; exact e
    · rw [upd_ne ha] at e ⊢; exact A.sub a o e
  · have ne : a ≠ p := ne_of_none e h
    exact ⟨by rw [upd_ne ne]; exact e, by rw [upd_ne ne]; exact g⟩
/-- a new object, ours -/
theorem At.new (A : At P w K G H0 H) {p : Addr} {u : HO} {o : O} (h : H p = none) (r : ORel P w K (upd H0 p u) (put G p o) p o) :
    At P w K (put G p o) (upd H0 p u) (upd H p u) ∧ Stp G H0 H (put G p o) (upd H0 p u) (upd H p u) := by
  have h0 := A.off h
  have e0 : Ext G H0 (put G p o) (upd H0 p u) := Ext.new h0
  refine ⟨⟨fun a v e => ?_, A.rel.put e0 r⟩, e0, fun a v e g => ?_, gr_upd⟩
  · by_cases ha : a = p
    · subst ha; rw [upd_same] at e ⊢; exact e
    · rw [upd_ne ha] at e ⊢; exact A.sub a v e
  · have ne : a ≠ p := ne_of_none e h
    exact ⟨by rw [upd_ne ne]; exact e, by rw [upd_ne ne]; exact g⟩
/-- an object of ours is changed -/
theorem At.write (A : At P w K G H0 H) {p : Addr} {u : HO} {o o' : O} (h : G p = some o) (r : ORel P w K (upd H0 p u) (put G p o') p o') :
    At P w K (put G p o') (upd H0 p u) (upd H p u) ∧ Stp G H0 H (put G p o') (upd H0 p u) (upd H p u) := by
  have e0 : Ext G H0 (put G p o') (upd H0 p u) := Ext.write h
  obtain ⟨v, hv⟩ := A.rel.has h
  refine ⟨⟨fun a v e => ?_, A.rel.put e0 r⟩, e0, fun a v' e g => ?_, gr_upd⟩
  · by_cases ha : a = p
    · subst ha; rw [upd_same] at e ⊢; exact e
    · rw [upd_ne ha] at e ⊢; exact A.sub a v e
  · have ne : a ≠ p := fun z => by rw [z, hv] at g; cases g
    exact ⟨by rw [upd_ne ne]; exact e, by rw [upd_ne ne]; exact g⟩
theorem At.rd (A : At P w K G H0 H) {a : Addr} {u : HO} (h : Rd H0 a u) : Rd H a u := by
  rcases h with h | ⟨o, h⟩
  · exact .inl (A.sub _ _ h)
  · exact .inr ⟨o, A.sub _ _ h⟩
theorem At.sqL (A : At P w K G H0 H) {a : Addr} {xs : List V} (h : SqL K H0 a xs) : SqL K H a xs := h.imp A.rd id
theorem At.sqT (A : At P w K G H0 H) {a : Addr} {xs : List V} (h : SqT K H0 a xs) : SqT K H a xs := h.imp A.rd id
end

/-! ### data -/
mutual
def T.pd : T → PyData
  | .non => .none
  | .bl b => .bool b
  | .int i => .int i
  | .str x => .str x
  | .tup xs => .tuple (T.pds xs)
  | .lst xs => .list (T.pds xs)
  | _ => .none
def T.pds : List T → List PyData
  | [] => []
  | x :: xs => T.pd x :: T.pds xs
end
theorem T.pds_map : ∀ ts : List T, T.pds ts = ts.map T.pd
  | [] => rfl
  | t :: ts => by rw [T.pds, T.pds_map ts]; rfl
mutual
theorem T.pd_lay : ∀ t : T, T.dat t = true → (T.pd t).canLay0 = true
  | .non, _ => rfl
  | .bl _, _ => rfl
  | .int _, _ => rfl
  | .str x, h => by rw [T.pd]; simpa [PyData.canLay0, PyData.strOk, T.dat] using h
  | .tup xs, h => by rw [T.pd, PyData.canLay0]; exact T.pds_lay xs (by simpa [T.dat] using h)
  | .lst xs, h => by rw [T.pd, PyData.canLay0]; exact T.pds_lay xs (by simpa [T.dat] using h)
  | .dct _ _, h => by simp [T.dat] at h
  | .ref _, h => by simp [T.dat] at h
  | .scr _, h => by simp [T.dat] at h
theorem T.pds_lay : ∀ ts : List T, T.dats ts = true → PyData.canLayAll0 (T.pds ts) = true
  | [], _ => rfl
  | t :: ts, h => by
    rw [T.dats, Bool.and_eq_true] at h
    rw [T.pds, PyData.canLayAll0, T.pd_lay t h.1, T.pds_lay ts h.2]; rfl
end
mutual
theorem T.pd_dep : ∀ t : T, (T.pd t).depth = T.dep t
  | .non => rfl
  | .bl _ => rfl
  | .int _ => rfl
  | .str _ => rfl
  | .tup xs => by rw [T.pd, PyData.depth, T.dep, T.pds_dep xs]
  | .lst xs => by rw [T.pd, PyData.depth, T.dep, T.pds_dep xs]
  | .dct _ _ => rfl
  | .ref _ => rfl
  | .scr _ => rfl
theorem T.pds_dep : ∀ ts : List T, PyData.depthAll (T.pds ts) = T.deps ts
  | [] => rfl
  | t :: ts => by rw [T.pds, PyData.depthAll, T.deps, T.pd_dep t, T.pds_dep ts]
end
theorem T.shaped {t : T} (h : T.dat t = true) (d : T.dep t ≤ 64) : SeqAt.shaped (T.pd t) = true := by
  unfold SeqAt.shaped
  rw [T.pd_lay t h, T.pd_dep t]
  simpa using d
mutual
theorem T.eqv_pd : ∀ a b : T, T.dat a = true → T.dat b = true → PyData.eqv (T.pd a) (T.pd b) = T.eqv a b
  | .non, b, _, hb => by cases b <;> first | rfl | (simp [T.dat] at hb)
  | .bl x, b, _, hb => by cases b <;> first | rfl | (simp [T.dat] at hb) | (simp [T.pd, PyData.eqv, T.eqv]; cases x <;> rfl)
  | .int i, b, _, hb => by cases b <;> first | rfl | (simp [T.dat] at hb)
  | .str x, b, _, hb => by
    cases b <;> first | rfl | (simp [T.dat] at hb)
  | .tup xs, b, ha, hb => by
    cases b with
    | tup ys => rw [T.pd, T.pd, PyData.eqv, T.eqv]; exact T.eqvs_pd xs ys (by simpa [T.dat] using ha) (by simpa [T.dat] using hb)
    | _ => first | rfl | (simp [T.dat] at hb)
  | .lst xs, b, ha, hb => by
    cases b with
    | lst ys => rw [T.pd, T.pd, PyData.eqv, T.eqv]; exact T.eqvs_pd xs ys (by simpa [T.dat] using ha) (by simpa [T.dat] using hb)
    | _ => first | rfl | (simp [T.dat] at hb)
  | .dct _ _, _, ha, _ => by simp [T.dat] at ha
  | .ref _, _, ha, _ => by simp [T.dat] at ha
  | .scr _, _, ha, _ => by simp [T.dat] at ha
theorem T.eqvs_pd : ∀ a b : List T, T.dats a = true → T.dats b = true → PyData.eqvAll (T.pds a) (T.pds b) = T.eqvs a b
  | [], [], _, _ => rfl
  | [], _ :: _, _, _ => rfl
  | _ :: _, [], _, _ => rfl
  | x :: xs, y :: ys, ha, hb => by
    rw [T.dats, Bool.and_eq_true] at ha hb
    rw [T.pds, T.pds, PyData.eqvAll, T.eqvs, T.eqv_pd x y ha.1 hb.1, T.eqvs_pd xs ys ha.2 hb.2]
end
section
variable {P : Program} {w : World} {K : PySem.W.Frag} {G : GH} {H0 H : Hp}
mutual
theorem RT.dp (A : At P w K G H0 H) : ∀ {t : T} {v : V}, RT K H0 G t v → T.dat t = true → Dp K H v (T.pd t)
  | _, _, .non, _ => .non
  | _, _, .bl b, _ => .bl b
  | _, _, .int i, _ => .int i
  | _, _, .str x, _ => .str x
  | _, _, .tup h r, d => .tup (A.sqT h.sq) (RTs.dps A r (by simpa [T.dat] using d))
  | _, _, .lst h r, d => .lst (A.sqL h.sq) (RTs.dps A r (by simpa [T.dat] using d))
  | _, _, .dctK _ _ _, d => by simp [T.dat] at d
  | _, _, .ref _, d => by simp [T.dat] at d
  | _, _, .scr _, d => by simp [T.dat] at d
theorem RTs.dps (A : At P w K G H0 H) : ∀ {ts : List T} {vs : List V}, RTs K H0 G ts vs → T.dats ts = true → DpAll K H vs (T.pds ts)
  | _, _, .nil, _ => .nil
  | _, _, .cons h r, d => by
    rw [T.dats, Bool.and_eq_true] at d
    exact .cons (RT.dp A h d.1) (RTs.dps A r d.2)
end
theorem RT.dpG (A : At P w K G H0 H) {t : T} {v : V} (r : RT K H0 G t v) (d : T.dat (datOf G t) = true) : Dp K H v (T.pd (datOf G t)) := by
  cases t with
  | ref a =>
    cases e : G a with
    | none => simp [datOf, e, T.dat] at d
    | some o =>
      cases o with
      | lst ts =>
        simp only [datOf, e] at d ⊢
        cases r
        obtain ⟨xs, h1, h2⟩ := A.rel a _ e
        exact .lst (.inl (.inl (A.sub _ _ h1))) (h2.dps A (by simpa [T.dat] using d))
      | _ => simp [datOf, e, T.dat] at d
  | _ => exact r.dp A d
theorem RTs.ints {K : PySem.W.Frag} {H : Hp} {G : GH} : ∀ ns : List Int, RTs K H G (ns.map T.int) (ns.map V.int)
  | [] => .nil
  | n :: ns => .cons (.int n) (RTs.ints ns)
/-- a sequence's items -/
theorem RT.seq (A : At P w K G H0 H) {t : T} {v : V} {ts : List T} (r : RT K H0 G t v) (e : seqOf G t = some ts) :
    ∃ a xs, v = .ref a ∧ RTs K H0 G ts xs ∧ (SqL K H a xs ∨ SqT K H a xs) := by
  cases r with
  | tup h r => cases e; exact ⟨_, _, rfl, r, .inr (A.sqT h.sq)⟩
  | lst h r => cases e; exact ⟨_, _, rfl, r, .inl (A.sqL h.sq)⟩
  | @scr a ns h => cases e; exact ⟨_, _, rfl, RTs.ints ns, .inl (A.sqL h.sq)⟩
  | ref a =>
    cases e4 : G a with
    | none => simp [seqOf, e4] at e
    | some o =>
      cases o with
      | lst us =>
        simp only [seqOf, e4, Option.some.injEq] at e
        subst e
        obtain ⟨xs, h1, h2⟩ := A.rel _ _ e4
        exact ⟨_, xs, rfl, h2, .inl (.inl (.inl (A.sub _ _ h1)))⟩
      | _ => simp [seqOf, e4] at e
  | _ => cases e
theorem RT.lstI (A : At P w K G H0 H) {t : T} {v : V} {ts : List T} (r : RT K H0 G t v) (e : lstOf G t = some ts) :
    ∃ a xs, v = .ref a ∧ RTs K H0 G ts xs ∧ H a = some (.lst xs) := by
  cases r with
  | lst h r => cases e; exact ⟨_, _, rfl, r, A.sub _ _ h.1⟩
  | ref a =>
    obtain ⟨us, e3⟩ : ∃ us, G a = some (.lst us) := by
      cases e4 : G a with
      | none => simp [lstOf, e4] at e
      | some o => cases o <;> first | exact ⟨_, rfl⟩ | (simp [lstOf, e4] at e)
    simp only [lstOf, e3, Option.some.injEq] at e
    subst e
    obtain ⟨xs, h1, h2⟩ := A.rel _ _ e3
    exact ⟨_, xs, rfl, h2, A.sub _ _ h1⟩
  | _ => cases e
end

/-! ### what is wanted, said of trees -/
section
variable (P : Program) (w : World) (K : PySem.W.Frag)
def upE (G : GH) (H0 H : Hp) (Q : VK) : QE := fun t G' => ∀ v H0' H', At P w K G' H0' H' → Stp G H0 H G' H0' H' → RT K H0' G' t v → Q v H'
def upL (G : GH) (H0 H : Hp) (Q : List V → Hp → Prop) : List T → GH → Prop := fun ts G' => ∀ vs H0' H', At P w K G' H0' H' → Stp G H0 H G' H0' H' → RTs K H0' G' ts vs → Q vs H'
/-- a new list, that nobody else knows -/
def upF (G : GH) (H0 H : Hp) (Q : VK) : List T → GH → Prop := fun ts G' => ∀ vs H0' H' p, At P w K G' H0' H' → Stp G H0 H G' H0' H' → RTs K H0' G' ts vs → H' p = some (.lst vs) → H0' p = none → H p = none → Q (.ref p) H'
def rP (p : Prim) : List V → Hp → VK → Prop := fun vs H Q => ∃ ts G H0, At P w K G H0 H ∧ RTs K H0 G ts vs ∧ p.wp ts G (upE P w K G H0 H Q)
def rL (p : LPrim) : List V → Hp → VK → Prop := fun vs H Q => ∃ ts G H0, At P w K G H0 H ∧ RTs K H0 G ts vs ∧ p.wp ts G (upF P w K G H0 H Q)
end
section
variable {P : Program} {w : World} {K : PySem.W.Frag} {G G1 : GH} {H0 H H01 H1 : Hp}
theorem upE_stp {Q : VK} (s : Stp G H0 H G1 H01 H1) : QLe (upE P w K G H0 H Q) (upE P w K G1 H01 H1 Q) := fun t G' q v H0' H' A s' r => q v H0' H' A (s.trans s') r
theorem upE_here {Q : VK} {t : T} {v : V} (A : At P w K G H0 H) (q : upE P w K G H0 H Q t G) (r : RT K H0 G t v) : Q v H := q v H0 H A (.refl _ _ _) r
theorem RTs.two {t u : T} {vs : List V} (r : RTs K H0 G [t, u] vs) : ∃ x y, vs = [x, y] ∧ RT K H0 G t x ∧ RT K H0 G u y := by
  cases r with | cons h r => cases r with | cons h' r => cases r; exact ⟨_, _, rfl, h, h'⟩
theorem RTs.inv1 {ts : List T} {x : V} (r : RTs K H0 G ts [x]) : ∃ t, ts = [t] ∧ RT K H0 G t x := by
  cases r with | cons h r => cases r; exact ⟨_, rfl, h⟩
theorem RTs.inv2 {ts : List T} {x y : V} (r : RTs K H0 G ts [x, y]) : ∃ t u, ts = [t, u] ∧ RT K H0 G t x ∧ RT K H0 G u y := by
  cases r with | cons h r => cases r with | cons h' r => cases r; exact ⟨_, _, rfl, h, h'⟩
theorem RTs.inv3 {ts : List T} {x y z : V} (r : RTs K H0 G ts [x, y, z]) : ∃ t u s, ts = [t, u, s] ∧ RT K H0 G t x ∧ RT K H0 G u y ∧ RT K H0 G s z := by
  cases r with | cons h r => cases r with | cons h' r => cases r with | cons h'' r => cases r; exact ⟨_, _, _, rfl, h, h', h''⟩
/-- a new tuple -/
theorem tup_new {Q : VK} {ts : List T} {xs : List V} {p : Addr} (A : At P w K G H0 H) (q : upE P w K G H0 H Q (.tup ts) G) (r : RTs K H0 G ts xs) (h : H p = none) : Q (.ref p) (upd H p (.tup xs)) := by
  obtain ⟨A', s⟩ := A.laid (u := .tup xs) h
  exact q _ _ _ A' s (.tup (.inl ⟨_, upd_same, A.gnone h, .inl rfl⟩) (r.ext s.ext))
theorem fresh_new {Q : VK} {ts : List T} {xs : List V} {p : Addr} (A : At P w K G H0 H) (q : upF P w K G H0 H Q ts G) (r : RTs K H0 G ts xs) (h : H p = none) : Q (.ref p) (upd H p (.lst xs)) := by
  refine q xs H0 (upd H p (.lst xs)) p ⟨fun a o e => ?_, A.rel⟩ ⟨Ext.refl _ _, fun a o e g => ⟨?_, g⟩, gr_upd⟩ r upd_same (A.off h) h
  · rw [upd_ne (ne_of_none (A.sub _ _ e) h)]; exact A.sub _ _ e
  · rw [upd_ne (ne_of_none e h)]; exact e
end

/-! ### operators -/
section
variable {X : Cx}
theorem lst_new {Q : VK} {P : Program} {w : World} {K : PySem.W.Frag} {G : GH} {H0 H : Hp} {ts : List T} {xs : List V} {p : Addr} (A : At P w K G H0 H) (q : upE P w K G H0 H Q (.lst ts) G) (r : RTs K H0 G ts xs) (h : H p = none) : Q (.ref p) (upd H p (.lst xs)) := by
  obtain ⟨A', s⟩ := A.laid (u := .lst xs) h
  exact q _ _ _ A' s (.lst ⟨upd_same, A.gnone h⟩ (r.ext s.ext))
theorem p_add : OpR X (binaryOp .Add) (fun x y H Q => rP X.prog X.w X.K .add [x, y] H Q) := by
  intro pins s σ H x y v u Q I rx ry ⟨ts, G, H0, A, r, q⟩
  obtain ⟨t, t', rfl, h1, h2⟩ := r.inv2
  have gen : (∃ ts us, lstOf G t = some ts ∧ lstOf G t' = some us ∧ ts.length + us.length ≤ sizeLine ∧ upE X.prog X.w X.K G H0 H Q (.lst (ts ++ us)) G) → wpAny (model X.prog X.w) X.A (binaryOp .Add v u) (EP X pins σ Q) X.xe s := by
    intro ⟨ts, us, e1, e2, hl, q⟩
    obtain ⟨a, xs, rfl, r1, g1⟩ := h1.lstI A e1
    obtain ⟨b, ys, rfl, r2, g2⟩ := h2.lstI A e2
    exact op_cat pins s σ H _ _ v u Q I rx ry ⟨a, b, xs, ys, rfl, rfl, g1, g2, by rw [← r1.length, ← r2.length]; exact hl, fun p hp => lst_new A q (r1.append r2) hp⟩
  cases h1 with
  | int i =>
    cases h2 with
    | int j => exact op_add pins s σ H _ _ v u Q I rx ry ⟨_, _, rfl, rfl, upE_here A q (.int _)⟩
    | _ => exact gen q
  | str z =>
    cases h2 with
    | str z' => exact op_add_str pins s σ H _ _ v u Q I rx ry ⟨_, _, rfl, rfl, q.1, upE_here A q.2 (.str _)⟩
    | _ => exact gen q
  | tup h r1 =>
    cases h2 with
    | tup h' r2 =>
      obtain ⟨hl, q⟩ := q
      refine op_catA pins s σ H _ _ v u Q I rx ry ⟨_, _, _, _, rfl, rfl, A.sqT h.sq, A.sqT h'.sq, by rw [← r1.length, ← r2.length]; exact hl, fun e => ?_, fun e e' => ?_, fun e e' p hp => tup_new A q (r1.append r2) hp⟩
      · subst e; cases r1; exact upE_here A q (.tup h' r2)
      · subst e'; cases r2; rw [List.append_nil] at q; exact upE_here A q (.tup h r1)
    | _ => exact gen q
  | _ => exact gen q
theorem p_sub : OpR X (binaryOp .Sub) (fun x y H Q => rP X.prog X.w X.K .sub [x, y] H Q) := by
  intro pins s σ H x y v u Q I rx ry ⟨ts, G, H0, A, r, q⟩
  obtain ⟨t, t', rfl, h1, h2⟩ := r.inv2
  cases h1 <;> cases h2 <;> (try exact q.elim)
  exact op_sub pins s σ H _ _ v u Q I rx ry ⟨_, _, rfl, rfl, upE_here A q (.int _)⟩
theorem p_mul : OpR X (binaryOp .Mult) (fun x y H Q => rP X.prog X.w X.K .mul [x, y] H Q) := by
  intro pins s σ H x y v u Q I rx ry ⟨ts, G, H0, A, r, q⟩
  obtain ⟨t, t', rfl, h1, h2⟩ := r.inv2
  cases h1 <;> cases h2 <;> (try exact q.elim)
  exact op_mul pins s σ H _ _ v u Q I rx ry ⟨_, _, rfl, rfl, q.1, upE_here A q.2 (.int _)⟩
theorem p_fdiv : OpR X (binaryOp .FloorDiv) (fun x y H Q => rP X.prog X.w X.K .fdiv [x, y] H Q) := by
  intro pins s σ H x y v u Q I rx ry ⟨ts, G, H0, A, r, q⟩
  obtain ⟨t, t', rfl, h1, h2⟩ := r.inv2
  cases h1 <;> cases h2 <;> (try exact q.elim)
  exact op_fdiv pins s σ H _ _ v u Q I rx ry ⟨_, _, rfl, rfl, q.1, upE_here A q.2 (.int _)⟩
theorem p_mod : OpR X (binaryOp .Mod) (fun x y H Q => rP X.prog X.w X.K .mod [x, y] H Q) := by
  intro pins s σ H x y v u Q I rx ry ⟨ts, G, H0, A, r, q⟩
  obtain ⟨t, t', rfl, h1, h2⟩ := r.inv2
  cases h1 <;> cases h2 <;> (try exact q.elim)
  exact op_mod pins s σ H _ _ v u Q I rx ry ⟨_, _, rfl, rfl, q.1, upE_here A q.2 (.int _)⟩
theorem p_pow : OpR X (binaryOp .Pow) (fun x y H Q => rP X.prog X.w X.K .pow [x, y] H Q) := by
  intro pins s σ H x y v u Q I rx ry ⟨ts, G, H0, A, r, q⟩
  obtain ⟨t, t', rfl, h1, h2⟩ := r.inv2
  cases h1 <;> cases h2 <;> (try exact q.elim)
  exact op_pow pins s σ H _ _ v u Q I rx ry ⟨_, _, rfl, rfl, q.1, upE_here A q.2 (.int _)⟩
theorem p_neg : UnR X (unaryOp .USub) (fun x H Q => rP X.prog X.w X.K .neg [x] H Q) := by
  intro pins s σ H x v Q I rx ⟨ts, G, H0, A, r, q⟩
  obtain ⟨t, rfl, h1⟩ := r.inv1
  cases h1 <;> (try exact q.elim)
  exact un_neg pins s σ H _ v Q I rx ⟨_, rfl, upE_here A q (.int _)⟩
theorem p_lt : OpR X (compareOp .Lt) (fun x y H Q => rP X.prog X.w X.K .lt [x, y] H Q) := by
  intro pins s σ H x y v u Q I rx ry ⟨ts, G, H0, A, r, q⟩
  obtain ⟨t, t', rfl, h1, h2⟩ := r.inv2
  cases h1 <;> cases h2 <;> (try exact q.elim)
  exact op_lt pins s σ H _ _ v u Q I rx ry ⟨_, _, rfl, rfl, upE_here A q (.bl _)⟩
theorem p_le : OpR X (compareOp .LtE) (fun x y H Q => rP X.prog X.w X.K .le [x, y] H Q) := by
  intro pins s σ H x y v u Q I rx ry ⟨ts, G, H0, A, r, q⟩
  obtain ⟨t, t', rfl, h1, h2⟩ := r.inv2
  cases h1 <;> cases h2 <;> (try exact q.elim)
  exact op_le pins s σ H _ _ v u Q I rx ry ⟨_, _, rfl, rfl, upE_here A q (.bl _)⟩
theorem p_gt : OpR X (compareOp .Gt) (fun x y H Q => rP X.prog X.w X.K .gt [x, y] H Q) := by
  intro pins s σ H x y v u Q I rx ry ⟨ts, G, H0, A, r, q⟩
  obtain ⟨t, t', rfl, h1, h2⟩ := r.inv2
  cases h1 <;> cases h2 <;> (try exact q.elim)
  exact op_gt pins s σ H _ _ v u Q I rx ry ⟨_, _, rfl, rfl, upE_here A q (.bl _)⟩
theorem p_ge : OpR X (compareOp .GtE) (fun x y H Q => rP X.prog X.w X.K .ge [x, y] H Q) := by
  intro pins s σ H x y v u Q I rx ry ⟨ts, G, H0, A, r, q⟩
  obtain ⟨t, t', rfl, h1, h2⟩ := r.inv2
  cases h1 <;> cases h2 <;> (try exact q.elim)
  exact op_ge pins s σ H _ _ v u Q I rx ry ⟨_, _, rfl, rfl, upE_here A q (.bl _)⟩
theorem p_eq (hu : X.A.units + 64 < cLine) : OpR X (compareOp .Eq) (fun x y H Q => rP X.prog X.w X.K .eq [x, y] H Q) := by
  intro pins s σ H x y v u Q I rx ry ⟨ts, G, H0, A, r, q⟩
  obtain ⟨t, t', rfl, h1, h2⟩ := r.inv2
  obtain ⟨⟨d1, d2, e1, e2⟩, q⟩ : eqOk (datOf G t) (datOf G t') ∧ upE X.prog X.w X.K G H0 H Q (.bl (T.eqv (datOf G t) (datOf G t'))) G := q
  exact op_eqD hu pins s σ H _ _ v u Q I rx ry ⟨_, _, h1.dpG A d1, h2.dpG A d2, T.shaped d1 e1, T.shaped d2 e2, by rw [T.eqv_pd _ _ d1 d2]; exact upE_here A q (.bl _)⟩
theorem p_ne (hu : X.A.units + 64 < cLine) : OpR X (compareOp .NotEq) (fun x y H Q => rP X.prog X.w X.K .ne [x, y] H Q) := by
  intro pins s σ H x y v u Q I rx ry ⟨ts, G, H0, A, r, q⟩
  obtain ⟨t, t', rfl, h1, h2⟩ := r.inv2
  obtain ⟨⟨d1, d2, e1, e2⟩, q⟩ : eqOk (datOf G t) (datOf G t') ∧ upE X.prog X.w X.K G H0 H Q (.bl (!T.eqv (datOf G t) (datOf G t'))) G := q
  exact op_neD hu pins s σ H _ _ v u Q I rx ry ⟨_, _, h1.dpG A d1, h2.dpG A d2, T.shaped d1 e1, T.shaped d2 e2, by rw [T.eqv_pd _ _ d1 d2]; exact upE_here A q (.bl _)⟩
theorem RT.non_iff {K : PySem.W.Frag} {H : Hp} {G : GH} {t : T} {v : V} (r : RT K H G t v) : decide (v = .non) = decide (t = .non) := by cases r <;> simp
theorem p_isnone : OpR X (compareOp .Is) (fun x y H Q => y = .non ∧ rP X.prog X.w X.K .isnone [x] H Q) := by
  intro pins s σ H x y v u Q I rx ry ⟨hy, ts, G, H0, A, r, q⟩
  obtain ⟨t, rfl, h1⟩ := r.inv1
  exact op_isN pins s σ H _ _ v u Q I rx ry ⟨hy, by rw [h1.non_iff]; exact upE_here A q (.bl _)⟩
theorem p_notnone : OpR X (compareOp .IsNot) (fun x y H Q => y = .non ∧ rP X.prog X.w X.K .notnone [x] H Q) := by
  intro pins s σ H x y v u Q I rx ry ⟨hy, ts, G, H0, A, r, q⟩
  obtain ⟨t, rfl, h1⟩ := r.inv1
  exact op_notN pins s σ H _ _ v u Q I rx ry ⟨hy, by rw [h1.non_iff]; exact upE_here A q (.bl _)⟩
/-! ### built-ins -/
theorem p_abs : CallR X (.builtin "abs") (rP X.prog X.w X.K .abs) := by
  intro pins s σ H vs us Q I rv ⟨ts, G, H0, A, r, q⟩
  cases r with
  | nil => exact q.elim
  | cons h1 r =>
    cases r with
    | cons _ _ => cases h1 <;> exact q.elim
    | nil =>
      cases h1 <;> (try exact q.elim)
      exact call_abs pins s σ H _ us Q I rv ⟨_, rfl, upE_here A q (.int _)⟩
theorem p_int : CallR X (.type "int") (rP X.prog X.w X.K .int) := by
  intro pins s σ H vs us Q I rv ⟨ts, G, H0, A, r, q⟩
  cases r with
  | nil => exact q.elim
  | cons h1 r =>
    cases r with
    | cons _ _ => cases h1 <;> exact q.elim
    | nil =>
      cases h1 <;> (try exact q.elim)
      · exact call_int1 pins s σ H _ us Q I rv (.inr ⟨_, rfl, upE_here A q (.int _)⟩)
      · exact call_int1 pins s σ H _ us Q I rv (.inl ⟨_, rfl, upE_here A q (.int _)⟩)
end
end EV

/-! EV4: dicts by values. -/
namespace EV
open PySem PySem.Spec PyProof.Rows L2

mutual
theorem T.nk_inj : ∀ (a b : T) (k : NestedKey), T.nk? a = some k → T.nk? b = some k → a = b
  | .non, b, k, ha, hb => by
    simp [T.nk?] at ha; subst ha
    cases b <;> simp [T.nk?] at hb
    · rfl
    · split at hb <;> simp at hb
  | .int i, b, k, ha, hb => by
    simp [T.nk?] at ha; subst ha
    cases b <;> simp [T.nk?] at hb
    · rw [hb]
    · split at hb <;> simp at hb
  | .str x, b, k, ha, hb => by
    simp [T.nk?] at ha; subst ha
    cases b <;> simp [T.nk?] at hb
    · rw [hb]
    · split at hb <;> simp at hb
  | .tup xs, b, k, ha, hb => by
    rw [T.nk?] at ha
    cases e : T.nks? xs with
    | none => rw [e] at ha; simp at ha
    | some ks =>
      rw [e] at ha; simp at ha; subst ha
      cases b with
      | tup ys =>
        rw [T.nk?] at hb
        cases e' : T.nks? ys with
        | none => rw [e'] at hb; simp at hb
        | some ks' =>
          rw [e'] at hb; simp at hb; subst hb
          rw [T.nks_inj xs ys _ e e']
      | _ => simp [T.nk?] at hb
  | .bl _, _, _, ha, _ => by simp [T.nk?] at ha
  | .lst _, _, _, ha, _ => by simp [T.nk?] at ha
  | .dct _ _, _, _, ha, _ => by simp [T.nk?] at ha
  | .scr _, _, _, ha, _ => by simp [T.nk?] at ha
  | .ref _, _, _, ha, _ => by simp [T.nk?] at ha
theorem T.nks_inj : ∀ (a b : List T) (k : List NestedKey), T.nks? a = some k → T.nks? b = some k → a = b
  | [], b, k, ha, hb => by
    simp [T.nks?] at ha; subst ha
    cases b with
    | nil => rfl
    | cons y ys => rw [T.nks?] at hb; split at hb <;> (try split at hb) <;> simp at hb
  | x :: xs, b, k, ha, hb => by
    rw [T.nks?] at ha
    cases e1 : T.nk? x with
    | none => rw [e1] at ha; simp at ha
    | some k1 =>
      cases e2 : T.nks? xs with
      | none => rw [e1, e2] at ha; simp at ha
      | some ks =>
        rw [e1, e2] at ha; simp at ha; subst ha
        cases b with
        | nil => simp [T.nks?] at hb
        | cons y ys =>
          rw [T.nks?] at hb
          cases f1 : T.nk? y with
          | none => rw [f1] at hb; simp at hb
          | some l1 =>
            cases f2 : T.nks? ys with
            | none => rw [f1, f2] at hb; simp at hb
            | some ls =>
              rw [f1, f2] at hb; simp at hb
              obtain ⟨h1, h2⟩ := hb; subst h1 h2
              rw [T.nk_inj x y _ e1 f1, T.nks_inj xs ys _ e2 f2]
end
theorem T.key_inj (a b : T) (k : Key) (ha : T.key? a = some k) (hb : T.key? b = some k) : a = b := by
  cases a <;> simp [T.key?] at ha <;> subst ha <;> cases b <;> simp [T.key?] at hb <;> rw [hb]
mutual
theorem T.nk_dep : ∀ (a : T) (k : NestedKey), T.nk? a = some k → k.depth = T.dep a
  | .non, k, h => by simp [T.nk?] at h; subst h; rfl
  | .int _, k, h => by simp [T.nk?] at h; subst h; rfl
  | .str _, k, h => by simp [T.nk?] at h; subst h; rfl
  | .tup xs, k, h => by
    rw [T.nk?] at h
    cases e : T.nks? xs with
    | none => rw [e] at h; simp at h
    | some ks =>
      rw [e] at h; simp at h; subst h
      rw [NestedKey.depth, T.dep, T.nks_dep xs ks e]
  | .bl _, _, h => by simp [T.nk?] at h
  | .lst _, _, h => by simp [T.nk?] at h
  | .dct _ _, _, h => by simp [T.nk?] at h
  | .scr _, _, h => by simp [T.nk?] at h
  | .ref _, _, h => by simp [T.nk?] at h
theorem T.nks_dep : ∀ (a : List T) (k : List NestedKey), T.nks? a = some k → NestedKey.depthAll k = T.deps a
  | [], k, h => by simp [T.nks?] at h; subst h; rfl
  | x :: xs, k, h => by
    rw [T.nks?] at h
    cases e1 : T.nk? x with
    | none => rw [e1] at h; simp at h
    | some k1 =>
      cases e2 : T.nks? xs with
      | none => rw [e1, e2] at h; simp at h
      | some ks =>
        rw [e1, e2] at h; simp at h; subst h
        rw [NestedKey.depthAll, T.deps, T.nk_dep x _ e1, T.nks_dep xs _ e2]
end
/-! ### looking up, storing -/
section
variable {κ β : Type} [DecidableEq κ] {f : T → Option κ} {R : T → β → Prop}
theorem find_rel (inj : ∀ a b k, f a = some k → f b = some k → a = b) {kvs : List (T × T)} {xs : List (κ × β)} (p : Paired (fun (p : T × T) (q : κ × β) => f p.1 = some q.1 ∧ R p.2 q.2) kvs xs) {k : T} {j : κ} (hk : f k = some j) :
    (dget kvs k = none ∧ (xs.find? fun x => decide (x.1 = j)) = none) ∨ ∃ t b, dget kvs k = some t ∧ (xs.find? fun x => decide (x.1 = j)) = some (j, b) ∧ R t b := by
  induction p with
  | nil => exact .inl ⟨rfl, rfl⟩
  | @cons p q kvs xs h r ih =>
    obtain ⟨h1, h2⟩ := h
    by_cases e : p.1 = k
    · have e' : q.1 = j := by rw [e, hk] at h1; exact (Option.some.inj h1).symm
      obtain ⟨q1, q2⟩ := q
      simp only at e'
      subst e'
      refine .inr ⟨p.2, q2, ?_, ?_, h2⟩
      · simp [dget, List.find?_cons, e]
      · simp [List.find?_cons]
    · have e' : ¬ q.1 = j := fun z => e (inj _ _ _ h1 (by rw [z]; exact hk))
      rcases ih with ⟨i1, i2⟩ | ⟨t, b, i1, i2, i3⟩
      · refine .inl ⟨?_, ?_⟩
        · simpa [dget, List.find?_cons, e] using i1
        · simpa [List.find?_cons, e'] using i2
      · refine .inr ⟨t, b, ?_, ?_, i3⟩
        · simpa [dget, List.find?_cons, e] using i1
        · simpa [List.find?_cons, e'] using i2
theorem repl_rel (inj : ∀ a b k, f a = some k → f b = some k → a = b) {kvs : List (T × T)} {xs : List (κ × β)} (p : Paired (fun (p : T × T) (q : κ × β) => f p.1 = some q.1 ∧ R p.2 q.2) kvs xs) {k v : T} {j : κ} (hk : f k = some j)
    (g : κ × β → κ × β) (g1 : ∀ b t, R t b → g (j, b) = (j, (g (j, b)).2) ∧ R v (g (j, b)).2) (g2 : ∀ q, q.1 ≠ j → g q = q) :
    Paired (fun (p : T × T) (q : κ × β) => f p.1 = some q.1 ∧ R p.2 q.2) (kvs.map fun p => if p.1 = k then (p.1, v) else p) (xs.map g) := by
  induction p with
  | nil => exact .nil
  | @cons p q kvs xs h r ih =>
    obtain ⟨h1, h2⟩ := h
    refine .cons ?_ ih
    by_cases e : p.1 = k
    · have e' : q.1 = j := by rw [e, hk] at h1; exact (Option.some.inj h1).symm
      obtain ⟨q1, q2⟩ := q
      simp only at e'
      subst e'
      obtain ⟨a1, a2⟩ := g1 q2 p.2 h2
      dsimp only
      rw [if_pos e, a1]
      exact ⟨h1, a2⟩
    · have e' : ¬ q.1 = j := fun z => e (inj _ _ _ h1 (by rw [z]; exact hk))
      dsimp only
      rw [if_neg e, g2 q e']
      exact ⟨h1, h2⟩
end
theorem Paired.app {α β : Type} {F : α → β → Prop} {a : α} {b : β} : ∀ {l : List α} {m : List β}, Paired F l m → F a b → Paired F (l ++ [a]) (m ++ [b])
  | _, _, .nil, h => .cons h .nil
  | _, _, .cons h t, h' => .cons h (Paired.app t h')
theorem dput_len (kvs : List (T × T)) (k v : T) : (dput kvs k v).length ≤ kvs.length + 1 := by
  unfold dput; split <;> simp

section
variable {X : Cx} {pins : List (Addr × Obj)} {σ : L2.St} {H H0 : Hp} {s : Shared} {G : GH}
mutual
theorem RT.nested (I : Inv X pins σ H s) (A : At X.prog X.w X.K G H0 H) : ∀ {t : T} {v : V} {u : Value} {k : NestedKey}, RT X.K H0 G t v → RelV v u → T.nk? t = some k → NestedIs s.heap k u
  | _, _, _, _, .non, r, h => by simp [T.nk?] at h; subst h; cases r; exact .none
  | _, _, _, _, .int i, r, h => by simp [T.nk?] at h; subst h; obtain ⟨t, rfl⟩ := r; exact .int i t
  | _, _, _, _, .str x, r, h => by simp [T.nk?] at h; subst h; obtain ⟨t, rfl⟩ := r; exact .text x t
  | _, _, _, _, .tup (ts := ts) hT rs, r, h => by
    rw [T.nk?] at h
    cases e : T.nks? ts with
    | none => rw [e] at h; simp at h
    | some ks =>
      rw [e] at h; simp at h; subst h
      cases r
      obtain ⟨its, rv, ⟨o, ho, hc, n, hd⟩, _⟩ := I.tuple (A.sqT hT.sq)
      exact .tup ho hc hd (by simpa using RTs.nesteds I A rs rv e)
  | _, _, _, _, .bl _, _, h => by simp [T.nk?] at h
  | _, _, _, _, .lst _ _, _, h => by simp [T.nk?] at h
  | _, _, _, _, .dctK _ _ _, _, h => by simp [T.nk?] at h
  | _, _, _, _, .scr _, _, h => by simp [T.nk?] at h
  | _, _, _, _, .ref _, _, h => by simp [T.nk?] at h
theorem RTs.nesteds (I : Inv X pins σ H s) (A : At X.prog X.w X.K G H0 H) : ∀ {ts : List T} {vs : List V} {us : List Value} {ks : List NestedKey}, RTs X.K H0 G ts vs → Vals vs us → T.nks? ts = some ks → NestedAll s.heap ks us
  | _, _, _, _, .nil, r, h => by simp [T.nks?] at h; subst h; cases r; exact .nil
  | _, _, _, _, .cons (t := t) (ts := ts) h1 h2, r, h => by
    rw [T.nks?] at h
    cases e1 : T.nk? t with
    | none => rw [e1] at h; simp at h
    | some k1 =>
      cases e2 : T.nks? ts with
      | none => rw [e1, e2] at h; simp at h
      | some ks =>
        rw [e1, e2] at h; simp at h; subst h
        cases r with
        | cons r1 r2 => exact .cons (RT.nested I A h1 r1 e1) (RTs.nesteds I A h2 r2 e2)
end
/-- the two kinds of dicts -/
def DK (K : PySem.W.Frag) (H0 : Hp) (G : GH) (H : Hp) (a : Addr) (kvs : List (T × T)) (rd : Bool) : Prop :=
  ∃ kv : List (Key × V), (if rd then Rd H a (.dK kv) else H a = some (.dK kv)) ∧ Paired (fun (p : T × T) (q : Key × V) => T.key? p.1 = some q.1 ∧ RT K H0 G p.2 q.2) kvs kv
abbrev nkRel (K : PySem.W.Frag) (H0 : Hp) (G : GH) (p : T × T) (q : NestedKey × Addr × Value) : Prop := T.nk? p.1 = some q.1 ∧ q.1.depth ≤ 8 ∧ RT K H0 G p.1 (.ref q.2.1) ∧ ∃ v, RT K H0 G p.2 v ∧ RelV v q.2.2
def DN (P : Program) (w : World) (K : PySem.W.Frag) (H0 : Hp) (G : GH) (H : Hp) (a : Addr) (kvs : List (T × T)) : Prop :=
  ∃ xs : List (NestedKey × Addr × Value), H a = some (.ext (dPhi P w a xs)) ∧ kvs.length ≤ sizeLine ∧ kvs ≠ [] ∧ Paired (nkRel K H0 G) kvs xs
theorem zipP {K : PySem.W.Frag} {H0 : Hp} {G : GH} : ∀ {ks vs : List T} {kv : List (Key × V)}, ks.map T.key? = kv.map (fun p => some p.1) → RTs K H0 G vs (kv.map (·.2)) → Paired (fun (p : T × T) (q : Key × V) => T.key? p.1 = some q.1 ∧ RT K H0 G p.2 q.2) (ks.zip vs) kv
  | [], vs, [], _, r => by cases r; exact .nil
  | [], _, _ :: _, h, _ => by simp at h
  | _ :: _, _, [], h, _ => by simp at h
  | k :: ks, vs, q :: kv, h, r => by
    simp only [List.map_cons, List.cons.injEq] at h
    cases r with
    | cons r1 r2 => exact .cons ⟨h.1, r1⟩ (zipP h.2 r2)
theorem RT.dict (A : At X.prog X.w X.K G H0 H) {t : T} {v : V} {kvs : List (T × T)} (r : RT X.K H0 G t v) (e : dctOf G t = some kvs) : ∃ a, v = .ref a ∧ (DK X.K H0 G H a kvs true ∨ DN X.prog X.w X.K H0 G H a kvs) := by
  cases r with
  | dctK h k r =>
    simp only [dctOf, Option.some.injEq] at e
    subst e
    exact ⟨_, rfl, .inl ⟨_, A.rd h.rd, zipP k r⟩⟩
  | ref a =>
    cases e4 : G a with
    | none => simp [dctOf, e4] at e
    | some o =>
    cases o with
    | lst _ => simp [dctOf, e4] at e
    | ins _ _ => simp [dctOf, e4] at e
    | lkd ob kv us =>
      simp only [dctOf, e4, Option.some.injEq] at e
      subst e
      obtain ⟨k1, k2⟩ := A.rel _ _ e4
      exact ⟨_, rfl, .inl ⟨kv, .inr ⟨ob, A.sub _ _ k1⟩, k2⟩⟩
    | dct us =>
    have e3 := e4
    simp only [dctOf, e3, Option.some.injEq] at e
    subst e
    refine ⟨_, rfl, ?_⟩
    rcases A.rel _ _ e3 with ⟨kv, h1, h2⟩ | ⟨xs, h1, h2⟩
    · exact .inl ⟨kv, .inl (A.sub _ _ h1), h2⟩
    · exact .inr ⟨xs, A.sub _ _ h1, h2⟩
  | _ => cases e
theorem Paired.memR {α β : Type} {F : α → β → Prop} : ∀ {l : List α} {m : List β}, Paired F l m → ∀ b ∈ m, ∃ a ∈ l, F a b
  | _, _, .nil, _, h => by simp at h
  | _, _, .cons h t, b, hb => by
    rcases List.mem_cons.mp hb with rfl | hb
    · exact ⟨_, List.mem_cons_self, h⟩
    · obtain ⟨a, ha, f⟩ := Paired.memR t b hb
      exact ⟨a, List.mem_cons_of_mem _ ha, f⟩
/-- a dict with tuple keys, or the empty one, as the library has it -/
theorem DN.lib (I : Inv X pins σ H s) (A : At X.prog X.w X.K G H0 H) {a : Addr} {kvs : List (T × T)} (d : DN X.prog X.w X.K H0 G H a kvs ∨ (kvs = [] ∧ DK X.K H0 G H a kvs true)) :
    (a == sysModules) = false ∧ kvs.length ≤ sizeLine ∧ ∃ xs, Paired (nkRel X.K H0 G) kvs xs ∧ s.heap.DictOfH (nestedKind X.prog X.w) a xs := by
  rcases d with ⟨xs, h1, h2, h3, h4⟩ | ⟨rfl, kv, h1, h2⟩
  · obtain ⟨⟨hm, o, es, ep, e1, e2, e3, e4, e5⟩, _⟩ := I.hok a _ h1
    refine ⟨hm, h2, xs, h4, o, es, ep, e1, e2, e3, e4, fun x hx => ?_, e5⟩
    obtain ⟨p, hp, z1, z2, z3, _⟩ := Paired.memR h4 x hx
    exact ⟨RT.nested I A z3 rfl z1, z2⟩
  · cases h2
    obtain ⟨z, hd, vs, rel, dd⟩ := dk_rd I.hok (show Rd H a (.dK []) from h1)
    cases rel
    obtain ⟨o, es, ep, e1, e2, e3, _, e4, _⟩ := dd
    refine ⟨hd, Nat.zero_le _, [], .nil, o, es, ep, e1, e2, e3, ?_, fun x hx => by simp at hx, List.nodup_nil⟩
    generalize es.toList = l at e4
    cases e4
    rfl
end

/-! ### keys -/
inductive KeyC (kvs : List (T × T)) (k : T) : Prop
  | sc (j : Key) (h : T.key? k = some j) (all : ∀ p ∈ kvs, (T.key? p.1).isSome = true)
  | tp (ks : List T) (e : k = .tup ks) (j : NestedKey) (h : T.nk? k = some j) (d : j.depth ≤ 8) (all : ∀ p ∈ kvs, ∃ us, p.1 = .tup us)
theorem keyC {kvs : List (T × T)} {k : T} (h : keyOk kvs k = true) : KeyC kvs k := by
  unfold keyOk at h
  rw [Bool.or_eq_true] at h
  rcases h with h | h
  · rw [Bool.and_eq_true] at h
    obtain ⟨h1, h2⟩ := h
    obtain ⟨j, hj⟩ := Option.isSome_iff_exists.mp h1
    exact .sc j hj fun p hp => List.all_eq_true.mp h2 p hp
  · simp only [Bool.and_eq_true] at h
    obtain ⟨⟨⟨h1, h2⟩, h3⟩, h4⟩ := h
    obtain ⟨j, hj⟩ := Option.isSome_iff_exists.mp h2
    cases k with
    | tup ks =>
      refine .tp ks rfl j hj (by rw [T.nk_dep _ _ hj]; exact of_decide_eq_true h3) fun p hp => ?_
      have q := List.all_eq_true.mp h4 p hp
      cases e : p.1 with
      | tup us => exact ⟨us, rfl⟩
      | _ => rw [e] at q; simp at q
    | _ => simp at h1
section
variable {X : Cx} {pins : List (Addr × Obj)} {σ : L2.St} {H H0 : Hp} {s : Shared} {G : GH} {A : Around} {E : Value → Shared → Prop}
theorem RT.key {K : PySem.W.Frag} {H : Hp} {G : GH} {t : T} {v : V} {j : Key} (r : RT K H G t v) (h : T.key? t = some j) : v = kV j := by
  cases r <;> simp [T.key?] at h <;> subst h <;> rfl
/-- which of the two kinds a key meets -/
theorem dict_key {K : PySem.W.Frag} {P : Program} {w : World} {a : Addr} {kvs : List (T × T)} {k : T} {y : V} (r : RT K H0 G k y) (d : DK K H0 G H a kvs true ∨ DN P w K H0 G H a kvs) (c : KeyC kvs k) :
    (∃ j kv, T.key? k = some j ∧ y = kV j ∧ Rd H a (.dK kv) ∧ Paired (fun (p : T × T) (q : Key × V) => T.key? p.1 = some q.1 ∧ RT K H0 G p.2 q.2) kvs kv) ∨
    (∃ b j, y = .ref b ∧ T.nk? k = some j ∧ j.depth ≤ 8 ∧ (DN P w K H0 G H a kvs ∨ (kvs = [] ∧ DK K H0 G H a kvs true))) := by
  cases c with
  | sc j h all =>
    rcases d with ⟨kv, h1, h2⟩ | ⟨xs, h1, h2, h3, h4⟩
    · exact .inl ⟨j, kv, h, r.key h, h1, h2⟩
    · cases h4 with
      | nil => exact absurd rfl h3
      | @cons p q kvs' xs' z _ =>
        obtain ⟨z1, z2, z3, _⟩ := z
        obtain ⟨j', hj'⟩ := Option.isSome_iff_exists.mp (all p List.mem_cons_self)
        have e : V.ref q.2.1 = kV j' := RT.key z3 hj'
        cases j' <;> cases e
  | tp ks e j h hd all =>
    subst e
    cases r with
    | @tup b xs ts hT rs =>
      refine .inr ⟨b, j, rfl, h, hd, ?_⟩
      rcases d with ⟨kv, h1, h2⟩ | d
      · cases h2 with
        | nil => exact .inr ⟨rfl, [], h1, .nil⟩
        | @cons p q kvs' kv' z _ =>
          obtain ⟨us, eu⟩ := all p List.mem_cons_self
          rw [eu] at z
          simp [T.key?] at z
      · exact .inl d
/-- d[k], k in d and the like: what is found -/
theorem dict_look (I : Inv X pins σ H s) (AA : At X.prog X.w X.K G H0 H) {a : Addr} {kvs : List (T × T)} {k : T} {y : V} {u : Value} (r : RT X.K H0 G k y) (ru : RelV y u)
    (d : DK X.K H0 G H a kvs true ∨ DN X.prog X.w X.K H0 G H a kvs) (c : keyOk kvs k = true) :
    (∃ j kv o, y = kV j ∧ Rd H a (.dK kv) ∧ valV kv j = o ∧ ((dget kvs k = none ∧ o = none) ∨ ∃ t v, dget kvs k = some t ∧ o = some v ∧ RT X.K H0 G t v)) ∨
    (∃ b j xs, u = .ref b ∧ (a == sysModules) = false ∧ (nestedKind X.prog X.w).is s.heap j b ∧ s.heap.DictOfH (nestedKind X.prog X.w) a xs ∧
      ((dget kvs k = none ∧ atKey xs j = none) ∨ ∃ t v b' w', dget kvs k = some t ∧ atKey xs j = some (b', w') ∧ RT X.K H0 G t v ∧ RelV v w')) := by
  rcases dict_key r d (keyC c) with ⟨j, kv, hk, hy, h1, h2⟩ | ⟨b, j, hy, hk, hd, d'⟩
  · refine .inl ⟨j, kv, _, hy, h1, rfl, ?_⟩
    rcases find_rel T.key_inj h2 hk with ⟨e1, e2⟩ | ⟨t, v, e1, e2, e3⟩
    · exact .inl ⟨e1, by unfold valV; rw [e2]; rfl⟩
    · exact .inr ⟨t, v, e1, by unfold valV; rw [e2]; rfl, e3⟩
  · subst hy
    cases ru
    obtain ⟨hm, _, xs, h4, dd⟩ := DN.lib I AA d'
    refine .inr ⟨b, j, xs, rfl, hm, ⟨RT.nested I AA r rfl hk, hd⟩, dd, ?_⟩
    rcases find_rel (R := fun t (q : Addr × Value) => ∃ v, RT X.K H0 G t v ∧ RelV v q.2) T.nk_inj (Paired.mapP h4 fun p q ⟨z1, _, _, z4⟩ => ⟨z1, z4⟩) hk with ⟨e1, e2⟩ | ⟨t, q, e1, e2, v, e3, e4⟩
    · exact .inl ⟨e1, by unfold atKey; rw [e2]; rfl⟩
    · exact .inr ⟨t, v, q.1, q.2, e1, by unfold atKey; rw [e2]; rfl, e3, e4⟩
theorem room8 {A : Around} (hu : A.units + 64 < cLine) (prog : Program) (w : World) : (nestedKind prog w).room A.in1 := by
  show A.in1.units + 8 < cLine
  have e : A.in1.units = A.units + 1 := rfl
  omega
theorem DGet.of {H : Hp} {a : Addr} {kv : List (Key × V)} {j : Key} {o : Option V} (h : Rd H a (.dK kv)) (e : valV kv j = o) : DGet H a (kV j) o := .inl ⟨kv, j, h, rfl, e.symm⟩
theorem p_dgetItem (hu : A.units + 64 < cLine) (I : Inv X pins σ H s) (AA : At X.prog X.w X.K G H0 H) {a : Addr} {kvs : List (T × T)} {k t : T} {y : V} {u : Value} {Q : Value → Shared → Prop} (r : RT X.K H0 G k y) (ru : RelV y u)
    (d : DK X.K H0 G H a kvs true ∨ DN X.prog X.w X.K H0 G H a kvs) (c : keyOk kvs k = true) (ht : dget kvs k = some t) (h : ∀ v w' s', Inv X pins σ H s' → RelV v w' → RT X.K H0 G t v → Q w' s') :
    wpAny (model X.prog X.w) A (getItem (.ref a) u) Q E s := by
  rcases dict_look I AA r ru d c with ⟨j, kv, o, hy, h1, h2, z⟩ | ⟨b, j, xs, hb, hm, hk, dd, z⟩
  · subst hy
    rcases z with ⟨e, _⟩ | ⟨t', v, e, eo, rt⟩
    · rw [ht] at e; cases e
    · rw [ht] at e; cases e
      exact d_getItem (by omega) I (DGet.of h1 (h2.trans eo)) ru fun w' s' I' r' => h v w' s' I' r' rt
  · subst hb
    rcases z with ⟨e, _⟩ | ⟨t', v, b', w', e, ea, rt, rw'⟩
    · rw [ht] at e; cases e
    · rw [ht] at e; cases e
      exact wpAny_getItem_heap (room8 hu _ _) hk dd ea (h v w' _ (I.tok _) rw' rt)
theorem p_din (hu : A.units + 64 < cLine) (I : Inv X pins σ H s) (AA : At X.prog X.w X.K G H0 H) {a : Addr} {kvs : List (T × T)} {k : T} {y : V} {u : Value} {Q : Value → Shared → Prop} (r : RT X.K H0 G k y) (ru : RelV y u)
    (d : DK X.K H0 G H a kvs true ∨ DN X.prog X.w X.K H0 G H a kvs) (c : keyOk kvs k = true) (h : ∀ s', Inv X pins σ H s' → Q (.bool (dget kvs k).isSome) s') :
    wpAny (model X.prog X.w) A (compareOp .In u (.ref a)) Q E s := by
  rcases dict_look I AA r ru d c with ⟨j, kv, o, hy, h1, h2, z⟩ | ⟨b, j, xs, hb, hm, hk, dd, z⟩
  · subst hy
    refine d_in (by omega) I (DGet.of h1 h2) ru fun s' I' => ?_
    have e : o.isSome = (dget kvs k).isSome := by rcases z with ⟨e, eo⟩ | ⟨t', v, e, eo, _⟩ <;> rw [e, eo] <;> rfl
    rw [e]; exact h s' I'
  · subst hb
    refine wpAny_in_heap (room8 hu _ _) hk hm dd ?_
    have e : (atKey xs j).isSome = (dget kvs k).isSome := by rcases z with ⟨e, eo⟩ | ⟨t', v, b', w', e, eo, _⟩ <;> rw [e, eo] <;> rfl
    rw [e]; exact h _ (I.tok _)
theorem p_dnotin (hu : A.units + 64 < cLine) (I : Inv X pins σ H s) (AA : At X.prog X.w X.K G H0 H) {a : Addr} {kvs : List (T × T)} {k : T} {y : V} {u : Value} {Q : Value → Shared → Prop} (r : RT X.K H0 G k y) (ru : RelV y u)
    (d : DK X.K H0 G H a kvs true ∨ DN X.prog X.w X.K H0 G H a kvs) (c : keyOk kvs k = true) (h : ∀ s', Inv X pins σ H s' → Q (.bool (!(dget kvs k).isSome)) s') :
    wpAny (model X.prog X.w) A (compareOp .NotIn u (.ref a)) Q E s := by
  rcases dict_look I AA r ru d c with ⟨j, kv, o, hy, h1, h2, z⟩ | ⟨b, j, xs, hb, hm, hk, dd, z⟩
  · subst hy
    refine d_notIn (by omega) I (DGet.of h1 h2) ru fun s' I' => ?_
    have e : o.isSome = (dget kvs k).isSome := by rcases z with ⟨e, eo⟩ | ⟨t', v, e, eo, _⟩ <;> rw [e, eo] <;> rfl
    rw [e]; exact h s' I'
  · subst hb
    refine wpAny_notIn_heap (room8 hu _ _) hk hm dd ?_
    have e : (atKey xs j).isSome = (dget kvs k).isSome := by rcases z with ⟨e, eo⟩ | ⟨t', v, b', w', e, eo, _⟩ <;> rw [e, eo] <;> rfl
    rw [e]; exact h _ (I.tok _)
/-- d[k] = v on a dict of ours -/
theorem p_dput (hu : A.units + 64 < cLine) (I : Inv X pins σ H s) (AA : At X.prog X.w X.K G H0 H) {a : Addr} {kvs : List (T × T)} {k t : T} {y z : V} {u uz : Value} {Q : Unit → Shared → Prop} (g : G a = some (.dct kvs)) (r : RT X.K H0 G k y) (ru : RelV y u)
    (rt : RT X.K H0 G t z) (rz : RelV z uz) (c : keyOk kvs k = true) (hl : kvs.length < sizeLine)
    (h : ∀ s' ob, Inv X pins σ (upd H a ob) s' → ORel X.prog X.w X.K (upd H0 a ob) (put G a (.dct (dput kvs k t))) a (.dct (dput kvs k t)) → Q () s') :
    wpAny (model X.prog X.w) A (setItem (.ref a) u uz) Q E s := by
  have ho := AA.rel a _ g
  have d : DK X.K H0 G H a kvs true ∨ DN X.prog X.w X.K H0 G H a kvs := by
    rcases ho with ⟨kv, h1, h2⟩ | ⟨xs, h1, h2⟩
    · exact .inl ⟨kv, .inl (AA.sub _ _ h1), h2⟩
    · exact .inr ⟨xs, AA.sub _ _ h1, h2⟩
  rcases dict_key r d (keyC c) with ⟨j, kv, hk, hy, h1, h2⟩ | ⟨b, j, hy, hk, hd, d'⟩
  · subst hy
    have hK : H a = some (.dK kv) := by
      rcases ho with ⟨kv', h1', _⟩ | ⟨xs, h1', _⟩
      · have e := AA.sub _ _ h1'
        rcases h1 with h1 | ⟨o, h1⟩
        · exact h1
        · rw [e] at h1; cases h1
      · have e := AA.sub _ _ h1'
        rcases h1 with h1 | ⟨o, h1⟩ <;> (rw [e] at h1; cases h1)
    have lk : kv.length < sizeLine := by rw [← Paired.length h2]; exact hl
    refine d_setItem (by omega) I (DPut.k hK lk) ru rz fun s' I' => h s' _ I' (.inl ⟨_, upd_same, ?_⟩)
    have ex : ∀ (p : T × T) (q : Key × V), (T.key? p.1 = some q.1 ∧ RT X.K H0 G p.2 q.2) → T.key? p.1 = some q.1 ∧ RT X.K (upd H0 a (.dK (putK kv j z))) (put G a (.dct (dput kvs k t))) p.2 q.2 := fun p q ⟨z1, z2⟩ => ⟨z1, z2.ext (Ext.write g)⟩
    refine Paired.mapP ?_ ex
    unfold dput putK
    rcases find_rel T.key_inj h2 hk with ⟨e1, e2⟩ | ⟨t', v, e1, e2, e3⟩
    · rw [e1, valV_any]
      unfold valV
      rw [e2]
      exact Paired.app h2 ⟨hk, rt⟩
    · rw [e1, valV_any]
      unfold valV
      rw [e2]
      exact repl_rel T.key_inj h2 hk _ (fun b t _ => by simp [rt]) fun q hq => if_neg hq
  · subst hy
    cases ru
    obtain ⟨hm, hl', xs, h4, dd⟩ := DN.lib I AA d'
    have hz : xs.length ≤ sizeLine := by rw [← Paired.length h4]; exact hl'
    refine wpAny_setItem_heap (hsz := hz) (room8 hu _ _) ⟨RT.nested I AA r rfl hk, hd⟩ dd fun h' dd' hs => ?_
    have mu : Mut (H a) := by
      rcases ho with ⟨kv, h1, _⟩ | ⟨ys, h1, _⟩ <;> (rw [AA.sub _ _ h1]; exact True.intro)
    obtain ⟨o, es, ep, e1, e2, e3, e4, e5, e6⟩ := dd'
    have I' : Inv X pins σ (upd H a (.ext (dPhi X.prog X.w a (storedH xs j b uz)))) { s with heap := h', toks := s.toks + (nestedKind X.prog X.w).draws j } :=
      d_write I mu hs ⟨o, e1⟩ ⟨⟨hm, o, es, ep, e1, e2, e3, e4, e6⟩, ⟨o, e1⟩, fun k1 k2 ⟨p1, o', es', ep', q1, q2, q3⟩ kp => ⟨p1, o', es', ep', kp _ q1, q2, q3⟩⟩
    refine h _ _ I' (.inr ⟨_, upd_same, ?_, ?_, ?_⟩)
    · have := dput_len kvs k t; omega
    · unfold dput
      split
      · rename_i e
        intro q
        have e0 : kvs = [] := List.map_eq_nil_iff.mp q
        rw [e0] at e
        simp [dget] at e
      · simp
    · refine Paired.mapP ?_ (fun p q (z : nkRel X.K H0 G p q) => ?_)
      rotate_left
      · obtain ⟨z1, z2, z3, v, z4, z5⟩ := z
        exact ⟨z1, z2, z3.ext (Ext.write g), v, z4.ext (Ext.write g), z5⟩
      · have h4' : Paired (fun (p : T × T) (q : NestedKey × Addr × Value) => T.nk? p.1 = some q.1 ∧ (q.1.depth ≤ 8 ∧ RT X.K H0 G p.1 (.ref q.2.1) ∧ ∃ v, RT X.K H0 G p.2 v ∧ RelV v q.2.2)) kvs xs := h4
        unfold dput storedH
        rcases find_rel (R := fun t (q : Addr × Value) => ∃ v, RT X.K H0 G t v ∧ RelV v q.2) T.nk_inj (Paired.mapP h4 fun p q ⟨z1, _, _, z4⟩ => ⟨z1, z4⟩) hk with ⟨f1, f2⟩ | ⟨t', q', f1, f2, v, f3, f4⟩
        · have f3 : atKey xs j = none := by unfold atKey; rw [f2]; rfl
          rw [f1, f3]
          exact Paired.app h4 ⟨hk, hd, r, z, rt, rz⟩
        · have f3 : atKey xs j = some q' := by unfold atKey; rw [f2]; rfl
          rw [f1, f3]
          exact put_rel h4 hk rt rz
where
  put_rel {K : PySem.W.Frag} {H0 : Hp} {G : GH} {k t : T} {z : V} {uz : Value} {j : NestedKey} : ∀ {kvs : List (T × T)} {xs : List (NestedKey × Addr × Value)}, Paired (nkRel K H0 G) kvs xs → T.nk? k = some j → RT K H0 G t z → RelV z uz →
      Paired (nkRel K H0 G) (kvs.map fun p => if p.1 = k then (p.1, t) else p) (xs.map (putAt j uz))
    | _, _, .nil, _, _, _ => .nil
    | _, _, .cons (a := p) (b := q) h r, hk, rt, rz => by
      refine .cons ?_ (put_rel r hk rt rz)
      obtain ⟨h1, h2, h3, h4⟩ := h
      dsimp only
      unfold putAt
      by_cases e : p.1 = k
      · have e' : q.1 = j := by rw [e, hk] at h1; exact (Option.some.inj h1).symm
        rw [if_pos e, if_pos e']
        exact ⟨h1, h2, h3, z, rt, rz⟩
      · have e' : ¬ q.1 = j := fun z => e (T.nk_inj _ _ _ h1 (by rw [z]; exact hk))
        rw [if_neg e, if_neg e']
        exact ⟨h1, h2, h3, h4⟩
end
end EV

/-! EV5: order and sorting. -/
namespace EV
open PySem PySem.Spec PyProof.Rows L2
open Ob (RcOp lexAt lexAt_zero lexAt_succ)

/-! ### rows of numbers -/
theorem ilt_irrefl : ∀ a, ilt a a = false
  | [] => rfl
  | x :: xs => by simp [ilt, ilt_irrefl xs]
theorem ilt_asymm : ∀ a b, ilt a b = true → ilt b a = false
  | [], [], h => by simp [ilt] at h
  | [], _ :: _, _ => rfl
  | _ :: _, [], h => by simp [ilt] at h
  | x :: xs, y :: ys, h => by
    simp only [ilt, Bool.or_eq_true, Bool.and_eq_true, decide_eq_true_eq] at h
    simp only [ilt, Bool.or_eq_false_iff, Bool.and_eq_false_iff, decide_eq_false_iff_not]
    rcases h with h | ⟨h1, h2⟩
    · exact ⟨by omega, .inl (by omega)⟩
    · exact ⟨by omega, .inr (ilt_asymm xs ys h2)⟩
theorem ilt_negtrans : ∀ a b c, ilt b a = false → ilt c b = false → ilt c a = false
  | [], [], c, _, h => h
  | [], _ :: _, [], _, h => by simp [ilt] at h
  | [], _ :: _, _ :: _, _, _ => rfl
  | _ :: _, [], [], h, _ => by simp [ilt] at h
  | _ :: _, [], _ :: _, h, _ => by simp [ilt] at h
  | _ :: _, _ :: _, [], _, h => by simp [ilt] at h
  | x :: xs, y :: ys, z :: zs, h1, h2 => by
    simp only [ilt, Bool.or_eq_false_iff, Bool.and_eq_false_iff, decide_eq_false_iff_not] at h1 h2 ⊢
    refine ⟨by omega, ?_⟩
    by_cases e : z = x
    · right
      have e1 : y = x := by omega
      have e2 : z = y := by omega
      exact ilt_negtrans xs ys zs (h1.2.resolve_left (fun q => q e1)) (h2.2.resolve_left (fun q => q e2))
    · exact .inl e
theorem ilt_total : ∀ a b, ilt a b = false → ilt b a = false → a = b
  | [], [], _, _ => rfl
  | [], _ :: _, h, _ => by simp [ilt] at h
  | _ :: _, [], _, h => by simp [ilt] at h
  | x :: xs, y :: ys, h1, h2 => by
    simp only [ilt, Bool.or_eq_false_iff, Bool.and_eq_false_iff, decide_eq_false_iff_not] at h1 h2
    have e : x = y := by omega
    subst e
    rw [ilt_total xs ys (h1.2.resolve_left (fun q => q rfl)) (h2.2.resolve_left (fun q => q rfl))]
theorem ilt_app_same (p a b : List Int) : ilt (p ++ a) (p ++ b) = ilt a b := by
  induction p with
  | nil => rfl
  | cons x p ih => simp [ilt, ih]
theorem tlt_swo : SrtO.Swo T.tlt := ⟨fun x y h => ilt_asymm _ _ h, fun x y z h1 h2 => ilt_negtrans _ _ _ h1 h2⟩
-- every row but that of what has none is not empty and begins above 0
theorem enc_head : ∀ (a : T), T.pl a = true → ∃ c r, T.enc a = c :: r ∧ 0 < c
  | .non, _ => ⟨_, _, rfl, by decide⟩
  | .int i, _ => ⟨_, _, rfl, by decide⟩
  | .str x, _ => ⟨_, _, rfl, by decide⟩
  | .tup xs, _ => ⟨_, _, rfl, by decide⟩
  | .bl _, h => by simp [T.pl] at h
  | .lst _, h => by simp [T.pl] at h
  | .dct _ _, h => by simp [T.pl] at h
  | .scr _, h => by simp [T.pl] at h
  | .ref _, h => by simp [T.pl] at h
/-- rows of texts -/
theorem ilt_str : ∀ (x y : List Nat) (r s : List Int), x ≠ y → ilt (x.map (fun (c : Nat) => (c : Int) + 1) ++ 0 :: r) (y.map (fun (c : Nat) => (c : Int) + 1) ++ 0 :: s) = decide (x < y)
  | [], [], _, _, h => absurd rfl h
  | [], b :: y, r, s, _ => by
    have e1 : (0 : Int) < (b : Int) + 1 := by omega
    simp [ilt, e1]
  | a :: x, [], r, s, _ => by
    have e1 : ¬ ((a : Int) + 1 < 0) := by omega
    have e2 : ¬ ((a : Int) + 1 = 0) := by omega
    simp [ilt, e1, e2]
  | a :: x, b :: y, r, s, h => by
    simp only [List.map_cons, List.cons_append, ilt]
    by_cases e : a = b
    · subst e
      have h' : x ≠ y := fun z => h (by rw [z])
      have e1 : ¬ ((a : Int) + 1 < (a : Int) + 1) := by omega
      rw [ilt_str x y r s h']
      simp
    · have e1 : ((a : Int) + 1 < (b : Int) + 1) ↔ a < b := by omega
      have e2 : ¬ ((a : Int) + 1 = (b : Int) + 1) := by omega
      simp only [e1, e2, decide_false, Bool.false_and, Bool.or_false]
      have e3 : (a :: x < b :: y) ↔ a < b := by rw [List.cons_lt_cons_iff]; simp [e]
      exact decide_eq_decide.mpr e3.symm
-- unlike trees have rows that part, whatever stands behind
mutual
theorem enc_inj : ∀ (a b : T) (r s : List Int), T.pl a = true → T.pl b = true → a ≠ b → T.enc a ++ r ≠ T.enc b ++ s ∧ ∀ r' s' : List Int, ilt (T.enc a ++ r') (T.enc b ++ s') = ilt (T.enc a ++ r) (T.enc b ++ s)
  | .non, b, r, s, ha, hb, h => by
    cases b with
    | non => exact absurd rfl h
    | int j => exact ⟨by simp [T.enc], fun _ _ => by simp [T.enc, ilt]⟩
    | str y => exact ⟨by simp [T.enc], fun _ _ => by simp [T.enc, ilt]⟩
    | tup ys => exact ⟨by simp [T.enc], fun _ _ => by simp [T.enc, ilt]⟩
    | _ => simp [T.pl] at hb
  | .int i, b, r, s, ha, hb, h => by
    cases b with
    | non => exact ⟨by simp [T.enc], fun _ _ => by simp [T.enc, ilt]⟩
    | int j =>
      have e : ¬ i = j := fun z => h (by rw [z])
      exact ⟨by simp [T.enc, e], fun _ _ => by simp [T.enc, ilt, e]⟩
    | str y => exact ⟨by simp [T.enc], fun _ _ => by simp [T.enc, ilt]⟩
    | tup ys => exact ⟨by simp [T.enc], fun _ _ => by simp [T.enc, ilt]⟩
    | _ => simp [T.pl] at hb
  | .str x, b, r, s, ha, hb, h => by
    cases b with
    | non => exact ⟨by simp [T.enc], fun _ _ => by simp [T.enc, ilt]⟩
    | int j => exact ⟨by simp [T.enc], fun _ _ => by simp [T.enc, ilt]⟩
    | str y =>
      have e : x.cps.toList ≠ y.cps.toList := fun z => h (by
        have e1 : x.cps = y.cps := Array.toList_inj.mp z
        cases x; cases y
        simp only at e1
        rw [e1])
      have key := fun r s => ilt_str x.cps.toList y.cps.toList r s e
      have fl : ∀ (z : Str) (t : List Int), T.enc (.str z) ++ t = 3 :: (z.cps.toList.map (fun (c : Nat) => (c : Int) + 1) ++ 0 :: t) := fun z t => by simp [T.enc]
      refine ⟨fun z => ?_, fun r' s' => ?_⟩
      · rw [fl, fl] at z
        have z' := List.cons.inj z
        have k1 := key r s
        rw [z'.2, ilt_irrefl] at k1
        have z2 : (y.cps.toList.map (fun (c : Nat) => (c : Int) + 1) ++ 0 :: s) = (x.cps.toList.map (fun (c : Nat) => (c : Int) + 1) ++ 0 :: r) := z'.2.symm
        have k2 := ilt_str y.cps.toList x.cps.toList s r e.symm
        rw [z2, ilt_irrefl] at k2
        have n1 : ¬ x.cps.toList < y.cps.toList := of_decide_eq_false k1.symm
        have n2 : ¬ y.cps.toList < x.cps.toList := of_decide_eq_false k2.symm
        exact e (List.le_antisymm (List.not_lt.mp n2) (List.not_lt.mp n1))
      · rw [fl, fl, fl, fl]
        simp only [ilt]
        rw [key, key]
    | tup ys => exact ⟨by simp [T.enc], fun _ _ => by simp [T.enc, ilt]⟩
    | _ => simp [T.pl] at hb
  | .tup xs, b, r, s, ha, hb, h => by
    cases b with
    | non => exact ⟨by simp [T.enc], fun _ _ => by simp [T.enc, ilt]⟩
    | int j => exact ⟨by simp [T.enc], fun _ _ => by simp [T.enc, ilt]⟩
    | str y => exact ⟨by simp [T.enc], fun _ _ => by simp [T.enc, ilt]⟩
    | tup ys =>
      have e : xs ≠ ys := fun z => h (by rw [z])
      have k := encs_inj xs ys r s (by simpa [T.pl] using ha) (by simpa [T.pl] using hb) e
      refine ⟨fun z => k.1 ?_, fun r' s' => ?_⟩
      · simpa [T.enc] using z
      · have := k.2 r' s'
        simpa [T.enc, ilt] using this
    | _ => simp [T.pl] at hb
  | .bl _, _, _, _, ha, _, _ => by simp [T.pl] at ha
  | .lst _, _, _, _, ha, _, _ => by simp [T.pl] at ha
  | .dct _ _, _, _, _, ha, _, _ => by simp [T.pl] at ha
  | .scr _, _, _, _, ha, _, _ => by simp [T.pl] at ha
  | .ref _, _, _, _, ha, _, _ => by simp [T.pl] at ha
theorem encs_inj : ∀ (a b : List T) (r s : List Int), T.pls a = true → T.pls b = true → a ≠ b → T.encs a ++ 0 :: r ≠ T.encs b ++ 0 :: s ∧ ∀ r' s' : List Int, ilt (T.encs a ++ 0 :: r') (T.encs b ++ 0 :: s') = ilt (T.encs a ++ 0 :: r) (T.encs b ++ 0 :: s)
  | [], [], _, _, _, _, h => absurd rfl h
  | [], y :: ys, r, s, _, hb, _ => by
    rw [T.pls, Bool.and_eq_true] at hb
    obtain ⟨c, q, e, hc⟩ := enc_head y hb.1
    refine ⟨?_, fun r' s' => ?_⟩
    · simp only [T.encs, e, List.nil_append, List.cons_append]
      intro z
      have := (List.cons.inj z).1
      omega
    · simp [T.encs, e, ilt, hc]
  | x :: xs, [], r, s, ha, _, _ => by
    rw [T.pls, Bool.and_eq_true] at ha
    obtain ⟨c, q, e, hc⟩ := enc_head x ha.1
    have h1 : ¬ c < 0 := by omega
    have h2 : ¬ c = 0 := by omega
    refine ⟨?_, fun r' s' => ?_⟩
    · simp only [T.encs, e, List.nil_append, List.cons_append]
      intro z
      exact h2 (List.cons.inj z).1
    · simp [T.encs, e, ilt, h1, h2]
  | x :: xs, y :: ys, r, s, ha, hb, h => by
    rw [T.pls, Bool.and_eq_true] at ha hb
    by_cases e : x = y
    · subst e
      have h' : xs ≠ ys := fun z => h (by rw [z])
      obtain ⟨k1, k2⟩ := encs_inj xs ys r s ha.2 hb.2 h'
      refine ⟨fun z => k1 ?_, fun r' s' => ?_⟩
      · simpa [T.encs] using z
      · simp only [T.encs, List.append_assoc, ilt_app_same]
        exact k2 r' s'
    · obtain ⟨k1, k2⟩ := enc_inj x y (T.encs xs ++ 0 :: r) (T.encs ys ++ 0 :: s) ha.1 hb.1 e
      refine ⟨fun z => k1 (by simpa [T.encs] using z), fun r' s' => ?_⟩
      simp only [T.encs, List.append_assoc]
      exact k2 _ _
end
/-- the order tells plain trees apart -/
theorem tlt_total {a b : T} (ha : T.pl a = true) (hb : T.pl b = true) (h1 : T.tlt a b = false) (h2 : T.tlt b a = false) : a = b := by
  by_cases e : a = b
  · exact e
  · have k := (enc_inj a b [] [] ha hb e).1
    simp only [List.append_nil] at k
    exact absurd (ilt_total _ _ h1 h2) k
theorem tlt_irrefl (a : T) : T.tlt a a = false := ilt_irrefl _
theorem tlt_int (i j : Int) : T.tlt (.int i) (.int j) = decide (i < j) := by simp [T.tlt, T.enc, ilt]
theorem tlt_str {x y : Str} (h : x ≠ y) : T.tlt (.str x) (.str y) = decide (x.cps.toList < y.cps.toList) := by
  have e : x.cps.toList ≠ y.cps.toList := fun z => h (by
    have e1 : x.cps = y.cps := Array.toList_inj.mp z
    cases x; cases y
    simp only at e1
    rw [e1])
  have k := ilt_str x.cps.toList y.cps.toList [] [] e
  show ilt (3 :: (x.cps.toList.map (fun (c : Nat) => (c : Int) + 1) ++ [0])) (3 :: (y.cps.toList.map (fun (c : Nat) => (c : Int) + 1) ++ [0])) = _
  simp only [ilt]
  rw [k]
  simp
def tlts (xs ys : List T) : Bool := T.tlt (.tup xs) (.tup ys)
theorem tlt_nil_nil : T.tlt (.tup []) (.tup []) = false := tlt_irrefl _
theorem tlt_nil {y : T} {ys : List T} (hy : T.pl y = true) : T.tlt (.tup []) (.tup (y :: ys)) = true := by
  obtain ⟨c, q, e, hc⟩ := enc_head y hy
  simp [T.tlt, T.enc, T.encs, e, ilt, hc]
theorem tlt_cons_nil {y : T} {ys : List T} (hy : T.pl y = true) : T.tlt (.tup (y :: ys)) (.tup []) = false := by
  obtain ⟨c, q, e, hc⟩ := enc_head y hy
  have h1 : ¬ c < 0 := by omega
  have h2 : ¬ c = 0 := by omega
  simp [T.tlt, T.enc, T.encs, e, ilt, h1, h2]
theorem tlt_cons_same {x : T} {xs ys : List T} : T.tlt (.tup (x :: xs)) (.tup (x :: ys)) = T.tlt (.tup xs) (.tup ys) := by
  simp [T.tlt, T.enc, T.encs, ilt, ilt_app_same]
theorem tlt_cons_ne {x y : T} {xs ys : List T} (hx : T.pl x = true) (hy : T.pl y = true) (h : x ≠ y) : T.tlt (.tup (x :: xs)) (.tup (y :: ys)) = T.tlt x y := by
  have k := (enc_inj x y [] [] hx hy h).2 (T.encs xs ++ [0]) (T.encs ys ++ [0])
  simp only [List.append_nil] at k
  simp only [T.tlt, T.enc, T.encs, ilt, List.append_assoc]
  rw [k]
  simp

/-! ### plain trees in a heap -/
mutual
inductive PT (h : Heap) : T → Value → Prop
  | non : PT h .non .none
  | int (i t) : PT h (.int i) (.int i t)
  | str (x t) : PT h (.str x) (.str x t)
  | tup {a o vs n ts} : h.get? a = some o → o.cls = .type "tuple" → o.data = .seq vs n → PTs h ts vs.toList → PT h (.tup ts) (.ref a)
inductive PTs (h : Heap) : List T → List Value → Prop
  | nil : PTs h [] []
  | cons {t v ts vs} : PT h t v → PTs h ts vs → PTs h (t :: ts) (v :: vs)
end
mutual
theorem PT.at {h h' : Heap} (k : ∀ a o vs n, h.get? a = some o → o.cls = .type "tuple" → o.data = .seq vs n → h'.get? a = some o) : ∀ {t : T} {v : Value}, PT h t v → PT h' t v
  | _, _, .non => .non
  | _, _, .int i t => .int i t
  | _, _, .str x t => .str x t
  | _, _, .tup h1 h2 h3 h4 => .tup (k _ _ _ _ h1 h2 h3) h2 h3 (PTs.at k h4)
theorem PTs.at {h h' : Heap} (k : ∀ a o vs n, h.get? a = some o → o.cls = .type "tuple" → o.data = .seq vs n → h'.get? a = some o) : ∀ {ts : List T} {vs : List Value}, PTs h ts vs → PTs h' ts vs
  | _, _, .nil => .nil
  | _, _, .cons h1 h2 => .cons (PT.at k h1) (PTs.at k h2)
end
mutual
theorem PT.nk {h : Heap} : ∀ {t : T} {v : Value}, PT h t v → ∃ k, T.nk? t = some k ∧ NestedIs h k v
  | _, _, .non => ⟨_, rfl, .none⟩
  | _, _, .int i t => ⟨_, rfl, .int i t⟩
  | _, _, .str x t => ⟨_, rfl, .text x t⟩
  | _, _, .tup h1 h2 h3 h4 => by
    obtain ⟨ks, e, n⟩ := PTs.nks h4
    exact ⟨.tup ks, by rw [T.nk?, e], .tup h1 h2 h3 n⟩
theorem PTs.nks {h : Heap} : ∀ {ts : List T} {vs : List Value}, PTs h ts vs → ∃ ks, T.nks? ts = some ks ∧ NestedAll h ks vs
  | _, _, .nil => ⟨[], rfl, .nil⟩
  | _, _, .cons h1 h2 => by
    obtain ⟨k, e1, n1⟩ := PT.nk h1
    obtain ⟨ks, e2, n2⟩ := PTs.nks h2
    exact ⟨k :: ks, by rw [T.nks?, e1, e2], .cons n1 n2⟩
end
mutual
theorem PT.inj {h : Heap} : ∀ {t u : T} {v : Value}, PT h t v → PT h u v → t = u
  | _, _, _, .non, q => by cases q; rfl
  | _, _, _, .int i t, q => by cases q; rfl
  | _, _, _, .str x t, q => by cases q; rfl
  | _, _, _, .tup h1 h2 h3 h4, q => by
    cases q with
    | tup k1 k2 k3 k4 =>
      rw [h1] at k1; cases k1
      rw [h3] at k3; cases k3
      rw [PTs.inj h4 k4]
theorem PTs.inj {h : Heap} : ∀ {ts us : List T} {vs : List Value}, PTs h ts vs → PTs h us vs → ts = us
  | _, _, _, .nil, q => by cases q; rfl
  | _, _, _, .cons h1 h2, q => by cases q with | cons k1 k2 => rw [PT.inj h1 k1, PTs.inj h2 k2]
end
theorem PTs.length {h : Heap} : ∀ {ts : List T} {vs : List Value}, PTs h ts vs → ts.length = vs.length
  | _, _, .nil => rfl
  | _, _, .cons _ r => by rw [List.length_cons, List.length_cons, PTs.length r]
theorem PTs.get {h : Heap} : ∀ {ts : List T} {vs : List Value}, PTs h ts vs → ∀ {j : Nat} {v : Value}, vs[j]? = some v → ∃ t, ts[j]? = some t ∧ PT h t v
  | _, _, .nil, j, v, e => by simp at e
  | _, _, .cons h1 r, 0, v, e => by simp at e; subst e; exact ⟨_, rfl, h1⟩
  | _, _, .cons h1 r, j + 1, v, e => by simpa using PTs.get r (by simpa using e)
theorem PTs.memV {h : Heap} : ∀ {ts : List T} {vs : List Value}, PTs h ts vs → ∀ v ∈ vs, ∃ t ∈ ts, PT h t v
  | _, _, .nil, v, e => by simp at e
  | _, _, .cons h1 r, v, e => by
    rcases List.mem_cons.mp e with rfl | e
    · exact ⟨_, List.mem_cons_self, h1⟩
    · obtain ⟨t, ht, p⟩ := PTs.memV r v e
      exact ⟨t, List.mem_cons_of_mem _ ht, p⟩
/-- == of plain trees -/
theorem PT.eqAt {A : Around} {s : Shared} {t u : T} {a b : Value} (ha : PT s.heap t a) (hb : PT s.heap u b) (hr : A.units + min (T.dep t) (T.dep u) < cLine) : SeqAt.EqAt A s a b (decide (t = u)) := by
  obtain ⟨k, e1, n1⟩ := ha.nk
  obtain ⟨j, e2, n2⟩ := hb.nk
  have q := eqAt_key k j A s a b n1 n2 (by rw [T.nk_dep _ _ e1, T.nk_dep _ _ e2]; exact hr)
  refine SeqAt.EqAt.cast q ?_
  rw [← NestedKey.decide_eq]
  refine decide_eq_decide.mpr ⟨fun e => T.nk_inj t u k e1 (by rw [e2, e]), fun e => ?_⟩
  rw [e, e2] at e1
  exact (Option.some.inj e1).symm
theorem tlts_lex : ∀ (xs ys : List T), T.pls xs = true → T.pls ys = true → ∀ (n i : Nat), xs.length = i + n ∨ ys.length = i + n → i + n ≤ xs.length → i + n ≤ ys.length →
    lexAt (fun j => decide (xs[j]? = ys[j]?)) (fun j => match xs[j]?, ys[j]? with | some x, some y => T.tlt x y | _, _ => false) (decide (xs.length < ys.length)) i n = T.tlt (.tup (xs.drop i)) (.tup (ys.drop i)) := by
  intro xs ys hx hy n
  induction n with
  | zero =>
    intro i h h1 h2
    rw [lexAt_zero]
    by_cases e : xs.length = i
    · rw [List.drop_eq_nil_of_le (by omega : xs.length ≤ i)]
      by_cases e2 : ys.length = i
      · rw [List.drop_eq_nil_of_le (by omega : ys.length ≤ i), tlt_nil_nil, decide_eq_false (by omega)]
      · obtain ⟨y, r, ey⟩ : ∃ y r, ys.drop i = y :: r := by
          cases e3 : ys.drop i with
          | nil => exact absurd (List.drop_eq_nil_iff.mp e3) (by omega)
          | cons y r => exact ⟨y, r, rfl⟩
        have hp : T.pl y = true := pls_mem hy (List.mem_of_mem_drop (by rw [ey]; exact List.mem_cons_self))
        rw [ey, tlt_nil hp, decide_eq_true (by omega)]
    · have e2 : ys.length = i := by omega
      rw [List.drop_eq_nil_of_le (by omega : ys.length ≤ i)]
      obtain ⟨y, r, ey⟩ : ∃ y r, xs.drop i = y :: r := by
        cases e3 : xs.drop i with
        | nil => exact absurd (List.drop_eq_nil_iff.mp e3) (by omega)
        | cons y r => exact ⟨y, r, rfl⟩
      have hp : T.pl y = true := pls_mem hx (List.mem_of_mem_drop (by rw [ey]; exact List.mem_cons_self))
      rw [ey, tlt_cons_nil hp, decide_eq_false (by omega)]
  | succ n ih =>
    intro i h h1 h2
    have l1 : i < xs.length := by omega
    have l2 : i < ys.length := by omega
    rw [lexAt_succ]
    have p1 : T.pl xs[i] = true := pls_mem hx (List.getElem_mem l1)
    have p2 : T.pl ys[i] = true := pls_mem hy (List.getElem_mem l2)
    rw [List.drop_eq_getElem_cons l1, List.drop_eq_getElem_cons l2]
    simp only [List.getElem?_eq_getElem l1, List.getElem?_eq_getElem l2, Option.some.injEq, decide_eq_true_eq]
    by_cases e : xs[i] = ys[i]
    · rw [if_pos e, e, tlt_cons_same]
      exact ih (i + 1) (by omega) (by omega) (by omega)
    · rw [if_neg e, tlt_cons_ne p1 p2 e]
where
  pls_mem {ts : List T} (h : T.pls ts = true) {t : T} (m : t ∈ ts) : T.pl t = true := by
    induction ts with
    | nil => simp at m
    | cons x xs ih =>
      rw [T.pls, Bool.and_eq_true] at h
      rcases List.mem_cons.mp m with rfl | m
      · exact h.1
      · exact ih h.2 m
theorem pls_mem {ts : List T} (h : T.pls ts = true) {t : T} (m : t ∈ ts) : T.pl t = true := by
  induction ts with
  | nil => simp at m
  | cons x xs ih =>
    rw [T.pls, Bool.and_eq_true] at h
    rcases List.mem_cons.mp m with rfl | m
    · exact h.1
    · exact ih h.2 m
theorem deps_mem {ts : List T} {t : T} (m : t ∈ ts) : T.dep t ≤ T.deps ts := by
  induction ts with
  | nil => simp at m
  | cons x xs ih =>
    rw [T.deps]
    rcases List.mem_cons.mp m with rfl | m
    · omega
    · have := ih m; omega
theorem cmps_at : ∀ {xs ys : List T}, T.cmps xs ys = true → ∀ (i : Nat) (x y : T), xs[i]? = some x → ys[i]? = some y → x = y ∨ T.cmp x y = true
  | [], _, _, i, x, y, h1, _ => by simp at h1
  | _ :: _, [], _, i, x, y, _, h2 => by simp at h2
  | x0 :: xs, y0 :: ys, h, 0, x, y, h1, h2 => by
    simp at h1 h2; subst h1 h2
    simp only [T.cmps, Bool.and_eq_true, Bool.or_eq_true, decide_eq_true_eq] at h
    exact h.1
  | x0 :: xs, y0 :: ys, h, i + 1, x, y, h1, h2 => by
    simp only [T.cmps, Bool.and_eq_true] at h
    exact cmps_at h.2 i x y (by simpa using h1) (by simpa using h2)

-- < of plain trees that go together
mutual
theorem PT.ltAt : ∀ (t u : T) (A : Around) (s : Shared) (a b : Value), PT s.heap t a → PT s.heap u b → T.pl t = true → T.pl u = true → T.cmp t u = true → A.units + min (T.dep t) (T.dep u) < cLine → RcOp .Lt A s a b (T.tlt t u)
  | .int i, u, A, s, a, b, ha, hb, _, _, hc, _ => by
    cases ha
    cases u with
    | int j => cases hb; rw [tlt_int]; exact RcOp.lt_int _ _ _ _
    | _ => simp [T.cmp] at hc
  | .str x, u, A, s, a, b, ha, hb, _, _, hc, _ => by
    cases ha
    cases u with
    | str y =>
      cases hb
      intro prog w E Q h
      refine PyProof.Rows.lt_str ?_
      by_cases e : x = y
      · subst e
        rw [tlt_irrefl] at h
        rw [decide_eq_false (List.lt_irrefl _)]
        exact h
      · rw [tlt_str e] at h; exact h
    | _ => simp [T.cmp] at hc
  | .tup xs, u, A, s, a, b, ha, hb, px, py, hc, hr => by
    cases u with
    | tup ys =>
      cases ha with
      | @tup a oa va na _ h1 h2 h3 h4 =>
        cases hb with
        | @tup b ob vb nb _ k1 k2 k3 k4 =>
          rw [T.dep, T.dep] at hr
          have px' : T.pls xs = true := by simpa [T.pl] using px
          have py' : T.pls ys = true := by simpa [T.pl] using py
          have la : xs.length = va.size := by rw [h4.length, Array.length_toList]
          have lb : ys.length = vb.size := by rw [k4.length, Array.length_toList]
          have hu1 : A.in1.units = A.units + 1 := rfl
          have key := RcOp.tuples_lt (A := A) (s := s) (items := va) (items2 := vb) (e := fun j => decide (xs[j]? = ys[j]?)) (r := fun j => match xs[j]?, ys[j]? with | some x, some y => T.tlt x y | _, _ => false)
            ⟨oa, h1, h2, na, h3⟩ ⟨ob, k1, k2, nb, k3⟩ (by omega) (fun j p1 p2 => ?_) (fun j p1 p2 ne => ?_)
          · rw [← la, ← lb, tlts_lex xs ys px' py' (min xs.length ys.length) 0 (by omega) (by omega) (by omega)] at key
            simpa using key
          · obtain ⟨x, ex, hx⟩ := h4.get (j := j) (v := va[j]) (by simp [p1])
            obtain ⟨y, ey, hy⟩ := k4.get (j := j) (v := vb[j]) (by simp [p2])
            have d1 := deps_mem (List.mem_of_getElem? ex)
            have d2 := deps_mem (List.mem_of_getElem? ey)
            have q := PT.eqAt (A := A.in1) hx hy (by omega)
            simp only [ex, ey, Option.some.injEq]
            exact q
          · obtain ⟨x, ex, hx⟩ := h4.get (j := j) (v := va[j]) (by simp [p1])
            obtain ⟨y, ey, hy⟩ := k4.get (j := j) (v := vb[j]) (by simp [p2])
            have d1 := deps_mem (List.mem_of_getElem? ex)
            have d2 := deps_mem (List.mem_of_getElem? ey)
            simp only [ex, ey, Option.some.injEq, decide_eq_false_iff_not] at ne ⊢
            have hc' : T.cmps xs ys = true := by simpa [T.cmp] using hc
            exact PT.ltAts xs ys A.in1 s va.toList vb.toList h4 k4 px' py' hc' (by omega) j x y _ _ ex ey (by simp [p1]) (by simp [p2]) ne
    | _ => simp [T.cmp] at hc
  | .non, u, _, _, _, _, _, _, _, _, hc, _ => by cases u <;> simp [T.cmp] at hc
  | .bl _, _, _, _, _, _, _, _, px, _, _, _ => by simp [T.pl] at px
  | .lst _, _, _, _, _, _, _, _, px, _, _, _ => by simp [T.pl] at px
  | .dct _ _, _, _, _, _, _, _, _, px, _, _, _ => by simp [T.pl] at px
  | .scr _, _, _, _, _, _, _, _, px, _, _, _ => by simp [T.pl] at px
  | .ref _, _, _, _, _, _, _, _, px, _, _, _ => by simp [T.pl] at px
theorem PT.ltAts : ∀ (ts us : List T) (A : Around) (s : Shared) (as bs : List Value), PTs s.heap ts as → PTs s.heap us bs → T.pls ts = true → T.pls us = true → T.cmps ts us = true → A.units + min (T.deps ts) (T.deps us) < cLine →
    ∀ (j : Nat) (x y : T) (a b : Value), ts[j]? = some x → us[j]? = some y → as[j]? = some a → bs[j]? = some b → x ≠ y → RcOp .Lt A s a b (T.tlt x y)
  | [], us, A, s, as, bs, ha, hb, p1, p2, hc, hr, j, x, y, a, b, e1, _, _, _, _ => by simp at e1
  | _ :: _, [], A, s, as, bs, ha, hb, p1, p2, hc, hr, j, x, y, a, b, _, e2, _, _, _ => by simp at e2
  | t :: ts, u :: us, A, s, _, _, .cons h1 h2, .cons k1 k2, p1, p2, hc, hr, 0, x, y, a, b, e1, e2, e3, e4, ne => by
    simp at e1 e2 e3 e4
    subst e1 e2 e3 e4
    rw [T.pls, Bool.and_eq_true] at p1 p2
    rw [T.deps, T.deps] at hr
    rcases cmps_at hc 0 t u rfl rfl with e | e
    · exact absurd e ne
    · exact PT.ltAt t u A s _ _ h1 k1 p1.1 p2.1 e (by omega)
  | t :: ts, u :: us, A, s, _, _, .cons h1 h2, .cons k1 k2, p1, p2, hc, hr, j + 1, x, y, a, b, e1, e2, e3, e4, ne => by
    rw [T.pls, Bool.and_eq_true] at p1 p2
    rw [T.deps, T.deps] at hr
    simp only [T.cmps, Bool.and_eq_true] at hc
    exact PT.ltAts ts us A s _ _ h2 k2 p1.2 p2.2 hc.2 (by omega) j x y a b (by simpa using e1) (by simpa using e2) (by simpa using e3) (by simpa using e4) ne
end
end EV

/-! EV6: what is collected, sorted; the further operations by values. -/
namespace EV
open PySem PySem.Spec PyProof.Rows L2

def ItsOf (G : GH) (t : T) (ts : List T) : Prop := seqOf G t = some ts ∨ ∃ kvs, dctOf G t = some kvs ∧ ts = kvs.map (·.1)
section
variable {X : Cx} {pins : List (Addr × Obj)} {σ : L2.St} {H H0 : Hp} {s : Shared} {G : GH}
theorem key_rt {K : PySem.W.Frag} {H0 : Hp} {G : GH} {k : T} {j : Key} (h : T.key? k = some j) : RT K H0 G k (kV j) := by
  cases k <;> simp [T.key?] at h <;> subst h
  · exact .int _
  · exact .str _
theorem items_vals {K : PySem.W.Frag} {H0 : Hp} {G : GH} : ∀ {kvs : List (T × T)} {kv : List (Key × V)} {us : List Value}, Paired (fun (p : T × T) (q : Key × V) => T.key? p.1 = some q.1 ∧ RT K H0 G p.2 q.2) kvs kv →
    us.length = kv.length → (∀ (j : Nat) (v : Value), us[j]? = some v → ∃ k, (kv.map (·.1))[j]? = some k ∧ keyIs k v = true) → ∃ xs, RTs K H0 G (kvs.map (·.1)) xs ∧ Vals xs us
  | _, _, [], .nil, _, _ => ⟨[], .nil, .nil⟩
  | _, _, _ :: _, .nil, hl, _ => by simp at hl
  | _, _, [], .cons _ _, hl, _ => by simp at hl
  | _, _, u :: us, .cons (a := p) (b := q) h r, hl, f => by
    obtain ⟨k, e1, e2⟩ := f 0 u rfl
    simp at e1
    obtain ⟨xs, r1, r2⟩ := items_vals r (by simpa using hl) fun j v e => by simpa using f (j + 1) v (by simpa using e)
    exact ⟨kV q.1 :: xs, .cons (key_rt h.1) r1, .cons (by rw [e1]; exact keyIs_rel e2) r2⟩
theorem collectP (I : Inv X pins σ H s) (A : At X.prog X.w X.K G H0 H) {t : T} {v : V} {u : Value} {ts : List T} (r : RT X.K H0 G t v) (ru : RelV v u) (e : ItsOf G t ts) {Ar : Around} (hh : Ar.handled = none) {Q : List Value → Shared → Prop} {E : Value → Shared → Prop}
    (h : ∀ (h' : Heap) (tk : Nat) (us : List Value) (xs : List V), (∀ b o, s.heap.get? b = some o → h'.get? b = some o) → RTs X.K H0 G ts xs → Vals xs us → xs.length ≤ sizeLine → Q us { s with heap := h', toks := tk }) :
    wpAny (model X.prog X.w) Ar (collect u) Q E s := by
  rcases e with e | ⟨kvs, e, rfl⟩
  · obtain ⟨a, xs, rfl, rs, hs⟩ := r.seq A e
    cases ru
    rcases hs with hs | hs
    · obtain ⟨its, rv, pl, hz⟩ := I.list hs
      obtain ⟨o, ho, hc, n, hd⟩ := pl.isList
      exact wpAny_collect_seq a (.inl rfl) ho hc hd (fun h' kp => h h' s.toks its xs kp rs rv hz) (by rw [List.size_toArray, ← rv.length]; exact hz)
    · obtain ⟨its, rv, ⟨o, ho, hc, n, hd⟩, hz⟩ := I.tuple hs
      exact wpAny_collect_seq a (.inr rfl) ho hc hd (fun h' kp => h h' s.toks its xs kp rs rv hz) (by rw [List.size_toArray, ← rv.length]; exact hz)
  · obtain ⟨a, rfl, d⟩ := r.dict A e
    cases ru
    rcases d with ⟨kv, h1, h2⟩ | ⟨zs, h1, h2, h3, h4⟩
    · obtain ⟨z, lo, vs, rk, hd⟩ := dk_rd I.hok h1
      obtain ⟨ep, hat⟩ := hd.dictAt
      have hl : kv.length = vs.length := Paired.length rk
      refine PySem.W.kdu_collect (A := Ar) (PySem.W.kdl_dict (knd := mixKind X.prog X.w) (kvs := vs) (ep := ep) lo) hh hat (by rw [← hl]; exact z) fun h' tk acc kp hacc => ?_
      obtain ⟨xs, q1, q2⟩ := items_vals (us := acc.toList) h2 (by rw [Array.length_toList, hacc.1, hl]) fun j w e => by
        obtain ⟨k, y, hky, hi⟩ := hacc.2 j w (by rw [← Array.getElem?_toList]; exact e)
        refine ⟨k, ?_, hi⟩
        rw [KV.keys rk, List.getElem?_map, hky]; rfl
      refine h h' tk acc.toList xs kp q1 q2 ?_
      rw [← q1.length, List.length_map, Paired.length h2]; exact z
    · obtain ⟨⟨hm, o, es, ep, e1, e2, e3, e4, e5⟩, _⟩ := I.hok a _ h1
      have l1 : es.size = zs.length := size_of_entries e4
      have l2 : kvs.length = zs.length := Paired.length h4
      refine PySem.W.kdu_collect (A := Ar) (kdl_raw hm e2 e3) hh e1 (by omega) fun h' tk acc kp it => ?_
      have ea : acc.toList = zs.map fun x => Value.ref x.2.1 := by
        have hl : acc.toList.length = zs.length := by rw [Array.length_toList, it.1]; exact l1
        refine List.ext_getElem? fun j => ?_
        rw [List.getElem?_map]
        cases hj : acc.toList[j]? with
        | none => rw [List.getElem?_eq_none (by have := List.getElem?_eq_none_iff.mp hj; omega)]; rfl
        | some v =>
          obtain ⟨en, hen, hv⟩ := it.2 j v (by rw [← Array.getElem?_toList]; exact hj)
          have qe := entry_at e4 j
          rw [hen] at qe
          cases hb : zs[j]? with
          | none => rw [hb] at qe; cases qe
          | some b =>
            rw [hb] at qe
            have q2 := Option.some.inj qe
            rw [hv, q2]; rfl
      have rk : ∀ {kvs : List (T × T)} {zs : List (NestedKey × Addr × Value)}, Paired (nkRel X.K H0 G) kvs zs → RTs X.K H0 G (kvs.map (·.1)) (zs.map fun x => V.ref x.2.1) ∧ Vals (zs.map fun x => V.ref x.2.1) (zs.map fun x => Value.ref x.2.1) := by
        intro kvs zs p
        induction p with
        | nil => exact ⟨.nil, .nil⟩
        | cons z _ ih => exact ⟨.cons z.2.2.1 ih.1, .cons rfl ih.2⟩
      obtain ⟨q1, q2⟩ := rk h4
      exact h h' tk acc.toList _ kp q1 (by rw [ea]; exact q2) (by rw [List.length_map]; omega)
mutual
theorem RT.pt (I : Inv X pins σ H s) (A : At X.prog X.w X.K G H0 H) : ∀ {t : T} {v : V} {u : Value}, RT X.K H0 G t v → RelV v u → T.pl t = true → PT s.heap t u
  | _, _, _, .non, r, _ => by cases r; exact .non
  | _, _, _, .int i, r, _ => by obtain ⟨t, rfl⟩ := r; exact .int i t
  | _, _, _, .str x, r, _ => by obtain ⟨t, rfl⟩ := r; exact .str x t
  | _, _, _, .tup hT rs, r, p => by
    cases r
    obtain ⟨its, rv, ⟨o, ho, hc, n, hd⟩, _⟩ := I.tuple (A.sqT hT.sq)
    exact .tup ho hc hd (by simpa using RTs.pts I A rs rv (by simpa [T.pl] using p))
  | _, _, _, .bl _, _, p => by simp [T.pl] at p
  | _, _, _, .lst _ _, _, p => by simp [T.pl] at p
  | _, _, _, .dctK _ _ _, _, p => by simp [T.pl] at p
  | _, _, _, .scr _, _, p => by simp [T.pl] at p
  | _, _, _, .ref _, _, p => by simp [T.pl] at p
theorem RTs.pts (I : Inv X pins σ H s) (A : At X.prog X.w X.K G H0 H) : ∀ {ts : List T} {vs : List V} {us : List Value}, RTs X.K H0 G ts vs → Vals vs us → T.pls ts = true → PTs s.heap ts us
  | _, _, _, .nil, r, _ => by cases r; exact .nil
  | _, _, _, .cons h1 h2, r, p => by
    rw [T.pls, Bool.and_eq_true] at p
    cases r with
    | cons r1 r2 => exact .cons (RT.pt I A h1 r1 p.1) (RTs.pts I A h2 r2 p.2)
end
open Classical in
/-- the tree that a value is -/
noncomputable def trOf (h : Heap) (v : Value) : T := if e : ∃ t, PT h t v then Classical.choose e else .non
theorem trOf_eq {h : Heap} {t : T} {v : Value} (p : PT h t v) : trOf h v = t := by
  have e : ∃ t, PT h t v := ⟨t, p⟩
  unfold trOf
  rw [dif_pos e]
  exact PT.inj (Classical.choose_spec e) p
theorem trOf_map {h : Heap} : ∀ {ts : List T} {vs : List Value}, PTs h ts vs → vs.map (trOf h) = ts
  | _, _, .nil => rfl
  | _, _, .cons p r => by rw [List.map_cons, trOf_eq p, trOf_map r]
noncomputable def ltvOf (h : Heap) (v u : Value) : Bool := T.tlt (trOf h v) (trOf h u)
theorem ltvOf_swo (h : Heap) : SrtO.Swo (ltvOf h) := ⟨fun x y q => tlt_swo.asym _ _ q, fun x y z a b => tlt_swo.tr _ _ _ a b⟩
/-- the first items of tuples -/
theorem kat_tups {h : Heap} {n : Nat} : ∀ {ts : List T} {vs : List Value}, PTs h ts vs → (∀ t ∈ ts, firstK t = n) → 3 ≤ n → ∃ fs : List Value, PySem.W.KatTups h vs fs ∧ fs.length = vs.length ∧
    ∀ f ∈ fs, (n = 3 → ∃ i t, f = Value.int i t) ∧ (n = 4 → ∃ x t, f = Value.str x t) ∧ (n = 5 → ∃ a o, f = Value.ref a ∧ h.get? a = some o ∧ o.cls = .type "tuple")
  | _, _, .nil, _, _ => ⟨[], trivial, rfl, fun f hf => by simp at hf⟩
  | t :: ts, v :: vs, .cons p r, hn, h3 => by
    obtain ⟨fs, k1, k2, k3⟩ := kat_tups r (fun t m => hn t (List.mem_cons_of_mem _ m)) h3
    have e := hn t List.mem_cons_self
    cases p with
    | non => simp [firstK] at e; omega
    | int i t => simp [firstK] at e; omega
    | str x t => simp [firstK] at e; omega
    | @tup a o va na us h1 h2 h3' h4 =>
      cases us with
      | nil => simp [firstK] at e; omega
      | cons y ys =>
        generalize hl : va.toList = l at h4
        cases h4 with
        | @cons _ f _ fr q1 q2 =>
          have hf : va[0]? = some f := by rw [← Array.getElem?_toList, hl]; rfl
          refine ⟨f :: fs, PySem.W.KatTups.cons h1 h2 h3' hf k1, by rw [List.length_cons, List.length_cons, k2], fun g hg => ?_⟩
          rcases List.mem_cons.mp hg with rfl | hg
          · cases q1 with
            | int i t => simp [firstK] at e; exact ⟨fun _ => ⟨i, t, rfl⟩, fun z => by omega, fun z => by omega⟩
            | str x t => simp [firstK] at e; exact ⟨fun z => by omega, fun _ => ⟨x, t, rfl⟩, fun z => by omega⟩
            | tup g1 g2 g3 g4 => simp [firstK] at e; exact ⟨fun z => by omega, fun z => by omega, fun _ => ⟨_, _, rfl, g1, g2⟩⟩
            | non => simp [firstK] at e; omega
          · exact k3 g hg
theorem cmp_lex {P : Program} {w : World} {Ar : Around} {s : Shared} {b : Bool} (hr : Ar.units + 63 < cLine) : ∀ {xs ys : List T} {vs us : List Value}, PTs s.heap xs vs → PTs s.heap ys us → T.pls xs = true → T.pls ys = true → T.cmps xs ys = true → T.deps xs ≤ 60 → T.deps ys ≤ 60 →
    ∀ (i : Nat), (b = true → i = 0 → ∀ x y, xs[0]? = some x → ys[0]? = some y → (∃ n, x = .int n) ∧ (∃ n, y = .int n) ∨ (∃ n, x = .str n) ∧ ∃ n, y = .str n) →
    PySem.W.KatLex P w Ar b (decide (xs.length < ys.length)) (fun r s' => s' = s ∧ r = T.tlt (.tup xs) (.tup ys)) (vs.zip us) i s
  | [], [], _, _, .nil, .nil, _, _, _, _, _, i, _ => PySem.W.kat_nil ⟨rfl, tlt_nil_nil.symm⟩
  | [], y :: ys, _, _, .nil, .cons _ _, _, py, _, _, _, i, _ => by
    rw [T.pls, Bool.and_eq_true] at py
    exact PySem.W.kat_nil ⟨rfl, (tlt_nil py.1).symm⟩
  | x :: xs, [], _, _, .cons _ _, .nil, px, _, _, _, _, i, _ => by
    rw [T.pls, Bool.and_eq_true] at px
    exact PySem.W.kat_nil ⟨rfl, (tlt_cons_nil px.1).symm⟩
  | x :: xs, y :: ys, v :: vs, u :: us, .cons p1 q1, .cons p2 q2, px, py, hc, d1, d2, i, hb => by
    rw [T.pls, Bool.and_eq_true] at px py
    rw [T.deps] at d1 d2
    have hc0 := hc
    simp only [T.cmps, Bool.and_eq_true] at hc
    show PySem.W.KatLex P w Ar b _ _ ((v, u) :: vs.zip us) i s
    refine PySem.W.kat_cons (PT.eqAt p1 p2 (by omega) P w _ _ ?_)
    refine PySem.W.kat_go (fun e => ?_) (fun e => ?_)
    · have exy : x = y := by simpa using e
      subst exy
      refine PySem.W.kat_yes ?_
      have k := cmp_lex (P := P) (w := w) (Ar := Ar) (b := b) hr q1 q2 px.2 py.2 hc.2 (by omega) (by omega) (i + 1) (fun _ z => by omega)
      rw [tlt_cons_same]
      have el : decide ((x :: xs).length < (x :: ys).length) = decide (xs.length < ys.length) := by simp
      rw [el]
      exact k
    · have exy : ¬ x = y := by simpa using e
      refine PySem.W.kat_no ?_
      rw [tlt_cons_ne px.1 py.1 exy]
      have hcm : T.cmp x y = true := by
        rcases cmps_at hc0 0 x y rfl rfl with z | z
        · exact absurd z exy
        · exact z
      cases hbi : (b && i == 0) with
      | false => exact PySem.W.kat_one _ _ (PT.ltAt x y Ar s v u p1 p2 px.1 py.1 hcm (by omega) P w _ _ ⟨rfl, rfl⟩)
      | true =>
        simp only [Bool.and_eq_true, beq_iff_eq] at hbi
        rcases hb hbi.1 hbi.2 x y rfl rfl with ⟨⟨n, rfl⟩, m, rfl⟩ | ⟨⟨n, rfl⟩, m, rfl⟩
        · cases p1; cases p2
          exact oneLt_int ⟨rfl, (tlt_int n m).symm⟩
        · cases p1; cases p2
          refine oneLt_str ⟨rfl, ?_⟩
          exact (tlt_str (fun z => exy (by rw [z]))).symm
/-- the items are sorted as the trees say -/
theorem sortableP {P : Program} {w : World} {Ar : Around} {s : Shared} {a : Addr} {ts : List T} {vs : List Value} (p : PTs s.heap ts vs) (h2 : 2 ≤ vs.length) (pl : T.pls ts = true) (dp : T.deps ts ≤ 60) (so : sortOk ts = true) (cm : ∀ x ∈ ts, ∀ y ∈ ts, x = y ∨ T.cmp x y = true)
    (ha : ∀ o, s.heap.get? a = some o → o.cls ≠ .type "tuple") (hr : Ar.units + 70 < cLine) : SrtO.SortableO P w Ar s a vs (ltvOf s.heap) := by
  intro h' keep
  have p' : PTs h' ts vs := PTs.at (fun b o xs n e c _ => keep b o (fun z => by subst z; exact ha o e c) e) p
  have lts : ts.length = vs.length := p.length
  have hk : ∃ n, 1 ≤ n ∧ n ≤ 5 ∧ ∀ t ∈ ts, firstK t = n := by
    unfold sortOk at so
    simp only [Bool.or_eq_true, decide_eq_true_eq, List.all_eq_true, beq_iff_eq] at so
    rcases so with ((((so | so) | so) | so) | so) | so
    · omega
    · exact ⟨1, by omega, by omega, so⟩
    · exact ⟨2, by omega, by omega, so⟩
    · exact ⟨3, by omega, by omega, so⟩
    · exact ⟨4, by omega, by omega, so⟩
    · exact ⟨5, by omega, by omega, so⟩
  obtain ⟨n, n1, n5, hn⟩ := hk
  have tr : ∀ v ∈ vs, ∃ t ∈ ts, PT h' t v ∧ trOf s.heap v = t := by
    intro v hv
    obtain ⟨t, ht, q⟩ := PTs.memV p v hv
    exact ⟨t, ht, PT.at (fun b o xs n e c _ => keep b o (fun z => by subst z; exact ha o e c) e) q, trOf_eq q⟩
  obtain ⟨v1, v2, rest, ev⟩ : ∃ v1 v2 rest, vs = v1 :: v2 :: rest := by
    match vs, h2 with
    | v1 :: v2 :: rest, _ => exact ⟨v1, v2, rest, rfl⟩
  by_cases h12 : n ≤ 2
  · -- numbers, texts
    have cmpS : SrtO.Cmp P w Ar { s with heap := h' } oneType' (fun q => q.1 ∈ vs) (SrtO.lt2 (ltvOf s.heap)) := by
      intro q1 q2 m1 m2
      obtain ⟨t1, k1, r1, e1⟩ := tr _ m1
      obtain ⟨t2, k2, r2, e2⟩ := tr _ m2
      have f1 := hn t1 k1
      have f2 := hn t2 k2
      rw [keyLt'_oneType]
      show wpAny _ _ (oneLt' true q1.1 q2.1) (fun r s' => s' = _ ∧ r = ltvOf s.heap q1.1 q2.1) _ _
      unfold ltvOf
      rw [e1, e2]
      generalize q1.1 = a1 at r1 ⊢
      generalize q2.1 = a2 at r2 ⊢
      cases r1 with
      | int i t =>
        cases r2 with
        | int j u => exact oneLt_int ⟨rfl, (tlt_int i j).symm⟩
        | str y u => simp [firstK] at f1 f2; omega
        | non => simp [firstK] at f2; omega
        | @tup _ _ _ _ us _ _ _ _ => cases us with
          | nil => simp [firstK] at f2; omega
          | cons y ys => cases y <;> simp [firstK] at f1 f2 <;> omega
      | str x t =>
        cases r2 with
        | str y u =>
          refine oneLt_str ⟨rfl, ?_⟩
          by_cases e : x = y
          · subst e; rw [tlt_irrefl]; exact decide_eq_false (List.lt_irrefl _)
          · exact (tlt_str e).symm
        | int j u => simp [firstK] at f1 f2; omega
        | non => simp [firstK] at f2; omega
        | @tup _ _ _ _ us _ _ _ _ => cases us with
          | nil => simp [firstK] at f2; omega
          | cons y ys => cases y <;> simp [firstK] at f1 f2 <;> omega
      | non => simp [firstK] at f1; omega
      | @tup _ _ _ _ us _ _ _ _ => cases us with
        | nil => simp [firstK] at f1; omega
        | cons y ys => cases y <;> simp [firstK] at f1 <;> omega
    refine ⟨oneType', fun Q E hq => ?_, cmpS⟩
    have kk : keyKind' vs.toArray = pure oneType' := by
      by_cases e1 : n = 1
      · have hI : ∀ {ts : List T} {vs : List Value}, PTs s.heap ts vs → (∀ t ∈ ts, firstK t = 1) → ∃ ns, IntsAre vs ns := by
          intro ts
          induction ts with
          | nil => intro vs q _; cases q; exact ⟨[], .nil⟩
          | cons t ts ih =>
            intro vs q f
            cases q with
            | cons q1 q2 =>
              obtain ⟨ns, hns⟩ := ih q2 fun t m => f t (List.mem_cons_of_mem _ m)
              have f1 := f t List.mem_cons_self
              cases q1 with
              | int i tk => exact ⟨i :: ns, .cons i tk hns⟩
              | str _ _ => simp [firstK] at f1
              | non => simp [firstK] at f1
              | @tup _ _ _ _ us _ _ _ _ => cases us with
                | nil => simp [firstK] at f1
                | cons y ys => cases y <;> simp [firstK] at f1
        obtain ⟨ns, hns⟩ := hI p fun t m => by rw [hn t m, e1]
        rw [ev] at hns ⊢
        exact keyKind_ints hns
      · have hI : ∀ {ts : List T} {vs : List Value}, PTs s.heap ts vs → (∀ t ∈ ts, firstK t = 2) → ∃ ns, StrsAre vs ns := by
          intro ts
          induction ts with
          | nil => intro vs q _; cases q; exact ⟨[], .nil⟩
          | cons t ts ih =>
            intro vs q f
            cases q with
            | cons q1 q2 =>
              obtain ⟨ns, hns⟩ := ih q2 fun t m => f t (List.mem_cons_of_mem _ m)
              have f1 := f t List.mem_cons_self
              cases q1 with
              | str x tk => exact ⟨x :: ns, .cons x tk hns⟩
              | int _ _ => simp [firstK] at f1
              | non => simp [firstK] at f1
              | @tup _ _ _ _ us _ _ _ _ => cases us with
                | nil => simp [firstK] at f1
                | cons y ys => cases y <;> simp [firstK] at f1
        obtain ⟨ns, hns⟩ := hI p fun t m => by rw [hn t m]; omega
        rw [ev] at hns ⊢
        exact keyKind_strs hns
    rw [kk]
    exact wpAny_pure hq
  · -- tuples
    have h3 : 3 ≤ n := by omega
    have tupOf : ∀ {v : Value}, v ∈ vs → ∃ us a o va m, trOf s.heap v = .tup us ∧ T.tup us ∈ ts ∧ v = .ref a ∧ h'.get? a = some o ∧ o.data = .seq va m ∧ PTs h' us va.toList := by
      intro v hv
      obtain ⟨t, ht, r, e⟩ := tr v hv
      have f := hn t ht
      cases r with
      | int _ _ => simp [firstK] at f; omega
      | str _ _ => simp [firstK] at f; omega
      | non => simp [firstK] at f; omega
      | tup g1 g2 g3 g4 => exact ⟨_, _, _, _, _, e, ht, rfl, g1, g3, g4⟩
    have cmpT : ∀ b : Bool, (b = true → n ≤ 4) → SrtO.Cmp P w Ar { s with heap := h' } (tuples' b) (fun q => q.1 ∈ vs) (SrtO.lt2 (ltvOf s.heap)) := by
      intro b hb q1 q2 m1 m2
      obtain ⟨us, a1, o1, va, k1, e1, t1, z1, g1, d1, r1⟩ := tupOf m1
      obtain ⟨ws, a2, o2, vb, k2, e2, t2, z2, g2, d2, r2⟩ := tupOf m2
      show wpAny _ _ (keyLt' (tuples' b) q1.1 q2.1) (fun r s' => s' = _ ∧ r = ltvOf s.heap q1.1 q2.1) _ _
      unfold ltvOf
      rw [e1, e2, z1, z2]
      have pu : T.pls us = true := by simpa [T.pl] using pls_mem pl t1
      have pw : T.pls ws = true := by simpa [T.pl] using pls_mem pl t2
      have du : T.deps us + 1 ≤ T.deps ts := deps_mem (t := .tup us) t1
      have dw : T.deps ws + 1 ≤ T.deps ts := deps_mem (t := .tup ws) t2
      have hcm : T.cmps us ws = true := by
        rcases cm _ t1 _ t2 with z | z
        · cases z; exact cmps_self us
        · simpa [T.cmp] using z
      refine PySem.W.kat_lt g1 d1 g2 d2 ?_
      have k := cmp_lex (P := P) (w := w) (Ar := Ar) (s := { s with heap := h' }) (b := b) (by omega) r1 r2 pu pw hcm (by omega) (by omega) 0 (fun hbt _ x y ex ey => ?_)
      · rw [r1.length, r2.length, Array.length_toList, Array.length_toList] at k
        exact k
      · have f1 := hn _ t1
        have f2 := hn _ t2
        have n4 := hb hbt
        cases us with
        | nil => simp at ex
        | cons x' us =>
          cases ws with
          | nil => simp at ey
          | cons y' ws =>
            simp at ex ey
            subst ex ey
            cases x' <;> simp [firstK] at f1 <;> cases y' <;> simp [firstK] at f2 <;> first
              | exact .inl ⟨⟨_, rfl⟩, _, rfl⟩
              | exact .inr ⟨⟨_, rfl⟩, _, rfl⟩
              | omega
    obtain ⟨fs, k1, k2, k3⟩ := kat_tups p' hn h3
    have hf : 0 < fs.length := by omega
    by_cases e3 : n = 3
    · refine ⟨tuples' true, fun Q E hq => ?_, cmpT true (fun _ => by omega)⟩
      refine PySem.W.kat_kind (T := .type "int") k1 hf (fun f hm => ?_) (by rfl) ?_
      · obtain ⟨i, t, rfl⟩ := (k3 f hm).1 e3
        exact PySem.W.Looks.now
      · have e : (Value.type "int" != Value.type "tuple") = true := by decide +kernel
        rw [e]; exact hq
    · by_cases e4 : n = 4
      · refine ⟨tuples' true, fun Q E hq => ?_, cmpT true (fun _ => by omega)⟩
        refine PySem.W.kat_kind (T := .type "str") k1 hf (fun f hm => ?_) (by rfl) ?_
        · obtain ⟨i, t, rfl⟩ := (k3 f hm).2.1 e4
          exact PySem.W.Looks.now
        · have e : (Value.type "str" != Value.type "tuple") = true := by decide +kernel
          rw [e]; exact hq
      · refine ⟨tuples' false, fun Q E hq => ?_, cmpT false (fun z => by cases z)⟩
        refine PySem.W.kat_kind (T := .type "tuple") k1 hf (fun f hm => ?_) (by rfl) ?_
        · obtain ⟨a', o', rfl, g1, g2⟩ := (k3 f hm).2.2 (by omega)
          have q : PySem.W.Looks (model P w) h' (typeOf (.ref a')) o'.cls := (PySem.W.Looks.ld g1).andThen .now
          rw [g2] at q
          exact q
        · have e : (Value.type "tuple" != Value.type "tuple") = false := by decide +kernel
          rw [e]; exact hq
where
  cmps_self : ∀ us : List T, T.cmps us us = true
    | [] => rfl
    | u :: us => by simp [T.cmps, cmps_self us]
end
end EV

/-! EV7: further operations by values. -/
namespace EV
open PySem PySem.Spec PyProof.Rows L2

section
variable {X : Cx}
theorem RTs.inv1' {K : PySem.W.Frag} {H : Hp} {G : GH} {ts : List T} {vs : List V} (r : RTs K H G ts vs) (h : ts.length = 1) : ∃ t x, ts = [t] ∧ vs = [x] ∧ RT K H G t x := by
  cases r with
  | nil => simp at h
  | cons h1 r =>
    cases r with
    | nil => exact ⟨_, _, rfl, rfl, h1⟩
    | cons _ _ => simp at h
theorem RTs.inv2' {K : PySem.W.Frag} {H : Hp} {G : GH} {ts : List T} {vs : List V} (r : RTs K H G ts vs) (h : ts.length = 2) : ∃ t u x y, ts = [t, u] ∧ vs = [x, y] ∧ RT K H G t x ∧ RT K H G u y := by
  cases r with
  | nil => simp at h
  | cons h1 r =>
    obtain ⟨t, x, rfl, rfl, h2⟩ := r.inv1' (by simpa using h)
    exact ⟨_, _, _, _, rfl, rfl, h1, h2⟩
theorem append_len {t : T} {ts : List T} {G : GH} {Q : QE} (q : Prim.wp .append (t :: ts) G Q) : ts.length = 1 := by
  match ts with
  | [_] => rfl
  | [] => cases t <;> exact q.elim
  | _ :: _ :: _ => cases t <;> exact q.elim
theorem index_len {t : T} {ts : List T} {G : GH} {Q : QE} (q : Prim.wp .index (t :: ts) G Q) : ts.length = 1 := by
  match ts with
  | [_] => rfl
  | [] => exact q.elim
  | _ :: _ :: _ => exact q.elim
theorem len_len {ts : List T} {G : GH} {Q : QE} (q : Prim.wp .len ts G Q) : ts.length = 1 := by
  match ts with
  | [_] => rfl
  | [] => exact q.elim
  | a :: _ :: _ => cases a <;> exact q.elim
/-! ### in -/
theorem T.any_pd {x : T} : ∀ {ts : List T}, T.dat x = true → T.dats ts = true → (T.pds ts).any (fun z => PyData.eqv z (T.pd x)) = mem x ts
  | [], _, _ => rfl
  | t :: ts, hx, h => by
    rw [T.dats, Bool.and_eq_true] at h
    rw [T.pds, List.any_cons, T.eqv_pd t x h.1 hx, T.any_pd hx h.2]
    rfl
theorem p_isin (hu : X.A.units + 64 < cLine) (hu2 : X.A.units + 70 < cLine) : OpR X (compareOp .In) (fun x y H Q => rP X.prog X.w X.K .isin [x, y] H Q) := by
  intro pins s σ H x y v u Q I rx ry ⟨ts, G, H0, A, r, q⟩
  obtain ⟨t, t', rfl, h1, h2⟩ := r.inv2
  have gen : ((∃ ts, seqOf G t' = some ts ∧ T.dat t = true ∧ T.dats ts = true ∧ T.dep t ≤ 64 ∧ T.deps ts ≤ 63 ∧ upE X.prog X.w X.K G H0 H Q (.bl (mem t ts)) G) ∨
      (∃ kvs, dctOf G t' = some kvs ∧ keyOk kvs t = true ∧ upE X.prog X.w X.K G H0 H Q (.bl (dget kvs t).isSome) G)) → wpAny (model X.prog X.w) X.A (compareOp .In v u) (EP X pins σ Q) X.xe s := by
    intro q
    rcases q with ⟨ts, e, d1, d2, e1, e2, q⟩ | ⟨kvs, e, c, q⟩
    · obtain ⟨a, xs, rfl, rs, hs⟩ := h2.seq A e
      cases ry
      obtain ⟨bs, r1⟩ := Dp.reads I (T.pd t) x v (h1.dp A d1) rx
      have l1 := T.pds_lay ts d2
      have l2 := T.pd_lay t d1
      have hd : X.A.units + 1 + min (PyData.depthAll (T.pds ts)) (T.pd t).depth < cLine := by rw [T.pds_dep]; omega
      have fin : EP X pins σ Q (.bool ((T.pds ts).any fun z => PyData.eqv z (T.pd t))) s := ⟨.bl _, H, I, rfl, by rw [T.any_pd d1 d2]; exact upE_here A q (.bl _)⟩
      rcases hs with hs | hs
      · obtain ⟨its, rv, ⟨o, n, ho, hc, _, hdt⟩, _⟩ := I.list hs
        obtain ⟨as, hr⟩ := Dp.readsAll I (T.pds ts) xs its (rs.dps A d2) rv
        exact SeqAt.in_list_reads (Reads.list ho hc hdt hr) r1 l1 l2 hd fin
      · obtain ⟨its, rv, ⟨o, ho, hc, n, hdt⟩, _⟩ := I.tuple hs
        obtain ⟨as, hr⟩ := Dp.readsAll I (T.pds ts) xs its (rs.dps A d2) rv
        exact SeqAt.in_tuple_reads (Reads.tuple ho hc hdt hr) r1 l1 l2 hd fin
    · obtain ⟨a, rfl, d⟩ := h2.dict A e
      cases ry
      exact p_din hu I A h1 rx d c fun s' I' => ⟨.bl _, H, I', rfl, upE_here A q (.bl _)⟩
  cases h2 with
  | str z =>
    obtain ⟨a, e, q⟩ := q
    subst e
    cases h1
    exact op_in_str pins s σ H _ _ v u Q I rx ry ⟨_, _, rfl, rfl, upE_here A q (.bl _)⟩
  | _ => exact gen q
theorem p_notin (hu : X.A.units + 64 < cLine) (hu2 : X.A.units + 70 < cLine) : OpR X (compareOp .NotIn) (fun x y H Q => rP X.prog X.w X.K .notin [x, y] H Q) := by
  intro pins s σ H x y v u Q I rx ry ⟨ts, G, H0, A, r, q⟩
  obtain ⟨t, t', rfl, h1, h2⟩ := r.inv2
  have gen : ((∃ ts, seqOf G t' = some ts ∧ T.dat t = true ∧ T.dats ts = true ∧ T.dep t ≤ 64 ∧ T.deps ts ≤ 63 ∧ upE X.prog X.w X.K G H0 H Q (.bl (!mem t ts)) G) ∨
      (∃ kvs, dctOf G t' = some kvs ∧ keyOk kvs t = true ∧ upE X.prog X.w X.K G H0 H Q (.bl (!(dget kvs t).isSome)) G)) → wpAny (model X.prog X.w) X.A (compareOp .NotIn v u) (EP X pins σ Q) X.xe s := by
    intro q
    rcases q with ⟨ts, e, d1, d2, e1, e2, q⟩ | ⟨kvs, e, c, q⟩
    · obtain ⟨a, xs, rfl, rs, hs⟩ := h2.seq A e
      cases ry
      obtain ⟨bs, r1⟩ := Dp.reads I (T.pd t) x v (h1.dp A d1) rx
      have l1 := T.pds_lay ts d2
      have l2 := T.pd_lay t d1
      have hd : X.A.units + 1 + min (PyData.depthAll (T.pds ts)) (T.pd t).depth < cLine := by rw [T.pds_dep]; omega
      have fin : EP X pins σ Q (.bool (!(T.pds ts).any fun z => PyData.eqv z (T.pd t))) s := ⟨.bl _, H, I, rfl, by rw [T.any_pd d1 d2]; exact upE_here A q (.bl _)⟩
      rcases hs with hs | hs
      · obtain ⟨its, rv, ⟨o, n, ho, hc, _, hdt⟩, _⟩ := I.list hs
        obtain ⟨as, hr⟩ := Dp.readsAll I (T.pds ts) xs its (rs.dps A d2) rv
        exact SeqAt.notIn_list_reads (Reads.list ho hc hdt hr) r1 l1 l2 hd fin
      · obtain ⟨its, rv, ⟨o, ho, hc, n, hdt⟩, _⟩ := I.tuple hs
        obtain ⟨as, hr⟩ := Dp.readsAll I (T.pds ts) xs its (rs.dps A d2) rv
        exact SeqAt.notIn_tuple_reads (Reads.tuple ho hc hdt hr) r1 l1 l2 hd fin
    · obtain ⟨a, rfl, d⟩ := h2.dict A e
      cases ry
      exact p_dnotin hu I A h1 rx d c fun s' I' => ⟨.bl _, H, I', rfl, upE_here A q (.bl _)⟩
  cases h2 with
  | str z =>
    obtain ⟨a, e, q⟩ := q
    subst e
    cases h1
    exact op_notin_str pins s σ H _ _ v u Q I rx ry ⟨_, _, rfl, rfl, upE_here A q (.bl _)⟩
  | _ => exact gen q
/-! ### len -/
theorem p_len : CallR X (.builtin "len") (rP X.prog X.w X.K .len) := by
  intro pins s σ H vs us Q I rv ⟨ts, G, H0, A, r, q⟩
  obtain ⟨t, x, rfl, rfl, h1⟩ := r.inv1' (len_len q)
  have gen : ((∃ ts, seqOf G t = some ts ∧ upE X.prog X.w X.K G H0 H Q (.int ts.length) G) ∨ (∃ kvs, dctOf G t = some kvs ∧ upE X.prog X.w X.K G H0 H Q (.int kvs.length) G)) → wpAny (model X.prog X.w) X.A (call (.builtin "len") us) (EP X pins σ Q) X.xe s := by
    intro q
    rcases q with ⟨ts, e, q⟩ | ⟨kvs, e, q⟩
    · obtain ⟨a, xs, rfl, rs, hs⟩ := h1.seq A e
      exact call_len_seq pins s σ H _ us Q I rv ⟨a, xs, rfl, hs, by rw [← rs.length]; exact upE_here A q (.int _)⟩
    · obtain ⟨a, rfl, d⟩ := h1.dict A e
      obtain ⟨u, rfl, ru⟩ := vals1 rv
      cases ru
      rcases d with ⟨kv, h1', h2⟩ | ⟨zs, g1, g2, g3, g4⟩
      · refine d_len I h1' fun t s' I' => ⟨.int (kv.length : Nat), H, I', ⟨t, rfl⟩, ?_⟩
        rw [← Paired.length h2]
        exact upE_here A q (.int _)
      · obtain ⟨hm, hl, xs, h4, dd⟩ := DN.lib I A (.inl ⟨zs, g1, g2, g3, g4⟩)
        refine call_len_dictH hm dd (by rw [← Paired.length h4]; rw [sizeLine_eq] at hl; omega) ?_
        rw [← Paired.length h4]
        exact ⟨.int ((kvs.length : Nat) : Int), H, I.tok _, ⟨_, rfl⟩, upE_here A q (.int _)⟩
  cases h1 with
  | str z => exact call_len_str pins s σ H _ us Q I rv ⟨z, rfl, q.1, upE_here A q.2 (.int _)⟩
  | _ => exact gen q
/-! ### items -/
theorem atI_map {K : PySem.W.Frag} {H : Hp} {G : GH} {ts : List T} {xs : List V} (r : RTs K H G ts xs) {i : Int} {t : T} (h : atI ts i = some t) : ∃ x, atI xs i = some x ∧ RT K H G t x := by
  unfold atI at h ⊢
  rw [← r.length]
  cases e : ixN ts.length i with
  | none => rw [e] at h; cases h
  | some j =>
    rw [e] at h
    exact r.get h
theorem p_idx (hu : X.A.units + 64 < cLine) : IxR X (fun x y H Q => rP X.prog X.w X.K .idx [x, y] H Q) := by
  intro value slice pins s σ H x y v u Q I rx ry ⟨ts, G, H0, A, r, q⟩ hs
  obtain ⟨t, k, rfl, h1, h2⟩ := r.inv2
  have gen : ((∃ ts i v, seqOf G t = some ts ∧ k = .int i ∧ atI ts i = some v ∧ upE X.prog X.w X.K G H0 H Q v G) ∨ (∃ kvs v, dctOf G t = some kvs ∧ keyOk kvs k = true ∧ dget kvs k = some v ∧ upE X.prog X.w X.K G H0 H Q v G)) →
      wpAny (model X.prog X.w) X.A (subscriptTail value slice v u) (EP X pins σ Q) X.xe s := by
    intro q
    rcases q with ⟨ts, i, z, e, rfl, ei, q⟩ | ⟨kvs, z, e, c, ez, q⟩
    · obtain ⟨a, xs, rfl, rs, hsq⟩ := h1.seq A e
      obtain ⟨zv, ezv, rz⟩ := atI_map rs ei
      cases h2
      rcases hsq with hsq | hsq
      · exact ix_list value slice pins s σ H _ _ v u Q I rx ry ⟨a, xs, i, zv, rfl, rfl, hsq, ezv, upE_here A q rz⟩ hs
      · exact ix_tup value slice pins s σ H _ _ v u Q I rx ry ⟨a, xs, i, zv, rfl, rfl, hsq, ezv, upE_here A q rz⟩ hs
    · obtain ⟨a, rfl, d⟩ := h1.dict A e
      cases rx
      have hT : s.TypeIs (.ref a) "dict" := by
        rcases d with ⟨kv, h1', h2'⟩ | ⟨zs, g1, g2, g3, g4⟩
        · obtain ⟨_, _, vs, _, dd⟩ := dk_rd I.hok h1'
          exact dd.typeIs
        · obtain ⟨hm, hl, xs, h4, dd⟩ := DN.lib I A (.inl ⟨zs, g1, g2, g3, g4⟩)
          exact dd.typeIs
      exact tail_any hT PySem.F.slot_dict_getitem.lookup (p_dgetItem hu I A h2 ry d c ez fun v w' s' I' r' rt => ⟨v, H, I', r', upE_here A q rt⟩) hs
  cases h1 with
  | str z =>
    cases h2 with
    | int i =>
      obtain ⟨hz, c, hc, q⟩ := q
      exact ix_str value slice pins s σ H _ _ v u Q I rx ry ⟨z, i, c, rfl, rfl, hz, hc, upE_here A q (.str _)⟩ hs
    | _ => exact gen q
  | _ => exact gen q
/-! ### slices of tuples, of lists -/
theorem RTs.cut {K : PySem.W.Frag} {H : Hp} {G : GH} {ts : List T} {xs : List V} (r : RTs K H G ts xs) (lo hi : Option Int) : RTs K H G (cutT ts lo hi) (cutV xs lo hi) := by
  unfold cutT cutV
  rw [r.length]
  exact (r.drop _).take _
theorem cut_whole {xs : List T} {lo hi : Option Int} (h : HT.sIx xs.length 0 lo = 0 ∧ HT.sIx xs.length xs.length hi = xs.length) : cutT xs lo hi = xs := by
  unfold cutT
  rw [h.1, h.2]; simp
def sArgs (t : T) (lo hi : Option Int) : List T := t :: (lo.toList.map T.int ++ hi.toList.map T.int)
theorem p_slcQ : SlR X (fun x lo hi H Q => ∃ t G H0, At X.prog X.w X.K G H0 H ∧ RT X.K H0 G t x ∧ ∃ ts, lstOf G t = some ts ∧ upE X.prog X.w X.K G H0 H Q (.lst (cutT ts lo hi)) G) := by
  intro pins s σ H x v vl vu lo hi sl Q I rx hs pl pu ⟨t, G, H0, A, r, ts, e, q⟩
  obtain ⟨a, xs, rfl, rs, hl⟩ := r.lstI A e
  exact sl_list pins s σ H _ v vl vu lo hi sl Q I rx hs pl pu ⟨a, xs, rfl, .inl (.inl hl), fun p hp => lst_new A q (rs.cut lo hi) hp⟩
theorem p_slc : SlR X (fun x lo hi H Q => ∃ t G H0, At X.prog X.w X.K G H0 H ∧ RT X.K H0 G t x ∧ slcW t lo hi G (upE X.prog X.w X.K G H0 H Q)) := by
  intro pins s σ H x v vl vu lo hi sl Q I rx hs pl pu ⟨t, G, H0, A, r, q⟩
  have rr := r
  cases r with
  | tup h r =>
    refine sl_tupA pins s σ H _ v vl vu lo hi sl Q I rx hs pl pu ⟨_, _, rfl, A.sqT h.sq, fun w => ?_, fun w p hp => tup_new A q (r.cut lo hi) hp⟩
    rw [← r.length] at w
    have q' : upE X.prog X.w X.K G H0 H Q (.tup (cutT _ lo hi)) G := q
    rw [cut_whole w] at q'
    exact upE_here A q' (.tup h r)
  | str z => exact sl_str pins s σ H _ v vl vu lo hi sl Q I rx hs pl pu ⟨z, rfl, q.1, upE_here A q.2 (.str _)⟩
  | _ => exact p_slcQ pins s σ H _ v vl vu lo hi sl Q I rx hs pl pu ⟨_, G, H0, A, rr, q⟩
theorem p_slcL : SlR X (fun x lo hi H Q => ∃ t G H0, At X.prog X.w X.K G H0 H ∧ RT X.K H0 G t x ∧ ∃ ts, lstOf G t = some ts ∧ upF X.prog X.w X.K G H0 H Q (cutT ts lo hi) G) := by
  intro pins s σ H x v vl vu lo hi sl Q I rx hs pl pu ⟨t, G, H0, A, r, ts, e, q⟩
  obtain ⟨a, xs, rfl, rs, hl⟩ := r.lstI A e
  exact sl_list pins s σ H _ v vl vu lo hi sl Q I rx hs pl pu ⟨a, xs, rfl, .inl (.inl hl), fun p hp => fresh_new A q (rs.cut lo hi) hp⟩
/-! ### methods of lists -/
theorem p_append : MtR X "list.append" (fun x xs H Q => rP X.prog X.w X.K .append (x :: xs) H Q) := by
  intro pins s σ H x xs v us Q I rx rs ⟨ts, G, H0, A, r, q⟩
  cases r with
  | @cons t ts _ _ h1 r =>
    obtain ⟨t', y, rfl, rfl, h2⟩ := r.inv1' (append_len q)
    cases h1 with
    | ref a =>
      obtain ⟨ts, g, hl, q⟩ := q
      obtain ⟨ys, g1, g2⟩ := A.rel _ _ g
      refine mt_append pins s σ H _ _ v us Q I rx rs ⟨a, ys, y, rfl, rfl, A.sub _ _ g1, by rw [← g2.length]; exact hl, ?_⟩
      have ex : Ext G H0 (put G a (.lst (ts ++ [t']))) (upd H0 a (.lst (ys ++ [y]))) := Ext.write g
      obtain ⟨A', s'⟩ := A.write (u := .lst (ys ++ [y])) (o' := .lst (ts ++ [t'])) g ⟨_, upd_same, (g2.append (.one h2)).ext ex⟩
      exact q _ _ _ A' s' .non
    | _ => exact q.elim
theorem extend_len {t : T} {ts : List T} {G : GH} {Q : QE} (q : Prim.wp .extend (t :: ts) G Q) : ts.length = 1 := by
  match ts with
  | [_] => rfl
  | [] => cases t <;> exact q.elim
  | _ :: _ :: _ => cases t <;> exact q.elim
theorem p_extend : MtR X "list.extend" (fun x xs H Q => rP X.prog X.w X.K .extend (x :: xs) H Q) := by
  intro pins s σ H x xs v us Q I rx rs ⟨ts, G, H0, A, r, q⟩
  obtain ⟨t, ts, rfl⟩ : ∃ t u, ts = t :: u := by cases r; exact ⟨_, _, rfl⟩
  obtain ⟨t1, t', x1, y, e1, e2, h1, h2⟩ := r.inv2' (by rw [List.length_cons, extend_len q])
  cases e1; cases e2
  cases h1 with
  | ref a =>
    obtain ⟨ts, us', g, e, ne, hl, q⟩ := q
    obtain ⟨ys, g1, g2⟩ := A.rel _ _ g
    obtain ⟨b, zs', rfl, rz, hz⟩ := h2.lstI A e
    refine mt_extend pins s σ H _ _ v us Q I rx rs ⟨a, b, ys, zs', rfl, rfl, A.sub _ _ g1, hz, by rw [← g2.length, ← rz.length]; exact hl, ?_⟩
    have ex : Ext G H0 (put G a (.lst (ts ++ us'))) (upd H0 a (.lst (ys ++ zs'))) := Ext.write g
    obtain ⟨A', s'⟩ := A.write (u := .lst (ys ++ zs')) (o' := .lst (ts ++ us')) g ⟨_, upd_same, (g2.append rz).ext ex⟩
    exact q _ _ _ A' s' .non
  | _ => exact q.elim
theorem findIdx_pd {x : T} : ∀ {ts : List T} {j : Nat}, T.dat x = true → T.dats ts = true → (ts.findIdx? fun y => T.eqv y x) = some j →
    ∃ z, (T.pds ts)[j]? = some z ∧ PyData.eqv z (T.pd x) = true ∧ ∀ (m : Nat) (z' : PyData), m < j → (T.pds ts)[m]? = some z' → PyData.eqv z' (T.pd x) = false
  | [], j, _, _, h => by simp at h
  | t :: ts, j, hx, hd, h => by
    rw [T.dats, Bool.and_eq_true] at hd
    rw [List.findIdx?_cons] at h
    have e0 := T.eqv_pd t x hd.1 hx
    cases e : T.eqv t x with
    | true =>
      rw [e] at h
      simp at h
      subst h
      exact ⟨T.pd t, rfl, by rw [e0, e], fun m z' hm _ => by omega⟩
    | false =>
      rw [e] at h
      simp only [Bool.false_eq_true, if_false, Option.map_eq_some_iff] at h
      obtain ⟨i, hi, rfl⟩ := h
      obtain ⟨z, z1, z2, z3⟩ := findIdx_pd hx hd.2 hi
      refine ⟨z, by simpa [T.pds] using z1, z2, fun m z' hm hz => ?_⟩
      cases m with
      | zero => simp [T.pds] at hz; subst hz; rw [e0, e]
      | succ m => exact z3 m z' (by omega) (by simpa [T.pds] using hz)
theorem p_index (hu : X.A.units + 70 < cLine) : MtR X "list.index" (fun x xs H Q => rP X.prog X.w X.K .index (x :: xs) H Q) := by
  intro pins s σ H x xs v us Q I rx rs ⟨ts, G, H0, A, r, q⟩
  cases r with
  | @cons t ts _ _ h1 r =>
    obtain ⟨t', y, rfl, rfl, h2⟩ := r.inv1' (index_len q)
    have q' : ∃ ts j, lstOf G t = some ts ∧ T.dat t' = true ∧ T.dats ts = true ∧ T.dep t' ≤ 64 ∧ T.deps ts ≤ 63 ∧ (ts.findIdx? fun y => T.eqv y t') = some j ∧ upE X.prog X.w X.K G H0 H Q (.int (j : Nat)) G := q
    obtain ⟨ts, j, e, d1, d2, e1, e2, hf, q⟩ := q'
    obtain ⟨a, ys, rfl, ry, hl⟩ := h1.lstI A e
    obtain ⟨z, z1, z2, z3⟩ := findIdx_pd d1 d2 hf
    have dl : Dp X.K H (.ref a) (.list (T.pds ts)) := .lst (.inl (.inl hl)) (ry.dps A d2)
    refine mt_indexD (by omega) pins s σ H _ _ v us Q I rx rs ⟨a, y, T.pd t', T.pds ts, j, z, rfl, rfl, dl, h2.dp A d1, ?_, T.shaped d1 e1, z1, z2, z3, upE_here A q (.int _)⟩
    exact T.shaped (t := .lst ts) (by simpa [T.dat] using d2) (by rw [T.dep]; omega)
end
end EV

/-! EV8: tuple(..) of dicts, sorted. -/
namespace EV
open PySem PySem.Spec PyProof.Rows L2

section
variable {P : Program} {w : World} {Ar : Around} {E : Value → Shared → Prop} {s : Shared} {d : Addr} {F : Heap → Nat → List Value → Prop}
/-- tuple(d): F tells what is collected -/
theorem tuple_new_of {Q₁ : Value → Shared → Prop} (hT : s.TypeIs (.ref d) "dict")
    (col : ∀ (A2 : Around) (E2 : Value → Shared → Prop) (Q2 : List Value → Shared → Prop), A2 = Ar.in1 → (∀ h' tk us, F h' tk us → us.length ≤ sizeLine → Q2 us { s with heap := h', toks := tk }) → wpAny (model P w) A2 (collect (.ref d)) Q2 E2 s)
    (h : ∀ h' tk us, F h' tk us → us.length ≤ sizeLine → Q₁ (.ref h'.objs.size) { s with heap := h'.push { cls := .type "tuple", data := .seq us.toArray }, toks := tk }) :
    codeAny (model P w) Ar (.call (.builtin "tuple.__new__") ⟨[.type "tuple", .ref d], []⟩) (wants Q₁ E) s := by
  refine codeAny_of_tree ?_
  show wpAny _ Ar.in1 (checkBuiltinCall "tuple.__new__" ⟨[.type "tuple", .ref d], []⟩ >>= fun _ => again (.builtin "tuple.__new__" ⟨[.type "tuple", .ref d], []⟩)) _ _ s
  refine wpAny_bind (wpAny_of_eq (PySem.F.newCall_tuple_1 _) (wpAny_pure ⟨plainId_quiet PySem.F.plain_tuple_new _, codeAny_builtin PySem.F.entry_tuple_new ?_⟩))
  rw [Around.under_plainId PySem.F.plain_tuple_new _]
  have hsub := sub_tuple_self
  have hinit := init_tuple_lookup
  have hmh := madeHere_tuple
  wp_walk using wpAny_typeOf hT, col Ar.in1
  · rfl
  · intro h' tk us hF hl
    show wpAny _ _ (Builtin.Tuple.tupleExact us.toArray >>= fun v => ret v) _ _ _
    unfold Builtin.Tuple.tupleExact
    refine wpAny_bind (wpAny_newObj_type ?_ (by show us.toArray.size ≤ sizeLine; rw [List.size_toArray]; exact hl))
    exact wpAny_pure (h h' tk us hF hl)
theorem call_tuple_of_dict {Q : Value → Shared → Prop} (hT : s.TypeIs (.ref d) "dict")
    (col : ∀ (A2 : Around) (E2 : Value → Shared → Prop) (Q2 : List Value → Shared → Prop), A2 = Ar.in1.in1 → (∀ h' tk us, F h' tk us → us.length ≤ sizeLine → Q2 us { s with heap := h', toks := tk }) → wpAny (model P w) A2 (collect (.ref d)) Q2 E2 s)
    (h : ∀ h' tk us, F h' tk us → us.length ≤ sizeLine → Q (.ref h'.objs.size) { s with heap := h'.push { cls := .type "tuple", data := .seq us.toArray }, toks := tk }) :
    wpAny (model P w) Ar (call (.type "tuple") [.ref d]) Q E s := by
  refine callType_codes (Q₁ := fun obj s₁ => s₁.TypeIs obj "tuple" ∧ Q obj s₁) PySem.F.called_tuple (PySem.F.typeCall_tuple_1 _) PySem.F.entry_object_init
    (tuple_new_of (Ar := Ar.in1) (F := F) hT col fun h' tk us hF hl => ⟨⟨_, Heap.get?_push_size _ rfl, rfl⟩, h h' tk us hF hl⟩) fun obj s₁ h₁ => ?_
  exact ⟨h₁.1, PySem.F.args_object_init_2 obj _, object_init_meets PySem.F.called_tuple.init.lookup PySem.F.called_tuple.made (by decide) P w Ar.in1 _ s₁ ⟨h₁.1, rfl, h₁.2⟩⟩
end
section
variable {X : Cx}
theorem dict_type {pins : List (Addr × Obj)} {σ : L2.St} {H H0 : Hp} {s : Shared} {G : GH} (I : Inv X pins σ H s) (A : At X.prog X.w X.K G H0 H) {a : Addr} {kvs : List (T × T)} (d : DK X.K H0 G H a kvs true ∨ DN X.prog X.w X.K H0 G H a kvs) :
    s.TypeIs (.ref a) "dict" ∧ (∀ b, Value.ref a = .ref b → ∃ ob, s.heap.get? b = some ob ∧ ob.dict = none) := by
  rcases d with ⟨kv, h1, h2⟩ | ⟨zs, g1, g2, g3, g4⟩
  · obtain ⟨_, _, vs, _, dd⟩ := dk_rd I.hok h1
    refine ⟨dd.typeIs, fun b q => ?_⟩
    cases q
    obtain ⟨ob, _, _, h1, h2, _⟩ := dd
    exact ⟨ob, h1, h2.2.1⟩
  · obtain ⟨hm, hl, xs, h4, dd⟩ := DN.lib I A (.inl ⟨zs, g1, g2, g3, g4⟩)
    refine ⟨dd.typeIs, fun b q => ?_⟩
    cases q
    obtain ⟨ob, _, _, h1, h2, _⟩ := dd
    exact ⟨ob, h1, h2.2.1⟩
theorem tuple_len {ts : List T} {G : GH} {Q : QE} (q : Prim.wp .tuple ts G Q) : ts.length = 1 := by
  match ts with
  | [_] => rfl
  | [] => exact q.elim
  | a :: _ :: _ => cases a <;> exact q.elim
theorem p_tuple (hc : X.calm = true) : CallR X (.type "tuple") (rP X.prog X.w X.K .tuple) := by
  intro pins s σ H vs us Q I rv ⟨ts, G, H0, A, r, q⟩
  obtain ⟨t, x, rfl, rfl, h1⟩ := r.inv1' (tuple_len q)
  have q' : (∃ ts, seqOf G t = some ts ∧ upE X.prog X.w X.K G H0 H Q (.tup ts) G) ∨ (∃ kvs, dctOf G t = some kvs ∧ upE X.prog X.w X.K G H0 H Q (.tup (kvs.map (·.1))) G) := q
  rcases q' with ⟨ts, e, q⟩ | ⟨kvs, e, q⟩
  · have key : ∃ a xs, x = .ref a ∧ ((SqL X.K H a xs ∧ RTs X.K H0 G ts xs) ∨ (RT X.K H0 G (.tup ts) (.ref a) ∧ SqT X.K H a xs)) := by
      cases h1 with
      | tup h r' => cases e; exact ⟨_, _, rfl, .inr ⟨.tup h r', A.sqT h.sq⟩⟩
      | lst h r' => cases e; exact ⟨_, _, rfl, .inl ⟨A.sqL h.sq, r'⟩⟩
      | @scr a ns h => cases e; exact ⟨_, _, rfl, .inl ⟨A.sqL h.sq, RTs.ints ns⟩⟩
      | ref a =>
        obtain ⟨a', xs, e', rs, hs⟩ := (RT.ref (K := X.K) (H := H0) (G := G) a).seq A e
        cases e'
        rcases hs with hs | hs
        · exact ⟨_, xs, rfl, .inl ⟨hs, rs⟩⟩
        · cases e4 : G a with
          | none => simp [seqOf, e4] at e
          | some o =>
            obtain ⟨u, hu⟩ := A.rel.has e4
            have nt : ∀ zs, u ≠ .tup zs ∧ ∀ ob, u ≠ .frz ob (.tup zs) := fun zs => by
              cases o with
              | lst us => obtain ⟨ys, k1, _⟩ := A.rel _ _ e4; rw [hu] at k1; cases k1; exact ⟨fun z => (by cases z), fun ob z => (by cases z)⟩
              | _ => simp [seqOf, e4] at e
            rcases hs with (hs | ⟨ob, hs⟩) | ⟨ok, its, n, k1, k2, _⟩
            · rw [A.sub _ _ hu] at hs; cases hs; exact absurd rfl (nt xs).1
            · rw [A.sub _ _ hu] at hs; cases hs; exact absurd rfl ((nt xs).2 ob)
            · have hh := I.kIn _ _ k1
              exfalso
              cases o with
              | lst us =>
                obtain ⟨ys, q1, _⟩ := A.rel _ _ e4
                obtain ⟨_, its', n', _, q2⟩ := I.hok _ _ (A.sub _ _ q1)
                rw [hh] at q2; cases q2
                exact absurd (Value.type.inj k2) (by decide)
              | _ => simp [seqOf, e4] at e
      | _ => cases e
    obtain ⟨a, xs, rfl, ⟨hs, rs⟩ | ⟨rt, hs⟩⟩ := key
    · exact call_tuple_of pins s σ H _ us Q I rv ⟨a, xs, rfl, .inl ⟨hs, fun p hp => tup_new A q rs hp⟩⟩
    · exact call_tuple_of pins s σ H _ us Q I rv ⟨a, xs, rfl, .inr ⟨hs, upE_here A q rt⟩⟩
  · obtain ⟨a, rfl, d⟩ := h1.dict A e
    obtain ⟨u, rfl, ru⟩ := vals1 rv
    cases ru
    refine call_tuple_of_dict (F := fun h' tk us => (∀ b o, s.heap.get? b = some o → h'.get? b = some o) ∧ ∃ xs, RTs X.K H0 G (kvs.map (·.1)) xs ∧ Vals xs us) (dict_type I A d).1 (fun A2 E2 Q2 e2 k => ?_) fun h' tk us ⟨kp, xs, r1, r2⟩ hl => ?_
    · subst e2
      exact collectP (Ar := X.A.in1.in1) I A h1 rfl (.inr ⟨kvs, e, rfl⟩) (I.ok.hd hc) fun h' tk us xs kp r1 r2 hl => k h' tk us ⟨kp, xs, r1, r2⟩ (by rw [← r2.length]; exact hl)
    · have I1 : Inv X pins σ H { s with heap := h', toks := tk } := I.kept (t' := tk) kp
      refine ⟨.ref h'.objs.size, _, I1.laid (t' := tk) (o := .tup xs) (fun b o q => Heap.get?_push_of_some _ q) (Nat.le_refl _) ⟨by rw [r2.length]; exact hl, us, r2, IsTup.new _ _⟩, rfl, ?_⟩
      exact tup_new A q r1 (I1.hok.fresh (Nat.le_refl _))
/-- values one by one -/
theorem triple {K : PySem.W.Frag} {H0 : Hp} {G : GH} {h : Heap} : ∀ {ts : List T} {xs : List V} {us : List Value}, RTs K H0 G ts xs → Vals xs us → PTs h ts us → ∀ u ∈ us, ∃ t x, RT K H0 G t x ∧ RelV x u ∧ PT h t u
  | _, _, _, .nil, .nil, .nil, u, hu => by simp at hu
  | _, _, _, .cons r1 r2, .cons v1 v2, .cons p1 p2, u, hu => by
    rcases List.mem_cons.mp hu with rfl | hu
    · exact ⟨_, _, r1, v1, p1⟩
    · exact triple r2 v2 p2 u hu
theorem untriple {K : PySem.W.Frag} {H0 : Hp} {G : GH} {h : Heap} : ∀ {us : List Value}, (∀ u ∈ us, ∃ t x, RT K H0 G t x ∧ RelV x u ∧ PT h t u) → ∃ ts xs, RTs K H0 G ts xs ∧ Vals xs us ∧ PTs h ts us
  | [], _ => ⟨[], [], .nil, .nil, .nil⟩
  | u :: us, f => by
    obtain ⟨t, x, a, b, c⟩ := f u List.mem_cons_self
    obtain ⟨ts, xs, a', b', c'⟩ := untriple fun u m => f u (List.mem_cons_of_mem _ m)
    exact ⟨t :: ts, x :: xs, .cons a a', .cons b b', .cons c c'⟩
theorem sorted_len {ts : List T} {G : GH} {Q : List T → GH → Prop} (q : LPrim.wp .sorted ts G Q) : ts.length = 1 := by
  match ts with
  | [_] => rfl
  | [] => exact q.elim
  | a :: _ :: _ => exact q.elim
theorem p_sorted (hc : X.calm = true) (hu : X.A.units + 80 < cLine) : CallR X (.builtin "sorted") (rL X.prog X.w X.K .sorted) := by
  intro pins s σ H vs us Q I rv ⟨ts, G, H0, A, r, q⟩
  obtain ⟨t, x, rfl, rfl, h1⟩ := r.inv1' (sorted_len q)
  obtain ⟨ts, hi, hl, pl, dp, so, cm, q⟩ := q
  obtain ⟨u, rfl, ru⟩ := vals1 rv
  refine Calls.call_function_entry PyProof.Rows.kind_sorted PyProof.Rows.plain_sorted PyProof.Rows.entry_sorted (PyProof.Rows.args_sorted1 _) ?_
  unfold Builtin.«sorted»
  refine wpAny_bind (m := checkCount "sorted" 1 1 _) (wpAny_pure ?_)
  refine wpAny_bind (collectP I A h1 ru hi (Ar := X.A.in1) (I.ok.hd hc) fun h' tk us xs kp r1 r2 hl2 => ?_)
  have lu : us.length ≤ sizeLine := by rw [← r2.length]; exact hl2
  have I1 : Inv X pins σ H { s with heap := h', toks := tk } := I.kept (t' := tk) kp
  have p1 : PTs h' ts us := RTs.pts I1 A r1 r2 pl
  refine wpAny_bind (wpAny_newList ?_ lu)
  show wpAny _ _ _ _ _ { s with heap := h'.push (seqObj "list" us.toArray 0), toks := tk }
  have hoL : (h'.push (seqObj "list" us.toArray 0)).get? h'.objs.size = some (seqObj "list" us.toArray 0) := Heap.get?_push_size _ rfl
  have p2 : PTs (h'.push (seqObj "list" us.toArray 0)) ts us := PTs.at (fun a o vs n e _ _ => Heap.get?_push_of_some _ e) p1
  refine wpAny_bind (wpAny_holding (wpAny_call_entry PyProof.Rows.slot_list_sort ⟨_, hoL, rfl⟩ PyProof.Rows.entry_list_sort
    (SrtO.list_sort_ord (ltvOf_swo (h'.push (seqObj "list" us.toArray 0))) hoL lu (fun h2 => ?_) fun out hs hb => ⟨_, rfl, ?_⟩) (PyProof.Rows.args_list_sort _)))
  · refine sortableP (s := { s with heap := h'.push (seqObj "list" us.toArray 0), toks := tk }) p2 h2 pl dp so cm (fun o e => ?_) (by have e1 : X.A.in1.in1.units = X.A.units + 1 + 1 := rfl; omega)
    have e' : some o = some (seqObj "list" us.toArray 0) := e.symm.trans hoL
    cases e'
    intro c
    exact absurd (Value.type.inj c) (by decide)
  · obtain ⟨zs, ys, g1, g2, g3⟩ := untriple (K := X.K) (H0 := H0) (G := G) (h := h'.push (seqObj "list" us.toArray 0)) (us := out) fun u m => triple r1 r2 p2 u (hb.perm.mem_iff.mp m)
    have ez : out.map (trOf (h'.push (seqObj "list" us.toArray 0))) = zs := trOf_map g3
    have et : us.map (trOf (h'.push (seqObj "list" us.toArray 0))) = ts := trOf_map p2
    have perm : zs.Perm ts := by rw [← ez, ← et]; exact hb.perm.map _
    have srt : zs.Pairwise (fun x y => T.tlt y x = false) := by rw [← ez]; exact List.pairwise_map.mpr hs
    obtain ⟨e', he'⟩ := PyProof.Rows.sortedHeap_at (vs := us) (out := out.toArray) hoL
    refine wpAny_pure ⟨_, rfl, .ref h'.objs.size, upd H h'.objs.size (.lst ys), I1.laid (t' := tk) (fun b u e => ?_) (Nat.le_refl _) ⟨?_, out, e', g2, he'⟩, rfl, fresh_new A (q zs perm srt) g1 (I1.hok.fresh (Nat.le_refl _))⟩
    · have hb2 : b < h'.objs.size := Heap.lt_size e
      rw [PyProof.Rows.sortedHeap_old (Nat.ne_of_lt hb2) (by rw [size_push']; exact Nat.lt_succ_of_lt hb2)]
      exact Heap.get?_push_of_some _ e
    · rw [← g1.length, perm.length_eq, r1.length]; exact hl2
end
end EV

/-! EV9: pieces of syntax. -/
namespace EV
open PySem PySem.Spec PyProof.Rows L2

section
variable (P : Program) (w : World) (K : PySem.W.Frag)
def liftE (W : Sl → GH → QE → Prop) : TE := fun σ H Q => ∃ τ G H0, At P w K G H0 H ∧ SR K H0 G τ σ ∧ W τ G (upE P w K G H0 H Q)
def liftB (W : Sl → GH → QE → Prop) : TT := fun σ H Q => ∃ τ G H0, At P w K G H0 H ∧ SR K H0 G τ σ ∧ W τ G fun t G' => ∃ b, t = .bl b ∧ ∀ H0' H', At P w K G' H0' H' → Stp G H0 H G' H0' H' → Q b H'
def liftL (W : Sl → GH → (List T → GH → Prop) → Prop) : TA := fun σ H Q => ∃ τ G H0, At P w K G H0 H ∧ SR K H0 G τ σ ∧ W τ G (upL P w K G H0 H Q)
def liftF (W : Sl → GH → (List T → GH → Prop) → Prop) : TE := fun σ H Q => ∃ τ G H0, At P w K G H0 H ∧ SR K H0 G τ σ ∧ W τ G (upF P w K G H0 H Q)
end
theorem weakE {X : Cx} {e : Expr} {t t' : TE} (h : PE X e t) (k : ∀ σ H Q, t' σ H Q → t σ H Q) : PE X e t' := ⟨fun pins s σ H Q I q => h.run pins s σ H Q I (k σ H Q q)⟩
theorem weakT {X : Cx} {e : Expr} {t t' : TT} (h : L2.PT X e t) (k : ∀ σ H Q, t' σ H Q → t σ H Q) : L2.PT X e t' := ⟨fun pins s σ H Q I q => h.run pins s σ H Q I (k σ H Q q)⟩
theorem weakA {X : Cx} {e : List Expr} {t t' : TA} (h : PA X e t) (k : ∀ σ H Q, t' σ H Q → t σ H Q) : PA X e t' := ⟨fun pos pins s σ H Q I q => h.run pos pins s σ H Q I (k σ H Q q)⟩
theorem weakS {X : Cx} {e : Stmt} {t t' : TS} (h : PS X e t) (k : ∀ D σ H, t' D σ H → t D σ H) : PS X e t' := ⟨fun pins s σ H D I q => h.run pins s σ H D I (k D σ H q)⟩
theorem weakSs {X : Cx} {e : List Stmt} {t t' : TS} (h : PSs X e t) (k : ∀ D σ H, t' D σ H → t D σ H) : PSs X e t' := ⟨fun pins s σ H D I q => h.run pins s σ H D I (k D σ H q)⟩
theorem weakG {X : Cx} {e : Expr} {t t' : TG} (h : PG X e t) (k : ∀ v σ H Q, t' v σ H Q → t v σ H Q) : PG X e t' := ⟨fun pins s σ H v u Q I r q => h.run pins s σ H v u Q I r (k v σ H Q q)⟩
theorem xle (R : XQ) : XLe R R := fun _ _ _ z => z
section
variable {P : Program} {w : World} {K : PySem.W.Frag} {C : Calls} {R : XQ} (hC : CLe C C)
include hC
theorem lE_mono {e : E} {σ : L2.St} {H : Hp} {Q Q' : VK} (q : liftE P w K (wE C R e) σ H Q) (h : ∀ v H', Q v H' → Q' v H') : liftE P w K (wE C R e) σ H Q' := by
  obtain ⟨τ, G, H0, A, S, q⟩ := q
  exact ⟨τ, G, H0, A, S, wE_mono hC e τ G (xle R) (fun t G' z v H0' H' a s r => h v H' (z v H0' H' a s r)) q⟩
theorem lEs_nil {σ : L2.St} {H : Hp} {Q : List V → Hp → Prop} (q : liftL P w K (wEs C R []) σ H Q) : Q [] H := by
  obtain ⟨τ, G, H0, A, S, q⟩ := q
  rw [wEs] at q
  exact q [] H0 H A (.refl _ _ _) .nil
theorem lEs_cons {e : E} {es : List E} {σ : L2.St} {H : Hp} {Q : List V → Hp → Prop} (q : liftL P w K (wEs C R (e :: es)) σ H Q) :
    liftE P w K (wE C R e) σ H fun v H1 => liftL P w K (wEs C R es) σ H1 fun vs H2 => Q (v :: vs) H2 := by
  obtain ⟨τ, G, H0, A, S, q⟩ := q
  rw [wEs] at q
  refine ⟨τ, G, H0, A, S, wE_mono hC e τ G (xle R) (fun t G1 z v H01 H1 A1 s1 r1 => ⟨τ, G1, H01, A1, S.ext s1.ext, ?_⟩) q⟩
  exact wEs_mono hC es τ G1 (xle R) (fun ts G2 k vs H02 H2 A2 s2 r2 => k (v :: vs) H02 H2 A2 (s1.trans s2) (.cons (r1.ext s2.ext) r2)) z
/-- an operation over arguments -/
theorem lP {p : Prim} {es : List E} {σ : L2.St} {H : Hp} {Q : VK} (q : liftE P w K (wE C R (.prim p es)) σ H Q) : liftL P w K (wEs C R es) σ H fun vs H1 => rP P w K p vs H1 Q := by
  obtain ⟨τ, G, H0, A, S, q⟩ := q
  rw [wE] at q
  exact ⟨τ, G, H0, A, S, wEs_mono hC es τ G (xle R) (fun ts G1 z vs H01 H1 A1 s1 r1 => ⟨ts, G1, H01, A1, r1, p.mono ts G1 (upE_stp s1) z⟩) q⟩
theorem lP1 {p : Prim} {a : E} {σ : L2.St} {H : Hp} {Q : VK} (q : liftE P w K (wE C R (.prim p [a])) σ H Q) : liftE P w K (wE C R a) σ H fun v H1 => rP P w K p [v] H1 Q :=
  lE_mono hC (lEs_cons hC (lP hC q)) fun v H1 z => lEs_nil hC z
theorem lP2 {p : Prim} {a b : E} {σ : L2.St} {H : Hp} {Q : VK} (q : liftE P w K (wE C R (.prim p [a, b])) σ H Q) : liftE P w K (wE C R a) σ H fun v H1 => liftE P w K (wE C R b) σ H1 fun u H2 => rP P w K p [v, u] H2 Q :=
  lE_mono hC (lEs_cons hC (lP hC q)) fun v H1 z => lE_mono hC (lEs_cons hC z) fun u H2 z => lEs_nil hC z
omit hC in
theorem upF_stp {G G1 : GH} {H0 H H01 H1 : Hp} {Q : VK} (s : Stp G H0 H G1 H01 H1) (ts : List T) (G' : GH) (q : upF P w K G H0 H Q ts G') : upF P w K G1 H01 H1 Q ts G' := fun vs H0' H' p A' s' r e1 e2 e3 =>
  q vs H0' H' p A' (s.trans s') r e1 e2 (s.gr p e3)
omit hC in
theorem upL_stp {G G1 : GH} {H0 H H01 H1 : Hp} {Q : List V → Hp → Prop} (s : Stp G H0 H G1 H01 H1) (ts : List T) (G' : GH) (q : upL P w K G H0 H Q ts G') : upL P w K G1 H01 H1 Q ts G' := fun vs H0' H' A' s' r => q vs H0' H' A' (s.trans s') r
/-- an operation that makes a list, over arguments -/
theorem lLP {p : LPrim} {es : List E} {σ : L2.St} {H : Hp} {Q : VK} (q : liftF P w K (wL C R (.prim p es)) σ H Q) : liftL P w K (wEs C R es) σ H fun vs H1 => rL P w K p vs H1 Q := by
  obtain ⟨τ, G, H0, A, S, q⟩ := q
  rw [wL] at q
  exact ⟨τ, G, H0, A, S, wEs_mono hC es τ G (xle R) (fun ts G1 z vs H01 H1 A1 s1 r1 => ⟨ts, G1, H01, A1, r1, p.mono ts G1 (fun us G2 => upF_stp s1 us G2) z⟩) q⟩
omit hC in
theorem held_fresh {G : GH} {H0 H : Hp} {p : Addr} {vs : List V} (A : At P w K G H0 H) (e1 : H p = some (.lst vs)) (e2 : H0 p = none) (Hs : Hp) (e3 : Hs p = none) {G0 : GH} {H00 : Hp} (s : Stp G0 H00 Hs G H0 H) :
    At P w K G (upd H0 p (.lst vs)) H ∧ Stp G0 H00 Hs G (upd H0 p (.lst vs)) H ∧ Ext G H0 G (upd H0 p (.lst vs)) ∧ G p = none := by
  have g : G p = none := A.rel.free e2
  have ex : Ext G H0 G (upd H0 p (.lst vs)) := Ext.laid e2
  refine ⟨⟨fun a o e => ?_, A.rel.laid e2⟩, ⟨s.ext.trans ex, fun a o h h0 => ?_, s.gr⟩, ex, g⟩
  · by_cases ha : a = p
    · subst ha; rw [upd_same] at e; rw [e1]; exact e
    · rw [upd_ne ha] at e; exact A.sub a o e
  · obtain ⟨k1, k2⟩ := s.fr a o h h0
    refine ⟨k1, ?_⟩
    rw [upd_ne (fun z => by subst z; rw [e3] at h; cases h)]
    exact k2
/-- a new list that stays as it is -/
theorem lTmp {l : L} {σ : L2.St} {H : Hp} {Q : VK} (q : liftE P w K (wE C R (.tmp l)) σ H Q) : liftF P w K (wL C R l) σ H Q := by
  obtain ⟨τ, G, H0, A, S, q⟩ := q
  rw [wE] at q
  refine ⟨τ, G, H0, A, S, wL_mono hC l τ G (xle R) (fun ts G' z vs H0' H' p A' s' r e1 e2 e3 => ?_) q⟩
  obtain ⟨B, t, ex, g⟩ := held_fresh A' e1 e2 H e3 s'
  exact z _ _ _ B t (.lst ⟨upd_same, g⟩ (r.ext ex))
/-- a new list of ours -/
theorem lOwn {l : L} {σ : L2.St} {H : Hp} {Q : VK} (q : liftE P w K (wE C R (.own l)) σ H Q) : liftF P w K (wL C R l) σ H Q := by
  obtain ⟨τ, G, H0, A, S, q⟩ := q
  rw [wE] at q
  refine ⟨τ, G, H0, A, S, wL_mono hC l τ G (xle R) (fun ts G' z vs H0' H' p A' s' r e1 e2 e3 => ?_) q⟩
  have g : G' p = none := A'.rel.free e2
  have ex : Ext G' H0' (put G' p (.lst ts)) (upd H0' p (.lst vs)) := Ext.new e2
  obtain ⟨B, t, _, _⟩ := held_fresh A' e1 e2 H e3 s'
  have rr : ORel P w K (upd H0' p (.lst vs)) (put G' p (.lst ts)) p (.lst ts) := ⟨vs, upd_same, r.ext ex⟩
  refine z p g _ (upd H0' p (.lst vs)) H' ⟨B.sub, A'.rel.put ex rr⟩ ⟨s'.ext.trans ex, t.fr, s'.gr⟩ (.ref p)
end
end EV

/-! EV10: what is known around a text; what a loop walks; targets. -/
namespace EV
open PySem PySem.Spec PyProof.Rows L2

/-- what a global name stands for: a def, a built-in thing, a value -/
inductive Gk where
  | fn
  | blt
  | con (t : T)
/-- what is known of the names in a block -/
structure Ct where
  N : List Str
  sc : Scope
  fn : Str → Bool
  gs : List (Str × Gk)
def cxF : CXT := fun _ _ _ _ _ _ => False
def spOf (P : Program) (w : World) (K : PySem.W.Frag) (C : Calls) (x : Str) : Sp := fun vs H Q _ => ∃ ts G H0, At P w K G H0 H ∧ RTs K H0 G ts vs ∧ C x ts G (upE P w K G H0 H Q) noX
structure Good (X : Cx) (c : Ct) (C : Calls) (k : Nat) : Prop where
  N : X.N = c.N
  sc : X.env.scope = c.sc
  fn : X.fn = c.fn
  nd : c.N.Nodup
  calm : X.calm = true
  room : Room k X.A
  blt : ∀ x, c.gs.lookup x = some .blt → X.mg x = none
  con : ∀ x t, c.gs.lookup x = some (.con t) → ∃ u v, X.mg x = some u ∧ RelV v u ∧ ∀ H G, RT X.K H G t v
  fnc : ∀ x, c.gs.lookup x = some .fn → ∃ f fd ps, X.mg x = some (.ref f) ∧ PySem.W.keepIn X.K (.ref f) = true ∧ Binds X.K fd ps [] ∧ FnOk X.prog X.w X.K X.mg X.base cxF k f fd ps (spOf X.prog X.w X.K C x)
def badN (x : Str) : Bool := (x == ("__debug__" : Str)) || (x == ("__classdict__" : Str)) || (x == ("__name__" : Str))
def visB (sc : Scope) (x : Str) : Bool := match sc.names.lookup x with
  | some .local => true
  | some .cell => true
  | some .free => true
  | _ => false
def locB (sc : Scope) (x : Str) : Bool := match sc.names.lookup x with
  | some .local => true
  | _ => false
def celB (sc : Scope) (x : Str) : Bool := match sc.names.lookup x with
  | some .cell => true
  | _ => false
def gloB (sc : Scope) (x : Str) : Bool := match sc.names.lookup x with
  | some .globalImplicit => true
  | _ => false
theorem visB_ok {sc : Scope} {x : Str} (h : visB sc x = true) : Vis sc x := by
  unfold visB at h
  split at h <;> first | exact .inl (by assumption) | exact .inr (.inl (by assumption)) | exact .inr (.inr (by assumption)) | cases h
theorem locB_ok {sc : Scope} {x : Str} (h : locB sc x = true) : sc.names.lookup x = some .local := by
  unfold locB at h
  split at h <;> first | assumption | cases h
theorem celB_ok {sc : Scope} {x : Str} (h : celB sc x = true) : sc.names.lookup x = some .cell := by
  unfold celB at h
  split at h <;> first | assumption | cases h
theorem gloB_ok {sc : Scope} {x : Str} (h : gloB sc x = true) : sc.names.lookup x = some .globalImplicit := by
  unfold gloB at h
  split at h <;> first | assumption | cases h
theorem badN_ok {x : Str} (h : badN x = false) : (x == ("__debug__" : Str)) = false ∧ (x == ("__classdict__" : Str)) = false ∧ x ≠ "__name__" := by
  unfold badN at h
  simp only [Bool.or_eq_false_iff] at h
  exact ⟨h.1.1, h.1.2, by simpa using h.2⟩
/-- a global name that stands for a built-in thing -/
def bltB (c : Ct) (x : Str) : Bool := gloB c.sc x && !badN x && (match c.gs.lookup x with | some .blt => true | _ => false)
theorem bltB_ok {X : Cx} {c : Ct} {C : Calls} {k : Nat} (g : Good X c C k) {x : Str} (h : bltB c x = true) : Gl X x ∧ X.mg x = none ∧ x ≠ "__name__" ∧ (x == ("__debug__" : Str)) = false := by
  unfold bltB at h
  simp only [Bool.and_eq_true, Bool.not_eq_true'] at h
  obtain ⟨⟨h1, h2⟩, h3⟩ := h
  obtain ⟨b1, b2, b3⟩ := badN_ok h2
  refine ⟨?_, g.blt x ?_, b3, b1⟩
  · show X.env.scope.names.lookup x = _
    rw [g.sc]; exact gloB_ok h1
  · split at h3
    · assumption
    · cases h3
/-- a comprehension's block -/
def Ct.blk (c : Ct) (scope : Scope) : Ct := { c with sc := relS scope c.sc, fn := fun x => scope.names.lookup x == some .cell }
theorem Good.blk {X : Cx} {c : Ct} {C : Calls} {k : Nat} (g : Good X c C k) (s : Shared) (H : Hp) (scope : Scope) (cl : List (Str × Addr)) (A : Addr) (fp : List Addr) :
    Good (X.blk s H scope (compEnvC scope cl A X.env) fp) (c.blk scope) C k := by
  refine ⟨g.N, ?_, rfl, g.nd, g.calm, g.room, g.blt, g.con, g.fnc⟩
  show relS scope X.env.scope = relS scope c.sc
  rw [g.sc]

/-! ### stars -/
def noStar : Expr → Bool
  | .Starred .. => false
  | _ => true
theorem star_cons {x : Expr} {xs : List Expr} {env : Env} (h : noStar x = true) : starEach (x :: xs) env = (false, eval x env) :: starEach xs env := by
  cases x <;> first | rfl | cases h
theorem star_any {env : Env} {pos : Pos} : ∀ {xs : List Expr}, xs.all noStar = true → (backTo pos (starEach xs env)).any (·.1) = false
  | [], _ => rfl
  | x :: xs, h => by
    rw [List.all_cons, Bool.and_eq_true] at h
    rw [star_cons h.1]
    show (false || (backTo pos (starEach xs env)).any (·.1)) = false
    rw [star_any h.2]; rfl
theorem assign_cons {x : Expr} {xs : List Expr} {env : Env} (h : noStar x = true) : assignEach (x :: xs) env = (false, assign x env) :: assignEach xs env := by
  cases x <;> first | rfl | cases h

/-! ### targets -/
def Same (is : List Nat) (σ σ' : L2.St) : Prop := σ'.length = σ.length ∧ ∀ i, i ∉ is → σ'[i]? = σ[i]?
theorem Same.refl (is : List Nat) (σ : L2.St) : Same is σ σ := ⟨rfl, fun _ _ => rfl⟩
theorem Same.trans {is : List Nat} {a b c : L2.St} (h : Same is a b) (h' : Same is b c) : Same is a c := ⟨h'.1.trans h.1, fun i hi => (h'.2 i hi).trans (h.2 i hi)⟩
theorem Same.set {is : List Nat} {σ : L2.St} {i : Nat} {v : Option V} (h : i ∈ is) : Same is σ (σ.set i v) := ⟨by simp, fun j hj => by rw [List.getElem?_set_ne]; exact fun z => hj (z ▸ h)⟩
theorem wipe_get {σ : L2.St} {i : Nat} : ∀ {vs : List Nat}, i ∈ vs → i < σ.length → (wipe σ vs)[i]? = some none
  | [], h, _ => by simp at h
  | v :: vs, h, hl => by
    unfold wipe
    by_cases e : v = i
    · subst e; rw [List.getElem?_set_self (by rw [wipe_length]; exact hl)]
    · rw [List.getElem?_set_ne e]
      exact wipe_get (by simpa [Ne.symm e] using h) hl
theorem Same.wipe {is vs : List Nat} {σ σ' : L2.St} (h : Same is (wipe σ vs) σ') (hs : ∀ i ∈ is, i ∈ vs) : wipe σ' vs = wipe σ vs := by
  apply List.ext_getElem?
  intro i
  have hl : σ'.length = σ.length := by rw [h.1, wipe_length]
  by_cases hi : i ∈ vs
  · by_cases hlt : i < σ.length
    · rw [wipe_get hi (by omega), wipe_get hi hlt]
    · rw [List.getElem?_eq_none (by rw [wipe_length]; omega), List.getElem?_eq_none (by rw [wipe_length]; omega)]
  · rw [wipe_out hi, h.2 i (fun z => hi (hs i z))]
theorem SR.wipes {K : PySem.W.Frag} {H : Hp} {G : GH} {τ : Sl} {σ : L2.St} (h : SR K H G τ σ) : ∀ vs : List Nat, SR K H G (wipeS τ vs) (L2.wipe σ vs)
  | [] => h
  | v :: vs => by unfold wipeS L2.wipe; exact (SR.wipes h vs).wipe v
def liftG (P : Program) (w : World) (K : PySem.W.Frag) (is : List Nat) (W : T → Sl → (Sl → Prop) → Prop) : TG := fun v σ H Q => ∃ τ t G H0, At P w K G H0 H ∧ SR K H0 G τ σ ∧ RT K H0 G t v ∧ W t τ fun τ' => ∀ σ', SR K H0 G τ' σ' → Same is σ σ' → Q σ' H
def liftGs (P : Program) (w : World) (K : PySem.W.Frag) (is : List Nat) (W : List T → Sl → (Sl → Prop) → Prop) : TGs := fun vs σ H Q => ∃ τ ts G H0, At P w K G H0 H ∧ SR K H0 G τ σ ∧ RTs K H0 G ts vs ∧ W ts τ fun τ' => ∀ σ', SR K H0 G τ' σ' → Same is σ σ' → Q σ' H
def tgName (c : Ct) (i : Nat) (x : Str) : Bool := decide (c.N[i]? = some x) && (locB c.sc x || (celB c.sc x && c.fn x))
mutual
def chkG (c : Ct) (is : List Nat) : Tg → Expr → Bool
  | .name i, e => match e with
    | .Name x _ => decide (i ∈ is) && tgName c i x
    | _ => false
  | .tup gs, e => match e with
    | .Tuple es _ _ => chkGs c is gs es
    | _ => false
def chkGs (c : Ct) (is : List Nat) : List Tg → List Expr → Bool
  | [], [] => true
  | g :: gs, e :: es => noStar e && chkG c is g e && chkGs c is gs es
  | _, _ => false
end
theorem assign_len {c : Ct} {is : List Nat} {env : Env} : ∀ {gs : List Tg} {es : List Expr}, chkGs c is gs es = true → (assignEach es env).length = gs.length ∧ (assignEach es env).findIdx? (·.1) = none
  | [], [], _ => ⟨rfl, rfl⟩
  | [], _ :: _, h => by simp [chkGs] at h
  | _ :: _, [], h => by simp [chkGs] at h
  | g :: gs, e :: es, h => by
    rw [chkGs] at h
    simp only [Bool.and_eq_true] at h
    obtain ⟨a, b⟩ := assign_len (env := env) h.2
    rw [assign_cons h.1.1]
    refine ⟨by simp [a], ?_⟩
    rw [List.findIdx?_cons]
    simp [b]
theorem tgName_ok {X : Cx} {c : Ct} {C : Calls} {k : Nat} (g : Good X c C k) {i : Nat} {x : Str} (h : tgName c i x = true) :
    X.N.Nodup ∧ X.N[i]? = some x ∧ Loc X.env.scope x ∧ (X.fn x = true ∨ X.env.scope.names.lookup x = some .local) := by
  unfold tgName at h
  simp only [Bool.and_eq_true, Bool.or_eq_true, decide_eq_true_eq] at h
  rw [g.N, g.sc, g.fn]
  rcases h.2 with k | k
  · exact ⟨g.nd, h.1, .inl (locB_ok k), .inr (locB_ok k)⟩
  · exact ⟨g.nd, h.1, .inr (celB_ok k.1), .inl k.2⟩
section
variable {X : Cx} {c : Ct} {C : Calls} {k : Nat} (g : Good X c C k) (is : List Nat)
include g
mutual
theorem chkG_ok : ∀ {tg : Tg} {e : Expr}, chkG c is tg e = true → PG X e (liftG X.prog X.w X.K is (Tg.wp tg))
  | .name i, e, h => by
    cases e with
    | Name x p =>
      rw [chkG, Bool.and_eq_true, decide_eq_true_eq] at h
      obtain ⟨n1, n2, n3, n4⟩ := tgName_ok g h.2
      refine weakG (pg_name n1 n2 n3 n4) fun v σ H Q ⟨τ, t, G, H0, A, S, r, q⟩ => ?_
      exact q _ (S.set i r) (Same.set h.1)
    | _ => simp [chkG] at h
  | .tup gs, e, h => by
    cases e with
    | Tuple es n p =>
      rw [chkG] at h
      obtain ⟨l1, l2⟩ := assign_len (env := X.env) h
      refine weakG (pg_tup g.calm (chkGs_ok h) l1 l2) fun v σ H Q ⟨τ, t, G, H0, A, S, r, q⟩ => ?_
      cases r with
      | tup ha r =>
        obtain ⟨q1, q2⟩ := q
        exact ⟨_, _, rfl, A.sqT ha.sq, by rw [← r.length, q1], τ, _, G, H0, A, S, r, q2⟩
      | _ => exact q.elim
    | _ => simp [chkG] at h
theorem chkGs_ok : ∀ {gs : List Tg} {es : List Expr}, chkGs c is gs es = true → PGs X es (liftGs X.prog X.w X.K is (Tg.wps gs))
  | [], [], _ => ⟨fun pins s σ H vs us Q I r h => pgs_nil.run pins s σ H vs us Q I r (by
      obtain ⟨τ, ts, G, H0, A, S, r, q⟩ := h
      cases r with
      | nil => exact ⟨rfl, q σ S (Same.refl _ _)⟩
      | cons a b => exact absurd q (by simp [Tg.wps]))⟩
  | [], _ :: _, h => by simp [chkGs] at h
  | _ :: _, [], h => by simp [chkGs] at h
  | t :: gs, e :: es, h => by
    rw [chkGs] at h
    simp only [Bool.and_eq_true] at h
    have p := pgs_cons (chkG_ok h.1.2) (chkGs_ok h.2) (by rw [assign_cons h.1.1]; rfl)
    refine ⟨fun pins s σ H vs us Q I r hq => p.run pins s σ H vs us Q I r ?_⟩
    obtain ⟨τ, ts, G, H0, A, S, r, q⟩ := hq
    cases r with
    | nil => exact absurd q (by simp [Tg.wps])
    | cons a b =>
      rw [Tg.wps] at q
      refine ⟨_, _, rfl, τ, _, G, H0, A, S, a, Tg.mono t _ τ (fun τ1 z σ1 S1 m1 => ?_) q⟩
      exact ⟨τ1, _, G, H0, A, S1, b, Tg.monos gs _ τ1 (fun τ2 z2 σ2 S2 m2 => z2 σ2 S2 (m1.trans m2)) z⟩
end
end

/-! ### what a loop walks -/
def Walks (P : Program) (w : World) (K : PySem.W.Frag) (J : It) (iv : ItV) (G : GH) (H0 : Hp) : Prop := ∀ i G1 H01 H1, i ≤ iv.its.length → Ext G H0 G1 H01 → At P w K G1 H01 H1 → iv.ok G1 →
  (i = iv.its.length → J.stop i H1) ∧ ∀ t, iv.its[i]? = some t → J.go i H1 ∧ ∀ x H', J.yld i H1 x H' → ∃ H01', At P w K G1 H01' H' ∧ Stp G1 H01 H1 G1 H01' H' ∧ RT K H01' G1 t x
def liftI (P : Program) (w : World) (K : PySem.W.Frag) (W : Sl → GH → (ItV → GH → Prop) → Prop) : TI := fun σ H R => ∃ τ G H0, At P w K G H0 H ∧ SR K H0 G τ σ ∧
  W τ G fun iv G' => ∀ J H0' H', At P w K G' H0' H' → Stp G H0 H G' H0' H' → Walks P w K J iv G' H0' → R J H'
theorem weakI {X : Cx} {tg e : Expr} {t t' : TI} (h : PI X tg e t) (k : ∀ σ H Q, t' σ H Q → t σ H Q) : PI X tg e t' := ⟨fun pins s σ H Q I q => h.run pins s σ H Q I (k σ H Q q)⟩
/-- a list, a tuple, a text -/
def iAny (K : PySem.W.Frag) (tl : TE) : TI := fun σ H R => tl σ H fun x H1 =>
  (∃ a, x = .ref a ∧ (∃ xs, SqL K H1 a xs) ∧ R (Itl K a) H1) ∨ (∃ a, x = .ref a ∧ (∃ xs, SqT K H1 a xs) ∧ R (Itt K a) H1) ∨ (∃ z, x = .str z ∧ R (Its z) H1)
theorem pi_any {X : Cx} {tg l : Expr} {tl : TE} (hl : PE X l tl) : PI X tg l (iAny X.K tl) := by
  refine ⟨fun pins s σ H R I h => ?_⟩
  refine thn (hl.run pins s σ H _ I h) fun v s1 ⟨x, H1, I1, r1, q1⟩ => ?_
  rcases q1 with ⟨a, e, ⟨xs, hq⟩, q⟩ | ⟨a, e, ⟨xs, hq⟩, q⟩ | ⟨z, ez, q⟩
  · subst e
    cases r1
    obtain ⟨its, rv, p, hz⟩ := I1.list hq
    refine wpAny_pyIter_list p.isList ?_
    refine ⟨s1.heap.objs.size, [s1.heap.objs.size], _, _, H1, rfl, I1.kept (t' := s1.toks) fun b o e => Heap.get?_push_of_some _ e, turn_list a _, ⟨_, Heap.get?_push_size _ rfl, rfl, rfl⟩, fun b hb => ?_, q⟩
    have e : b = s1.heap.objs.size := by simpa using hb
    subst e
    exact I1.fpOk (Nat.le_refl _) (I1.hok.fresh (Nat.le_refl _))
  · subst e
    cases r1
    obtain ⟨its, rv, p, hz⟩ := I1.tuple hq
    refine wpAny_pyIter_tuple (show s1.heap.IsTuple a its.toArray from p) ?_
    refine ⟨s1.heap.objs.size, [s1.heap.objs.size], _, _, H1, rfl, I1.kept (t' := s1.toks) fun b o e => Heap.get?_push_of_some _ e, turn_tuple a _, ⟨_, Heap.get?_push_size _ rfl, rfl, rfl⟩, fun b hb => ?_, q⟩
    have e : b = s1.heap.objs.size := by simpa using hb
    subst e
    exact I1.fpOk (Nat.le_refl _) (I1.hok.fresh (Nat.le_refl _))
  · subst ez
    obtain ⟨t, rfl⟩ := r1
    cases ha : z.cps.all (· < 128)
    · exact wpAny_pyIter_wide ha (pi_one (tk := s1.toks) I1 _ (turn_str _ z t "str_iterator" (.inr rfl)) ⟨_, Heap.get?_push_size _ rfl, rfl, rfl⟩ q)
    · exact wpAny_pyIter_ascii ha (pi_one (tk := s1.toks) I1 _ (turn_str _ z t "str_ascii_iterator" (.inl rfl)) ⟨_, Heap.get?_push_size _ rfl, rfl, rfl⟩ q)
end EV

/-! EV11: loops and comprehensions. -/
namespace EV
open PySem PySem.Spec PyProof.Rows L2

section
variable {P : Program} {w : World} {K : PySem.W.Frag}
/-! ### what a loop walks -/
theorem walks_tup {a : Addr} {xs : List V} {ts : List T} {G : GH} {H0 : Hp} (h : TupAt K H0 G a xs) (r : RTs K H0 G ts xs) : Walks P w K (Itt K a) ⟨ts, fun _ => True, none⟩ G H0 := by
  intro i G1 H01 H1 hi e A _
  have sq : SqT K H1 a xs := A.sqT (h.ext e).sq
  refine ⟨fun ei => ⟨xs, sq, by rw [ei]; show xs.length ≤ ts.length; rw [r.length]; exact Nat.le_refl _⟩, fun t et => ?_⟩
  obtain ⟨x, hx, rx⟩ := (r.ext e).get et
  refine ⟨⟨xs, x, sq, hx⟩, fun y H' ⟨e1, e2⟩ => ?_⟩
  subst e1
  have e3 := e2 xs sq
  rw [hx] at e3
  cases e3
  exact ⟨H01, A, .refl _ _ _, rx⟩
theorem walks_lst {a : Addr} {xs : List V} {ts : List T} {G : GH} {H0 : Hp} (h : LstAt H0 G a xs) (r : RTs K H0 G ts xs) : Walks P w K (Itl K a) ⟨ts, fun _ => True, none⟩ G H0 := by
  intro i G1 H01 H1 hi e A _
  have sq : SqL K H1 a xs := A.sqL (h.ext e).sq
  refine ⟨fun ei => ⟨xs, sq, by rw [ei]; show xs.length ≤ ts.length; rw [r.length]; exact Nat.le_refl _⟩, fun t et => ?_⟩
  obtain ⟨x, hx, rx⟩ := (r.ext e).get et
  refine ⟨⟨xs, x, sq, hx⟩, fun y H' ⟨e1, e2⟩ => ?_⟩
  subst e1
  have e3 := e2 xs sq
  rw [hx] at e3
  cases e3
  exact ⟨H01, A, .refl _ _ _, rx⟩
theorem walks_own {a : Addr} {ts : List T} {G : GH} {H0 : Hp} : Walks P w K (Itl K a) ⟨ts, fun G' => G' a = some (.lst ts), none⟩ G H0 := by
  intro i G1 H01 H1 hi e A ok
  obtain ⟨xs, h, r⟩ := A.rel a _ ok
  have sq : SqL K H1 a xs := .inl (.inl (A.sub _ _ h))
  refine ⟨fun ei => ⟨xs, sq, by rw [ei]; show xs.length ≤ ts.length; rw [r.length]; exact Nat.le_refl _⟩, fun t et => ?_⟩
  obtain ⟨x, hx, rx⟩ := r.get et
  refine ⟨⟨xs, x, sq, hx⟩, fun y H' ⟨e1, e2⟩ => ?_⟩
  subst e1
  have e3 := e2 xs sq
  rw [hx] at e3
  cases e3
  exact ⟨H01, A, .refl _ _ _, rx⟩
theorem walks_str {x : Str} {G : GH} {H0 : Hp} : Walks P w K (Its x) ⟨x.cps.toList.map fun c => T.str ⟨#[c]⟩, fun _ => True, none⟩ G H0 := by
  intro i G1 H01 H1 hi e A _
  refine ⟨fun ei => ?_, fun t et => ?_⟩
  · show x.cps.size ≤ i
    rw [ei]; simp
  · simp only [List.getElem?_map, Option.map_eq_some_iff, Array.getElem?_toList] at et
    obtain ⟨c, hc, rfl⟩ := et
    refine ⟨(Array.getElem?_eq_some_iff.mp hc).1, fun y H' ⟨e1, c', e2, e3⟩ => ?_⟩
    subst e1
    rw [hc] at e2
    cases e2
    subst e3
    exact ⟨H01, A, .refl _ _ _, .str _⟩
theorem walks_rng {lo : Int} {n : Nat} {f : Nat → T} (hf : ∀ k, f k = .int (lo + (k : Nat))) {G : GH} {H0 : Hp} : Walks P w K (Itr lo n) ⟨(List.range n).map f, fun _ => True, none⟩ G H0 := by
  intro i G1 H01 H1 hi e A _
  refine ⟨fun ei => ?_, fun t et => ?_⟩
  · show n ≤ i
    rw [ei]; simp
  · simp only [List.getElem?_map, Option.map_eq_some_iff] at et
    obtain ⟨j, hj, rfl⟩ := et
    obtain ⟨hl, ej⟩ := List.getElem?_eq_some_iff.mp hj
    rw [List.getElem_range] at ej
    subst ej
    rw [List.length_range] at hl
    refine ⟨hl, fun y H' ⟨e1, e2⟩ => ?_⟩
    subst e1 e2
    rw [hf]
    exact ⟨H01, A, .refl _ _ _, .int _⟩
/-! ### knowing less -/
mutual
theorem RT.frz {G G' : GH} {H0 : Hp} (rel : RelG P w K G H0) (sb : Sub G' G) : ∀ {t u : T} {v : V}, Frz G G' t u → RT K H0 G t v → RT K H0 G' u v
  | _, _, _, .same t, r => r.ext (fun a o h g => ⟨h, by
      cases e : G' a with
      | none => rfl
      | some o' => rw [sb a o' e] at g; cases g⟩)
  | _, _, _, .lst e1 e2 fs, r => by
    cases r
    obtain ⟨xs, h, rs⟩ := rel _ _ e1
    exact .lst ⟨h, e2⟩ (RTs.frz rel sb fs rs)
  | _, _, _, .tup fs, r => by
    cases r with
    | tup h rs => exact .tup (h.ext fun a o h g => ⟨h, by
        cases e : G' a with
        | none => rfl
        | some o' => rw [sb a o' e] at g; cases g⟩) (RTs.frz rel sb fs rs)
theorem RTs.frz {G G' : GH} {H0 : Hp} (rel : RelG P w K G H0) (sb : Sub G' G) : ∀ {ts us : List T} {vs : List V}, Frzs G G' ts us → RTs K H0 G ts vs → RTs K H0 G' us vs
  | _, _, _, .nil, r => by cases r; exact .nil
  | _, _, _, .cons f fs, r => by
    cases r with
    | cons a b => exact .cons (RT.frz rel sb f a) (RTs.frz rel sb fs b)
end
theorem Ext.sub {G G' : GH} {H0 : Hp} (sb : Sub G' G) : Ext G H0 G' H0 := fun a o h g => ⟨h, by
  cases e : G' a with
  | none => rfl
  | some o' => rw [sb a o' e] at g; cases g⟩
theorem At.sub_ {G G' : GH} {H0 H : Hp} (A : At P w K G H0 H) (sb : Sub G' G) : At P w K G' H0 H ∧ Stp G H0 H G' H0 H :=
  ⟨⟨A.sub, A.rel.sub sb fun a o e r => r.ext (Ext.sub sb) rfl⟩, Ext.sub sb, fun a o h g => ⟨h, g⟩, fun _ h => h⟩
theorem SR.wk {G G' : GH} {H0 : Hp} (rel : RelG P w K G H0) (sb : Sub G' G) {τ τ' : Sl} (ws : Wks G G' τ τ') : ∀ {σ : L2.St}, SR K H0 G τ σ → SR K H0 G' τ' σ := by
  induction ws with
  | nil => intro σ r; cases r; exact .nil
  | drop _ ih =>
    intro σ r
    cases r with
    | non x r => exact .non x (ih r)
    | som h r => exact .non _ (ih r)
  | keep f _ ih =>
    intro σ r
    cases r with
    | som h r => exact .som (RT.frz rel sb f h) (ih r)
theorem At.raw {G : GH} {H0 H : Hp} {D : Addr} {u : HO} (A : At P w K G H0 H) (h0 : H0 D = none) : At P w K G H0 (upd H D u) :=
  ⟨fun a o e => by rw [upd_ne (ne_of_none e h0)]; exact A.sub a o e, A.rel⟩
theorem Stp.raw {Gs G : GH} {H0s Hs H0 H : Hp} {D : Addr} {u : HO} (s : Stp Gs H0s Hs G H0 H) (hs : Hs D = none) : Stp Gs H0s Hs G H0 (upd H D u) :=
  ⟨s.ext, fun a o h g => by
    obtain ⟨h1, h2⟩ := s.fr a o h g
    exact ⟨by rw [upd_ne (ne_of_none h hs)]; exact h1, h2⟩, fun a h => s.gr a (gr_upd a h)⟩

variable {C : Calls} {R : XQ} (hC : CLe C C)
include hC
theorem lI_val {e : E} {σ : L2.St} {H : Hp} {Q : It → Hp → Prop} (q : liftI P w K (wI C R (.val e)) σ H Q) : iAny K (liftE P w K (wE C R e)) σ H Q := by
  obtain ⟨τ, G, H0, A, S, q⟩ := q
  rw [wI] at q
  refine ⟨τ, G, H0, A, S, wE_mono hC e τ G (xle R) (fun t G' z v H0' H' A' s' r => ?_) q⟩
  cases r with
  | tup h r => exact .inr (.inl ⟨_, rfl, ⟨_, A'.sqT h.sq⟩, z _ _ _ A' s' (walks_tup h r)⟩)
  | lst h r => exact .inl ⟨_, rfl, ⟨_, A'.sqL h.sq⟩, z _ _ _ A' s' (walks_lst h r)⟩
  | str x => exact .inr (.inr ⟨x, rfl, z _ _ _ A' s' walks_str⟩)
  | ref a =>
    obtain ⟨ts, e, z⟩ := z
    obtain ⟨xs, h, r⟩ := A'.rel a _ e
    exact .inl ⟨a, rfl, ⟨xs, .inl (.inl (A'.sub _ _ h))⟩, z _ _ _ A' s' walks_own⟩
  | _ => exact z.elim
theorem lI_rng1 {a : E} {σ : L2.St} {H : Hp} {Q : It → Hp → Prop} (q : liftI P w K (wI C R (.rng1 a)) σ H Q) : iRng1 (liftL P w K (wEs C R [a])) σ H Q := by
  obtain ⟨τ, G, H0, A, S, q⟩ := q
  rw [wI] at q
  refine ⟨τ, G, H0, A, S, ?_⟩
  rw [wEs]
  refine wE_mono hC a τ G (xle R) (fun t G' z => ?_) q
  rw [wEs]
  intro vs H0' H' A' s' r
  obtain ⟨x, rfl, r1⟩ : ∃ x, vs = [x] ∧ RT K H0' G' t x := by
    cases r with | cons a b => cases b; exact ⟨_, rfl, a⟩
  cases r1 with
  | int n => exact ⟨n, rfl, z.1.1, z.1.2, z.2 _ _ _ A' s' (walks_rng fun k => by simp)⟩
  | _ => exact z.elim
theorem lI_rng2 {a b : E} {σ : L2.St} {H : Hp} {Q : It → Hp → Prop} (q : liftI P w K (wI C R (.rng2 a b)) σ H Q) : iRng2 (liftL P w K (wEs C R [a, b])) σ H Q := by
  obtain ⟨τ, G, H0, A, S, q⟩ := q
  rw [wI] at q
  refine ⟨τ, G, H0, A, S, ?_⟩
  rw [wEs]
  refine wE_mono hC a τ G (xle R) (fun t G' z => ?_) q
  rw [wEs]
  refine wE_mono hC b τ G' (xle R) (fun u G'' z => ?_) z
  rw [wEs]
  intro vs H0' H' A' s' r
  obtain ⟨x, y, rfl, r1, r2⟩ := RTs.two r
  cases r1 with
  | int m =>
    cases r2 with
    | int n => exact ⟨m, n, rfl, z.1, z.2 _ _ _ A' s' (walks_rng fun k => rfl)⟩
    | _ => exact z.elim
  | _ => exact z.elim

/-! ### comprehensions -/
omit hC in
/-- the turns of a comprehension, from where its iterator has come -/
theorem comp_core (hC : CLe C C) {e c : E} {tg : Tg} {vs is : List Nat} {J : It} {iv : ItV} {τ : Sl} {σ : L2.St} {G G1 : GH} {H0 H H01 H1 : Hp} (his : ∀ i ∈ is, i ∈ vs) (S : SR K H0 G τ σ) (A1 : At P w K G1 H01 H1) (s1 : Stp G H0 H G1 H01 H1) (wk : Walks P w K J iv G1 H01)
    {Qf : List T → GH → Prop} {QQ : VK} (fin : ∀ ys H02 Hc D acc G2, At P w K G2 H02 Hc → Stp G H0 H G2 H02 Hc → RTs K H02 G2 acc ys → Hc D = some (.lst ys) → H02 D = none → H D = none → Qf acc G2 → QQ (.ref D) Hc)
    (z : compW iv.ok (fun x G1 k => Tg.wp tg x (wipeS τ vs) fun τ1 => wE C noX c τ1 G1 fun t G2 => match t with
      | .bl true => wE C noX e τ1 G2 fun y G3 => k (some y) G3
      | .bl false => k none G2
      | _ => False) iv.its [] G1 Qf) : ∀ D, H1 D = none → ∃ W : Nat → Nat → Hp → Prop, (∃ m, W 0 m (upd H1 D (.lst []))) ∧ ∀ i m H, W i m H →
  (J.stop i H ∧ QQ (.ref D) H) ∨ (J.go i H ∧ ∃ Nx : Hp → Prop, (∀ H', Nx H' → ∃ m', m' < m ∧ W (i + 1) m' H') ∧ ∀ x H', J.yld i H x H' → (liftG P w K is (Tg.wp tg)) x (L2.wipe σ vs) H' fun σ2 H2 => L2.wipe σ2 vs = L2.wipe σ vs ∧ (liftB P w K (wE C noX c)) σ2 H2 fun b H3 =>
    if b = true then (liftE P w K (wE C noX e)) σ2 H3 fun y H4 => ∃ acc, H4 D = some (.lst acc) ∧ acc.length < sizeLine ∧ Nx (upd H4 D (.lst (acc ++ [y]))) else Nx H3) := by
  intro D hD
  have hDs : H D = none := s1.gr D hD
  have h0D : H01 D = none := A1.off hD
  refine ⟨fun i m Hc => m = iv.its.length - i ∧ i ≤ iv.its.length ∧ ∃ G2 H02 acc ys, At P w K G2 H02 Hc ∧ Stp G H0 H G2 H02 Hc ∧ Ext G1 H01 G2 H02 ∧ Hc D = some (.lst ys) ∧ H02 D = none ∧ RTs K H02 G2 acc ys ∧
    compW iv.ok (fun x G1 k => Tg.wp tg x (wipeS τ vs) fun τ1 => wE C noX c τ1 G1 fun t G2 => match t with
      | .bl true => wE C noX e τ1 G2 fun y G3 => k (some y) G3
      | .bl false => k none G2
      | _ => False) (iv.its.drop i) acc G2 Qf, ⟨iv.its.length, rfl, Nat.zero_le _, G1, H01, [], [], A1.raw h0D, s1.raw hDs, .refl _ _, upd_same, h0D, .nil, z⟩, ?_⟩
  rintro i m Hc ⟨rfl, hi, G2, H02, acc, ys, A2, s2, x2, hDc, h0c, r2, cw⟩
  by_cases hlt : i < iv.its.length
  · rw [List.drop_eq_getElem_cons hlt] at cw
    obtain ⟨ok, cw⟩ := cw
    obtain ⟨go, yl⟩ := (wk i G2 H02 Hc hi x2 A2 ok).2 iv.its[i] (List.getElem?_eq_getElem hlt)
    refine .inr ⟨go, fun H' => iv.its.length - (i + 1) = iv.its.length - (i + 1) ∧ i + 1 ≤ iv.its.length ∧ _, fun H' hw => ⟨iv.its.length - (i + 1), by omega, hw⟩, fun x H' y => ?_⟩
    obtain ⟨H03, A3, s3, r3⟩ := yl x H' y
    obtain ⟨hD3, h03⟩ := s3.fr D _ hDc h0c
    have S3 : SR K H03 G2 τ σ := (S.ext s2.ext).ext s3.ext
    refine ⟨wipeS τ vs, _, G2, H03, A3, S3.wipes vs, r3, Tg.mono tg _ _ (fun τ1 z1 σ1 S1 m1 => ⟨m1.wipe his, τ1, G2, H03, A3, S1, ?_⟩) cw⟩
    refine wE_mono hC c τ1 G2 (xle noX) (fun t G3 z2 => ?_) z1
    split at z2
    · refine ⟨true, rfl, fun H04 H4 A4 s4 => ?_⟩
      show if (true = true) then _ else _
      rw [if_pos rfl]
      obtain ⟨hD4, h04⟩ := s4.fr D _ hD3 h03
      refine ⟨τ1, G3, H04, A4, S1.ext s4.ext, wE_mono hC e τ1 G3 (xle noX) (fun y G5 z3 v H05 H5 A5 s5 r5 => ?_) z2⟩
      obtain ⟨hD5, h05⟩ := s5.fr D _ hD4 h04
      have st := ((s2.trans s3).trans s4).trans s5
      have xt := ((x2.trans s3.ext).trans s4.ext).trans s5.ext
      have rr : RTs K H05 G5 acc ys := ((r2.ext s3.ext).ext s4.ext).ext s5.ext
      refine ⟨ys, hD5, by rw [← rr.length]; exact z3.1, rfl, hlt, G5, H05, acc ++ [y], ys ++ [v], A5.raw h05, st.raw hDs, xt, upd_same, h05, rr.append (.one r5), z3.2⟩
    · refine ⟨false, rfl, fun H04 H4 A4 s4 => ?_⟩
      show if (false = true) then _ else _
      rw [if_neg (by decide)]
      obtain ⟨hD4, h04⟩ := s4.fr D _ hD3 h03
      exact ⟨rfl, hlt, G3, H04, acc, ys, A4, (s2.trans s3).trans s4, (x2.trans s3.ext).trans s4.ext, hD4, h04, (r2.ext s3.ext).ext s4.ext, z2⟩
    · exact z2.elim
  · have ei : i = iv.its.length := by omega
    subst ei
    rw [List.drop_length] at cw
    exact .inl ⟨(wk _ G2 H02 Hc hi x2 A2 cw.1).1 rfl, fin ys H02 Hc D acc G2 A2 s2 r2 hDc h0c hDs cw.2⟩
def I.lk : I → Bool
  | .keys _ => true
  | .vals _ => true
  | .items _ => true
  | _ => false
theorem wI_lk {it : I} (hl : it.lk = false) {τ : Sl} {G : GH} {Q : ItV → GH → Prop} (q : wI C R it τ G Q) : wI C R it τ G fun iv G' => iv.lk = none ∧ Q iv G' := by
  cases it with
  | val e =>
    rw [wI] at q ⊢
    refine wE_mono hC e τ G (xle R) (fun t G' z => ?_) q
    split at z
    · exact ⟨rfl, z⟩
    · exact ⟨rfl, z⟩
    · exact ⟨rfl, z⟩
    · obtain ⟨ts, e1, z⟩ := z; exact ⟨ts, e1, rfl, z⟩
    · exact z.elim
  | rng1 a =>
    rw [wI] at q ⊢
    refine wE_mono hC a τ G (xle R) (fun t G' z => ?_) q
    split at z
    · exact ⟨z.1, rfl, z.2⟩
    · exact z.elim
  | rng2 a b =>
    rw [wI] at q ⊢
    refine wE_mono hC a τ G (xle R) (fun t G' => wE_mono hC b τ G' (xle R) (fun u G'' z => ?_)) q
    split at z
    · exact ⟨z.1, rfl, z.2⟩
    · exact z.elim
  | _ => cases hl
theorem lL_comp {e c : E} {tg : Tg} {vs is : List Nat} {it : I} {σ : L2.St} {H : Hp} {Q : VK} (hl : it.lk = false) (his : ∀ i ∈ is, i ∈ vs) (q : liftF P w K (wL C R (.comp e tg vs it c)) σ H Q) :
    tLc (liftI P w K (wI C R it)) (liftG P w K is (Tg.wp tg)) (liftB P w K (wE C noX c)) (liftE P w K (wE C noX e)) vs σ H Q := by
  obtain ⟨τ, G, H0, A, S, q⟩ := q
  rw [wL] at q
  refine ⟨τ, G, H0, A, S, wI_mono hC it τ G (xle R) (fun iv G1 z J H01 H1 A1 s1 wk => ?_) (wI_lk hC hl q)⟩
  obtain ⟨hn, z⟩ := z
  rw [hn] at z
  exact comp_core hC his S A1 s1 wk (fun ys H02 Hc D acc G2 A2 s2 r2 h1 h2 h3 q => q ys H02 Hc D A2 s2 r2 h1 h2 h3) z
omit hC in
/-- a dict of ours with texts and numbers as keys is locked -/
theorem lock_at {a : Addr} {kvs : List (T × T)} {G : GH} {H0 H : Hp} (A : At P w K G H0 H) (ga : G a = some (.dct kvs)) (ko : keysOk kvs = true) : ∃ kv, H a = some (.dK kv) ∧
    ∀ od, At P w K (put G a (.lkd od kv kvs)) (upd H0 a (.frz od (.dK kv))) (upd H a (.frz od (.dK kv))) ∧ Stp G H0 H (put G a (.lkd od kv kvs)) (upd H0 a (.frz od (.dK kv))) (upd H a (.frz od (.dK kv))) := by
  have h := A.rel a _ ga
  rcases h with ⟨kv, k1, k2⟩ | ⟨zs, g1, g2, g3, g4⟩
  · refine ⟨kv, A.sub _ _ k1, fun od => A.write ga ⟨upd_same, ?_⟩⟩
    exact Paired.mapP k2 fun p q z => ⟨z.1, z.2.ext (Ext.write ga)⟩
  · exfalso
    cases g4 with
    | nil => exact g3 rfl
    | @cons p q kvs' zs' zz _ =>
      have k1 := List.all_eq_true.mp ko p List.mem_cons_self
      obtain ⟨j, hj⟩ := Option.isSome_iff_exists.mp k1
      have e0 : V.ref q.2.1 = kV j := RT.key zz.2.2.1 hj
      cases j <;> cases e0
omit hC in
theorem unlock_at {a : Addr} {ob : Obj} {kv : List (Key × V)} {kvs : List (T × T)} {G : GH} {H0 H : Hp} (A : At P w K G H0 H) (ga : G a = some (.lkd ob kv kvs)) : H a = some (.frz ob (.dK kv)) ∧
    At P w K (put G a (.dct kvs)) (upd H0 a (.dK kv)) (upd H a (.dK kv)) ∧ Stp G H0 H (put G a (.dct kvs)) (upd H0 a (.dK kv)) (upd H a (.dK kv)) := by
  obtain ⟨k1, k2⟩ := A.rel a _ ga
  exact ⟨A.sub _ _ k1, A.write ga (.inl ⟨kv, upd_same, Paired.mapP k2 fun p q z => ⟨z.1, z.2.ext (Ext.write ga)⟩⟩)⟩
/-- how the locked things are walked -/
inductive LkI : I → E → (List (T × T) → List T) → (TE → TI) → Prop
  | keys (e : E) : LkI (.keys e) e (fun kvs => kvs.map (·.1)) iKeys
  | vals (e : E) : LkI (.vals e) e (fun kvs => kvs.map (·.2)) iVals
  | items (e : E) : LkI (.items e) e (fun kvs => kvs.map fun p => T.tup [p.1, p.2]) iItems
omit hC in
theorem walks_lk {it : I} {e : E} {f : List (T × T) → List T} {wi : TE → TI} (h : LkI it e f wi) {a : Addr} {ob : Obj} {kv : List (Key × V)} {kvs : List (T × T)} {te : TE} {σ : L2.St} {H : Hp} {R : It → Hp → Prop}
    (q : te σ H fun x H1 => x = .ref a ∧ H1 a = some (.frz ob (.dK kv)) ∧ ∀ J, (∀ G H0, Walks P w K J ⟨f kvs, fun G => G a = some (.lkd ob kv kvs), some (a, ob, kv, kvs)⟩ G H0) → R J H1)
    (mono : ∀ Q Q' : VK, (∀ v H, Q v H → Q' v H) → te σ H Q → te σ H Q') : wi te σ H R := by
  have nth : ∀ {i : Nat} {G1 : GH} {H01 H1 : Hp} {t : T × T}, At P w K G1 H01 H1 → G1 a = some (.lkd ob kv kvs) → kvs[i]? = some t → ∃ k v, kv[i]? = some (k, v) ∧ T.key? t.1 = some k ∧ RT K H01 G1 t.2 v ∧ H1 a = some (.frz ob (.dK kv)) := by
    intro i G1 H01 H1 t A ok et
    obtain ⟨k1, k2⟩ := A.rel a _ ok
    obtain ⟨q, e1, e2, e3⟩ := paired_get k2 et
    exact ⟨q.1, q.2, e1, e2, e3, A.sub _ _ k1⟩
  have len : ∀ {G1 : GH} {H01 H1 : Hp}, At P w K G1 H01 H1 → G1 a = some (.lkd ob kv kvs) → kvs.length = kv.length ∧ H1 a = some (.frz ob (.dK kv)) := by
    intro G1 H01 H1 A ok
    obtain ⟨k1, k2⟩ := A.rel a _ ok
    exact ⟨Paired.length k2, A.sub _ _ k1⟩
  cases h with
  | keys =>
    refine mono _ _ (fun v H1 ⟨e1, e2, z⟩ => ⟨a, ob, e1, .inl ⟨kv, e2, z _ fun G H0 i G1 H01 H1 hi e A ok => ?_⟩⟩) q
    obtain ⟨l1, l2⟩ := len A ok
    refine ⟨fun ei => ⟨l2, by rw [ei]; simp [l1]⟩, fun t et => ?_⟩
    simp only [List.getElem?_map, Option.map_eq_some_iff] at et
    obtain ⟨p, hp, rfl⟩ := et
    obtain ⟨k, v, n1, n2, n3, n4⟩ := nth A ok hp
    refine ⟨⟨l2, (List.getElem?_eq_some_iff.mp n1).1⟩, fun x H' ⟨e1, k', v', e2, e3⟩ => ?_⟩
    subst e1 e3
    rw [n1] at e2
    cases e2
    exact ⟨H01, A, .refl _ _ _, key_rt n2⟩
  | vals =>
    refine mono _ _ (fun v H1 ⟨e1, e2, z⟩ => ⟨a, ob, kv, e1, e2, z _ fun G H0 i G1 H01 H1 hi e A ok => ?_⟩) q
    obtain ⟨l1, l2⟩ := len A ok
    refine ⟨fun ei => ⟨l2, by rw [ei]; simp [l1]⟩, fun t et => ?_⟩
    simp only [List.getElem?_map, Option.map_eq_some_iff] at et
    obtain ⟨p, hp, rfl⟩ := et
    obtain ⟨k, v, n1, n2, n3, n4⟩ := nth A ok hp
    refine ⟨⟨l2, (List.getElem?_eq_some_iff.mp n1).1⟩, fun x H' ⟨e1, k', e2⟩ => ?_⟩
    subst e1
    rw [n1] at e2
    cases e2
    exact ⟨H01, A, .refl _ _ _, n3⟩
  | items =>
    refine mono _ _ (fun v H1 ⟨e1, e2, z⟩ => ⟨a, ob, kv, e1, e2, z _ fun G H0 i G1 H01 H1 hi e A ok => ?_⟩) q
    obtain ⟨l1, l2⟩ := len A ok
    refine ⟨fun ei => ⟨l2, by rw [ei]; simp [l1]⟩, fun t et => ?_⟩
    simp only [List.getElem?_map, Option.map_eq_some_iff] at et
    obtain ⟨p, hp, rfl⟩ := et
    obtain ⟨k, v, n1, n2, n3, n4⟩ := nth A ok hp
    refine ⟨⟨l2, (List.getElem?_eq_some_iff.mp n1).1⟩, fun x H' ⟨T0, k', v', e2, e3, e4, e5⟩ => ?_⟩
    subst e3 e5
    rw [n1] at e2
    cases e2
    obtain ⟨A2, s2⟩ := A.laid (u := .tup [kV k, v]) e4
    exact ⟨_, A2, s2, .tup (.inl ⟨_, upd_same, A.gnone e4, .inl rfl⟩) (.cons (key_rt n2) (.one (n3.ext s2.ext)))⟩
theorem lL_lock {e c x : E} {tg : Tg} {vs is : List Nat} {it : I} {f : List (T × T) → List T} {wi : TE → TI} (hk : LkI it x f wi) {σ : L2.St} {H : Hp} {Q : VK} (his : ∀ i ∈ is, i ∈ vs) (q : liftF P w K (wL C R (.comp e tg vs it c)) σ H Q) :
    tLockE (tLc (wi (liftE P w K (wE C R x))) (liftG P w K is (Tg.wp tg)) (liftB P w K (wE C noX c)) (liftE P w K (wE C noX e)) vs) σ H Q := by
  obtain ⟨τ, G, H0, A, S, q⟩ := q
  rw [wL] at q
  have q : lockW (fun G Q => wE C R x τ G Q) f G (fun iv G' => compW iv.ok (fun x G1 k => Tg.wp tg x (wipeS τ vs) fun τ1 => wE C noX c τ1 G1 fun t G2 => match t with
      | .bl true => wE C noX e τ1 G2 fun y G3 => k (some y) G3
      | .bl false => k none G2
      | _ => False) iv.its [] G' (wcF iv.lk (upF P w K G H0 H Q))) := by
    cases hk <;> (rw [wI] at q; exact q)
  obtain ⟨a, kvs, ga, ko, q⟩ := q
  obtain ⟨kv, ha, lk⟩ := lock_at A ga ko
  refine ⟨a, .dK kv, ha, trivial, fun od => ?_⟩
  obtain ⟨A', s'⟩ := lk od
  refine walks_lk (P := P) (w := w) (K := K) hk (a := a) (ob := od) (kv := kv) (kvs := kvs) ?_ (fun Q Q' h z => lE_mono hC z h)
  refine ⟨τ, _, _, A', S.ext s'.ext, wE_mono hC x τ _ (xle R) (fun t G1 ⟨e1, e2, z⟩ v H01 H1 A1 s1 r1 => ?_) (q od kv)⟩
  subst e1
  cases r1
  have hl1 := A1.sub _ _ (A1.rel a _ e2).1
  refine ⟨rfl, hl1, fun J wk => ?_⟩
  refine comp_core (iv := ⟨f kvs, fun G => G a = some (.lkd od kv kvs), some (a, od, kv, kvs)⟩) (QQ := fun v H' => H' a = some (.frz od (.dK kv)) ∧ Q v (upd H' a (.dK kv))) hC his S A1 (s'.trans s1) (wk _ _) (fun ys H02 Hc D acc G2 A2 s2 r2 h1 h2 h3 ⟨q1, q2⟩ => ?_) z
  obtain ⟨u1, u2, u3⟩ := unlock_at A2 q1
  have ne : D ≠ a := fun z => by
    subst z
    rw [(A2.rel _ _ q1).1] at h2; cases h2
  exact ⟨u1, q2 ys _ _ D u2 (s2.trans u3) (r2.ext u3.ext) (by rw [upd_ne ne]; exact h1) (by rw [upd_ne ne]; exact h2) h3⟩

/-! ### statements -/
omit hC in
theorem upD_hint : True := trivial
end
section
variable (P : Program) (w : World) (K : PySem.W.Frag)
def upN (G : GH) (H0 H : Hp) (N : L2.St → Hp → Prop) : Sl → GH → Prop := fun τ G' => ∀ σ' H0' H', At P w K G' H0' H' → Stp G H0 H G' H0' H' → SR K H0' G' τ σ' → N σ' H'
def upD (G : GH) (H0 H : Hp) (D : Ends) : DE := ⟨upN P w K G H0 H D.nx, upE P w K G H0 H D.rt, upN P w K G H0 H D.bk, upN P w K G H0 H D.ct⟩
def liftS (W : DE → Sl → GH → Prop) : TS := fun D σ H => ∃ τ G H0, At P w K G H0 H ∧ SR K H0 G τ σ ∧ W (upD P w K G H0 H D) τ G
end
section
variable {P : Program} {w : World} {K : PySem.W.Frag} {C : Calls} {R : XQ} (hC : CLe C C)
theorem upN_stp {G G1 : GH} {H0 H H01 H1 : Hp} {N : L2.St → Hp → Prop} (s : Stp G H0 H G1 H01 H1) (τ : Sl) (G' : GH) (q : upN P w K G H0 H N τ G') : upN P w K G1 H01 H1 N τ G' := fun σ' H0' H' A s' r => q σ' H0' H' A (s.trans s') r
theorem upD_stp {G G1 : GH} {H0 H H01 H1 : Hp} {D : Ends} (s : Stp G H0 H G1 H01 H1) : DLe (upD P w K G H0 H D) (upD P w K G1 H01 H1 D) := ⟨upN_stp s, upE_stp s, upN_stp s, upN_stp s⟩
theorem upN_here {G : GH} {H0 H : Hp} {N : L2.St → Hp → Prop} {τ : Sl} {σ : L2.St} (A : At P w K G H0 H) (q : upN P w K G H0 H N τ G) (r : SR K H0 G τ σ) : N σ H := q σ H0 H A (.refl _ _ _) r
include hC
omit hC in
/-- the turns of a for, from where its iterator has come -/
theorem for_core (hC : CLe C C) {tg : Tg} {is : List Nat} {body : List S} {J : It} {iv : ItV} {τ : Sl} {σ : L2.St} {G G1 : GH} {H0 H H01 H1 : Hp} {D : Ends} {DD : DE} (S1 : SR K H01 G1 τ σ) (A1 : At P w K G1 H01 H1) (s1 : Stp G H0 H G1 H01 H1) (wk : Walks P w K J iv G1 H01)
    (hn : ∀ τ G2, DD.nx τ G2 → upN P w K G H0 H D.nx τ G2) (hr : ∀ t G2, DD.rt t G2 → upE P w K G H0 H D.rt t G2)
    (z : forW iv.ok (fun x D' τ1 G1 => Tg.wp tg x τ1 fun τ2 => wSs C R body D' τ2 G1) DD iv.its τ G1) :
    ∃ W : Nat → Nat → L2.St → Hp → Prop, (∃ m, W 0 m σ H1) ∧ ∀ i m σ H, W i m σ H →
  (J.stop i H ∧ D.nx σ H) ∨ (J.go i H ∧ ∃ N : L2.St → Hp → Prop, (∀ σ' H', N σ' H' → ∃ m', m' < m ∧ W (i + 1) m' σ' H') ∧ ∀ x H', J.yld i H x H' → (liftG P w K is (Tg.wp tg)) x σ H' fun σ2 H2 => (liftS P w K (wSs C R body)) { D with nx := N, ct := N, bk := D.nx } σ2 H2) := by
  refine ⟨fun i m σc Hc => m = iv.its.length - i ∧ i ≤ iv.its.length ∧ ∃ τ2 G2 H02, At P w K G2 H02 Hc ∧ SR K H02 G2 τ2 σc ∧ Stp G H0 H G2 H02 Hc ∧ Ext G1 H01 G2 H02 ∧
    forW iv.ok (fun x D' τ1 G1 => Tg.wp tg x τ1 fun τ2 => wSs C R body D' τ2 G1) DD (iv.its.drop i) τ2 G2, ⟨iv.its.length, rfl, Nat.zero_le _, τ, G1, H01, A1, S1, s1, .refl _ _, z⟩, ?_⟩
  rintro i m σc Hc ⟨rfl, hi, τ2, G2, H02, A2, S2, s2, x2, fw⟩
  by_cases hlt : i < iv.its.length
  · rw [List.drop_eq_getElem_cons hlt] at fw
    obtain ⟨ok, fw⟩ := fw
    obtain ⟨go, yl⟩ := (wk i G2 H02 Hc hi x2 A2 ok).2 iv.its[i] (List.getElem?_eq_getElem hlt)
    refine .inr ⟨go, fun σ' H' => iv.its.length - (i + 1) = iv.its.length - (i + 1) ∧ i + 1 ≤ iv.its.length ∧ _, fun σ' H' hw => ⟨iv.its.length - (i + 1), by omega, hw⟩, fun x H' y => ?_⟩
    obtain ⟨H03, A3, s3, r3⟩ := yl x H' y
    refine ⟨τ2, _, G2, H03, A3, S2.ext s3.ext, r3, Tg.mono tg _ _ (fun τ3 z3 σ3 S3 _ => ⟨τ3, G2, H03, A3, S3, wSs_mono hC body τ3 G2 (xle R) ?_ z3⟩) fw⟩
    have ag : ∀ τ4 G4, againW (forW iv.ok (fun x D' τ1 G1 => Tg.wp tg x τ1 fun τ2 => wSs C R body D' τ2 G1) DD (iv.its.drop (i + 1))) τ4 G4 →
        upN P w K G2 H03 H' (fun σ' H' => iv.its.length - (i + 1) = iv.its.length - (i + 1) ∧ i + 1 ≤ iv.its.length ∧ ∃ τ2 G2 H02, At P w K G2 H02 H' ∧ SR K H02 G2 τ2 σ' ∧ Stp G H0 H G2 H02 H' ∧ Ext G1 H01 G2 H02 ∧
          forW iv.ok (fun x D' τ1 G1 => Tg.wp tg x τ1 fun τ2 => wSs C R body D' τ2 G1) DD (iv.its.drop (i + 1)) τ2 G2) τ4 G4 := by
      rintro τ4 G4 ⟨τ5, G5, ⟨sb, ws⟩, z5⟩ σ4 H04 H4 A4 s4 S4
      obtain ⟨A5, s5⟩ := A4.sub_ sb
      exact ⟨rfl, hlt, τ5, G5, H04, A5, SR.wk A4.rel sb ws S4, ((s2.trans s3).trans s4).trans s5, ((x2.trans s3.ext).trans s4.ext).trans s5.ext, z5⟩
    exact ⟨ag, fun t G' q => upE_stp (s2.trans s3) t G' (hr t G' q), fun τ G' q => upN_stp (s2.trans s3) τ G' (hn τ G' q), ag⟩
  · have ei : i = iv.its.length := by omega
    subst ei
    rw [List.drop_length] at fw
    exact .inl ⟨(wk _ G2 H02 Hc hi x2 A2 fw.1).1 rfl, hn _ _ fw.2 σc H02 Hc A2 s2 S2⟩
theorem lS_for {tg : Tg} {it : I} {is : List Nat} {body : List S} {D : Ends} {σ : L2.St} {H : Hp} (hl : it.lk = false) (q : liftS P w K (wS C R (.for_ tg it body)) D σ H) :
    tFor (liftI P w K (wI C R it)) (liftG P w K is (Tg.wp tg)) (liftS P w K (wSs C R body)) D σ H := by
  obtain ⟨τ, G, H0, A, S, q⟩ := q
  rw [wS] at q
  refine ⟨τ, G, H0, A, S, wI_mono hC it τ G (xle R) (fun iv G1 z J H01 H1 A1 s1 wk => ?_) (wI_lk hC hl q)⟩
  obtain ⟨hn, z⟩ := z
  rw [hn] at z
  exact for_core hC (S.ext s1.ext) A1 s1 wk (fun _ _ z => z) (fun _ _ z => z) z
theorem lS_lock {tg : Tg} {it : I} {x : E} {f : List (T × T) → List T} {wi : TE → TI} (hk : LkI it x f wi) {is : List Nat} {body : List S} {D : Ends} {σ : L2.St} {H : Hp} (q : liftS P w K (wS C R (.for_ tg it body)) D σ H) :
    tLock (tFor (wi (liftE P w K (wE C R x))) (liftG P w K is (Tg.wp tg)) (liftS P w K (wSs C R body))) D σ H := by
  obtain ⟨τ, G, H0, A, S, q⟩ := q
  rw [wS] at q
  have q : lockW (fun G Q => wE C R x τ G Q) f G (fun iv G' => forW iv.ok (fun x D' τ1 G1 => Tg.wp tg x τ1 fun τ2 => wSs C R body D' τ2 G1) ((upD P w K G H0 H D).wr iv.lk) iv.its τ G') := by
    cases hk <;> (rw [wI] at q; exact q)
  obtain ⟨a, kvs, ga, ko, q⟩ := q
  obtain ⟨kv, ha, lk⟩ := lock_at A ga ko
  refine ⟨a, .dK kv, ha, trivial, fun od => ?_⟩
  obtain ⟨A', s'⟩ := lk od
  refine walks_lk (P := P) (w := w) (K := K) hk (a := a) (ob := od) (kv := kv) (kvs := kvs) ?_ (fun Q Q' h z => lE_mono hC z h)
  refine ⟨τ, _, _, A', S.ext s'.ext, wE_mono hC x τ _ (xle R) (fun t G1 ⟨e1, e2, z⟩ v H01 H1 A1 s1 r1 => ?_) (q od kv)⟩
  subst e1
  cases r1
  have hl1 := A1.sub _ _ (A1.rel a _ e2).1
  refine ⟨rfl, hl1, fun J wk => ?_⟩
  refine for_core (iv := ⟨f kvs, fun G => G a = some (.lkd od kv kvs), some (a, od, kv, kvs)⟩) hC ((S.ext s'.ext).ext s1.ext) A1 (s'.trans s1) (wk _ _) ?_ ?_ z
  · intro τ2 G2 ⟨q1, q2⟩ σ2 H02 Hc A2 s2 S2
    obtain ⟨u1, u2, u3⟩ := unlock_at A2 q1
    exact ⟨u1, q2 σ2 _ _ u2 (s2.trans u3) (S2.ext u3.ext)⟩
  · intro t G2 ⟨q1, q2⟩ v H02 Hc A2 s2 r2
    obtain ⟨u1, u2, u3⟩ := unlock_at A2 q1
    exact ⟨u1, q2 v _ _ u2 (s2.trans u3) (r2.ext u3.ext)⟩
theorem lS_while {c : E} {body : List S} {D : Ends} {σ : L2.St} {H : Hp} (q : liftS P w K (wS C R (.while_ c body)) D σ H) :
    tWhile (liftB P w K (wE C R c)) (liftS P w K (wSs C R body)) D σ H := by
  obtain ⟨τ, G, H0, A, S, q⟩ := q
  rw [wS] at q
  obtain ⟨n, q⟩ := q
  refine ⟨fun m σc Hc => ∃ τ2 G2 H02, At P w K G2 H02 Hc ∧ SR K H02 G2 τ2 σc ∧ Stp G H0 H G2 H02 Hc ∧ whileW (fun W τ1 G1 => wE C R c τ1 G1 fun t G2 => match t with
      | .bl true => wSs C R body { nx := W, rt := (upD P w K G H0 H D).rt, bk := (upD P w K G H0 H D).nx, ct := W } τ1 G2
      | .bl false => (upD P w K G H0 H D).nx τ1 G2
      | _ => False) m τ2 G2, ⟨n, τ, G, H0, A, S, .refl _ _ _, q⟩, ?_⟩
  rintro m σc Hc ⟨τ2, G2, H02, A2, S2, s2, ww⟩
  cases m with
  | zero => exact ww.elim
  | succ m =>
    refine ⟨τ2, G2, H02, A2, S2, wE_mono hC c τ2 G2 (xle R) (fun t G3 z => ?_) ww⟩
    split at z
    · refine ⟨true, rfl, fun H03 H3 A3 s3 => ?_⟩
      show if (true = true) then _ else _
      rw [if_pos rfl]
      refine ⟨fun σ' H' => ∃ τ2 G2 H02, _, fun σ' H' hw => ⟨m, Nat.lt_succ_self m, hw⟩, τ2, G3, H03, A3, S2.ext s3.ext, wSs_mono hC body τ2 G3 (xle R) ?_ z⟩
      have ag : ∀ τ4 G4, againW (whileW (fun W τ1 G1 => wE C R c τ1 G1 fun t G2 => match t with
          | .bl true => wSs C R body { nx := W, rt := (upD P w K G H0 H D).rt, bk := (upD P w K G H0 H D).nx, ct := W } τ1 G2
          | .bl false => (upD P w K G H0 H D).nx τ1 G2
          | _ => False) m) τ4 G4 → upN P w K G3 H03 H3 (fun σ' H' => ∃ τ2 G2 H02, At P w K G2 H02 H' ∧ SR K H02 G2 τ2 σ' ∧ Stp G H0 H G2 H02 H' ∧ whileW (fun W τ1 G1 => wE C R c τ1 G1 fun t G2 => match t with
          | .bl true => wSs C R body { nx := W, rt := (upD P w K G H0 H D).rt, bk := (upD P w K G H0 H D).nx, ct := W } τ1 G2
          | .bl false => (upD P w K G H0 H D).nx τ1 G2
          | _ => False) m τ2 G2) τ4 G4 := by
        rintro τ4 G4 ⟨τ5, G5, ⟨sb, ws⟩, z5⟩ σ4 H04 H4 A4 s4 S4
        obtain ⟨A5, s5⟩ := A4.sub_ sb
        exact ⟨τ5, G5, H04, A5, SR.wk A4.rel sb ws S4, ((s2.trans s3).trans s4).trans s5, z5⟩
      exact ⟨ag, upE_stp (s2.trans s3), upN_stp (s2.trans s3), ag⟩
    · refine ⟨false, rfl, fun H03 H3 A3 s3 => ?_⟩
      show if (false = true) then _ else _
      rw [if_neg (by decide)]
      exact z σc H03 H3 A3 (s2.trans s3) (S2.ext s3.ext)
    · exact z.elim
end
end EV

/-! EV12: how an operation is written; each way of writing. -/
namespace EV
open PySem PySem.Spec PyProof.Rows L2

/-! ### lists of expressions -/
inductive Ps (X : Cx) (C : Calls) (R : XQ) : List E → List Expr → Prop
  | nil : Ps X C R [] []
  | cons {e : E} {x : Expr} {es : List E} {xs : List Expr} : PE X x (liftE X.prog X.w X.K (wE C R e)) → noStar x = true → Ps X C R es xs → Ps X C R (e :: es) (x :: xs)
section
variable {X : Cx} {C : Calls} {R : XQ} (hC : CLe C C)
theorem Ps.stars {es : List E} {xs : List Expr} (h : Ps X C R es xs) : xs.all noStar = true := by
  induction h with
  | nil => rfl
  | cons _ s _ ih => rw [List.all_cons, s, ih]; rfl
theorem Ps.one {es : List E} {x : Expr} (h : Ps X C R es [x]) : ∃ e, es = [e] ∧ PE X x (liftE X.prog X.w X.K (wE C R e)) ∧ noStar x = true := by
  cases h with
  | cons a b r => cases r; exact ⟨_, rfl, a, b⟩
theorem Ps.inv1 {es : List E} {x : Expr} (h : Ps X C R es [x]) : ∃ e, es = [e] ∧ PE X x (liftE X.prog X.w X.K (wE C R e)) := by
  cases h with
  | cons a b r => cases r; exact ⟨_, rfl, a⟩
theorem Ps.inv2 {es : List E} {x y : Expr} (h : Ps X C R es [x, y]) : ∃ e f, es = [e, f] ∧ PE X x (liftE X.prog X.w X.K (wE C R e)) ∧ PE X y (liftE X.prog X.w X.K (wE C R f)) := by
  cases h with
  | cons a b r =>
    obtain ⟨f, rfl, z⟩ := r.inv1
    exact ⟨_, _, rfl, a, z⟩
theorem Ps.inv3 {es : List E} {x y z : Expr} (h : Ps X C R es [x, y, z]) : ∃ e f g, es = [e, f, g] ∧ PE X x (liftE X.prog X.w X.K (wE C R e)) ∧ PE X y (liftE X.prog X.w X.K (wE C R f)) ∧ PE X z (liftE X.prog X.w X.K (wE C R g)) := by
  cases h with
  | cons a b r =>
    obtain ⟨f, g, rfl, z⟩ := r.inv2
    exact ⟨_, _, _, rfl, a, z⟩
include hC
theorem Ps.pa {es : List E} {xs : List Expr} (h : Ps X C R es xs) : PA X xs (liftL X.prog X.w X.K (wEs C R es)) := by
  induction h with
  | nil => exact weakA pa_nil fun σ H Q q => lEs_nil hC q
  | cons a s _ ih => exact weakA (pa_cons a ih (star_cons s)) fun σ H Q q => lEs_cons hC q
end

/-! ### further operations -/
section
variable {X : Cx}
theorem one_of {p : Prim} (hp : p = .maxs ∨ p = .mins ∨ p = .sums ∨ p = .str) {ts : List T} {G : GH} {Q : QE} (q : p.wp ts G Q) : ts.length = 1 := by
  match ts with
  | [_] => rfl
  | [] => rcases hp with rfl | rfl | rfl | rfl <;> exact q.elim
  | a :: _ :: _ => rcases hp with rfl | rfl | rfl | rfl <;> first | exact q.elim | (cases a <;> exact q.elim)
theorem two_of {p : Prim} (hp : p = .max2 ∨ p = .min2) {ts : List T} {G : GH} {Q : QE} (q : p.wp ts G Q) : ts.length = 2 := by
  match ts with
  | [_, _] => rfl
  | [] => rcases hp with rfl | rfl <;> exact q.elim
  | [a] => rcases hp with rfl | rfl <;> (cases a <;> exact q.elim)
  | a :: b :: _ :: _ => rcases hp with rfl | rfl <;> (cases a <;> first | exact q.elim | (cases b <;> exact q.elim))
theorem p_shl : OpR X (binaryOp .LShift) (fun x y H Q => rP X.prog X.w X.K .shl [x, y] H Q) := by
  intro pins s σ H x y v u Q I r1 r2 ⟨ts, G, H0, A, r, q⟩
  obtain ⟨t, t', rfl, h1, h2⟩ := r.inv2
  cases h1 <;> cases h2 <;> first | exact q.elim | exact op_shl pins s σ H _ _ v u Q I r1 r2 ⟨_, _, rfl, rfl, q.1, upE_here A q.2 (.int _)⟩
theorem p_shr : OpR X (binaryOp .RShift) (fun x y H Q => rP X.prog X.w X.K .shr [x, y] H Q) := by
  intro pins s σ H x y v u Q I r1 r2 ⟨ts, G, H0, A, r, q⟩
  obtain ⟨t, t', rfl, h1, h2⟩ := r.inv2
  cases h1 <;> cases h2 <;> first | exact q.elim | exact op_shr pins s σ H _ _ v u Q I r1 r2 ⟨_, _, rfl, rfl, q.1, upE_here A q.2 (.int _)⟩
theorem p_band : OpR X (binaryOp .BitAnd) (fun x y H Q => rP X.prog X.w X.K .band [x, y] H Q) := by
  intro pins s σ H x y v u Q I r1 r2 ⟨ts, G, H0, A, r, q⟩
  obtain ⟨t, t', rfl, h1, h2⟩ := r.inv2
  cases h1 <;> cases h2 <;> first | exact q.elim | exact op_and pins s σ H _ _ v u Q I r1 r2 ⟨_, _, rfl, rfl, upE_here A q (.int _)⟩
theorem p_max2 (hc : X.calm = true) : CallR X (.builtin "max") (rP X.prog X.w X.K .max2) := by
  intro pins s σ H xs us Q I rv ⟨ts, G, H0, A, r, q⟩
  obtain ⟨t, t', x, y, rfl, rfl, h1, h2⟩ := r.inv2' (two_of (.inl rfl) q)
  cases h1 <;> cases h2 <;> first | exact q.elim | exact call_max2 hc pins s σ H _ us Q I rv ⟨_, _, rfl, upE_here A q (.int _)⟩
theorem p_min2 (hc : X.calm = true) : CallR X (.builtin "min") (rP X.prog X.w X.K .min2) := by
  intro pins s σ H xs us Q I rv ⟨ts, G, H0, A, r, q⟩
  obtain ⟨t, t', x, y, rfl, rfl, h1, h2⟩ := r.inv2' (two_of (.inr rfl) q)
  cases h1 <;> cases h2 <;> first | exact q.elim | exact call_min2 hc pins s σ H _ us Q I rv ⟨_, _, rfl, upE_here A q (.int _)⟩
theorem RTs.ints_inv {K : PySem.W.Frag} {H : Hp} {G : GH} : ∀ {ns : List Int} {xs : List V}, RTs K H G (ns.map T.int) xs → xs = ns.map V.int
  | [], _, .nil => rfl
  | n :: ns, _, .cons a b => by cases a; rw [RTs.ints_inv b]; rfl
theorem p_maxs (hc : X.calm = true) : CallR X (.builtin "max") (rP X.prog X.w X.K .maxs) := by
  intro pins s σ H xs us Q I rv ⟨ts, G, H0, A, r, q⟩
  obtain ⟨t, x, rfl, rfl, h1⟩ := r.inv1' (one_of (.inl rfl) q)
  obtain ⟨ns, e, hl, q⟩ := q
  obtain ⟨a, ys, rfl, rs, hh⟩ := h1.lstI A e
  rw [rs.ints_inv] at hh
  exact cr_max hc pins s σ H _ us Q I rv ⟨a, ns, rfl, .inl (.inl hh), hl, fun m h1 h2 => upE_here A (q m h1 h2) (.int _)⟩
theorem p_mins (hc : X.calm = true) : CallR X (.builtin "min") (rP X.prog X.w X.K .mins) := by
  intro pins s σ H xs us Q I rv ⟨ts, G, H0, A, r, q⟩
  obtain ⟨t, x, rfl, rfl, h1⟩ := r.inv1' (one_of (.inr (.inl rfl)) q)
  obtain ⟨ns, e, hl, q⟩ := q
  obtain ⟨a, ys, rfl, rs, hh⟩ := h1.lstI A e
  rw [rs.ints_inv] at hh
  exact cr_min hc pins s σ H _ us Q I rv ⟨a, ns, rfl, .inl (.inl hh), hl, fun m h1 h2 => upE_here A (q m h1 h2) (.int _)⟩
theorem p_sums (hc : X.calm = true) : CallR X (.builtin "sum") (rP X.prog X.w X.K .sums) := by
  intro pins s σ H xs us Q I rv ⟨ts, G, H0, A, r, q⟩
  obtain ⟨t, x, rfl, rfl, h1⟩ := r.inv1' (one_of (.inr (.inr (.inl rfl))) q)
  obtain ⟨ns, e, q⟩ := q
  obtain ⟨a, ys, rfl, rs, hh⟩ := h1.lstI A e
  rw [rs.ints_inv] at hh
  exact cr_sum hc pins s σ H _ us Q I rv ⟨a, ns, rfl, .inl (.inl hh), upE_here A q (.int _)⟩
theorem p_str : CallR X (.type "str") (rP X.prog X.w X.K .str) := by
  intro pins s σ H xs us Q I rv ⟨ts, G, H0, A, r, q⟩
  obtain ⟨t, x, rfl, rfl, h1⟩ := r.inv1' (one_of (.inr (.inr (.inr rfl))) q)
  cases h1 <;> first
    | exact q.elim
    | exact call_str_int pins s σ H _ us Q I rv ⟨_, rfl, q.1, upE_here A q.2 (.str _)⟩
    | (obtain ⟨u, rfl, k, rfl⟩ := vals1 rv; exact PySem.P.str_of_str ⟨.str _, H, I, ⟨_, rfl⟩, upE_here A q (.str _)⟩)
theorem list_len {ts : List T} {G : GH} {Q : List T → GH → Prop} (q : LPrim.wp .list ts G Q) : ts.length = 1 := by
  match ts with
  | [_] => rfl
  | [] => exact q.elim
  | a :: _ :: _ => exact q.elim
theorem keys_rt {K : PySem.W.Frag} {H0 : Hp} {G : GH} : ∀ {kvs : List (T × T)} {kv : List (Key × V)}, Paired (fun (p : T × T) (q : Key × V) => T.key? p.1 = some q.1 ∧ RT K H0 G p.2 q.2) kvs kv → RTs K H0 G (kvs.map fun p : T × T => p.1) (kv.map fun q : Key × V => kV q.1)
  | _, _, .nil => .nil
  | _, _, .cons h r => .cons (key_rt h.1) (keys_rt r)
theorem nkeys_rt {K : PySem.W.Frag} {H0 : Hp} {G : GH} : ∀ {kvs : List (T × T)} {ks : List (NestedKey × Addr × Value)}, Paired (nkRel K H0 G) kvs ks → RTs K H0 G (kvs.map fun p : T × T => p.1) ((ks.map fun x : NestedKey × Addr × Value => x.2.1).map V.ref)
  | _, _, .nil => .nil
  | _, _, .cons h r => .cons h.2.2.1 (nkeys_rt r)
theorem p_list (hc : X.calm = true) : CallR X (.type "list") (rL X.prog X.w X.K .list) := by
  intro pins s σ H xs us Q I rv ⟨ts, G, H0, A, r, q⟩
  obtain ⟨t, x, rfl, rfl, h1⟩ := r.inv1' (list_len q)
  obtain ⟨ts, e, q⟩ := q
  rcases e with e | ⟨kvs, e, rfl⟩
  · obtain ⟨a, ys, rfl, rs, hs⟩ := h1.seq A e
    exact call_list_of pins s σ H _ us Q I rv ⟨a, ys, rfl, hs, fun l hl => fresh_new A q rs hl⟩
  · obtain ⟨a, rfl, d⟩ := h1.dict A e
    obtain ⟨u, rfl, rx⟩ := vals1 rv
    cases rx
    rcases d with ⟨kv, k1, k2⟩ | ⟨zs, g1, g2, g3, g4⟩
    · refine call_listD hc pins s σ H _ _ Q I rv ⟨a, kv, rfl, k1, fun l hl => fresh_new A q ?_ hl⟩
      exact keys_rt k2
    · obtain ⟨hm, hl, ks, pr, dd⟩ := DN.lib I A (.inl ⟨zs, g1, g2, g3, g4⟩)
      obtain ⟨o, es, ep, ho, hx, hdt, he, _⟩ := dd
      have l1 : es.size = ks.length := size_of_entries he
      have l2 : kvs.length = ks.length := Paired.length pr
      refine PySem.W.kdl_call (kdl_raw hm hx hdt) (I.ok.hd hc) ho (by omega) fun h' tk ac c' kp e it => ?_
      have ea : ac.toList = ks.map fun x => Value.ref x.2.1 := by
        have la : ac.toList.length = ks.length := by rw [Array.length_toList, it.1]; exact l1
        apply List.ext_getElem?
        intro i
        rw [List.getElem?_map]
        cases ei : ac.toList[i]? with
        | none =>
          rw [List.getElem?_eq_none (by have := List.getElem?_eq_none_iff.mp ei; omega)]
          rfl
        | some u =>
          obtain ⟨n1, n2, n3⟩ := it.2 i u (by rw [← Array.getElem?_toList]; exact ei)
          have q1 := entry_at he i
          rw [n2] at q1
          cases eb : ks[i]? with
          | none => rw [eb] at q1; cases q1
          | some b =>
            rw [eb] at q1
            have q2 : n1 = entryOfKey (nestedKind X.prog X.w) b := Option.some.inj q1
            rw [n3, q2]
            rfl
      have rks : RTs X.K H0 G (kvs.map (·.1)) ((ks.map fun x => x.2.1).map V.ref) := nkeys_rt pr
      have rv' : Vals ((ks.map fun x => x.2.1).map V.ref) ac.toList := by
        have eb : ac.toList = (ks.map fun x => x.2.1).map Value.ref := by rw [ea, List.map_map]; rfl
        rw [eb]; exact vals_refs _
      refine ⟨.ref s.heap.objs.size, _, I.laid (t' := tk) (o := .lst ((ks.map fun x => x.2.1).map V.ref)) kp (Nat.le_refl _) ⟨by rw [List.length_map, List.length_map]; omega, ac.toList, c', rv', by rw [Array.toArray_toList]; exact e⟩, rfl, fresh_new A q rks (I.hok.fresh (Nat.le_refl _))⟩
end
/-! ### the ways of writing -/
def pOp (o : Operator) : Expr → Option (List Expr)
  | .BinOp a o' b _ => if o' = o then some [a, b] else none
  | _ => none
theorem pOp_inv {o : Operator} {x : Expr} {xs : List Expr} (h : pOp o x = some xs) : ∃ a b p, x = .BinOp a o b p ∧ xs = [a, b] := by
  unfold pOp at h
  split at h
  · split at h
    · rename_i e; subst e; cases h; exact ⟨_, _, _, rfl, rfl⟩
    · cases h
  · cases h
def pCm (o : CmpOp) : Expr → Option (List Expr)
  | .Compare a [o'] [b] _ => if o' = o ∧ behindInMarks o b = false then some [a, b] else none
  | _ => none
theorem pCm_inv {o : CmpOp} {x : Expr} {xs : List Expr} (h : pCm o x = some xs) : ∃ a b p, x = .Compare a [o] [b] p ∧ xs = [a, b] ∧ behindInMarks o b = false := by
  unfold pCm at h
  split at h
  · split at h
    · rename_i e; obtain ⟨e, m⟩ := e; subst e; cases h; exact ⟨_, _, _, rfl, rfl, m⟩
    · cases h
  · cases h
def pUn (o : UnaryOp) : Expr → Option (List Expr)
  | .UnaryOp o' a _ => if o' = o then some [a] else none
  | _ => none
theorem pUn_inv {o : UnaryOp} {x : Expr} {xs : List Expr} (h : pUn o x = some xs) : ∃ a p, x = .UnaryOp o a p ∧ xs = [a] := by
  unfold pUn at h
  split at h
  · split at h
    · rename_i e; subst e; cases h; exact ⟨_, _, rfl, rfl⟩
    · cases h
  · cases h
/-- a call of a built-in thing by its name -/
def pBl (c : Ct) (f : Str) : Expr → Option (List Expr)
  | .Call (.Name g _) (a :: as) [] _ => if g = f ∧ bltB c g = true then some (a :: as) else none
  | _ => none
theorem pBl_inv {c : Ct} {f : Str} {x : Expr} {xs : List Expr} (h : pBl c f x = some xs) : ∃ a as p q, x = .Call (.Name f p) (a :: as) [] q ∧ xs = a :: as ∧ bltB c f = true := by
  unfold pBl at h
  split at h
  · split at h
    · rename_i e; obtain ⟨e, m⟩ := e; subst e; cases h; exact ⟨_, _, _, _, rfl, rfl, m⟩
    · cases h
  · cases h
def noSlice : Expr → Bool
  | .Slice .. => false
  | _ => true
def pIx : Expr → Option (List Expr)
  | .Subscript a b _ => if noSlice b = true then some [a, b] else none
  | _ => none
theorem pIx_inv {x : Expr} {xs : List Expr} (h : pIx x = some xs) : ∃ a b p, x = .Subscript a b p ∧ xs = [a, b] ∧ noSlice b = true := by
  unfold pIx at h
  split at h
  · split at h
    · rename_i e; cases h; exact ⟨_, _, _, rfl, rfl, e⟩
    · cases h
  · cases h
theorem plain_ix {b : Expr} (h : noSlice b = true) : PlainIx b := by
  intro o i
  cases b <;> first | rfl | cases h
def pIs (o : CmpOp) : Expr → Option (List Expr)
  | .Compare a [o'] [.Constant .none _ _] _ => if o' = o then some [a] else none
  | _ => none
theorem pIs_inv {o : CmpOp} {x : Expr} {xs : List Expr} (h : pIs o x = some xs) : ∃ a p j q, x = .Compare a [o] [.Constant .none j q] p ∧ xs = [a] := by
  unfold pIs at h
  split at h
  · split at h
    · rename_i e; subst e; cases h; exact ⟨_, _, _, _, rfl, rfl⟩
    · cases h
  · cases h
def pIsi (c : Ct) (ty : String) : Expr → Option (List Expr)
  | .Call (.Name g _) [a, .Name t _] [] _ => if g = ("isinstance" : Str) ∧ bltB c g = true ∧ t = (ty : Str) ∧ bltB c t = true then some [a] else none
  | _ => none
theorem pIsi_inv {c : Ct} {ty : String} {x : Expr} {xs : List Expr} (h : pIsi c ty x = some xs) : ∃ a p q r, x = .Call (.Name "isinstance" p) [a, .Name ty q] [] r ∧ xs = [a] ∧ bltB c "isinstance" = true ∧ bltB c ty = true := by
  unfold pIsi at h
  split at h
  · split at h
    · rename_i e; obtain ⟨e1, e2, e3, e4⟩ := e; subst e1 e3; cases h; exact ⟨_, _, _, _, rfl, rfl, e2, e4⟩
    · cases h
  · cases h
def isiTys : List String := ["bool", "int", "str", "tuple", "list", "dict"]
def parts (c : Ct) (p : Prim) (x : Expr) : Option (List Expr) := match p with
  | .add => pOp .Add x
  | .sub => pOp .Sub x
  | .mul => pOp .Mult x
  | .fdiv => pOp .FloorDiv x
  | .mod => pOp .Mod x
  | .pow => pOp .Pow x
  | .neg => pUn .USub x
  | .abs => pBl c "abs" x
  | .int => pBl c "int" x
  | .len => pBl c "len" x
  | .tuple => pBl c "tuple" x
  | .eq => pCm .Eq x
  | .ne => pCm .NotEq x
  | .lt => pCm .Lt x
  | .le => pCm .LtE x
  | .gt => pCm .Gt x
  | .ge => pCm .GtE x
  | .isin => pCm .In x
  | .notin => pCm .NotIn x
  | .shl => pOp .LShift x
  | .shr => pOp .RShift x
  | .band => pOp .BitAnd x
  | .max2 => pBl c "max" x
  | .min2 => pBl c "min" x
  | .maxs => pBl c "max" x
  | .mins => pBl c "min" x
  | .sums => pBl c "sum" x
  | .str => pBl c "str" x
  | .isnone => pIs .Is x
  | .notnone => pIs .IsNot x
  | .idx => pIx x
  | .isi ty => if ty ∈ isiTys then pIsi c ty x else none
  | _ => none

section
variable {X : Cx} {c : Ct} {C : Calls} {k : Nat} {R : XQ} (g : Good X c C k) (hC : CLe C C)
theorem f_op {o : Operator} {p : Prim} (hp : OpR X (binaryOp o) (fun x y H Q => rP X.prog X.w X.K p [x, y] H Q)) (hC : CLe C C) {es : List E} {x : Expr} {xs : List Expr} (h : pOp o x = some xs) (ps : Ps X C R es xs) :
    PE X x (liftE X.prog X.w X.K (wE C R (.prim p es))) := by
  obtain ⟨a, b, q, rfl, rfl⟩ := pOp_inv h
  obtain ⟨e, f, rfl, pa, pb⟩ := ps.inv2
  exact weakE (pe_op hp pa pb) fun σ H Q q => lP2 hC q
theorem f_un {o : UnaryOp} {p : Prim} (hp : UnR X (unaryOp o) (fun x H Q => rP X.prog X.w X.K p [x] H Q)) (hC : CLe C C) {es : List E} {x : Expr} {xs : List Expr} (h : pUn o x = some xs) (ps : Ps X C R es xs) :
    PE X x (liftE X.prog X.w X.K (wE C R (.prim p es))) := by
  obtain ⟨a, q, rfl, rfl⟩ := pUn_inv h
  obtain ⟨e, rfl, pa⟩ := ps.inv1
  exact weakE (pe_un hp pa) fun σ H Q q => lP1 hC q
theorem f_cm {o : CmpOp} {p : Prim} (hp : OpR X (compareOp o) (fun x y H Q => rP X.prog X.w X.K p [x, y] H Q)) (hC : CLe C C) {es : List E} {x : Expr} {xs : List Expr} (h : pCm o x = some xs) (ps : Ps X C R es xs) :
    PE X x (liftE X.prog X.w X.K (wE C R (.prim p es))) := by
  obtain ⟨a, b, q, rfl, rfl, m⟩ := pCm_inv h
  obtain ⟨e, f, rfl, pa, pb⟩ := ps.inv2
  exact weakE (pe_cmpR hp pa pb m) fun σ H Q q => lP2 hC q
/-- a test's reading, from the value's -/
theorem lT {W : Sl → GH → QE → Prop} (hW : ∀ τ G Q Q', QLe Q Q' → W τ G Q → W τ G Q') {P : Program} {w : World} {K : PySem.W.Frag} {σ : L2.St} {H : Hp} {Q : Bool → Hp → Prop} (q : liftB P w K W σ H Q) :
    liftE P w K W σ H fun x H1 => ∃ b, x = .bl b ∧ Q b H1 := by
  obtain ⟨τ, G, H0, A, S, q⟩ := q
  refine ⟨τ, G, H0, A, S, hW _ _ _ _ (fun t G' ⟨b, e, z⟩ v H0' H' A' s' r => ?_) q⟩
  subst e
  cases r
  exact ⟨b, rfl, z _ _ A' s'⟩
theorem f_cmT {o : CmpOp} {p : Prim} (hp : OpR X (compareOp o) (fun x y H Q => rP X.prog X.w X.K p [x, y] H Q)) (hC : CLe C C) {es : List E} {x : Expr} {xs : List Expr} (h : pCm o x = some xs) (ps : Ps X C R es xs) :
    L2.PT X x (liftB X.prog X.w X.K (wE C R (.prim p es))) := by
  obtain ⟨a, b, q, rfl, rfl, m⟩ := pCm_inv h
  obtain ⟨e, f, rfl, pa, pb⟩ := ps.inv2
  exact weakT (pt_cmpR hp pa pb m) fun σ H Q q => lP2 hC (lT (fun τ G Q Q' hq => wE_mono hC _ τ G (xle R) hq) q)
include g in
theorem f_bl {f : String} {id : String} {p : Prim} (hp : CallR X (.builtin id) (rP X.prog X.w X.K p)) (hv : bootBuiltins (f : Str) = some (.builtin id)) (hC : CLe C C) {es : List E} {x : Expr} {xs : List Expr} (h : pBl c f x = some xs) (ps : Ps X C R es xs) :
    PE X x (liftE X.prog X.w X.K (wE C R (.prim p es))) := by
  obtain ⟨a, as, q1, q2, rfl, rfl, b⟩ := pBl_inv h
  obtain ⟨b1, b2, b3, b4⟩ := bltB_ok g b
  have st := ps.stars
  rw [List.all_cons, Bool.and_eq_true] at st
  exact weakE (pe_callB hp b1 b2 hv (ps.pa hC) b3 b4 (star_cons st.1) (star_any st.2)) fun σ H Q q => lP hC q
include g in
theorem f_ty {f : String} {id : String} {p : Prim} (hp : CallR X (.type id) (rP X.prog X.w X.K p)) (hv : bootBuiltins (f : Str) = some (.type id)) (hC : CLe C C) {es : List E} {x : Expr} {xs : List Expr} (h : pBl c f x = some xs) (ps : Ps X C R es xs) :
    PE X x (liftE X.prog X.w X.K (wE C R (.prim p es))) := by
  obtain ⟨a, as, q1, q2, rfl, rfl, b⟩ := pBl_inv h
  obtain ⟨b1, b2, b3, b4⟩ := bltB_ok g b
  have st := ps.stars
  rw [List.all_cons, Bool.and_eq_true] at st
  exact weakE (pe_callTy hp b1 b2 hv (ps.pa hC) b3 b4 (star_cons st.1) (star_any st.2)) fun σ H Q q => lP hC q
theorem f_ix {p : Prim} (hp : IxR X (fun x y H Q => rP X.prog X.w X.K p [x, y] H Q)) (hC : CLe C C) {es : List E} {x : Expr} {xs : List Expr} (h : pIx x = some xs) (ps : Ps X C R es xs) :
    PE X x (liftE X.prog X.w X.K (wE C R (.prim p es))) := by
  obtain ⟨a, b, q, rfl, rfl, m⟩ := pIx_inv h
  obtain ⟨e, f, rfl, pa, pb⟩ := ps.inv2
  exact weakE (pe_ix hp pa pb (plain_ix m)) fun σ H Q q => lP2 hC q
theorem f_is {o : CmpOp} {p : Prim} (hp : OpR X (compareOp o) (fun x y H Q => y = .non ∧ rP X.prog X.w X.K p [x] H Q)) (ho : o = .Is ∨ o = .IsNot) (hC : CLe C C) {es : List E} {x : Expr} {xs : List Expr} (h : pIs o x = some xs) (ps : Ps X C R es xs) :
    PE X x (liftE X.prog X.w X.K (wE C R (.prim p es))) := by
  obtain ⟨a, q, j, q2, rfl, rfl⟩ := pIs_inv h
  obtain ⟨e, rfl, pa⟩ := ps.inv1
  exact weakE (pe_cmpR hp pa pe_non (by rcases ho with rfl | rfl <;> rfl)) fun σ H Q q => lE_mono hC (lP1 hC q) fun v H1 z => ⟨rfl, z⟩
theorem f_isT {o : CmpOp} {p : Prim} (hp : OpR X (compareOp o) (fun x y H Q => y = .non ∧ rP X.prog X.w X.K p [x] H Q)) (ho : o = .Is ∨ o = .IsNot) (hC : CLe C C) {es : List E} {x : Expr} {xs : List Expr} (h : pIs o x = some xs) (ps : Ps X C R es xs) :
    L2.PT X x (liftB X.prog X.w X.K (wE C R (.prim p es))) := by
  obtain ⟨a, q, j, q2, rfl, rfl⟩ := pIs_inv h
  obtain ⟨e, rfl, pa⟩ := ps.inv1
  exact weakT (pt_cmpR hp pa pe_non (by rcases ho with rfl | rfl <;> rfl)) fun σ H Q q => lE_mono hC (lP1 hC (lT (fun τ G Q Q' hq => wE_mono hC _ τ G (xle R) hq) q)) fun v H1 z => ⟨rfl, z⟩
end

/-! ### isinstance -/
theorem isi_ty {K : PySem.W.Frag} {H0 H : Hp} {G : GH} {P : Program} {w : World} (A : At P w K G H0 H) {t : T} {v : V} {ty : String} {b : Bool} (r : RT K H0 G t v) (e : isTyG G ty t = some b) (ht : ty ∈ isiTys) (nd : dctOf G t = none ∨ ∃ ks vs, t = .dct ks vs) :
    ∃ u, TyX K H v u ∧ PySem.W.kitOne K u (.type ty) = some b := by
  have sub := A.sub
  simp only [isiTys, List.mem_cons, List.not_mem_nil, or_false] at ht
  cases r with
  | non =>
    refine ⟨_, .base .non, ?_⟩
    simp only [isTyG, isTy, Option.some.injEq] at e
    subst e
    rcases ht with rfl | rfl | rfl | rfl | rfl | rfl <;> exact kit_ty (by decide +kernel)
  | bl x =>
    refine ⟨_, .base (.bl x), ?_⟩
    simp only [isTyG, isTy, Option.some.injEq] at e
    subst e
    rcases ht with rfl | rfl | rfl | rfl | rfl | rfl <;> exact kit_ty (by decide +kernel)
  | int x =>
    refine ⟨_, .base (.int x), ?_⟩
    simp only [isTyG, isTy, Option.some.injEq] at e
    subst e
    rcases ht with rfl | rfl | rfl | rfl | rfl | rfl <;> exact kit_ty (by decide +kernel)
  | str x =>
    refine ⟨_, .base (.str x), ?_⟩
    simp only [isTyG, isTy, Option.some.injEq] at e
    subst e
    rcases ht with rfl | rfl | rfl | rfl | rfl | rfl <;> exact kit_ty (by decide +kernel)
  | @tup a xs ts h r =>
    have hy : TyX K H (.ref a) (.type "tuple") := by
      rcases h with ⟨o, h1, _, rfl | ⟨ob, rfl⟩⟩ | (h | ⟨o, h⟩) | h
      · exact .base (.tup (sub _ _ h1))
      · exact .fTuple (sub _ _ h1)
      · cases h
      · cases h
      · obtain ⟨o, its, n, h1, h2, _⟩ := h
        exact .kTuple h1 h2
    refine ⟨_, hy, ?_⟩
    simp only [isTyG, isTy, Option.some.injEq] at e
    subst e
    rcases ht with rfl | rfl | rfl | rfl | rfl | rfl <;> exact kit_ty (by decide +kernel)
  | @lst a xs ts h r =>
    refine ⟨_, .base (.lst (sub _ _ h.1)), ?_⟩
    simp only [isTyG, isTy, Option.some.injEq] at e
    subst e
    rcases ht with rfl | rfl | rfl | rfl | rfl | rfl <;> exact kit_ty (by decide +kernel)
  | @dctK a kvs ks vs h k r =>
    have hy : TyX K H (.ref a) (.type "dict") := by
      obtain ⟨o, h1, _, rfl | ⟨ob, rfl⟩⟩ := h
      · exact .base (.dK (sub _ _ h1))
      · exact .fDict (sub _ _ h1)
    refine ⟨_, hy, ?_⟩
    simp only [isTyG, isTy, Option.some.injEq] at e
    subst e
    rcases ht with rfl | rfl | rfl | rfl | rfl | rfl <;> exact kit_ty (by decide +kernel)
  | @scr a ns h =>
    have hy : TyX K H (.ref a) (.type "list") := by
      rcases h with ⟨o, h1, _, rfl | ⟨ob, rfl⟩⟩ | (h | ⟨o, h⟩) | h
      · exact .base (.lst (sub _ _ h1))
      · exact .base (.frz (sub _ _ h1))
      · cases h
      · cases h
      · obtain ⟨o, its, n, h1, h2, _⟩ := h
        exact .kList h1 h2
    refine ⟨_, hy, ?_⟩
    simp only [isTyG, isTy, Option.some.injEq] at e
    subst e
    rcases ht with rfl | rfl | rfl | rfl | rfl | rfl <;> exact kit_ty (by decide +kernel)
  | ref a =>
    simp only [isTyG] at e
    split at e
    · rename_i ts ha
      simp only [Option.some.injEq] at e
      subst e
      obtain ⟨xs, h, _⟩ := A.rel a _ ha
      refine ⟨_, .base (.lst (sub _ _ h)), ?_⟩
      rcases ht with rfl | rfl | rfl | rfl | rfl | rfl <;> exact kit_ty (by decide +kernel)
    · rename_i ts ha
      rcases nd with nd | ⟨_, _, nd⟩
      · simp [dctOf, ha] at nd
      · cases nd
    · rename_i ob kv ts ha
      rcases nd with nd | ⟨_, _, nd⟩
      · simp [dctOf, ha] at nd
      · cases nd
    · cases e
theorem isi_len {ty : String} {ts : List T} {G : GH} {Q : QE} (q : (Prim.isi ty).wp ts G Q) : ts.length = 1 := by
  match ts with
  | [_] => rfl
  | [] => exact q.elim
  | _ :: _ :: _ => exact q.elim
theorem p_isi {X : Cx} : CallR X (.builtin "isinstance") (fun xs H Q => ∃ v ty, ty ∈ isiTys ∧ xs = [v, .ty ty] ∧ rP X.prog X.w X.K (.isi ty) [v] H Q) := by
  intro pins s σ H xs us Q I rv ⟨v, ty, ht, ex, ts, G, H0, A, r, q⟩
  subst ex
  obtain ⟨t, y, rfl, hy, r⟩ := r.inv1' (isi_len q)
  cases hy
  obtain ⟨bb, e1, q⟩ := q
  by_cases nd : dctOf G t = none ∨ ∃ ks vs, t = .dct ks vs
  · obtain ⟨u, hu, hk⟩ := isi_ty A r e1 ht nd
    exact call_isi pins s σ H _ us Q I rv ⟨v, .ty ty, u, .type ty, bb, rfl, .ty ty, hu, hk, upE_here A q (.bl bb)⟩
  · rw [not_or] at nd
    obtain ⟨kvs, ek⟩ := Option.ne_none_iff_exists'.mp nd.1
    obtain ⟨a, rfl, d⟩ := r.dict A ek
    obtain ⟨u1, u2, rfl, k1, k2⟩ := vals2 rv
    cases k1
    cases k2
    have hb : bb = decide (ty = "dict") := by
      cases t with
      | dct ks vs => exact absurd ⟨ks, vs, rfl⟩ nd.2
      | ref b =>
        cases hg : G b with
        | none => simp [dctOf, hg] at ek
        | some o =>
          cases o with
          | dct _ => simp only [isTyG, hg, Option.some.injEq] at e1; exact e1.symm
          | lkd _ _ _ => simp only [isTyG, hg, Option.some.injEq] at e1; exact e1.symm
          | _ => simp [dctOf, hg] at ek
      | _ => cases ek
    have hk : PySem.W.kitOne X.K (.type "dict") (.type ty) = some bb := by
      rw [hb]
      simp only [isiTys, List.mem_cons, List.not_mem_nil, or_false] at ht
      rcases ht with rfl | rfl | rfl | rfl | rfl | rfl <;> exact kit_ty (by decide +kernel)
    exact PySem.W.kia_one PySem.W.kitx_dict I.kIn (dict_type I A d).1 hk (fun z => nomatch z) fun tk => ⟨.bl bb, H, I.tok tk, rfl, upE_here A q (.bl bb)⟩
theorem f_isi {X : Cx} {c : Ct} {C : Calls} {k : Nat} {R : XQ} (g : Good X c C k) (hC : CLe C C) {ty : String} (ht : ty ∈ isiTys) {es : List E} {x : Expr} {xs : List Expr} (h : pIsi c ty x = some xs) (ps : Ps X C R es xs) :
    PE X x (liftE X.prog X.w X.K (wE C R (.prim (.isi ty) es))) := by
  obtain ⟨a, q1, q2, q3, rfl, rfl, b, b'⟩ := pIsi_inv h
  obtain ⟨e, rfl, pa, ns⟩ := ps.one
  obtain ⟨b1, b2, b3, b4⟩ := bltB_ok g b
  obtain ⟨b1', b2', b3', b4'⟩ := bltB_ok g b'
  have hv : bootBuiltins (ty : Str) = some (.type ty) := by
    simp only [isiTys, List.mem_cons, List.not_mem_nil, or_false] at ht
    rcases ht with rfl | rfl | rfl | rfl | rfl | rfl <;> rfl
  have hl : PA X [a, .Name ty q2] (tCons (liftE X.prog X.w X.K (wE C R e)) (tCons (tC (.ty ty)) tNil)) :=
    pa_cons pa (pa_cons (pe_bltn b1' b2' hv (show RelV (.ty ty) (.type ty) from rfl) b3' b4') pa_nil (by rfl)) (star_cons ns)
  refine weakE (pe_callB p_isi b1 b2 (by rfl) hl b3 b4 (star_cons ns) (by rfl)) fun σ H Q q => ?_
  exact lE_mono hC (lP1 hC q) fun v H1 z => ⟨v, ty, ht, rfl, z⟩
end EV

/-! EV13: pieces of expressions, with their readings. -/
namespace EV
open PySem PySem.Spec PyProof.Rows L2

def plainT : Expr → Bool
  | .UnaryOp .Not _ _ => false
  | .BoolOp .. => false
  | .IfExp .. => false
  | .Compare .. => false
  | _ => true
theorem pt_of {X : Cx} {x : Expr} {t : TE} (h : PE X x t) (hp : plainT x = true) : L2.PT X x (tB t) := pt_val h (by
  intro whole
  cases x with
  | UnaryOp o a p => cases o <;> first | rfl | cases hp
  | BoolOp _ _ _ => cases hp
  | IfExp _ _ _ _ => cases hp
  | Compare _ _ _ _ => cases hp
  | _ => rfl)
def pCst (c : Ct) (t : T) : Expr → Bool
  | .Constant k _ _ => match k, t with
    | .int i, .int j => decide (i = j)
    | .bool a, .bl b => decide (a = b)
    | .str a, .str b => decide (a = b)
    | .none, .non => true
    | _, _ => false
  | .Name x _ => gloB c.sc x && !badN x && (match c.gs.lookup x with | some (.con u) => decide (u = t) | _ => false)
  | _ => false
def pVar (c : Ct) (i : Nat) : Expr → Bool
  | .Name x _ => decide (c.N[i]? = some x) && visB c.sc x && !badN x
  | _ => false
def fnB (c : Ct) (g : Str) : Bool := match c.gs.lookup g with
  | some .fn => true
  | _ => false
def pFun (c : Ct) (f : Str) : Expr → Option (List Expr)
  | .Call (.Name g _) as [] _ => if g = f ∧ gloB c.sc g = true ∧ badN g = false ∧ fnB c g = true then some as else none
  | _ => none
theorem pFun_inv {c : Ct} {f : Str} {x : Expr} {xs : List Expr} (h : pFun c f x = some xs) : ∃ p q, x = .Call (.Name f p) xs [] q ∧ gloB c.sc f = true ∧ badN f = false ∧ c.gs.lookup f = some .fn := by
  unfold pFun at h
  split at h
  · split at h
    · rename_i e
      obtain ⟨e, e1, e2, e3⟩ := e
      subst e; cases h
      refine ⟨_, _, rfl, e1, e2, ?_⟩
      unfold fnB at e3
      split at e3
      · assumption
      · cases e3
    · cases h
  · cases h
def noCall : Expr → Bool
  | .Call .. => false
  | _ => true
theorem attr_base {o : Expr} {m : Str} {env : Env} {wh : Sem Value} (h : noCall o = true) : attributeBase o m env wh = wh := by
  cases o <;> first | rfl | cases h
/-- a method: its type, name, identity -/
def mtOf : Prim → Option (String × String × String)
  | .append => some ("list", "append", "list.append")
  | .extend => some ("list", "extend", "list.extend")
  | .index => some ("list", "index", "list.index")
  | .get1 => some ("dict", "get", "dict.get")
  | .get2 => some ("dict", "get", "dict.get")
  | _ => none
def pMeth (p : Prim) (n : Nat) : Expr → Option (Expr × List Expr)
  | .Call (.Attribute o name apos) (a :: as) [] cpos => match mtOf p with
    | some (_, m, _) => if name = (m : Str) ∧ noCall o = true ∧ (a :: as).length < 30 ∧ (apos.endLine == cpos.line) = true then some (o, a :: as) else none
    | none => none
  | _ => none
theorem pMeth_inv {p : Prim} {n : Nat} {x o : Expr} {xs : List Expr} (h : pMeth p n x = some (o, xs)) : ∃ T m id apos cpos a as, mtOf p = some (T, m, id) ∧ x = .Call (.Attribute o m apos) (a :: as) [] cpos ∧ xs = a :: as ∧ noCall o = true ∧ (a :: as).length < 30 ∧ (apos.endLine == cpos.line) = true := by
  unfold pMeth at h
  split at h
  · split at h
    · rename_i e0
      split at h
      · rename_i e
        obtain ⟨e1, e2, e3, e4⟩ := e
        subst e1; cases h
        exact ⟨_, _, _, _, _, _, _, e0, rfl, rfl, e2, e3, e4⟩
      · cases h
    · cases h
  · cases h

section
variable {X : Cx} {c : Ct} {C : Calls} {k : Nat} {R : XQ} (g : Good X c C k) (hC : CLe C C)
include g in
theorem Good.units : X.A.units + 80 < cLine := by
  have := g.room.un
  omega
include hC in
theorem pt_ofE {e : E} {x : Expr} (h : PE X x (liftE X.prog X.w X.K (wE C R e))) (hp : plainT x = true) : L2.PT X x (liftB X.prog X.w X.K (wE C R e)) :=
  weakT (pt_of h hp) fun σ H Q q => lT (fun τ G Q Q' hq => wE_mono hC _ τ G (xle R) hq) q
include g in
theorem f_var {i : Nat} {x : Expr} (h : pVar c i x = true) : PE X x (liftE X.prog X.w X.K (wE C R (.var i))) := by
  unfold pVar at h
  split at h
  · simp only [Bool.and_eq_true, Bool.not_eq_true', decide_eq_true_eq] at h
    obtain ⟨⟨h1, h2⟩, h3⟩ := h
    obtain ⟨b1, b2, b3⟩ := badN_ok h3
    refine weakE (pe_var (by rw [g.N]; exact h1) (by rw [g.sc]; exact visB_ok h2) b1 b2) fun σ H Q ⟨τ, G, H0, A, S, q⟩ => ?_
    rw [wE] at q
    split at q
    · rename_i t e
      obtain ⟨v, ev, r⟩ := S.get e
      exact ⟨v, ev, upE_here A q r⟩
    · exact q.elim
  · cases h
include g in
theorem f_cst {t : T} {x : Expr} (h : pCst c t x = true) : PE X x (liftE X.prog X.w X.K (wE C R (.cst t))) := by
  have fin : ∀ (v : V), (∀ H G, RT X.K H G t v) → ∀ σ H Q, liftE X.prog X.w X.K (wE C R (.cst t)) σ H Q → tC v σ H Q := fun v hv σ H Q ⟨τ, G, H0, A, S, q⟩ => by
    rw [wE] at q
    exact upE_here A q (hv _ _)
  unfold pCst at h
  split at h
  · split at h
    · rw [decide_eq_true_eq] at h; subst h; exact weakE pe_int (fin _ fun _ _ => .int _)
    · rw [decide_eq_true_eq] at h; subst h; exact weakE pe_bl (fin _ fun _ _ => .bl _)
    · rw [decide_eq_true_eq] at h; subst h; exact weakE pe_str (fin _ fun _ _ => .str _)
    · exact weakE pe_non (fin _ fun _ _ => .non)
    · cases h
  · simp only [Bool.and_eq_true, Bool.not_eq_true'] at h
    obtain ⟨⟨h1, h2⟩, h3⟩ := h
    split at h3
    · rename_i y p u e
      rw [decide_eq_true_eq] at h3
      subst h3
      obtain ⟨u', v, e1, e2, e3⟩ := g.con _ _ e
      exact weakE (pe_glob (by show X.env.scope.names.lookup _ = _; rw [g.sc]; exact gloB_ok h1) e1 e2 (badN_ok h2).1) (fin _ e3)
    · cases h3
  · cases h
include hC in
theorem f_tup {es : List E} {xs : List Expr} {n : Nat} {p : Pos} (ps : Ps X C R es xs) : PE X (.Tuple xs n p) (liftE X.prog X.w X.K (wE C R (.tup es))) := by
  refine weakE (pe_tup (ps.pa hC)) fun σ H Q ⟨τ, G, H0, A, S, q⟩ => ?_
  rw [wE] at q
  exact ⟨τ, G, H0, A, S, wEs_mono hC es τ G (xle R) (fun ts G' z vs H0' H' A' s' r => ⟨by rw [← r.length]; exact z.1, fun p hp => tup_new A' (upE_stp s' _ _ z.2) r hp⟩) q⟩
include hC in
theorem f_disp {es : List E} {xs : List Expr} {p : Pos} (ps : Ps X C R es xs) : PE X (.List xs p) (liftF X.prog X.w X.K (wL C R (.disp es))) := by
  refine weakE (pe_lst (ps.pa hC)) fun σ H Q ⟨τ, G, H0, A, S, q⟩ => ?_
  rw [wL] at q
  exact ⟨τ, G, H0, A, S, wEs_mono hC es τ G (xle R) (fun ts G' z vs H0' H' A' s' r => ⟨by rw [← r.length]; exact z.1, fun p hp => fresh_new A' (upF_stp s' _ _ z.2) r hp⟩) q⟩
theorem f_dnew {p : Pos} : PE X (.Dict [] [] p) (liftE X.prog X.w X.K (wE C R .dnew)) := by
  refine weakE pe_dnewK fun σ H Q ⟨τ, G, H0, A, S, q⟩ p hp => ?_
  rw [wE] at q
  obtain ⟨A', s'⟩ := A.new (u := .dK []) (o := .dct []) hp (.inl ⟨[], upd_same, .nil⟩)
  exact q p (A.gnone hp) _ _ _ A' s' (.ref p)
include g hC in
theorem f_call {f : Str} {es : List E} {x : Expr} {xs : List Expr} (h : pFun c f x = some xs) (ps : Ps X C noX es xs) : PE X x (liftE X.prog X.w X.K (wE C noX (.call f es))) := by
  obtain ⟨p, q, rfl, h1, h2, h3⟩ := pFun_inv h
  obtain ⟨fa, fd, pn, e1, e2, e3, e4⟩ := g.fnc _ h3
  have hg : Gl X f := by show X.env.scope.names.lookup _ = _; rw [g.sc]; exact gloB_ok h1
  have hx : Passes cxF X (fun _ _ _ => False) := fun _ _ _ _ _ _ _ z => z.elim
  have fin : ∀ (σ : L2.St) (H : Hp) (Q : VK), liftE X.prog X.w X.K (wE C noX (.call f es)) σ H Q → tCall (spOf X.prog X.w X.K C f) [] (fun _ _ _ => False) (liftL X.prog X.w X.K (wEs C noX es)) σ H Q := fun σ H Q ⟨τ, G, H0, A, S, q⟩ => by
    rw [wE] at q
    refine ⟨τ, G, H0, A, S, wEs_mono hC es τ G (xle noX) (fun ts G' z vs H0' H' A' s' r => ?_) q⟩
    show spOf X.prog X.w X.K C f (vs ++ []) H' Q _
    rw [List.append_nil]
    exact ⟨ts, G', H0', A', r, hC f ts G' _ _ _ _ (upE_stp s') (xle noX) z⟩
  have st := ps.stars
  cases xs with
  | nil =>
    cases ps
    refine weakE (pe_call0 e4 g.room hg e1 e2 e3 (.nil) hx (badN_ok h2).1) fun σ H Q q => ?_
    exact lEs_nil hC (fin σ H Q q)
  | cons a as =>
    rw [List.all_cons, Bool.and_eq_true] at st
    exact weakE (pe_call e4 g.room hg e1 e2 e3 .nil hx (ps.pa hC) (badN_ok h2).1 (star_cons st.1) (star_any st.2)) fin

/-! ### methods -/
def tyM (P : Program) (w : World) (K : PySem.W.Frag) (p : Prim) (x : V) (H : Hp) : Prop := ∃ t G H0, At P w K G H0 H ∧ RT K H0 G t x ∧ p.ty t G
theorem tyL_ok {p : Prim} (hp : ∀ t G, p.ty t G → ∃ ts, lstOf G t = some ts) : TyOk X "list" (tyM X.prog X.w X.K p) := by
  intro pins σ H s x v I r ⟨t, G, H0, A, rt, ht⟩
  obtain ⟨ts, e⟩ := hp _ _ ht
  obtain ⟨a, xs, rfl, _, hl⟩ := rt.lstI A e
  exact tyV_is I r (.inl ⟨rfl, xs, .inl (.inl hl)⟩)
theorem tyD_ok {p : Prim} (hp : ∀ t G, p.ty t G → ∃ kvs, dctOf G t = some kvs) : TyOk X "dict" (tyM X.prog X.w X.K p) := by
  intro pins σ H s x v I r ⟨t, G, H0, A, rt, ht⟩
  obtain ⟨kvs, e⟩ := hp _ _ ht
  obtain ⟨a, rfl, d⟩ := rt.dict A e
  cases r
  rcases d with ⟨kv, h1, h2⟩ | ⟨zs, g1, g2, g3, g4⟩
  · obtain ⟨a1, a2, _⟩ := isD_at I (.inl ⟨kv, h1⟩)
    exact ⟨a1, a2⟩
  · obtain ⟨hm, hl, xs, h4, dd⟩ := DN.lib I A (.inl ⟨zs, g1, g2, g3, g4⟩)
    refine ⟨dd.typeIs, fun b q => ?_⟩
    cases q
    obtain ⟨ob, _, _, h1, h2, _⟩ := dd
    exact ⟨ob, h1, h2.2.1⟩
include hC in
theorem lM {p : Prim} {o : E} {es : List E} {σ : L2.St} {H : Hp} {Q : VK} (q : liftE X.prog X.w X.K (wE C R (.meth p o es)) σ H Q) :
    tMG (tyM X.prog X.w X.K p) (fun x xs H Q => rP X.prog X.w X.K p (x :: xs) H Q) (liftE X.prog X.w X.K (wE C R o)) (liftL X.prog X.w X.K (wEs C R es)) σ H Q := by
  obtain ⟨τ, G, H0, A, S, q⟩ := q
  rw [wE] at q
  refine ⟨τ, G, H0, A, S, wE_mono hC o τ G (xle R) (fun t G1 ⟨z1, z2⟩ v H01 H1 A1 s1 r1 => ⟨⟨t, G1, H01, A1, r1, z1⟩, τ, G1, H01, A1, S.ext s1.ext, ?_⟩) q⟩
  exact wEs_mono hC es τ G1 (xle R) (fun ts G2 z vs H02 H2 A2 s2 r2 => ⟨t :: ts, G2, H02, A2, .cons (r1.ext s2.ext) r2, p.mono _ G2 (upE_stp (s1.trans s2)) z⟩) z2
theorem few_ok {cpos : Pos} {env : Env} {xs : List Expr} (h1 : xs.all noStar = true) (h2 : xs.length < 30) :
    ((backTo cpos (starEach xs env)).all (fun x => !x.1) && (backToKw cpos (keywordEach [] env)).all (fun x => x.1.isSome)
      && decide (xs.length + ([] : List Keyword).length + (if ([] : List Keyword).isEmpty then 0 else 1) < 30)) = true := by
  have h3 : (backTo cpos (starEach xs env)).all (fun x => !x.1) = true := by
    have := star_any (env := env) (pos := cpos) h1
    rw [List.any_eq_false] at this
    rw [List.all_eq_true]
    intro x hx
    simpa using this x hx
  rw [h3]
  simpa [backToKw, keywordEach] using h2
include hC in
theorem f_meth1 {p : Prim} {T m id : String} (ht : TyOk X T (tyM X.prog X.w X.K p)) (pa : PlainAttrs T) (slot : Slot T m id) (hty : typeOf (.builtin id) = pure (.type "method_descriptor"))
    (hm : MtR X id (fun x xs H Q => rP X.prog X.w X.K p (x :: xs) H Q)) {o : E} {es : List E} {xo a : Expr} {as : List Expr} {apos cpos : Pos} (ho : PE X xo (liftE X.prog X.w X.K (wE C R o))) (ps : Ps X C R es (a :: as))
    (h1 : noCall xo = true) (h2 : (a :: as).length < 30) (h3 : (apos.endLine == cpos.line) = true) : PE X (.Call (.Attribute xo m apos) (a :: as) [] cpos) (liftE X.prog X.w X.K (wE C R (.meth p o es))) := by
  have st := ps.stars
  have st' := st
  rw [List.all_cons, Bool.and_eq_true] at st'
  exact weakE (pe_mG ht pa slot hty hm ho (ps.pa hC) (attr_base h1) (few_ok st h2) h3 (star_cons st'.1) (star_any st'.2)) fun σ H Q q => lM hC q
end
end EV

/-! EV14: all operations by their names; the reader of expressions. -/
namespace EV
open PySem PySem.Spec PyProof.Rows L2

def pCmp : Prim → Bool
  | .eq | .ne | .lt | .le | .gt | .ge | .isin | .notin | .isnone | .notnone => true
  | _ => false
section
variable {X : Cx}
theorem get1_len {t : T} {ts : List T} {G : GH} {Q : QE} (q : Prim.wp .get1 (t :: ts) G Q) : ts.length = 1 := by
  match ts with
  | [_] => rfl
  | [] => cases t <;> exact q.elim
  | _ :: _ :: _ => cases t <;> exact q.elim
theorem get2_len {t : T} {ts : List T} {G : GH} {Q : QE} (q : Prim.wp .get2 (t :: ts) G Q) : ts.length = 2 := by
  match ts with
  | [_, _] => rfl
  | [] => cases t <;> exact q.elim
  | [_] => cases t <;> exact q.elim
  | _ :: _ :: _ :: _ => cases t <;> exact q.elim
theorem p_get1 (hu : X.A.units + 70 < cLine) : MtR X "dict.get" (fun x xs H Q => rP X.prog X.w X.K .get1 (x :: xs) H Q) := by
  intro pins s σ H x xs v us Q I rx rs ⟨ts, G, H0, A, r, q⟩
  cases r with
  | @cons t ts _ _ h1 r =>
    obtain ⟨t', y, rfl, rfl, h2⟩ := r.inv1' (get1_len q)
    obtain ⟨kvs, e, c, q⟩ := q
    obtain ⟨a, rfl, d⟩ := h1.dict A e
    cases rx
    cases rs with
    | cons ry rs =>
      cases rs
      rcases dict_look I A h2 ry d c with ⟨j, kv, o, hy, k1, k2, z⟩ | ⟨b, j, xs, hb, hm, hk, dd, z⟩
      · subst hy
        refine d_get1 (by omega) I (DGet.of k1 k2) ry fun w' s' I' r' => ?_
        rcases z with ⟨e1, eo⟩ | ⟨t2, v2, e1, eo, rt⟩
        · rw [e1] at q; rw [eo] at r'
          exact ⟨.non, H, I', r', upE_here A q .non⟩
        · rw [e1] at q; rw [eo] at r'
          exact ⟨v2, H, I', r', upE_here A q rt⟩
      · subst hb
        refine call_meetsIn F.slot_dict_get dd.typeIs F.entry_dict_get (F.args_dict_get_2 _ _) (meetsH_dict_get (nestedKind X.prog X.w) a b hm) ⟨room8 (by omega) _ _, j, xs, hk, dd, ?_⟩
        rcases z with ⟨e1, ea⟩ | ⟨t2, v2, b', w', e1, ea, rt, rw'⟩
        · rw [e1] at q; rw [ea]
          exact ⟨.non, H, I.tok _, rfl, upE_here A q .non⟩
        · rw [e1] at q; rw [ea]
          exact ⟨v2, H, I.tok _, rw', upE_here A q rt⟩
theorem p_get2 (hu : X.A.units + 70 < cLine) : MtR X "dict.get" (fun x xs H Q => rP X.prog X.w X.K .get2 (x :: xs) H Q) := by
  intro pins s σ H x xs v us Q I rx rs ⟨ts, G, H0, A, r, q⟩
  cases r with
  | @cons t ts _ _ h1 r =>
    obtain ⟨t', d', y, dd', rfl, rfl, h2, h3⟩ := r.inv2' (get2_len q)
    obtain ⟨kvs, e, c, q⟩ := q
    obtain ⟨a, rfl, d⟩ := h1.dict A e
    cases rx
    cases rs with
    | cons ry rs =>
      cases rs with
      | cons rd rs =>
        cases rs
        rcases dict_look I A h2 ry d c with ⟨j, kv, o, hy, k1, k2, z⟩ | ⟨b, j, xs, hb, hm, hk, dd, z⟩
        · subst hy
          refine d_get2 (by omega) I (DGet.of k1 k2) ry rd fun w' s' I' r' => ?_
          rcases z with ⟨e1, eo⟩ | ⟨t2, v2, e1, eo, rt⟩
          · rw [e1] at q; rw [eo] at r'
            exact ⟨_, H, I', r', upE_here A q h3⟩
          · rw [e1] at q; rw [eo] at r'
            exact ⟨v2, H, I', r', upE_here A q rt⟩
        · subst hb
          refine call_meetsIn F.slot_dict_get dd.typeIs F.entry_dict_get (F.args_dict_get_3 _ _ _) (meetsH_dict_get_default (nestedKind X.prog X.w) a b hm _) ⟨room8 (by omega) _ _, j, xs, hk, dd, ?_⟩
          rcases z with ⟨e1, ea⟩ | ⟨t2, v2, b', w', e1, ea, rt, rw'⟩
          · rw [e1] at q; rw [ea]
            exact ⟨_, H, I.tok _, rd, upE_here A q h3⟩
          · rw [e1] at q; rw [ea]
            exact ⟨v2, H, I.tok _, rw', upE_here A q rt⟩
/-! ### dict displays -/
def pDict : List Str → List (Option Expr) → Bool
  | [], [] => true
  | k :: ks, some (.Constant (.str s) _ _) :: r => decide (s = k) && pDict ks r
  | _, _ => false
def dTrs (te : List TE) (ks : List Str) : List (TE × TE) := (ks.map fun k => tC (.str k)).zip te
inductive PsD (X : Cx) : List TE → List Expr → Prop
  | nil : PsD X [] []
  | cons {t : TE} {x : Expr} {ts : List TE} {xs : List Expr} : PE X x t → PsD X ts xs → PsD X (t :: ts) (x :: xs)
theorem pps_of {pos : Pos} : ∀ {ks : List Str} {keys : List (Option Expr)} {xs : List Expr} {ts : List TE}, pDict ks keys = true → PsD X ts xs → ks.length = xs.length → PPs X pos keys xs (dTrs ts ks) ∧ keys.all (·.isSome) = true ∧ keys.length = ks.length
  | [], [], xs, ts, _, h, hl => by
    cases h with
    | nil => exact ⟨pps_nil, rfl, rfl⟩
    | cons a b => simp at hl
  | k :: ks, some (.Constant (.str s) j p) :: r, xs, ts, h, hx, hl => by
    rw [pDict, Bool.and_eq_true, decide_eq_true_eq] at h
    obtain ⟨rfl, h⟩ := h
    cases hx with
    | nil => simp at hl
    | cons a b =>
      obtain ⟨i1, i2, i3⟩ := pps_of (pos := pos) h b (by simpa using hl)
      exact ⟨pps_cons pe_str a i1, by rw [List.all_cons, i2]; rfl, by simp [i3]⟩
  | [], _ :: _, _, _, h, _, _ => by simp [pDict] at h
end
section
variable {X : Cx} {c : Ct} {C : Calls} {k : Nat} {R : XQ} (g : Good X c C k) (hC : CLe C C)
include g hC
theorem prim_ok {p : Prim} {es : List E} {x : Expr} {xs : List Expr} (h : parts c p x = some xs) (ps : Ps X C R es xs) : PE X x (liftE X.prog X.w X.K (wE C R (.prim p es))) := by
  have u := g.units
  unfold parts at h
  split at h
  · exact f_op p_add hC h ps
  · exact f_op p_sub hC h ps
  · exact f_op p_mul hC h ps
  · exact f_op p_fdiv hC h ps
  · exact f_op p_mod hC h ps
  · exact f_op p_pow hC h ps
  · exact f_un p_neg hC h ps
  · exact f_bl g (f := "abs") p_abs rfl hC h ps
  · exact f_ty g (f := "int") p_int rfl hC h ps
  · exact f_bl g (f := "len") p_len rfl hC h ps
  · exact f_ty g (f := "tuple") (p_tuple g.calm) rfl hC h ps
  · exact f_cm (p_eq (by omega)) hC h ps
  · exact f_cm (p_ne (by omega)) hC h ps
  · exact f_cm p_lt hC h ps
  · exact f_cm p_le hC h ps
  · exact f_cm p_gt hC h ps
  · exact f_cm p_ge hC h ps
  · exact f_cm (p_isin (by omega) (by omega)) hC h ps
  · exact f_cm (p_notin (by omega) (by omega)) hC h ps
  · exact f_op p_shl hC h ps
  · exact f_op p_shr hC h ps
  · exact f_op p_band hC h ps
  · exact f_bl g (f := "max") (p_max2 g.calm) rfl hC h ps
  · exact f_bl g (f := "min") (p_min2 g.calm) rfl hC h ps
  · exact f_bl g (f := "max") (p_maxs g.calm) rfl hC h ps
  · exact f_bl g (f := "min") (p_mins g.calm) rfl hC h ps
  · exact f_bl g (f := "sum") (p_sums g.calm) rfl hC h ps
  · exact f_ty g (f := "str") p_str rfl hC h ps
  · exact f_is p_isnone (.inl rfl) hC h ps
  · exact f_is p_notnone (.inr rfl) hC h ps
  · exact f_ix (p_idx (by omega)) hC h ps
  · split at h
    · rename_i ht; exact f_isi g hC ht h ps
    · cases h
  · cases h
theorem primT_ok {p : Prim} {es : List E} {x : Expr} {xs : List Expr} (h : parts c p x = some xs) (hp : plainT x = true ∨ pCmp p = true) (ps : Ps X C R es xs) : L2.PT X x (liftB X.prog X.w X.K (wE C R (.prim p es))) := by
  have u := g.units
  rcases hp with hp | hp
  · exact pt_ofE hC (prim_ok g hC h ps) hp
  unfold parts at h
  split at h <;> first | cases hp | skip
  · exact f_cmT (p_eq (by omega)) hC h ps
  · exact f_cmT (p_ne (by omega)) hC h ps
  · exact f_cmT p_lt hC h ps
  · exact f_cmT p_le hC h ps
  · exact f_cmT p_gt hC h ps
  · exact f_cmT p_ge hC h ps
  · exact f_cmT (p_isin (by omega) (by omega)) hC h ps
  · exact f_cmT (p_notin (by omega) (by omega)) hC h ps
  · exact f_isT p_isnone (.inl rfl) hC h ps
  · exact f_isT p_notnone (.inr rfl) hC h ps
  · cases h
omit g in
theorem f_slc2 {a l u : E} {xa xl xu : Expr} {p p2 : Pos} (ha : PE X xa (liftE X.prog X.w X.K (wE C R a))) (hl : PE X xl (liftE X.prog X.w X.K (wE C R l))) (hu : PE X xu (liftE X.prog X.w X.K (wE C R u))) :
    PE X (.Subscript xa (.Slice (some xl) (some xu) none p2) p) (liftE X.prog X.w X.K (wE C R (.slc2 a l u))) := by
  refine weakE (pe_slice p_slc ha (po_some hl) (po_some hu)) fun σ H Q ⟨τ, G, H0, A, S, q⟩ => ?_
  rw [wE] at q
  refine ⟨τ, G, H0, A, S, wE_mono hC a τ G (xle R) (fun t G1 z v H01 H1 A1 s1 r1 => ⟨τ, G1, H01, A1, S.ext s1.ext, wE_mono hC l τ G1 (xle R) (fun x G2 ⟨i, e, z⟩ v2 H02 H2 A2 s2 r2 => ?_) z⟩) q⟩
  subst e
  cases r2
  refine ⟨i, rfl, τ, G2, H02, A2, (S.ext s1.ext).ext s2.ext, wE_mono hC u τ G2 (xle R) (fun y G3 ⟨j, e, z⟩ v3 H03 H3 A3 s3 r3 => ?_) z⟩
  subst e
  cases r3
  exact ⟨j, rfl, t, G3, H03, A3, (r1.ext s2.ext).ext s3.ext, slcW_mono (upE_stp ((s1.trans s2).trans s3)) z⟩
omit g in
theorem f_slcl {a l : E} {xa xl : Expr} {p p2 : Pos} (ha : PE X xa (liftE X.prog X.w X.K (wE C R a))) (hl : PE X xl (liftE X.prog X.w X.K (wE C R l))) :
    PE X (.Subscript xa (.Slice (some xl) none none p2) p) (liftE X.prog X.w X.K (wE C R (.slcl a l))) := by
  refine weakE (pe_slice p_slc ha (po_some hl) po_none) fun σ H Q ⟨τ, G, H0, A, S, q⟩ => ?_
  rw [wE] at q
  refine ⟨τ, G, H0, A, S, wE_mono hC a τ G (xle R) (fun t G1 z v H01 H1 A1 s1 r1 => ⟨τ, G1, H01, A1, S.ext s1.ext, wE_mono hC l τ G1 (xle R) (fun x G2 ⟨i, e, z⟩ v2 H02 H2 A2 s2 r2 => ?_) z⟩) q⟩
  subst e
  cases r2
  exact ⟨i, rfl, t, G2, H02, A2, r1.ext s2.ext, slcW_mono (upE_stp (s1.trans s2)) z⟩
omit g in
theorem f_slcu {a l : E} {xa xl : Expr} {p p2 : Pos} (ha : PE X xa (liftE X.prog X.w X.K (wE C R a))) (hl : PE X xl (liftE X.prog X.w X.K (wE C R l))) :
    PE X (.Subscript xa (.Slice none (some xl) none p2) p) (liftE X.prog X.w X.K (wE C R (.slcu a l))) := by
  refine weakE (pe_slice p_slc ha po_none (po_some hl)) fun σ H Q ⟨τ, G, H0, A, S, q⟩ => ?_
  rw [wE] at q
  refine ⟨τ, G, H0, A, S, wE_mono hC a τ G (xle R) (fun t G1 z v H01 H1 A1 s1 r1 => ?_) q⟩
  refine ⟨τ, G1, H01, A1, S.ext s1.ext, wE_mono hC l τ G1 (xle R) (fun x G2 ⟨i, e, z⟩ v2 H02 H2 A2 s2 r2 => ?_) z⟩
  subst e
  cases r2
  exact ⟨i, rfl, t, G2, H02, A2, r1.ext s2.ext, slcW_mono (upE_stp (s1.trans s2)) z⟩
theorem f_list {a : E} {x : Expr} {xs : List Expr} (h : pBl c "list" x = some xs) (ps : Ps X C R [a] xs) : PE X x (liftF X.prog X.w X.K (wL C R (.prim .list [a]))) := by
  obtain ⟨y, as, q1, q2, rfl, rfl, b⟩ := pBl_inv h
  obtain ⟨b1, b2, b3, b4⟩ := bltB_ok g b
  have st := ps.stars
  rw [List.all_cons, Bool.and_eq_true] at st
  exact weakE (pe_callTy (p_list g.calm) b1 b2 (by rfl) (ps.pa hC) b3 b4 (star_cons st.1) (star_any st.2)) fun σ H Q q => lLP hC q
theorem f_dcopy {a : E} {x : Expr} {xs : List Expr} (h : pBl c "dict" x = some xs) (ps : Ps X C R [a] xs) : PE X x (liftE X.prog X.w X.K (wE C R (.dcopy a))) := by
  obtain ⟨y, as, q1, q2, rfl, rfl, b⟩ := pBl_inv h
  obtain ⟨b1, b2, b3, b4⟩ := bltB_ok g b
  have st := ps.stars
  rw [List.all_cons, Bool.and_eq_true] at st
  refine weakE (pe_callTy call_dictD b1 b2 (by rfl) (ps.pa hC) b3 b4 (star_cons st.1) (star_any st.2)) fun σ H Q ⟨τ, G, H0, A, S, q⟩ => ?_
  rw [wE] at q
  refine ⟨τ, G, H0, A, S, ?_⟩
  rw [wEs]
  refine wE_mono hC a τ G (xle R) (fun t G' ⟨kvs, e, ek, z⟩ => ?_) q
  rw [wEs]
  intro vs H0' H' A' s' r
  obtain ⟨v, rfl, rv⟩ : ∃ v, vs = [v] ∧ RT X.K H0' G' t v := by
    cases r with | cons a b => cases b; exact ⟨_, rfl, a⟩
  obtain ⟨d, rfl, dd⟩ := rv.dict A' e
  have dk : ∃ kv, Rd H' d (.dK kv) ∧ Paired (fun (p : T × T) (q : Key × V) => T.key? p.1 = some q.1 ∧ RT X.K H0' G' p.2 q.2) kvs kv := by
    rcases dd with ⟨kv, k1, k2⟩ | ⟨zs, g1, g2, g3, g4⟩
    · exact ⟨kv, k1, k2⟩
    · cases g4 with
      | nil => exact absurd rfl g3
      | @cons p q kvs' zs' zz _ =>
        have k1 := List.all_eq_true.mp ek p List.mem_cons_self
        obtain ⟨j, hj⟩ := Option.isSome_iff_exists.mp k1
        have e0 : V.ref q.2.1 = kV j := RT.key zz.2.2.1 hj
        cases j <;> cases e0
  obtain ⟨kv, k1, k2⟩ := dk
  refine ⟨d, kv, rfl, k1, fun p hp => ?_⟩
  have ex : Ext G' H0' (put G' p (.dct kvs)) (upd H0' p (.dK kv)) := Ext.new (A'.off hp)
  obtain ⟨A2, s2⟩ := A'.new (u := .dK kv) (o := .dct kvs) hp (.inl ⟨kv, upd_same, Paired.mapP k2 fun a b ⟨u1, u2⟩ => ⟨u1, u2.ext ex⟩⟩)
  exact z p (A'.gnone hp) _ _ _ A2 (s'.trans s2) (.ref p)
theorem f_sorted {a : E} {x : Expr} {xs : List Expr} (h : pBl c "sorted" x = some xs) (ps : Ps X C R [a] xs) : PE X x (liftF X.prog X.w X.K (wL C R (.prim .sorted [a]))) := by
  obtain ⟨y, as, q1, q2, rfl, rfl, b⟩ := pBl_inv h
  obtain ⟨b1, b2, b3, b4⟩ := bltB_ok g b
  have st := ps.stars
  rw [List.all_cons, Bool.and_eq_true] at st
  exact weakE (pe_callB (p_sorted g.calm g.units) b1 b2 (by rfl) (ps.pa hC) b3 b4 (star_cons st.1) (star_any st.2)) fun σ H Q q => lLP hC q
theorem f_meth {p : Prim} {n : Nat} {o : E} {es : List E} {x xo : Expr} {xs : List Expr} (h : pMeth p n x = some (xo, xs)) (ho : PE X xo (liftE X.prog X.w X.K (wE C R o))) (ps : Ps X C R es xs) : PE X x (liftE X.prog X.w X.K (wE C R (.meth p o es))) := by
  have u := g.units
  obtain ⟨T, m, id, apos, cpos, a, as, e, rfl, rfl, h1, h2, h3⟩ := pMeth_inv h
  unfold mtOf at e
  split at e <;> cases e
  · exact f_meth1 hC (tyL_ok (p := .append) fun t G z => z) F.plainAttrs_list F.slot_list_append F.type_list_append p_append ho ps h1 h2 h3
  · exact f_meth1 hC (tyL_ok (p := .extend) fun t G z => z) F.plainAttrs_list F.slot_list_extend F.type_list_extend p_extend ho ps h1 h2 h3
  · exact f_meth1 hC (tyL_ok (p := .index) fun t G z => z) F.plainAttrs_list F.slot_list_index F.type_list_index (p_index (by omega)) ho ps h1 h2 h3
  · exact f_meth1 hC (tyD_ok (p := .get1) fun t G z => z) F.plainAttrs_dict F.slot_dict_get F.type_dict_get (p_get1 (by omega)) ho ps h1 h2 h3
  · exact f_meth1 hC (tyD_ok (p := .get2) fun t G z => z) F.plainAttrs_dict F.slot_dict_get F.type_dict_get (p_get2 (by omega)) ho ps h1 h2 h3
end
end EV

/-! EV15: and, or, not, if; dict displays; the reader of expressions. -/
namespace EV
open PySem PySem.Spec PyProof.Rows L2

section
variable {X : Cx} {C : Calls} {R : XQ} (hC : CLe C C)
theorem pt_ite {c a b : Expr} {pos : Pos} {tc ta tb : TT} (hc : L2.PT X c tc) (ha : L2.PT X a ta) (hb : L2.PT X b tb) : L2.PT X (.IfExp c a b pos) (fun σ H Q => tc σ H fun k H1 => if k = true then ta σ H1 Q else tb σ H1 Q) := by
  refine ⟨fun pins s σ H Q I h => ?_⟩
  show wpAny _ X.A (isTrue c X.env (eval c X.env) >>= fun b' => if b' = true then isTrue a X.env (eval a X.env) else isTrue b X.env (eval b X.env)) _ _ s
  refine wpAny_bind (thn (hc.run pins s σ H _ I h) fun k s1 ⟨H1, I1, q1⟩ => ?_)
  cases k with
  | true => exact ha.run pins s1 σ H1 Q I1 q1
  | false => exact hb.run pins s1 σ H1 Q I1 q1
theorem pw_of {op : BoolOp} {xs : List Expr} {pos : Pos} {t : TT} (h : L2.PT X (.BoolOp op xs pos) t) : L2.PW X (.BoolOp op xs pos) t := ⟨fun whole pins s σ H Q I q => h.run pins s σ H Q I q⟩
include hC
theorem l_and {a b : E} {σ : L2.St} {H : Hp} {Q : VK} (q : liftE X.prog X.w X.K (wE C R (.and a b)) σ H Q) : tAndV (liftE X.prog X.w X.K (wE C R a)) (liftE X.prog X.w X.K (wE C R b)) σ H Q := by
  obtain ⟨τ, G, H0, A, S, q⟩ := q
  rw [wE] at q
  refine ⟨τ, G, H0, A, S, wE_mono hC a τ G (xle R) (fun t G' z v H0' H' A' s' r => ?_) q⟩
  split at z
  · cases r
    refine ⟨true, rfl, ?_⟩
    rw [if_pos rfl]
    exact ⟨τ, G', H0', A', S.ext s'.ext, wE_mono hC b τ G' (xle R) (upE_stp s') z⟩
  · cases r
    refine ⟨false, rfl, ?_⟩
    rw [if_neg (by decide)]
    exact z _ _ _ A' s' (.bl false)
  · exact z.elim
theorem l_or {a b : E} {σ : L2.St} {H : Hp} {Q : VK} (q : liftE X.prog X.w X.K (wE C R (.or a b)) σ H Q) : tOrV (liftE X.prog X.w X.K (wE C R a)) (liftE X.prog X.w X.K (wE C R b)) σ H Q := by
  obtain ⟨τ, G, H0, A, S, q⟩ := q
  rw [wE] at q
  refine ⟨τ, G, H0, A, S, wE_mono hC a τ G (xle R) (fun t G' z v H0' H' A' s' r => ?_) q⟩
  split at z
  · cases r
    refine ⟨true, rfl, ?_⟩
    rw [if_pos rfl]
    exact z _ _ _ A' s' (.bl true)
  · cases r
    refine ⟨false, rfl, ?_⟩
    rw [if_neg (by decide)]
    exact ⟨τ, G', H0', A', S.ext s'.ext, wE_mono hC b τ G' (xle R) (upE_stp s') z⟩
  · exact z.elim
theorem l_not {a : E} {σ : L2.St} {H : Hp} {Q : VK} (q : liftE X.prog X.w X.K (wE C R (.not a)) σ H Q) : tNotV (liftE X.prog X.w X.K (wE C R a)) σ H Q := by
  obtain ⟨τ, G, H0, A, S, q⟩ := q
  rw [wE] at q
  refine ⟨τ, G, H0, A, S, wE_mono hC a τ G (xle R) (fun t G' z v H0' H' A' s' r => ?_) q⟩
  split at z
  · cases r
    exact ⟨_, rfl, z _ _ _ A' s' (.bl _)⟩
  · exact z.elim
theorem l_ite {c a b : E} {σ : L2.St} {H : Hp} {Q : VK} (q : liftE X.prog X.w X.K (wE C R (.ite c a b)) σ H Q) : tIf (liftB X.prog X.w X.K (wE C R c)) (liftE X.prog X.w X.K (wE C R a)) (liftE X.prog X.w X.K (wE C R b)) σ H Q := by
  obtain ⟨τ, G, H0, A, S, q⟩ := q
  rw [wE] at q
  refine ⟨τ, G, H0, A, S, wE_mono hC c τ G (xle R) (fun t G' z => ?_) q⟩
  split at z
  · refine ⟨true, rfl, fun H0' H' A' s' => ?_⟩
    show if (true = true) then _ else _
    rw [if_pos rfl]
    exact ⟨τ, G', H0', A', S.ext s'.ext, wE_mono hC a τ G' (xle R) (upE_stp s') z⟩
  · refine ⟨false, rfl, fun H0' H' A' s' => ?_⟩
    show if (false = true) then _ else _
    rw [if_neg (by decide)]
    exact ⟨τ, G', H0', A', S.ext s'.ext, wE_mono hC b τ G' (xle R) (upE_stp s') z⟩
  · exact z.elim
omit hC in
theorem upB_stp {P : Program} {w : World} {K : PySem.W.Frag} {G G1 : GH} {H0 H H01 H1 : Hp} {Q : Bool → Hp → Prop} (s : Stp G H0 H G1 H01 H1) :
    QLe (fun t G' => ∃ b, t = T.bl b ∧ ∀ H0' H', At P w K G' H0' H' → Stp G H0 H G' H0' H' → Q b H') (fun t G' => ∃ b, t = T.bl b ∧ ∀ H0' H', At P w K G' H0' H' → Stp G1 H01 H1 G' H0' H' → Q b H') := fun t G' ⟨b, e, z⟩ => ⟨b, e, fun H0' H' A s' => z H0' H' A (s.trans s')⟩
theorem t_and {a b : E} {σ : L2.St} {H : Hp} {Q : Bool → Hp → Prop} (q : liftB X.prog X.w X.K (wE C R (.and a b)) σ H Q) : tAnd (liftB X.prog X.w X.K (wE C R a)) (liftB X.prog X.w X.K (wE C R b)) σ H Q := by
  obtain ⟨τ, G, H0, A, S, q⟩ := q
  rw [wE] at q
  refine ⟨τ, G, H0, A, S, wE_mono hC a τ G (xle R) (fun t G' z => ?_) q⟩
  split at z
  · refine ⟨true, rfl, fun H0' H' A' s' => ?_⟩
    show if (true = true) then _ else _
    rw [if_pos rfl]
    exact ⟨τ, G', H0', A', S.ext s'.ext, wE_mono hC b τ G' (xle R) (upB_stp s') z⟩
  · obtain ⟨b', e, z⟩ := z
    cases e
    exact ⟨false, rfl, fun H0' H' A' s' => by show if (false = true) then _ else _; rw [if_neg (by decide)]; exact z _ _ A' s'⟩
  · exact z.elim
theorem t_or {a b : E} {σ : L2.St} {H : Hp} {Q : Bool → Hp → Prop} (q : liftB X.prog X.w X.K (wE C R (.or a b)) σ H Q) : tOr (liftB X.prog X.w X.K (wE C R a)) (liftB X.prog X.w X.K (wE C R b)) σ H Q := by
  obtain ⟨τ, G, H0, A, S, q⟩ := q
  rw [wE] at q
  refine ⟨τ, G, H0, A, S, wE_mono hC a τ G (xle R) (fun t G' z => ?_) q⟩
  split at z
  · obtain ⟨b', e, z⟩ := z
    cases e
    exact ⟨true, rfl, fun H0' H' A' s' => by show if (true = true) then _ else _; rw [if_pos rfl]; exact z _ _ A' s'⟩
  · refine ⟨false, rfl, fun H0' H' A' s' => ?_⟩
    show if (false = true) then _ else _
    rw [if_neg (by decide)]
    exact ⟨τ, G', H0', A', S.ext s'.ext, wE_mono hC b τ G' (xle R) (upB_stp s') z⟩
  · exact z.elim
theorem t_not {a : E} {σ : L2.St} {H : Hp} {Q : Bool → Hp → Prop} (q : liftB X.prog X.w X.K (wE C R (.not a)) σ H Q) : tNot (liftB X.prog X.w X.K (wE C R a)) σ H Q := by
  obtain ⟨τ, G, H0, A, S, q⟩ := q
  rw [wE] at q
  refine ⟨τ, G, H0, A, S, wE_mono hC a τ G (xle R) (fun t G' z => ?_) q⟩
  split at z
  · obtain ⟨b', e, z⟩ := z
    cases e
    exact ⟨_, rfl, fun H0' H' A' s' => z _ _ A' s'⟩
  · exact z.elim
theorem t_ite {c a b : E} {σ : L2.St} {H : Hp} {Q : Bool → Hp → Prop} (q : liftB X.prog X.w X.K (wE C R (.ite c a b)) σ H Q) :
    liftB X.prog X.w X.K (wE C R c) σ H fun k H1 => if k = true then liftB X.prog X.w X.K (wE C R a) σ H1 Q else liftB X.prog X.w X.K (wE C R b) σ H1 Q := by
  obtain ⟨τ, G, H0, A, S, q⟩ := q
  rw [wE] at q
  refine ⟨τ, G, H0, A, S, wE_mono hC c τ G (xle R) (fun t G' z => ?_) q⟩
  split at z
  · refine ⟨true, rfl, fun H0' H' A' s' => ?_⟩
    show if (true = true) then _ else _
    rw [if_pos rfl]
    exact ⟨τ, G', H0', A', S.ext s'.ext, wE_mono hC a τ G' (xle R) (upB_stp s') z⟩
  · refine ⟨false, rfl, fun H0' H' A' s' => ?_⟩
    show if (false = true) then _ else _
    rw [if_neg (by decide)]
    exact ⟨τ, G', H0', A', S.ext s'.ext, wE_mono hC b τ G' (xle R) (upB_stp s') z⟩
  · exact z.elim
/-! ### chains of two comparisons -/
def cmOf : Prim → Option CmpOp
  | .eq => some .Eq
  | .ne => some .NotEq
  | .lt => some .Lt
  | .le => some .LtE
  | .gt => some .Gt
  | .ge => some .GtE
  | _ => none
omit hC in
theorem cm_ok {p : Prim} {o : CmpOp} (hu : X.A.units + 80 < cLine) (h : cmOf p = some o) : OpR X (compareOp o) (fun x y H Q => rP X.prog X.w X.K p [x, y] H Q) := by
  unfold cmOf at h
  split at h <;> cases h
  · exact p_eq (by omega)
  · exact p_ne (by omega)
  · exact p_lt
  · exact p_le
  · exact p_gt
  · exact p_ge
theorem l_chain {p q' : Prim} {a b c : E} {σ : L2.St} {H : Hp} {Q : VK} (q : liftE X.prog X.w X.K (wE C R (.chain p q' a b c)) σ H Q) :
    tChain (fun x y H Q => rP X.prog X.w X.K p [x, y] H Q) (fun x y H Q => rP X.prog X.w X.K q' [x, y] H Q) (liftE X.prog X.w X.K (wE C R a)) (liftE X.prog X.w X.K (wE C R b)) (liftE X.prog X.w X.K (wE C R c)) σ H Q := by
  obtain ⟨τ, G, H0, A, S, q⟩ := q
  rw [wE] at q
  refine ⟨τ, G, H0, A, S, wE_mono hC a τ G (xle R) (fun x G1 z v1 H01 H1 A1 s1 r1 => ⟨τ, G1, H01, A1, S.ext s1.ext, wE_mono hC b τ G1 (xle R) (fun y G2 z v2 H02 H2 A2 s2 r2 => ?_) z⟩) q⟩
  refine ⟨[x, y], G2, H02, A2, .cons (r1.ext s2.ext) (.one r2), p.mono _ G2 (fun t G3 z v3 H03 H3 A3 s3 r3 => ?_) z⟩
  split at z
  · cases r3
    refine ⟨true, rfl, ?_⟩
    rw [if_pos rfl]
    refine ⟨τ, G3, H03, A3, ((S.ext s1.ext).ext s2.ext).ext s3.ext, wE_mono hC c τ G3 (xle R) (fun u G4 z v4 H04 H4 A4 s4 r4 => ?_) z⟩
    exact ⟨[y, u], G4, H04, A4, .cons ((r2.ext s3.ext).ext s4.ext) (.one r4), q'.mono _ G4 (upE_stp (((s1.trans s2).trans s3).trans s4)) z⟩
  · cases r3
    refine ⟨false, rfl, ?_⟩
    rw [if_neg (by decide)]
    exact z _ _ _ A3 ((s1.trans s2).trans s3) (.bl false)
  · exact z.elim
def pChain (p q : Prim) : Expr → Option (Expr × Expr × Expr)
  | .Compare a [o, o'] [b, c] _ => if cmOf p = some o ∧ cmOf q = some o' ∧ lastMarks [o, o'] [b, c] = false then some (a, b, c) else none
  | _ => none
omit hC in
theorem pChain_inv {p q : Prim} {x a b c : Expr} (h : pChain p q x = some (a, b, c)) : ∃ o o' ps, x = .Compare a [o, o'] [b, c] ps ∧ cmOf p = some o ∧ cmOf q = some o' ∧ lastMarks [o, o'] [b, c] = false := by
  unfold pChain at h
  split at h
  · split at h
    · rename_i e; cases h; exact ⟨_, _, _, rfl, e⟩
    · cases h
  · cases h
theorem f_chain {p q : Prim} {a b c : E} {x xa xb xc : Expr} (hu : X.A.units + 80 < cLine) (h : pChain p q x = some (xa, xb, xc)) (ha : PE X xa (liftE X.prog X.w X.K (wE C R a))) (hb : PE X xb (liftE X.prog X.w X.K (wE C R b))) (hc : PE X xc (liftE X.prog X.w X.K (wE C R c))) :
    PE X x (liftE X.prog X.w X.K (wE C R (.chain p q a b c))) ∧ L2.PT X x (liftB X.prog X.w X.K (wE C R (.chain p q a b c))) := by
  obtain ⟨o, o', ps, rfl, h1, h2, h3⟩ := pChain_inv h
  exact ⟨weakE (pe_chain (cm_ok hu h1) (cm_ok hu h2) ha hb hc h3) fun σ H Q q => l_chain hC q,
    weakT (pt_chain (cm_ok hu h1) (cm_ok hu h2) ha hb hc h3) fun σ H Q q => l_chain hC (lT (fun τ G Q Q' hq => wE_mono hC _ τ G (xle R) hq) q)⟩
/-! ### dict displays -/
omit hC in
theorem mergeK_new : ∀ (kvs acc : List (Key × V)), ((acc ++ kvs).map (·.1)).Nodup → mergeK acc kvs = acc ++ kvs
  | [], acc, _ => by simp [mergeK]
  | p :: r, acc, h => by
    have e : putK acc p.1 p.2 = acc ++ [p] := by
      unfold putK
      have hn : ∀ q ∈ acc, ¬ q.1 = p.1 := by
        intro q hq z
        rw [List.map_append, List.nodup_append] at h
        exact h.2.2 q.1 (List.mem_map_of_mem hq) p.1 (by simp) z
      have : acc.any (fun q => decide (q.1 = p.1)) = false := by
        rw [List.any_eq_false]
        intro q hq
        simpa using hn q hq
      simp [this]
    show mergeK (putK acc p.1 p.2) r = _
    rw [e, mergeK_new r (acc ++ [p]) (by simpa using h)]
    simp
theorem l_pairs : ∀ {es : List E} {ks : List Str} {σ : L2.St} {H : Hp} {Q : List (V × V) → Hp → Prop}, ks.length = es.length → liftL X.prog X.w X.K (wEs C R es) σ H (fun vs H' => Q ((ks.map V.str).zip vs) H') →
    tPairs (dTrs (es.map fun e => liftE X.prog X.w X.K (wE C R e)) ks) σ H Q
  | [], [], σ, H, Q, _, q => lEs_nil hC q
  | e :: es, k :: ks, σ, H, Q, hl, q => lE_mono hC (lEs_cons hC q) fun v H1 z => l_pairs (Q := fun ps H' => Q ((.str k, v) :: ps) H') (by simpa using hl) z
  | [], _ :: _, _, _, _, hl, _ => by simp at hl
  | _ :: _, [], _, _, _, hl, _ => by simp at hl
omit hC in
theorem Ps.psd {es : List E} {xs : List Expr} (h : Ps X C R es xs) : PsD X (es.map fun e => liftE X.prog X.w X.K (wE C R e)) xs := by
  induction h with
  | nil => exact .nil
  | cons a _ _ ih => exact .cons a ih
omit hC in
theorem Ps.length {es : List E} {xs : List Expr} (h : Ps X C R es xs) : es.length = xs.length := by
  induction h with
  | nil => rfl
  | cons _ _ _ ih => simp [ih]
omit hC in
theorem zip_keys : ∀ {ks : List Str} {vs : List V}, (ks.map V.str).zip vs = (((ks.map fun k => (Sum.inr k : Key)).zip vs).map fun kv => (kV kv.1, kv.2))
  | [], _ => by simp
  | _ :: _, [] => by simp
  | k :: ks, v :: vs => by simp only [List.map_cons, List.zip_cons_cons]; rw [zip_keys]; rfl
omit hC in
theorem zip_rel {K : PySem.W.Frag} {H : Hp} {G : GH} : ∀ {ks : List Str} {ts : List T} {vs : List V}, RTs K H G ts vs →
    Paired (fun (p : T × T) (q : Key × V) => T.key? p.1 = some q.1 ∧ RT K H G p.2 q.2) (dzip ks ts) ((ks.map fun k => (Sum.inr k : Key)).zip vs)
  | [], _, _, _ => by simp [dzip]; exact .nil
  | _ :: _, _, _, .nil => by simp [dzip]; exact .nil
  | k :: ks, _, _, .cons a b => by
    simp only [dzip, List.map_cons, List.zip_cons_cons]
    exact .cons ⟨rfl, a⟩ (zip_rel b)
theorem f_dict {ks : List Str} {keys : List (Option Expr)} {es : List E} {xs : List Expr} {pos : Pos} (h : pDict ks keys = true) (hn : ks.Nodup) (h0 : ks ≠ []) (h15 : ks.length ≤ 15) (hl : ks.length = es.length) (ps : Ps X C R es xs) :
    PE X (.Dict keys xs pos) (liftE X.prog X.w X.K (wE C R (.dict ks es))) := by
  have hl2 := ps.length
  obtain ⟨p1, p2, p3⟩ := pps_of (pos := pos) h ps.psd (by omega)
  refine weakE (pe_disp p1 p2 (by omega) (fun z => h0 (List.length_eq_zero_iff.mp (by rw [← p3, z]; rfl))) (by omega)) fun σ H Q ⟨τ, G, H0, A, S, q⟩ p hp => l_pairs hC hl ?_
  rw [wE] at q
  have h0p := A.off hp
  refine ⟨τ, G, H0, A.raw h0p, S, wEs_mono hC es τ G (xle R) (fun ts G' ⟨z1, z2, z3⟩ vs H0' H' A' s' r => ?_) q⟩
  obtain ⟨hp', h0p'⟩ := s'.fr p _ upd_same h0p
  have gp : G' p = none := A'.rel.free h0p'
  have hlen : ts.length = vs.length := r.length
  refine ⟨hp', _, zip_keys, by simp; omega, ?_⟩
  have hk : (((ks.map fun k => (Sum.inr k : Key)).zip vs).map (·.1)).Nodup := by
    have e : ((ks.map fun k => (Sum.inr k : Key)).zip vs).map (·.1) = ks.map fun k => (Sum.inr k : Key) := by
      rw [List.map_fst_zip]; simp; omega
    rw [e]
    exact hn.map _ (fun a b => by intro z; exact fun e => z (by cases e; rfl))
  rw [mergeK_new _ [] (by simpa using hk), List.nil_append]
  generalize hkv : (ks.map fun k => (Sum.inr k : Key)).zip vs = kvs at *
  have ex : Ext G' H0' (put G' p (.dct (dzip ks ts))) (upd H0' p (.dK kvs)) := Ext.new h0p'
  have rr : Paired (fun (p : T × T) (q : Key × V) => T.key? p.1 = some q.1 ∧ RT X.K H0' G' p.2 q.2) (dzip ks ts) kvs := by rw [← hkv]; exact zip_rel r
  refine z3 p gp _ (upd H0' p (.dK kvs)) _ ⟨fun a o e => ?_, A'.rel.put ex (.inl ⟨kvs, upd_same, Paired.mapP rr fun a b ⟨u1, u2⟩ => ⟨u1, u2.ext ex⟩⟩)⟩ ⟨s'.ext.trans ex, fun a o e1 e2 => ?_, fun a e => ?_⟩ (.ref p)
  · by_cases ha : a = p
    · subst ha; rw [upd_same] at e ⊢; exact e
    · rw [upd_ne ha] at e ⊢; exact A'.sub a o e
  · have ne : a ≠ p := ne_of_none e1 hp
    obtain ⟨k1, k2⟩ := s'.fr a o (by rw [upd_ne ne]; exact e1) e2
    exact ⟨by rw [upd_ne ne]; exact k1, by rw [upd_ne ne]; exact k2⟩
  · exact gr_upd a (s'.gr a (gr_upd a e))
end
end EV

/-! EV16: the reader of expressions. -/
namespace EV
open PySem PySem.Spec PyProof.Rows L2

def pTup : Expr → Option (List Expr)
  | .Tuple xs _ _ => some xs
  | _ => none
theorem pTup_inv {x : Expr} {xs : List Expr} (h : pTup x = some xs) : ∃ n p, x = .Tuple xs n p := by
  unfold pTup at h; split at h <;> cases h; exact ⟨_, _, rfl⟩
def pLst : Expr → Option (List Expr)
  | .List xs _ => some xs
  | _ => none
theorem pLst_inv {x : Expr} {xs : List Expr} (h : pLst x = some xs) : ∃ p, x = .List xs p := by
  unfold pLst at h; split at h <;> cases h; exact ⟨_, rfl⟩
def pBop (o : BoolOp) : Expr → Option (Expr × Expr)
  | .BoolOp o' (a :: b :: r) p => if o' = o then some (a, match r with | [] => b | _ => .BoolOp o (b :: r) p) else none
  | _ => none
theorem pBop_inv {o : BoolOp} {x a y : Expr} (h : pBop o x = some (a, y)) : ∃ b r p, x = .BoolOp o (a :: b :: r) p ∧ ((r = [] ∧ y = b) ∨ (r ≠ [] ∧ y = .BoolOp o (b :: r) p)) := by
  unfold pBop at h
  split at h
  · split at h
    · rename_i r _ e
      subst e
      cases r with
      | nil => cases h; exact ⟨_, _, _, rfl, .inl ⟨rfl, rfl⟩⟩
      | cons u v => cases h; exact ⟨_, _, _, rfl, .inr ⟨by simp, rfl⟩⟩
    · cases h
  · cases h
def pNot : Expr → Option Expr
  | .UnaryOp .Not a _ => some a
  | _ => none
theorem pNot_inv {x a : Expr} (h : pNot x = some a) : ∃ p, x = .UnaryOp .Not a p := by
  unfold pNot at h; split at h <;> cases h; exact ⟨_, rfl⟩
def pIte : Expr → Option (Expr × Expr × Expr)
  | .IfExp c a b _ => some (c, a, b)
  | _ => none
theorem pIte_inv {x c a b : Expr} (h : pIte x = some (c, a, b)) : ∃ p, x = .IfExp c a b p := by
  unfold pIte at h; split at h <;> cases h; exact ⟨_, rfl⟩
def pS2 : Expr → Option (Expr × Expr × Expr)
  | .Subscript a (.Slice (some l) (some u) none _) _ => some (a, l, u)
  | _ => none
theorem pS2_inv {x c a b : Expr} (h : pS2 x = some (c, a, b)) : ∃ p q, x = .Subscript c (.Slice (some a) (some b) none p) q := by
  unfold pS2 at h; split at h <;> cases h; exact ⟨_, _, rfl⟩
def pSl : Expr → Option (Expr × Expr)
  | .Subscript a (.Slice (some l) none none _) _ => some (a, l)
  | _ => none
theorem pSl_inv {x c a : Expr} (h : pSl x = some (c, a)) : ∃ p q, x = .Subscript c (.Slice (some a) none none p) q := by
  unfold pSl at h; split at h <;> cases h; exact ⟨_, _, rfl⟩
def pSu : Expr → Option (Expr × Expr)
  | .Subscript a (.Slice none (some l) none _) _ => some (a, l)
  | _ => none
theorem pSu_inv {x c a : Expr} (h : pSu x = some (c, a)) : ∃ p q, x = .Subscript c (.Slice none (some a) none p) q := by
  unfold pSu at h; split at h <;> cases h; exact ⟨_, _, rfl⟩
def pDnew : Expr → Bool
  | .Dict [] [] _ => true
  | _ => false
theorem pDnew_inv {x : Expr} (h : pDnew x = true) : ∃ p, x = .Dict [] [] p := by
  unfold pDnew at h; split at h <;> first | exact ⟨_, rfl⟩ | cases h
def pDisp (ks : List Str) : Expr → Option (List Expr)
  | .Dict keys xs _ => if pDict ks keys = true ∧ ks.Nodup ∧ ks ≠ [] ∧ ks.length ≤ 15 ∧ ks.length = xs.length then some xs else none
  | _ => none
theorem pDisp_inv {ks : List Str} {x : Expr} {xs : List Expr} (h : pDisp ks x = some xs) : ∃ keys p, x = .Dict keys xs p ∧ pDict ks keys = true ∧ ks.Nodup ∧ ks ≠ [] ∧ ks.length ≤ 15 ∧ ks.length = xs.length := by
  unfold pDisp at h
  split at h
  · split at h
    · rename_i e; cases h; exact ⟨_, _, rfl, e⟩
    · cases h
  · cases h
/-- a comprehension of one clause: what it gives, its target, what it walks, its tests, its scope -/
def pComp : Expr → Option (Expr × Expr × Expr × List Expr × Scope)
  | .ListComp elt [⟨t, iter, ifs, a⟩] scope _ => if a = 0 then some (elt, t, iter, ifs, scope) else none
  | _ => none
theorem pComp_inv {x elt t iter : Expr} {ifs : List Expr} {scope : Scope} (h : pComp x = some (elt, t, iter, ifs, scope)) : ∃ p, x = .ListComp elt [⟨t, iter, ifs, 0⟩] scope p := by
  unfold pComp at h
  split at h
  · split at h
    · rename_i e; subst e; cases h; exact ⟨_, rfl⟩
    · cases h
  · cases h
def noSet : Expr → Bool
  | .Set .. => false
  | _ => true
theorem folded {e : Expr} {env : Env} (h : noSet e = true) : ∀ x, foldedSetIterable e env x = pure x := by
  intro x
  cases e <;> first | rfl | cases h
def ownOf (c : Ct) (vs : List Nat) : List (Str × Nat) := vs.map fun i => ((c.N[i]?).getD "", i)
theorem ownOf_snd (c : Ct) (vs : List Nat) : (ownOf c vs).map (·.2) = vs := by
  unfold ownOf; rw [List.map_map]; exact List.map_id _
def isYes : E → Bool
  | .cst t => decide (t = .bl true)
  | _ => false
theorem isYes_ok {e : E} (h : isYes e = true) : e = .cst (.bl true) := by
  unfold isYes at h
  split at h
  · rw [decide_eq_true_eq] at h; rw [h]
  · cases h
def isTupX : Expr → Bool
  | .Tuple .. => true
  | _ => false
theorem isTupX_inv {x : Expr} (h : isTupX x = true) : ∃ es n p, x = .Tuple es n p := by
  unfold isTupX at h; split at h <;> first | exact ⟨_, _, _, rfl⟩ | cases h
def itTg (it : I) (t : Expr) : Bool := match it with
  | .items _ => isTupX t
  | _ => true
/-- a call of a method without arguments -/
def pM0 (m : Str) : Expr → Option Expr
  | .Call (.Attribute o n apos) [] [] cpos => if n = m ∧ noCall o = true ∧ (apos.endLine == cpos.line) = true then some o else none
  | _ => none
theorem pM0_inv {m : Str} {x o : Expr} (h : pM0 m x = some o) : ∃ apos cpos, x = .Call (.Attribute o m apos) [] [] cpos ∧ noCall o = true ∧ (apos.endLine == cpos.line) = true := by
  unfold pM0 at h
  split at h
  · split at h
    · rename_i e
      obtain ⟨e1, e2, e3⟩ := e
      subst e1; cases h
      exact ⟨_, _, rfl, e2, e3⟩
    · cases h
  · cases h
def lprimOf (c : Ct) (p : LPrim) (x : Expr) : Option (List Expr) := match p with
  | .sorted => pBl c "sorted" x
  | .list => pBl c "list" x
  | _ => none
mutual
def chkE (c : Ct) (tst : Bool) : E → Expr → Bool
  | .var i, x => pVar c i x
  | .cst t, x => pCst c t x
  | .tup es, x => !tst && (match pTup x with
    | some xs => chkEs c es xs
    | none => false)
  | .prim p es, x => (!tst || plainT x || pCmp p) && (match parts c p x with
    | some xs => chkEs c es xs
    | none => false)
  | .and a b, x => match pBop .And x with
    | some (y, z) => chkE c tst a y && chkE c tst b z
    | none => false
  | .or a b, x => match pBop .Or x with
    | some (y, z) => chkE c tst a y && chkE c tst b z
    | none => false
  | .not a, x => match pNot x with
    | some y => chkE c tst a y
    | none => false
  | .ite t a b, x => match pIte x with
    | some (y, u, v) => chkE c true t y && chkE c tst a u && chkE c tst b v
    | none => false
  | .call f es, x => match pFun c f x with
    | some xs => chkEs c es xs
    | none => false
  | .meth p o es, x => plainT x && (match pMeth p 0 x with
    | some (y, xs) => chkE c false o y && chkEs c es xs
    | none => false)
  | .slc2 a l u, x => !tst && (match pS2 x with
    | some (y, z, v) => chkE c false a y && chkE c false l z && chkE c false u v
    | none => false)
  | .slcl a l, x => !tst && (match pSl x with
    | some (y, z) => chkE c false a y && chkE c false l z
    | none => false)
  | .slcu a l, x => !tst && (match pSu x with
    | some (y, z) => chkE c false a y && chkE c false l z
    | none => false)
  | .tmp l, x => !tst && chkL c l x
  | .own l, x => !tst && chkL c l x
  | .chain p q a b d, x => match pChain p q x with
    | some (y, z, v) => chkE c false a y && chkE c false b z && chkE c false d v
    | none => false
  | .dcopy e, x => !tst && (match pBl c "dict" x with
    | some [y] => chkE c false e y && noStar y
    | _ => false)
  | .dnew, x => !tst && pDnew x
  | .dict ks es, x => !tst && (match pDisp ks x with
    | some xs => chkEs c es xs
    | none => false)
  | .fld o f, x => false
def chkEs (c : Ct) : List E → List Expr → Bool
  | [], [] => true
  | e :: es, x :: xs => chkE c false e x && noStar x && chkEs c es xs
  | _, _ => false
def chkL (c : Ct) : L → Expr → Bool
  | .disp es, x => match pLst x with
    | some xs => chkEs c es xs
    | none => false
  | .prim p es, x => match lprimOf c p x with
    | some xs => decide (es.length = 1) && chkEs c es xs
    | none => false
  | .comp e tg vs it cnd, x => match pComp x with
    | some (elt, t, iter, ifs, scope) => blkC c.N c.sc scope (ownOf c vs) && (chkI c it iter && itTg it t) && chkG (c.blk scope) vs tg t && noSet iter && chkE (c.blk scope) false e elt && (match ifs with
      | [] => isYes cnd
      | [y] => chkE (c.blk scope) true cnd y
      | _ => false)
    | none => false
def chkI (c : Ct) : I → Expr → Bool
  | .val e, x => chkE c false e x && noSet x
  | .rng1 a, x => match pBl c "range" x with
    | some [y] => chkE c false a y && noStar y
    | _ => false
  | .rng2 a b, x => match pBl c "range" x with
    | some [y, z] => chkE c false a y && noStar y && chkE c false b z && noStar z
    | _ => false
  | .keys e, x => chkE c false e x && noSet x
  | .vals e, x => match pM0 "values" x with
    | some o => chkE c false e o
    | none => false
  | .items e, x => match pM0 "items" x with
    | some o => chkE c false e o
    | none => false
end
section
variable {X : Cx} {c : Ct} {C : Calls} {k : Nat} (hC : CLe C C)
include hC
theorem f_and {R : XQ} {a b : E} {x y z : Expr} (h : pBop .And x = some (y, z)) (ha : PE X y (liftE X.prog X.w X.K (wE C R a))) (hb : PE X z (liftE X.prog X.w X.K (wE C R b))) : PE X x (liftE X.prog X.w X.K (wE C R (.and a b))) := by
  obtain ⟨u, r, p, rfl, ⟨rfl, rfl⟩ | ⟨_, rfl⟩⟩ := pBop_inv h
  · exact weakE (pe_and ha (pe_one hb)) fun σ H Q q => l_and hC q
  · exact weakE (pe_and ha hb) fun σ H Q q => l_and hC q
theorem f_or {R : XQ} {a b : E} {x y z : Expr} (h : pBop .Or x = some (y, z)) (ha : PE X y (liftE X.prog X.w X.K (wE C R a))) (hb : PE X z (liftE X.prog X.w X.K (wE C R b))) : PE X x (liftE X.prog X.w X.K (wE C R (.or a b))) := by
  obtain ⟨u, r, p, rfl, ⟨rfl, rfl⟩ | ⟨_, rfl⟩⟩ := pBop_inv h
  · exact weakE (pe_or ha (pe_one hb)) fun σ H Q q => l_or hC q
  · exact weakE (pe_or ha hb) fun σ H Q q => l_or hC q
theorem f_andT {R : XQ} {a b : E} {x y z : Expr} (h : pBop .And x = some (y, z)) (ha : L2.PT X y (liftB X.prog X.w X.K (wE C R a))) (hb : L2.PT X z (liftB X.prog X.w X.K (wE C R b))) : L2.PT X x (liftB X.prog X.w X.K (wE C R (.and a b))) := by
  obtain ⟨u, r, p, rfl, ⟨rfl, rfl⟩ | ⟨_, rfl⟩⟩ := pBop_inv h
  · exact weakT (pw_and ha (pw_and1 hb)).pt fun σ H Q q => t_and hC q
  · exact weakT (pw_and ha (pw_of hb)).pt fun σ H Q q => t_and hC q
theorem f_orT {R : XQ} {a b : E} {x y z : Expr} (h : pBop .Or x = some (y, z)) (ha : L2.PT X y (liftB X.prog X.w X.K (wE C R a))) (hb : L2.PT X z (liftB X.prog X.w X.K (wE C R b))) : L2.PT X x (liftB X.prog X.w X.K (wE C R (.or a b))) := by
  obtain ⟨u, r, p, rfl, ⟨rfl, rfl⟩ | ⟨_, rfl⟩⟩ := pBop_inv h
  · exact weakT (pw_or ha (pw_or1 hb)).pt fun σ H Q q => t_or hC q
  · exact weakT (pw_or ha (pw_of hb)).pt fun σ H Q q => t_or hC q
end
/-- what is given of a comprehension that was read -/
structure LcOk (X : Cx) (C : Calls) (e : E) (tg : Tg) (vs : List Nat) (it : I) (cnd : E) (elt t iter : Expr) (ifs : List Expr) (scope : Scope) (own : List (Str × Nat)) (wi : TI) (lk : Bool) : Prop where
  sl : own.map (·.2) = vs
  blk : BlkOk X.N X.env.scope scope own
  pi : PI X t iter wi
  red : ∀ σ H Q, liftF X.prog X.w X.K (wL C noX (.comp e tg vs it cnd)) σ H Q → (match lk with
    | true => tLockE (tLc wi (liftG X.prog X.w X.K vs (Tg.wp tg)) (liftB X.prog X.w X.K (wE C noX cnd)) (liftE X.prog X.w X.K (wE C noX e)) vs)
    | false => tLc wi (liftG X.prog X.w X.K vs (Tg.wp tg)) (liftB X.prog X.w X.K (wE C noX cnd)) (liftE X.prog X.w X.K (wE C noX e)) vs) σ H Q
  tg : ∀ (s : Shared) (H : Hp) (A : Addr) (cl : List (Str × Addr)) (fp : List Addr), PG (X.blk s H scope (compEnvC scope cl A X.env) fp) t (liftG X.prog X.w X.K vs (Tg.wp tg))
  ts : ∀ (s : Shared) (H : Hp) (A : Addr) (cl : List (Str × Addr)) (fp : List Addr), L2.PTs (X.blk s H scope (compEnvC scope cl A X.env) fp) ifs (liftB X.prog X.w X.K (wE C noX cnd))
  el : ∀ (s : Shared) (H : Hp) (A : Addr) (cl : List (Str × Addr)) (fp : List Addr), PE (X.blk s H scope (compEnvC scope cl A X.env) fp) elt (liftE X.prog X.w X.K (wE C noX e))
  st : noSet iter = true
theorem LcOk.pe {X : Cx} {c : Ct} {C : Calls} {k : Nat} (g : Good X c C k) (hC : CLe C C) {e : E} {tg : Tg} {vs : List Nat} {it : I} {cnd : E} {elt t iter : Expr} {ifs : List Expr} {scope : Scope} {own : List (Str × Nat)} {wi : TI} {lk : Bool} (h : LcOk X C e tg vs it cnd elt t iter ifs scope own wi lk) {p : Pos} :
    PE X (.ListComp elt [⟨t, iter, ifs, 0⟩] scope p) (liftF X.prog X.w X.K (wL C noX (.comp e tg vs it cnd))) := by
  have base := pe_lc (pos := p) g.calm (by rw [g.N]; exact g.nd) h.pi h.blk h.tg h.ts h.el (folded h.st)
  rw [h.sl] at base
  have r := h.red
  cases lk with
  | false => exact weakE base r
  | true => exact weakE (pe_lock base) r
theorem f_yes {X : Cx} {C : Calls} (hC : CLe C C) : L2.PTs X [] (liftB X.prog X.w X.K (wE C noX (.cst (.bl true)))) := ⟨fun pins s σ H Q I h => pts_nil.run pins s σ H Q I (by
  obtain ⟨τ, G, H0, A, S, q⟩ := h
  rw [wE] at q
  obtain ⟨b, e, q⟩ := q
  cases e
  exact q _ _ A (.refl _ _ _))⟩
/-- a source that was read -/
def ItOk (X : Cx) (C : Calls) (it : I) (x tg : Expr) : Prop := ∃ (wi : TI) (lk : Bool), PI X tg x wi ∧ (∀ e tg vs cnd σ H Q, liftF X.prog X.w X.K (wL C noX (.comp e tg vs it cnd)) σ H Q → (match lk with
    | true => tLockE (tLc wi (liftG X.prog X.w X.K vs (Tg.wp tg)) (liftB X.prog X.w X.K (wE C noX cnd)) (liftE X.prog X.w X.K (wE C noX e)) vs)
    | false => tLc wi (liftG X.prog X.w X.K vs (Tg.wp tg)) (liftB X.prog X.w X.K (wE C noX cnd)) (liftE X.prog X.w X.K (wE C noX e)) vs) σ H Q) ∧
  ∀ tg is body D σ H, liftS X.prog X.w X.K (wS C noX (.for_ tg it body)) D σ H → (match lk with
    | true => tLock (tFor wi (liftG X.prog X.w X.K is (Tg.wp tg)) (liftS X.prog X.w X.K (wSs C noX body)))
    | false => tFor wi (liftG X.prog X.w X.K is (Tg.wp tg)) (liftS X.prog X.w X.K (wSs C noX body))) D σ H
theorem ItOk.of {X : Cx} {C : Calls} (hC : CLe C C) {it : I} {x tg : Expr} (hl : it.lk = false) (h : PI X tg x (liftI X.prog X.w X.K (wI C noX it))) : ItOk X C it x tg :=
  ⟨_, false, h, fun e tg vs cnd σ H Q q => lL_comp hC hl (fun i hi => hi) q, fun tg is body D σ H q => lS_for hC hl q⟩
theorem ItOk.ofLk {X : Cx} {C : Calls} (hC : CLe C C) {it : I} {x tg : Expr} {e : E} {f : List (T × T) → List T} {wi : TE → TI} (hk : LkI it e f wi) (h : PI X tg x (wi (liftE X.prog X.w X.K (wE C noX e)))) : ItOk X C it x tg :=
  ⟨_, true, h, fun e tg vs cnd σ H Q q => lL_lock hC hk (fun i hi => hi) q, fun tg is body D σ H q => lS_lock hC hk q⟩
def LOk (X : Cx) (C : Calls) (l : L) (x : Expr) : Prop := PE X x (liftF X.prog X.w X.K (wL C noX l)) ∧ match l with
  | .comp e tg vs it cnd => ∃ elt t iter ifs scope own wi lk, pComp x = some (elt, t, iter, ifs, scope) ∧ LcOk X C e tg vs it cnd elt t iter ifs scope own wi lk
  | _ => True
section
variable {C : Calls} {k : Nat} (hC : CLe C C)
include hC
mutual
theorem chkE_ok {X : Cx} {c : Ct} (g : Good X c C k) : ∀ {e : E} {x : Expr}, chkE c false e x = true → PE X x (liftE X.prog X.w X.K (wE C noX e))
  | .var i, x, h => f_var g (by rw [chkE] at h; exact h)
  | .cst t, x, h => f_cst g (by rw [chkE] at h; exact h)
  | .tup es, x, h => by
    rw [chkE, Bool.and_eq_true] at h
    cases hx : pTup x with
    | none => simp [hx] at h
    | some xs =>
      rw [hx] at h
      obtain ⟨n, p, rfl⟩ := pTup_inv hx
      exact f_tup hC (chkEs_ok g h.2)
  | .prim p es, x, h => by
    rw [chkE, Bool.and_eq_true] at h
    cases hx : parts c p x with
    | none => simp [hx] at h
    | some xs =>
      rw [hx] at h
      exact prim_ok g hC hx (chkEs_ok g h.2)
  | .and a b, x, h => by
    rw [chkE] at h
    cases hx : pBop .And x with
    | none => simp [hx] at h
    | some yz =>
      obtain ⟨y, z⟩ := yz
      simp only [hx, Bool.and_eq_true] at h
      exact f_and hC hx (chkE_ok g h.1) (chkE_ok g h.2)
  | .or a b, x, h => by
    rw [chkE] at h
    cases hx : pBop .Or x with
    | none => simp [hx] at h
    | some yz =>
      obtain ⟨y, z⟩ := yz
      simp only [hx, Bool.and_eq_true] at h
      exact f_or hC hx (chkE_ok g h.1) (chkE_ok g h.2)
  | .not a, x, h => by
    rw [chkE] at h
    cases hx : pNot x with
    | none => simp [hx] at h
    | some y =>
      simp only [hx] at h
      obtain ⟨p, rfl⟩ := pNot_inv hx
      exact weakE (pe_not (chkE_ok g h)) fun σ H Q q => l_not hC q
  | .ite t a b, x, h => by
    rw [chkE] at h
    cases hx : pIte x with
    | none => simp [hx] at h
    | some yz =>
      obtain ⟨y, u, v⟩ := yz
      simp only [hx, Bool.and_eq_true] at h
      obtain ⟨p, rfl⟩ := pIte_inv hx
      exact weakE (pe_ifExp (chkT_ok g h.1.1) (chkE_ok g h.1.2) (chkE_ok g h.2)) fun σ H Q q => l_ite hC q
  | .call f es, x, h => by
    rw [chkE] at h
    cases hx : pFun c f x with
    | none => simp [hx] at h
    | some xs =>
      rw [hx] at h
      exact f_call g hC hx (chkEs_ok g h)
  | .meth p o es, x, h => by
    rw [chkE, Bool.and_eq_true] at h
    cases hx : pMeth p 0 x with
    | none => simp [hx] at h
    | some yz =>
      obtain ⟨y, xs⟩ := yz
      simp only [hx, Bool.and_eq_true] at h
      exact f_meth g hC hx (chkE_ok g h.2.1) (chkEs_ok g h.2.2)
  | .slc2 a l u, x, h => by
    rw [chkE, Bool.and_eq_true] at h
    cases hx : pS2 x with
    | none => simp [hx] at h
    | some yz =>
      obtain ⟨y, z, v⟩ := yz
      simp only [hx, Bool.and_eq_true] at h
      obtain ⟨p, q, rfl⟩ := pS2_inv hx
      exact f_slc2 hC (chkE_ok g h.2.1.1) (chkE_ok g h.2.1.2) (chkE_ok g h.2.2)
  | .slcl a l, x, h => by
    rw [chkE, Bool.and_eq_true] at h
    cases hx : pSl x with
    | none => simp [hx] at h
    | some yz =>
      obtain ⟨y, z⟩ := yz
      simp only [hx, Bool.and_eq_true] at h
      obtain ⟨p, q, rfl⟩ := pSl_inv hx
      exact f_slcl hC (chkE_ok g h.2.1) (chkE_ok g h.2.2)
  | .slcu a l, x, h => by
    rw [chkE, Bool.and_eq_true] at h
    cases hx : pSu x with
    | none => simp [hx] at h
    | some yz =>
      obtain ⟨y, z⟩ := yz
      simp only [hx, Bool.and_eq_true] at h
      obtain ⟨p, q, rfl⟩ := pSu_inv hx
      exact f_slcu hC (chkE_ok g h.2.1) (chkE_ok g h.2.2)
  | .tmp l, x, h => by
    rw [chkE, Bool.and_eq_true] at h
    exact weakE (chkL_ok g h.2).1 fun σ H Q q => lTmp hC q
  | .own l, x, h => by
    rw [chkE, Bool.and_eq_true] at h
    exact weakE (chkL_ok g h.2).1 fun σ H Q q => lOwn hC q
  | .chain p q a b d, x, h => by
    rw [chkE] at h
    cases hx : pChain p q x with
    | none => simp [hx] at h
    | some yz =>
      obtain ⟨y, z, v⟩ := yz
      simp only [hx, Bool.and_eq_true] at h
      exact (f_chain hC g.units hx (chkE_ok g h.1.1) (chkE_ok g h.1.2) (chkE_ok g h.2)).1
  | .dcopy e, x, h => by
    rw [chkE, Bool.and_eq_true] at h
    have h2 := h.2
    split at h2
    · rename_i y hx
      rw [Bool.and_eq_true] at h2
      exact f_dcopy g hC hx (.cons (chkE_ok g h2.1) h2.2 .nil)
    · cases h2
  | .dnew, x, h => by
    rw [chkE, Bool.and_eq_true] at h
    obtain ⟨p, rfl⟩ := pDnew_inv h.2
    exact f_dnew
  | .dict ks es, x, h => by
    rw [chkE, Bool.and_eq_true] at h
    cases hx : pDisp ks x with
    | none => simp [hx] at h
    | some xs =>
      rw [hx] at h
      obtain ⟨keys, p, rfl, h1, h2, h3, h4, h5⟩ := pDisp_inv hx
      have ps := chkEs_ok g h.2
      exact f_dict hC h1 h2 h3 h4 (by rw [ps.length]; exact h5) ps
  | .fld o f, x, h => by simp [chkE] at h
theorem chkT_ok {X : Cx} {c : Ct} (g : Good X c C k) : ∀ {e : E} {x : Expr}, chkE c true e x = true → L2.PT X x (liftB X.prog X.w X.K (wE C noX e))
  | .var i, x, h => by
    rw [chkE] at h
    refine pt_ofE hC (f_var g h) ?_
    unfold pVar at h; split at h <;> first | rfl | cases h
  | .cst t, x, h => by
    rw [chkE] at h
    refine pt_ofE hC (f_cst g h) ?_
    unfold pCst at h; split at h <;> first | rfl | cases h
  | .tup es, x, h => by simp [chkE] at h
  | .prim p es, x, h => by
    rw [chkE, Bool.and_eq_true] at h
    cases hx : parts c p x with
    | none => simp [hx] at h
    | some xs =>
      rw [hx] at h
      exact primT_ok g hC hx (by simpa using h.1) (chkEs_ok g h.2)
  | .and a b, x, h => by
    rw [chkE] at h
    cases hx : pBop .And x with
    | none => simp [hx] at h
    | some yz =>
      obtain ⟨y, z⟩ := yz
      simp only [hx, Bool.and_eq_true] at h
      exact f_andT hC hx (chkT_ok g h.1) (chkT_ok g h.2)
  | .or a b, x, h => by
    rw [chkE] at h
    cases hx : pBop .Or x with
    | none => simp [hx] at h
    | some yz =>
      obtain ⟨y, z⟩ := yz
      simp only [hx, Bool.and_eq_true] at h
      exact f_orT hC hx (chkT_ok g h.1) (chkT_ok g h.2)
  | .not a, x, h => by
    rw [chkE] at h
    cases hx : pNot x with
    | none => simp [hx] at h
    | some y =>
      simp only [hx] at h
      obtain ⟨p, rfl⟩ := pNot_inv hx
      exact weakT (pt_not (chkT_ok g h)) fun σ H Q q => t_not hC q
  | .ite t a b, x, h => by
    rw [chkE] at h
    cases hx : pIte x with
    | none => simp [hx] at h
    | some yz =>
      obtain ⟨y, u, v⟩ := yz
      simp only [hx, Bool.and_eq_true] at h
      obtain ⟨p, rfl⟩ := pIte_inv hx
      exact weakT (pt_ite (chkT_ok g h.1.1) (chkT_ok g h.1.2) (chkT_ok g h.2)) fun σ H Q q => t_ite hC q
  | .call f es, x, h => by
    rw [chkE] at h
    cases hx : pFun c f x with
    | none => simp [hx] at h
    | some xs =>
      rw [hx] at h
      refine pt_ofE hC (f_call g hC hx (chkEs_ok g h)) ?_
      obtain ⟨p, q, rfl, _⟩ := pFun_inv hx
      rfl
  | .meth p o es, x, h => by
    rw [chkE, Bool.and_eq_true] at h
    cases hx : pMeth p 0 x with
    | none => simp [hx] at h
    | some yz =>
      obtain ⟨y, xs⟩ := yz
      simp only [hx, Bool.and_eq_true] at h
      exact pt_ofE hC (f_meth g hC hx (chkE_ok g h.2.1) (chkEs_ok g h.2.2)) h.1
  | .slc2 a l u, x, h => by simp [chkE] at h
  | .slcl a l, x, h => by simp [chkE] at h
  | .slcu a l, x, h => by simp [chkE] at h
  | .tmp l, x, h => by simp [chkE] at h
  | .own l, x, h => by simp [chkE] at h
  | .chain p q a b d, x, h => by
    rw [chkE] at h
    cases hx : pChain p q x with
    | none => simp [hx] at h
    | some yz =>
      obtain ⟨y, z, v⟩ := yz
      simp only [hx, Bool.and_eq_true] at h
      exact (f_chain hC g.units hx (chkE_ok g h.1.1) (chkE_ok g h.1.2) (chkE_ok g h.2)).2
  | .dcopy e, x, h => by simp [chkE] at h
  | .dnew, x, h => by simp [chkE] at h
  | .dict ks es, x, h => by simp [chkE] at h
  | .fld o f, x, h => by simp [chkE] at h
theorem chkEs_ok {X : Cx} {c : Ct} (g : Good X c C k) : ∀ {es : List E} {xs : List Expr}, chkEs c es xs = true → Ps X C noX es xs
  | [], [], _ => .nil
  | [], _ :: _, h => by simp [chkEs] at h
  | _ :: _, [], h => by simp [chkEs] at h
  | e :: es, x :: xs, h => by
    rw [chkEs] at h
    simp only [Bool.and_eq_true] at h
    exact .cons (chkE_ok g h.1.1) h.1.2 (chkEs_ok g h.2)
theorem chkL_ok {X : Cx} {c : Ct} (g : Good X c C k) : ∀ {l : L} {x : Expr}, chkL c l x = true → LOk X C l x
  | .disp es, x, h => by
    rw [chkL] at h
    cases hx : pLst x with
    | none => simp [hx] at h
    | some xs =>
      rw [hx] at h
      obtain ⟨p, rfl⟩ := pLst_inv hx
      exact ⟨f_disp hC (chkEs_ok g h), trivial⟩
  | .prim p es, x, h => by
    rw [chkL] at h
    cases hx : lprimOf c p x with
    | none => simp [hx] at h
    | some xs =>
      simp only [hx, Bool.and_eq_true, decide_eq_true_eq] at h
      have ps := chkEs_ok g h.2
      obtain ⟨a, rfl⟩ := List.length_eq_one_iff.mp h.1
      unfold lprimOf at hx
      split at hx
      · exact ⟨f_sorted g hC hx ps, trivial⟩
      · exact ⟨f_list g hC hx ps, trivial⟩
      · cases hx
  | .comp e tg vs it cnd, x, h => by
    rw [chkL] at h
    cases hx : pComp x with
    | none => simp [hx] at h
    | some yz =>
      obtain ⟨elt, t, iter, ifs, scope⟩ := yz
      simp only [hx, Bool.and_eq_true] at h
      obtain ⟨⟨⟨⟨⟨h1, h2⟩, h3⟩, h4⟩, h5⟩, h6⟩ := h
      obtain ⟨wi, lk, hi1, hi2, _⟩ := chkI_ok g (tg := t) h2.1 h2.2
      have lc : LcOk X C e tg vs it cnd elt t iter ifs scope (ownOf c vs) wi lk := by
        refine ⟨ownOf_snd c vs, blkOk_by (by rw [g.N, g.sc]; exact h1), hi1, fun σ H Q q => hi2 e tg vs cnd σ H Q q, fun s H A cl fp => chkG_ok (g.blk s H scope cl A fp) vs h3, fun s H A cl fp => ?_, fun s H A cl fp => chkE_ok (g.blk s H scope cl A fp) h5, h4⟩
        match ifs, h6 with
        | [], h6 => rw [isYes_ok h6]; exact f_yes hC
        | [y], h6 => exact pts_one (chkT_ok (g.blk s H scope cl A fp) h6)
        | _ :: _ :: _, h6 => cases h6
      obtain ⟨p, rfl⟩ := pComp_inv hx
      exact ⟨lc.pe g hC, elt, t, iter, ifs, scope, _, _, _, rfl, lc⟩
theorem chkI_ok {X : Cx} {c : Ct} (g : Good X c C k) : ∀ {it : I} {x tg : Expr}, chkI c it x = true → itTg it tg = true → ItOk X C it x tg
  | .val e, x, tg, h, _ => by
    rw [chkI, Bool.and_eq_true] at h
    exact .of hC rfl (weakI (pi_any (chkE_ok g h.1)) fun σ H Q q => lI_val hC q)
  | .rng1 a, x, tg, h, _ => by
    rw [chkI] at h
    split at h
    · rename_i y hx
      rw [Bool.and_eq_true] at h
      obtain ⟨y', as, q1, q2, rfl, e, b⟩ := pBl_inv hx
      cases e
      obtain ⟨b1, b2, b3, b4⟩ := bltB_ok g b
      exact .of hC rfl (weakI (pi_range1 b1 b2 (Ps.pa hC (.cons (chkE_ok g h.1) h.2 .nil)) (star_cons h.2)) fun σ H Q q => lI_rng1 hC q)
    · cases h
  | .rng2 a b, x, tg, h, _ => by
    rw [chkI] at h
    split at h
    · rename_i y z hx
      simp only [Bool.and_eq_true] at h
      obtain ⟨⟨⟨h1, h2⟩, h3⟩, h4⟩ := h
      obtain ⟨y', as, q1, q2, rfl, e, b⟩ := pBl_inv hx
      cases e
      obtain ⟨b1, b2, b3, b4⟩ := bltB_ok g b
      exact .of hC rfl (weakI (pi_range2 b1 b2 (Ps.pa hC (.cons (chkE_ok g h1) h2 (.cons (chkE_ok g h3) h4 .nil))) (by rw [star_cons h2, star_cons h4]; rfl) (star_cons h4)) fun σ H Q q => lI_rng2 hC q)
    · cases h
  | .keys e, x, tg, h, _ => by
    rw [chkI, Bool.and_eq_true] at h
    exact .ofLk hC (.keys e) (pi_keys (chkE_ok g h.1))
  | .vals e, x, tg, h, _ => by
    rw [chkI] at h
    cases hx : pM0 "values" x with
    | none => simp [hx] at h
    | some o =>
      rw [hx] at h
      obtain ⟨apos, cpos, rfl, h1, h2⟩ := pM0_inv hx
      exact .ofLk hC (.vals e) (pi_values (chkE_ok g h) (attr_base h1) h2)
  | .items e, x, tg, h, ht => by
    rw [chkI] at h
    cases hx : pM0 "items" x with
    | none => simp [hx] at h
    | some o =>
      rw [hx] at h
      obtain ⟨apos, cpos, rfl, h1, h2⟩ := pM0_inv hx
      obtain ⟨es, n, p, rfl⟩ := isTupX_inv ht
      exact .ofLk hC (.items e) (pi_items (chkE_ok g h) (attr_base h1) h2)
end
end
end EV

/-! EV17: statements. -/
namespace EV
open PySem PySem.Spec PyProof.Rows L2

def isComp : Expr → Bool
  | .ListComp .. | .SetComp .. | .DictComp .. => true
  | _ => false
theorem sw_no {v : Expr} {t : Option Expr} {l : Nat} {env : Env} (h : isComp v = false) : swapsWith v t l env = pure false := by
  cases v <;> first | rfl | cases h
theorem sw_cell {elt : Expr} {gs : List Comprehension} {scope : Scope} {pos py : Pos} {y : Str} {l : Nat} {env : Env} (h : env.scope.names.lookup y = some .cell) : swapsWith (.ListComp elt gs scope pos) (some (.Name y py)) l env = pure false := by
  have ky : env.kindOf y = some .cell := h
  unfold swapsWith
  simp only [ky]
  have e : ((some NameKind.cell : Option NameKind) == some .local) = false := by decide
  simp only [e, Bool.and_false, Bool.false_and]
/-- how a tuple goes to a tuple of targets: as a tuple, or name by name -/
def swStar : Expr → Bool
  | .Starred .. => true
  | _ => false
def swNm (sc : Scope) (line : Nat) : Expr → Option Str
  | .Name id pos => if (sc.names.lookup id == some .local && pos.line == line) = true then some id else none
  | _ => none
def swK (sc : Scope) (ts vs : List Expr) : Option (Option (List Str)) :=
  if (!(ts.length == 2 || ts.length == 3) || vs.length != ts.length) = true then some none
  else if vs.any swStar = true then some none
  else
    let names := ts.filterMap (swNm sc ((ts.head?.map (·.pos.line)).getD 0))
    if (names.length != ts.length || names.eraseDups.length != names.length) = true then some none
    else if vs.all (foldedForSure 8) = true then some none
    else if vs.all (constantsAlone 8) = true then none
    else some (some names)
theorem swK_ok {sc : Scope} {ts vs : List Expr} {k k2 : Nat} {p p2 : Pos} {env : Env} {r : Option (List Str)} (hs : env.scope = sc) (hk : env.scope.kind = .function) (h : swK sc ts vs = some r) : swappedStores [.Tuple ts k p] (.Tuple vs k2 p2) env = pure r := by
  subst hs
  have hb : env.blockKind = .function := by unfold Env.blockKind; rw [hk]; rfl
  unfold swK at h
  show (if (!(ts.length == 2 || ts.length == 3) || vs.length != ts.length || env.blockKind != .function) = true then (pure none : Sem (Option (List Str)))
    else if vs.any swStar = true then pure none
    else if ((ts.filterMap (swNm env.scope ((ts.head?.map (·.pos.line)).getD 0))).length != ts.length || (ts.filterMap (swNm env.scope ((ts.head?.map (·.pos.line)).getD 0))).eraseDups.length != (ts.filterMap (swNm env.scope ((ts.head?.map (·.pos.line)).getD 0))).length) = true then pure none
    else if vs.all (foldedForSure 8) = true then pure none
    else if vs.all (constantsAlone 8) = true then (unsupported "assign.tuple-of-constant-expressions:order-of-the-stores" >>= fun _ => pure (some (ts.filterMap (swNm env.scope ((ts.head?.map (·.pos.line)).getD 0)))))
    else pure (some (ts.filterMap (swNm env.scope ((ts.head?.map (·.pos.line)).getD 0))))) = _
  simp only [hb]
  have e0 : (ScopeKind.function != ScopeKind.function) = false := by decide
  simp only [e0, Bool.or_false]
  by_cases h1 : (!(ts.length == 2 || ts.length == 3) || vs.length != ts.length) = true
  · rw [if_pos h1] at h ⊢; cases h; rfl
  rw [if_neg h1] at h ⊢
  by_cases h2 : vs.any swStar = true
  · rw [if_pos h2] at h ⊢; cases h; rfl
  rw [if_neg h2] at h ⊢
  dsimp only at h ⊢
  generalize ts.filterMap (swNm env.scope ((ts.head?.map (·.pos.line)).getD 0)) = names at h ⊢
  by_cases h3 : (names.length != ts.length || names.eraseDups.length != names.length) = true
  · rw [if_pos h3] at h ⊢; cases h; rfl
  rw [if_neg h3] at h ⊢
  by_cases h4 : vs.all (foldedForSure 8) = true
  · rw [if_pos h4] at h ⊢; cases h; rfl
  rw [if_neg h4] at h ⊢
  by_cases h5 : vs.all (constantsAlone 8) = true
  · rw [if_pos h5] at h; cases h
  rw [if_neg h5] at h ⊢
  cases h; rfl
def isTup : Expr → Bool
  | .Tuple .. => true
  | _ => false
def isSeqD : Expr → Bool
  | .Tuple .. | .List .. => true
  | _ => false
theorem st_no {t v : Expr} {env : Env} (h : isSeqD t = false ∨ isSeqD v = false) : swappedStores [t] v env = pure none := by
  rcases h with h | h
  · cases t <;> first | (cases v <;> rfl) | cases h
  · cases v <;> first | (cases t <;> rfl) | cases h
theorem sole {t v : Expr} {l : Nat} {env : Env} : swapsWithSole [t] v l env = swapsWith v (some t) l env := rfl

/-! ### in-place operations -/
section
variable {X : Cx}
theorem ip2 {p : Prim} {ts : List T} {G : GH} {Q : QE} (hp : p = .iadd ∨ p = .sub ∨ p = .mul ∨ p = .fdiv ∨ p = .mod) (q : p.wp ts G Q) : ts.length = 2 := by
  rcases hp with rfl | rfl | rfl | rfl | rfl <;> (unfold Prim.wp at q; split at q <;> first | rfl | exact q.elim | (rename_i h; simp at h))
theorem p_isub : OpR X (inplaceOp .Sub) (fun x y H Q => rP X.prog X.w X.K .sub [x, y] H Q) := by
  intro pins s σ H x y v u Q I r1 r2 ⟨ts, G, H0, A, r, q⟩
  obtain ⟨t, t', rfl, h1, h2⟩ := r.inv2
  cases h1 <;> cases h2 <;> first | exact q.elim | exact iop_sub pins s σ H _ _ v u Q I r1 r2 ⟨_, _, rfl, rfl, upE_here A q (.int _)⟩
theorem p_imul : OpR X (inplaceOp .Mult) (fun x y H Q => rP X.prog X.w X.K .mul [x, y] H Q) := by
  intro pins s σ H x y v u Q I r1 r2 ⟨ts, G, H0, A, r, q⟩
  obtain ⟨t, t', rfl, h1, h2⟩ := r.inv2
  cases h1 <;> cases h2 <;> first | exact q.elim | exact iop_mul pins s σ H _ _ v u Q I r1 r2 ⟨_, _, rfl, rfl, q.1, upE_here A q.2 (.int _)⟩
theorem p_ifdiv : OpR X (inplaceOp .FloorDiv) (fun x y H Q => rP X.prog X.w X.K .fdiv [x, y] H Q) := by
  intro pins s σ H x y v u Q I r1 r2 ⟨ts, G, H0, A, r, q⟩
  obtain ⟨t, t', rfl, h1, h2⟩ := r.inv2
  cases h1 <;> cases h2 <;> first | exact q.elim | exact iop_fdiv pins s σ H _ _ v u Q I r1 r2 ⟨_, _, rfl, rfl, q.1, upE_here A q.2 (.int _)⟩
theorem p_imod : OpR X (inplaceOp .Mod) (fun x y H Q => rP X.prog X.w X.K .mod [x, y] H Q) := by
  intro pins s σ H x y v u Q I r1 r2 ⟨ts, G, H0, A, r, q⟩
  obtain ⟨t, t', rfl, h1, h2⟩ := r.inv2
  cases h1 <;> cases h2 <;> first | exact q.elim | exact iop_mod pins s σ H _ _ v u Q I r1 r2 ⟨_, _, rfl, rfl, q.1, upE_here A q.2 (.int _)⟩
theorem p_iadd : OpR X (inplaceOp .Add) (fun x y H Q => rP X.prog X.w X.K .iadd [x, y] H Q) := by
  intro pins s σ H x y v u Q I r1 r2 ⟨ts, G, H0, A, r, q⟩
  obtain ⟨t, t', rfl, h1, h2⟩ := r.inv2
  cases h1 <;> cases h2 <;> first | exact q.elim | exact iop_add pins s σ H _ _ v u Q I r1 r2 ⟨_, _, rfl, rfl, upE_here A q (.int _)⟩ | exact iop_add_str pins s σ H _ _ v u Q I r1 r2 ⟨_, _, rfl, rfl, q.1, upE_here A q.2 (.str _)⟩
def iop : Operator → Option Prim
  | .Add => some .iadd
  | .Sub => some .sub
  | .Mult => some .mul
  | .FloorDiv => some .fdiv
  | .Mod => some .mod
  | _ => none
theorem iop_ok {o : Operator} {p : Prim} (h : iop o = some p) : PIp X o (fun x y H Q => rP X.prog X.w X.K p [x, y] H Q) := by
  cases o <;> cases h
  · exact p_iadd
  · exact p_isub
  · exact p_imul
  · exact p_imod
  · exact p_ifdiv

/-! ### stores into things -/
def rSet (P : Program) (w : World) (K : PySem.W.Frag) : TSet := fun o i v H Q => ∃ to ti tv G H0, At P w K G H0 H ∧ RT K H0 G to o ∧ RT K H0 G ti i ∧ RT K H0 G tv v ∧ setW to ti tv G (fun G' => ∀ H0' H', At P w K G' H0' H' → Stp G H0 H G' H0' H' → Q H')
theorem RTs.set {K : PySem.W.Frag} {H : Hp} {G : GH} {t : T} {v : V} (h : RT K H G t v) : ∀ {ts : List T} {vs : List V}, RTs K H G ts vs → ∀ n, RTs K H G (ts.set n t) (vs.set n v)
  | _, _, .nil, _ => .nil
  | _, _, .cons a b, 0 => .cons h b
  | _, _, .cons a b, n + 1 => .cons a (RTs.set h b n)
theorem p_set (hu : X.A.units + 64 < cLine) : PSet X (rSet X.prog X.w X.K) := by
  intro pins s σ H o i v ov iv u Q I ro ri rv ⟨to, ti, tv, G, H0, A, ho, hi, hv, q⟩
  cases ho with
  | ref a =>
    cases ga : G a with
    | none => simp [setW, ga] at q
    | some ob =>
      cases ob with
      | lst ts =>
        simp only [setW, ga] at q
        obtain ⟨j, n, rfl, e2, q⟩ := q
        cases hi
        obtain ⟨xs, h1, h2⟩ := A.rel a _ ga
        refine set_list pins s σ H _ _ v ov iv u Q I ro ri rv ⟨a, xs, j, n, rfl, rfl, A.sub _ _ h1, by rw [← h2.length]; exact e2, ?_⟩
        have ex : Ext G H0 (put G a (.lst (ts.set n tv))) (upd H0 a (.lst (xs.set n v))) := Ext.write ga
        obtain ⟨A', s'⟩ := A.write (u := .lst (xs.set n v)) (o' := .lst (ts.set n tv)) ga ⟨_, upd_same, (RTs.set hv h2 n).ext ex⟩
        exact q _ _ A' s'
      | dct kvs =>
        simp only [setW, ga] at q
        obtain ⟨q1, q2, q⟩ := q
        cases ro
        refine p_dput hu I A ga hi ri hv rv q1 q2 fun s' ob I' r' => ?_
        obtain ⟨A', s2⟩ := A.write (u := ob) (o' := .dct (dput kvs ti tv)) ga r'
        exact ⟨_, I', q _ _ A' s2⟩
      | _ => simp [setW, ga] at q
  | _ => exact q.elim
theorem p_get (hu : X.A.units + 64 < cLine) : PGet X (fun x y H Q => (∃ a, x = .ref a) ∧ rP X.prog X.w X.K .idx [x, y] H Q) := by
  intro pins s σ H x y v u Q I rx ry ⟨⟨ax, ex⟩, ts, G, H0, A, r, q⟩
  obtain ⟨t, t', rfl, h1, h2⟩ := r.inv2
  have gen : (∃ ts i v, seqOf G t = some ts ∧ t' = .int i ∧ atI ts i = some v ∧ upE X.prog X.w X.K G H0 H Q v G) ∨ (∃ kvs v, dctOf G t = some kvs ∧ keyOk kvs t' = true ∧ dget kvs t' = some v ∧ upE X.prog X.w X.K G H0 H Q v G) →
      wpAny (model X.prog X.w) X.A (getItem v u) (EP X pins σ Q) X.xe s := by
    rintro (⟨xs, i, z, e, rfl, ei, q⟩ | ⟨kvs, d, e, c, ez, q⟩)
    · obtain ⟨a, xs, rfl, rs, hsq⟩ := h1.seq A e
      obtain ⟨zv, ezv, rz⟩ := atI_map rs ei
      cases h2
      cases rx
      obtain ⟨tk, rfl⟩ := ry
      obtain ⟨j, k1, k2, k3, k4, k5⟩ := atI_get ezv
      have hn := line63
      rcases hsq with hsq | hsq
      · obtain ⟨its, r, pl, hz⟩ := I.list hsq
        obtain ⟨w, ew, rw'⟩ := r.get k2
        have hl := r.length
        have fin : EP X pins σ Q w s := ⟨zv, H, I, rw', upE_here A q rz⟩
        by_cases h0 : 0 ≤ i
        · have hj : i.toNat = j := by
            rw [seqIndex_of h0 k5] at k1
            exact Option.some.inj k1
          exact wpAny_getItem_list pl.isList h0 (by omega) (by rw [hj]; simpa using ew) fin
        · have hj : (i + (its.toArray.size : Int)).toNat = j := by
            rw [seqIndex_neg (by omega) k4] at k1
            rw [List.size_toArray, ← hl]
            exact Option.some.inj k1
          exact wpAny_getItem_list_neg pl.isList (by omega) (by rw [List.size_toArray] <;> omega) (by omega) (by rw [hj]; simpa using ew) fin
      · obtain ⟨its, r, pl, hz⟩ := I.tuple hsq
        obtain ⟨w, ew, rw'⟩ := r.get k2
        have hl := r.length
        have fin : EP X pins σ Q w s := ⟨zv, H, I, rw', upE_here A q rz⟩
        exact getItem_tuple (j := j) pl (by omega) (by omega) (by rw [List.size_toArray, ← hl]; exact k1) (by simpa using ew) fin
    · obtain ⟨a, rfl, d⟩ := h1.dict A e
      cases rx
      exact p_dgetItem hu I A h2 ry d c ez fun v w' s' I' r' rt => ⟨v, H, I', r', upE_here A q rt⟩
  cases h1 with
  | str z => cases ex
  | _ => exact gen q
end
end EV

/-! EV18: the reader of statements. -/
namespace EV
open PySem PySem.Spec PyProof.Rows L2

section
variable {P : Program} {w : World} {K : PySem.W.Frag} {C : Calls} {R : XQ} (hC : CLe C C)
include hC
theorem lS_asg {tg : Tg} {e : E} {is : List Nat} {D : Ends} {σ : L2.St} {H : Hp} (q : liftS P w K (wS C R (.asg tg e)) D σ H) : tAsg (liftE P w K (wE C R e)) (liftG P w K is (Tg.wp tg)) D σ H := by
  obtain ⟨τ, G, H0, A, S, q⟩ := q
  rw [wS] at q
  exact ⟨τ, G, H0, A, S, wE_mono hC e τ G (xle R) (fun t G' z v H0' H' A' s' r => ⟨τ, t, G', H0', A', S.ext s'.ext, r, Tg.mono tg t τ (fun τ' z σ' S' _ => z σ' H0' H' A' s' S') z⟩) q⟩
theorem lS_set {i : Nat} {e : E} {D : Ends} {σ : L2.St} {H : Hp} (q : liftS P w K (wS C R (.asg (.name i) e)) D σ H) : liftE P w K (wE C R e) σ H fun x H1 => D.nx (σ.set i (some x)) H1 := by
  obtain ⟨τ, G, H0, A, S, q⟩ := q
  rw [wS] at q
  exact ⟨τ, G, H0, A, S, wE_mono hC e τ G (xle R) (fun t G' z v H0' H' A' s' r => z _ H0' H' A' s' ((S.ext s'.ext).set i r)) q⟩
theorem lS_par2 {i j : Nat} {a b : E} {D : Ends} {σ : L2.St} {H : Hp} (q : liftS P w K (wS C R (.asg (.tup [.name i, .name j]) (.tup [a, b]))) D σ H) : tPar i j (liftL P w K (wEs C R [a, b])) D σ H := by
  obtain ⟨τ, G, H0, A, S, q⟩ := q
  rw [wS, wE] at q
  refine ⟨τ, G, H0, A, S, wEs_mono hC [a, b] τ G (xle R) (fun ts G' ⟨_, z⟩ vs H0' H' A' s' r => ?_) q⟩
  obtain ⟨z1, z2⟩ := z
  match ts, z1, r, z2 with
  | [t, u], _, r, z2 =>
    obtain ⟨x, y, rfl, r1, r2⟩ := r.two
    simp only [Tg.wps, Tg.wp] at z2
    exact ⟨x, y, rfl, z2 _ H0' H' A' s' (((S.ext s'.ext).set i r1).set j r2)⟩
theorem lS_par3 {i j l : Nat} {a b c : E} {D : Ends} {σ : L2.St} {H : Hp} (q : liftS P w K (wS C R (.asg (.tup [.name i, .name j, .name l]) (.tup [a, b, c]))) D σ H) : tPar3 i j l (liftL P w K (wEs C R [a, b, c])) D σ H := by
  obtain ⟨τ, G, H0, A, S, q⟩ := q
  rw [wS, wE] at q
  refine ⟨τ, G, H0, A, S, wEs_mono hC [a, b, c] τ G (xle R) (fun ts G' ⟨_, z⟩ vs H0' H' A' s' r => ?_) q⟩
  obtain ⟨z1, z2⟩ := z
  match ts, z1, r, z2 with
  | [t, u, v], _, r, z2 =>
    cases r with
    | cons r1 r' =>
      obtain ⟨x, y, rfl, r2, r3⟩ := r'.two
      simp only [Tg.wps, Tg.wp] at z2
      exact ⟨_, x, y, rfl, z2 _ H0' H' A' s' ((((S.ext s'.ext).set i r1).set j r2).set l r3)⟩
omit hC in
theorem setW_up {G0 G : GH} {H00 H0 Hs H : Hp} {o i v : T} {N : L2.St → Hp → Prop} {τ : Sl} {σ : L2.St} {K : PySem.W.Frag} (s : Stp G0 H00 Hs G H0 H) (S : SR K H0 G τ σ) (q : setW o i v G fun G' => upN P w K G0 H00 Hs N τ G') :
    setW o i v G fun G' => ∀ H0' H', At P w K G' H0' H' → Stp G H0 H G' H0' H' → N σ H' := setW_mono (fun G' z H0' H' A' s' => z σ H0' H' A' (s.trans s') (S.ext s'.ext)) q
theorem lS_setItem {o i v : E} {D : Ends} {σ : L2.St} {H : Hp} (q : liftS P w K (wS C R (.setItem o i v)) D σ H) : tAsg (liftE P w K (wE C R v)) (gSub (liftE P w K (wE C R o)) (liftE P w K (wE C R i)) (rSet P w K)) D σ H := by
  obtain ⟨τ, G, H0, A, S, q⟩ := q
  rw [wS] at q
  refine ⟨τ, G, H0, A, S, wE_mono hC v τ G (xle R) (fun x G1 z v1 H01 H1 A1 s1 r1 => ⟨τ, G1, H01, A1, S.ext s1.ext, wE_mono hC o τ G1 (xle R) (fun y G2 z v2 H02 H2 A2 s2 r2 => ⟨τ, G2, H02, A2, (S.ext s1.ext).ext s2.ext, wE_mono hC i τ G2 (xle R) (fun u G3 z v3 H03 H3 A3 s3 r3 => ?_) z⟩) z⟩) q⟩
  exact ⟨y, u, x, G3, H03, A3, r2.ext s3.ext, r3, (r1.ext s2.ext).ext s3.ext, setW_up ((s1.trans s2).trans s3) (((S.ext s1.ext).ext s2.ext).ext s3.ext) z⟩
theorem lS_aug {i : Nat} {p : Prim} {e : E} {D : Ends} {σ : L2.St} {H : Hp} (q : liftS P w K (wS C R (.augName i p e)) D σ H) : tAug i (liftE P w K (wE C R e)) (fun x y H Q => rP P w K p [x, y] H Q) D σ H := by
  obtain ⟨τ, G, H0, A, S, q⟩ := q
  rw [wS] at q
  split at q
  · rename_i t et
    obtain ⟨x, ex, rx⟩ := S.get et
    refine ⟨x, ex, τ, G, H0, A, S, wE_mono hC e τ G (xle R) (fun y G1 z v1 H01 H1 A1 s1 r1 => ⟨[t, y], G1, H01, A1, .cons (rx.ext s1.ext) (.one r1), p.mono _ G1 (fun u G2 z v2 H02 H2 A2 s2 r2 => ?_) z⟩) q⟩
    exact z _ _ _ A2 (s1.trans s2) (((S.ext s1.ext).ext s2.ext).set i r2)
  · exact q.elim
theorem lS_augItem {o i e : E} {p : Prim} {D : Ends} {σ : L2.St} {H : Hp} (q : liftS P w K (wS C R (.augItem o i p e)) D σ H) :
    tAugS (liftE P w K (wE C R o)) (liftE P w K (wE C R i)) (liftE P w K (wE C R e)) (fun x y H Q => (∃ a, x = .ref a) ∧ rP P w K .idx [x, y] H Q) (fun x y H Q => rP P w K p [x, y] H Q) (rSet P w K) D σ H := by
  obtain ⟨τ, G, H0, A, S, q⟩ := q
  rw [wS] at q
  refine ⟨τ, G, H0, A, S, wE_mono hC o τ G (xle R) (fun x G1 z v1 H01 H1 A1 s1 r1 => ⟨τ, G1, H01, A1, S.ext s1.ext, wE_mono hC i τ G1 (xle R) (fun y G2 ⟨⟨a, ea⟩, z⟩ v2 H02 H2 A2 s2 r2 => ?_) z⟩) q⟩
  have r1' := r1.ext s2.ext
  refine ⟨⟨a, by subst ea; cases r1; rfl⟩, [x, y], G2, H02, A2, .cons r1' (.one r2), Prim.mono _ _ G2 (fun u G3 z v3 H03 H3 A3 s3 r3 => ⟨τ, G3, H03, A3, ((S.ext s1.ext).ext s2.ext).ext s3.ext, wE_mono hC e τ G3 (xle R) (fun v G4 z v4 H04 H4 A4 s4 r4 => ?_) z⟩) z⟩
  refine ⟨[u, v], G4, H04, A4, .cons (r3.ext s4.ext) (.one r4), p.mono _ G4 (fun n G5 z v5 H05 H5 A5 s5 r5 => ?_) z⟩
  exact ⟨x, y, n, G5, H05, A5, ((r1'.ext s3.ext).ext s4.ext).ext s5.ext, ((r2.ext s3.ext).ext s4.ext).ext s5.ext, r5, setW_up ((((s1.trans s2).trans s3).trans s4).trans s5) (((((S.ext s1.ext).ext s2.ext).ext s3.ext).ext s4.ext).ext s5.ext) z⟩
theorem lS_expr {e : E} {D : Ends} {σ : L2.St} {H : Hp} (q : liftS P w K (wS C R (.expr e)) D σ H) : tDrop (liftE P w K (wE C R e)) D σ H := by
  obtain ⟨τ, G, H0, A, S, q⟩ := q
  rw [wS] at q
  exact ⟨τ, G, H0, A, S, wE_mono hC e τ G (xle R) (fun t G' z v H0' H' A' s' r => z σ H0' H' A' s' (S.ext s'.ext)) q⟩
theorem lS_ret {e : E} {D : Ends} {σ : L2.St} {H : Hp} (q : liftS P w K (wS C R (.ret e)) D σ H) : tRet (liftE P w K (wE C R e)) D σ H := by
  obtain ⟨τ, G, H0, A, S, q⟩ := q
  rw [wS] at q
  exact ⟨τ, G, H0, A, S, q⟩
theorem lS_cond {e : E} {a b : List S} {D : Ends} {σ : L2.St} {H : Hp} (q : liftS P w K (wS C R (.cond e a b)) D σ H) : tIfS (liftB P w K (wE C R e)) (liftS P w K (wSs C R a)) (liftS P w K (wSs C R b)) D σ H := by
  obtain ⟨τ, G, H0, A, S, q⟩ := q
  rw [wS] at q
  refine ⟨τ, G, H0, A, S, wE_mono hC e τ G (xle R) (fun t G' z => ?_) q⟩
  split at z
  · refine ⟨true, rfl, fun H0' H' A' s' => ?_⟩
    show if (true = true) then _ else _
    rw [if_pos rfl]
    exact ⟨τ, G', H0', A', S.ext s'.ext, wSs_mono hC a τ G' (xle R) (upD_stp s') z⟩
  · refine ⟨false, rfl, fun H0' H' A' s' => ?_⟩
    show if (false = true) then _ else _
    rw [if_neg (by decide)]
    exact ⟨τ, G', H0', A', S.ext s'.ext, wSs_mono hC b τ G' (xle R) (upD_stp s') z⟩
  · exact z.elim
theorem lSs_cons {s : S} {r : List S} {D : Ends} {σ : L2.St} {H : Hp} (q : liftS P w K (wSs C R (s :: r)) D σ H) : tSeq (liftS P w K (wS C R s)) (liftS P w K (wSs C R r)) D σ H := by
  obtain ⟨τ, G, H0, A, S, q⟩ := q
  rw [wSs] at q
  refine ⟨τ, G, H0, A, S, wS_mono hC s τ G (xle R) ?_ q⟩
  refine ⟨fun τ' G' z σ' H0' H' A' s' S' => ?_, fun _ _ z => z, fun _ _ z => z, fun _ _ z => z⟩
  exact ⟨τ', G', H0', A', S', wSs_mono hC r τ' G' (xle R) (upD_stp s') z⟩
end

/-! ### how statements are written -/
def pAsg : Stmt → Option (Expr × Expr)
  | .Assign [t] v _ => some (t, v)
  | _ => none
theorem pAsg_inv {x : Stmt} {t v : Expr} (h : pAsg x = some (t, v)) : ∃ p, x = .Assign [t] v p := by
  unfold pAsg at h; split at h <;> cases h; exact ⟨_, rfl⟩
/-- a comprehension that goes straight to a local name -/
def swLc (c : Ct) (t v : Expr) : Option Str := match t, v with
  | .Name y py, .ListComp _ _ scope pos => if locB c.sc y = true ∧ (py.line == pos.line) = true ∧ (scope.names.any fun (n, k) => n == y && (k == .local || k == .cell)) = false then some y else none
  | _, _ => none
theorem swLc_inv {c : Ct} {t v : Expr} {y : Str} (h : swLc c t v = some y) : ∃ py elt gs scope pos, t = .Name y py ∧ v = .ListComp elt gs scope pos ∧ locB c.sc y = true ∧ (py.line == pos.line) = true ∧ (scope.names.any fun (n, k) => n == y && (k == .local || k == .cell)) = false := by
  unfold swLc at h
  split at h
  · split at h
    · rename_i e; cases h; exact ⟨_, _, _, _, _, rfl, rfl, e⟩
    · cases h
  · cases h
/-- a value that goes the plain way -/
def plainA (c : Ct) (t v : Expr) : Bool := (match t, v with
    | .Name y _, .ListComp .. => celB c.sc y
    | .Name _ _, v => !isComp v
    | .Tuple .., v => !isComp v
    | .Subscript .., v => !isComp v
    | _, _ => false) && (match t, v with
    | .Tuple ts _ _, .Tuple vs _ _ => (match swK c.sc ts vs with | some none => true | _ => false)
    | t, v => !(isSeqD t && isSeqD v))
theorem plainA_ok {c : Ct} {t v : Expr} {l : Nat} {env : Env} (hs : env.scope = c.sc) (hk : env.scope.kind = .function) (h : plainA c t v = true) : swapsWithSole [t] v l env = pure false ∧ swappedStores [t] v env = pure none := by
  unfold plainA at h
  rw [Bool.and_eq_true] at h
  obtain ⟨h1, h2⟩ := h
  constructor
  · rw [sole]
    split at h1
    · exact sw_cell (by rw [hs]; exact celB_ok h1)
    · exact sw_no (by simpa using h1)
    · exact sw_no (by simpa using h1)
    · exact sw_no (by simpa using h1)
    · cases h1
  · split at h2
    · split at h2
      · rename_i e; exact swK_ok hs hk e
      · cases h2
    · refine st_no ?_
      rw [Bool.not_eq_true', Bool.and_eq_false_iff] at h2
      exact h2
def nmIx (c : Ct) (i : Nat) : Expr → Option Str
  | .Name x _ => if c.N[i]? = some x ∧ locB c.sc x = true then some x else none
  | _ => none
theorem nmIx_inv {c : Ct} {i : Nat} {t : Expr} {x : Str} (h : nmIx c i t = some x) : ∃ p, t = .Name x p ∧ c.N[i]? = some x ∧ locB c.sc x = true := by
  unfold nmIx at h
  split at h
  · split at h
    · rename_i e; cases h; exact ⟨_, rfl, e⟩
    · cases h
  · cases h
def allS (c : Ct) : List Nat := List.range c.N.length
def chkA (c : Ct) (tg : Tg) (e : E) (t v : Expr) : Bool :=
  (plainA c t v && chkE c false e v && chkG c (allS c) tg t) ||
  (match tg, swLc c t v with
    | .name i, some y => decide (c.N[i]? = some y) && (match e with
      | .tmp l => chkL c l v
      | .own l => chkL c l v
      | _ => false)
    | _, _ => false) ||
  (match tg, e, t, v with
    | .tup [.name i, .name j], .tup [a, b], .Tuple [t1, t2] _ _, .Tuple [x, y] _ _ => decide (i ≠ j) && chkEs c [a, b] [x, y] && (match nmIx c i t1, nmIx c j t2 with
      | some n1, some n2 => decide (swK c.sc [t1, t2] [x, y] = some (some [n1, n2]))
      | _, _ => false)
    | .tup [.name i, .name j, .name l], .tup [a, b, d], .Tuple [t1, t2, t3] _ _, .Tuple [x, y, z] _ _ => decide (i ≠ j ∧ i ≠ l ∧ j ≠ l) && chkEs c [a, b, d] [x, y, z] && (match nmIx c i t1, nmIx c j t2, nmIx c l t3 with
      | some n1, some n2, some n3 => decide (swK c.sc [t1, t2, t3] [x, y, z] = some (some [n1, n2, n3]))
      | _, _, _ => false)
    | _, _, _, _ => false)
theorem chkA_ok {X : Cx} {c : Ct} {C : Calls} {k : Nat} (g : Good X c C k) (hC : CLe C C) (hk : X.env.scope.kind = .function) {tg : Tg} {e : E} {t v : Expr} {pos : Pos} (h : chkA c tg e t v = true) :
    PS X (.Assign [t] v pos) (liftS X.prog X.w X.K (wS C noX (.asg tg e))) := by
  have hnd : X.N.Nodup := by rw [g.N]; exact g.nd
  unfold chkA at h
  rw [Bool.or_eq_true, Bool.or_eq_true] at h
  rcases h with (h | h) | h
  · simp only [Bool.and_eq_true] at h
    obtain ⟨⟨h1, h2⟩, h3⟩ := h
    obtain ⟨a1, a2⟩ := plainA_ok (l := pos.line) g.sc hk h1
    refine weakS (ps_asg (chkE_ok hC g h2) (chkG_ok g (allS c) h3) a1 a2 ?_) fun D σ H q => lS_asg hC q
    cases t <;> first | rfl | (cases tg <;> simp [chkG] at h3)
  · split at h
    · rename_i i y hy
      rw [Bool.and_eq_true, decide_eq_true_eq] at h
      obtain ⟨h1, h2⟩ := h
      obtain ⟨py, elt, gs, scope, p2, rfl, rfl, l1, l2, l3⟩ := swLc_inv hy
      have hl : X.env.scope.names.lookup y = some .local := by rw [g.sc]; exact locB_ok l1
      have key : ∀ (l : L), chkL c l (.ListComp elt gs scope p2) = true → (∀ D σ H, liftS X.prog X.w X.K (wS C noX (.asg (.name i) e)) D σ H → liftF X.prog X.w X.K (wL C noX l) σ H (fun x H1 => D.nx (σ.set i (some x)) H1)) →
          PS X (.Assign [.Name y py] (.ListComp elt gs scope p2) pos) (liftS X.prog X.w X.K (wS C noX (.asg (.name i) e))) := by
        intro l hl2 hq
        cases l with
        | comp e' tg' vs it cnd =>
          obtain ⟨_, elt', t', iter', ifs', scope', own, wi, lk, hx, lc⟩ := chkL_ok hC g hl2
          obtain ⟨p3, hp3⟩ := pComp_inv hx
          cases hp3
          have base := ps_setLc (spos := pos) g.calm hnd (by rw [g.N]; exact h1) hl (sw_true (l := pos.line) hk hl l2 l3) lc.pi lc.blk lc.tg lc.ts lc.el (folded lc.st)
          rw [lc.sl] at base
          have r := lc.red
          cases lk with
          | false => exact weakS base fun D σ H q => r _ _ _ (hq D σ H q)
          | true => exact weakS (ps_lock base) fun D σ H q => r _ _ _ (hq D σ H q)
        | disp es => simp [chkL, pLst] at hl2
        | prim p es => cases p <;> simp [chkL, lprimOf, pBl] at hl2
      split at h2
      · exact key _ h2 fun D σ H q => lTmp hC (lS_set hC q)
      · exact key _ h2 fun D σ H q => lOwn hC (lS_set hC q)
      · cases h2
    · cases h
  · split at h
    · rename_i i j a b t1 t2 k1 q1 x y k2 q2
      simp only [Bool.and_eq_true, decide_eq_true_eq] at h
      obtain ⟨⟨h1, h2⟩, h3⟩ := h
      split at h3
      · rename_i n1 n2 e1 e2
        rw [decide_eq_true_eq] at h3
        obtain ⟨p1, rfl, b1, b2⟩ := nmIx_inv e1
        obtain ⟨p2, rfl, c1, c2⟩ := nmIx_inv e2
        exact weakS (ps_par g.calm hnd (by rw [g.N]; exact b1) (by rw [g.N]; exact c1) h1 (by rw [g.sc]; exact locB_ok b2) (by rw [g.sc]; exact locB_ok c2) ((chkEs_ok hC g h2).pa hC) (swK_ok g.sc hk h3)) fun D σ H q => lS_par2 hC q
      · cases h3
    · rename_i i j l a b d t1 t2 t3 k1 q1 x y z k2 q2
      simp only [Bool.and_eq_true, decide_eq_true_eq] at h
      obtain ⟨⟨h1, h2⟩, h3⟩ := h
      split at h3
      · rename_i n1 n2 n3 e1 e2 e3
        rw [decide_eq_true_eq] at h3
        obtain ⟨p1, rfl, b1, b2⟩ := nmIx_inv e1
        obtain ⟨p2, rfl, c1, c2⟩ := nmIx_inv e2
        obtain ⟨p3, rfl, d1, d2⟩ := nmIx_inv e3
        exact weakS (ps_par3 g.calm hnd (by rw [g.N]; exact b1) (by rw [g.N]; exact c1) (by rw [g.N]; exact d1) h1.1 h1.2.1 h1.2.2 (by rw [g.sc]; exact locB_ok b2) (by rw [g.sc]; exact locB_ok c2) (by rw [g.sc]; exact locB_ok d2) ((chkEs_ok hC g h2).pa hC) (swK_ok g.sc hk h3)) fun D σ H q => lS_par3 hC q
      · cases h3
    · cases h
end EV

/-! EV19: the reader of statements, of defs; a table of defs; a law. -/
namespace EV
open PySem PySem.Spec PyProof.Rows L2

def qSet : Stmt → Option (Expr × Expr × Expr)
  | .Assign [.Subscript o i _] v _ => if isComp v = false ∧ noSlice i = true then some (o, i, v) else none
  | _ => none
theorem qSet_inv {x : Stmt} {o i v : Expr} (h : qSet x = some (o, i, v)) : ∃ p q, x = .Assign [.Subscript o i p] v q ∧ isComp v = false ∧ noSlice i = true := by
  unfold qSet at h
  split at h
  · split at h
    · rename_i e; cases h; exact ⟨_, _, rfl, e⟩
    · cases h
  · cases h
def qAug (c : Ct) (i : Nat) (p : Prim) : Stmt → Option Expr
  | .AugAssign (.Name y _) op v _ => if iop op = some p ∧ tgName c i y = true then some v else none
  | _ => none
theorem qAug_inv {c : Ct} {i : Nat} {p : Prim} {x : Stmt} {v : Expr} (h : qAug c i p x = some v) : ∃ y q op r, x = .AugAssign (.Name y q) op v r ∧ iop op = some p ∧ tgName c i y = true := by
  unfold qAug at h
  split at h
  · split at h
    · rename_i e; cases h; exact ⟨_, _, _, _, rfl, e⟩
    · cases h
  · cases h
def qAugI (p : Prim) : Stmt → Option (Expr × Expr × Expr)
  | .AugAssign (.Subscript o i _) op v _ => if iop op = some p ∧ noSlice i = true then some (o, i, v) else none
  | _ => none
theorem qAugI_inv {p : Prim} {x : Stmt} {o i v : Expr} (h : qAugI p x = some (o, i, v)) : ∃ q op r, x = .AugAssign (.Subscript o i q) op v r ∧ iop op = some p ∧ noSlice i = true := by
  unfold qAugI at h
  split at h
  · split at h
    · rename_i e; cases h; exact ⟨_, _, _, rfl, e⟩
    · cases h
  · cases h
def qExpr : Stmt → Option Expr
  | .Expr v _ => if isComp v = false then some v else none
  | _ => none
theorem qExpr_inv {x : Stmt} {v : Expr} (h : qExpr x = some v) : ∃ p, x = .Expr v p ∧ isComp v = false := by
  unfold qExpr at h
  split at h
  · split at h
    · rename_i e; cases h; exact ⟨_, rfl, e⟩
    · cases h
  · cases h
def qIf : Stmt → Option (Expr × List Stmt × List Stmt)
  | .If c a b _ => some (c, a, b)
  | _ => none
theorem qIf_inv {x : Stmt} {c : Expr} {a b : List Stmt} (h : qIf x = some (c, a, b)) : ∃ p, x = .If c a b p := by
  unfold qIf at h; split at h <;> cases h; exact ⟨_, rfl⟩
def qFor : Stmt → Option (Expr × Expr × List Stmt)
  | .For t it b [] _ => if noSet it = true then some (t, it, b) else none
  | _ => none
theorem qFor_inv {x : Stmt} {t it : Expr} {b : List Stmt} (h : qFor x = some (t, it, b)) : ∃ p, x = .For t it b [] p ∧ noSet it = true := by
  unfold qFor at h
  split at h
  · split at h
    · rename_i e; cases h; exact ⟨_, rfl, e⟩
    · cases h
  · cases h
def qWhile : Stmt → Option (Expr × List Stmt)
  | .While c b [] _ => some (c, b)
  | _ => none
theorem qWhile_inv {x : Stmt} {c : Expr} {b : List Stmt} (h : qWhile x = some (c, b)) : ∃ p, x = .While c b [] p := by
  unfold qWhile at h; split at h <;> cases h; exact ⟨_, rfl⟩
def qRet : Stmt → Option Expr
  | .Return (some v) _ => some v
  | _ => none
theorem qRet_inv {x : Stmt} {v : Expr} (h : qRet x = some v) : ∃ p, x = .Return (some v) p := by
  unfold qRet at h; split at h <;> cases h; exact ⟨_, rfl⟩
def qRetN : Stmt → Bool
  | .Return none _ => true
  | _ => false
theorem qRetN_inv {x : Stmt} (h : qRetN x = true) : ∃ p, x = .Return none p := by
  unfold qRetN at h; split at h <;> first | exact ⟨_, rfl⟩ | cases h
def qBrk : Stmt → Bool
  | .Break _ => true
  | _ => false
theorem qBrk_inv {x : Stmt} (h : qBrk x = true) : ∃ p, x = .Break p := by
  unfold qBrk at h; split at h <;> first | exact ⟨_, rfl⟩ | cases h
def qCont : Stmt → Bool
  | .Continue _ => true
  | _ => false
theorem qCont_inv {x : Stmt} (h : qCont x = true) : ∃ p, x = .Continue p := by
  unfold qCont at h; split at h <;> first | exact ⟨_, rfl⟩ | cases h
def qPass : Stmt → Bool
  | .Pass _ => true
  | .Expr (.Constant (.str _) _ _) _ => true
  | _ => false
theorem qPass_inv {x : Stmt} (h : qPass x = true) : (∃ p, x = .Pass p) ∨ ∃ s j p q, x = .Expr (.Constant (.str s) j p) q := by
  unfold qPass at h; split at h <;> first | exact .inl ⟨_, rfl⟩ | exact .inr ⟨_, _, _, _, rfl⟩ | cases h
mutual
def chkS (c : Ct) : S → Stmt → Bool
  | .asg tg e, x => match pAsg x with
    | some (t, v) => chkA c tg e t v
    | none => false
  | .setItem o i v, x => match qSet x with
    | some (xo, xi, xv) => chkE c false o xo && chkE c false i xi && chkE c false v xv
    | none => false
  | .setFld _ _ _, _ => false
  | .augName i p e, x => match qAug c i p x with
    | some v => chkE c false e v
    | none => false
  | .augItem o i p e, x => match qAugI p x with
    | some (xo, xi, xv) => chkE c false o xo && chkE c false i xi && chkE c false e xv
    | none => false
  | .augFld _ _ _ _, _ => false
  | .expr e, x => match qExpr x with
    | some v => chkE c false e v
    | none => false
  | .cond t a b, x => match qIf x with
    | some (y, u, v) => chkE c true t y && chkSs c a u && chkSs c b v
    | none => false
  | .for_ tg it body, x => match qFor x with
    | some (t, iter, b) => (chkI c it iter && itTg it t) && chkG c (allS c) tg t && chkSs c body b
    | none => false
  | .while_ t body, x => match qWhile x with
    | some (y, b) => chkE c true t y && chkSs c body b
    | none => false
  | .ret e, x => match qRet x with
    | some v => chkE c false e v
    | none => false
  | .retN, x => qRetN x
  | .brk, x => qBrk x
  | .cont, x => qCont x
  | .pass, x => qPass x
def chkSs (c : Ct) : List S → List Stmt → Bool
  | [], [] => true
  | s :: r, x :: xs => chkS c s x && chkSs c r xs
  | _, _ => false
end
section
variable {C : Calls} {k : Nat} (hC : CLe C C) {X : Cx} {c : Ct} (g : Good X c C k) (hk : X.env.scope.kind = .function) (hp : PassesOwn (model X.prog X.w) X.A X.env X.xe)
include hC g hk hp
mutual
theorem chkS_ok : ∀ {s : S} {x : Stmt}, chkS c s x = true → PS X x (liftS X.prog X.w X.K (wS C noX s))
  | .asg tg e, x, h => by
    rw [chkS] at h
    cases hx : pAsg x with
    | none => simp [hx] at h
    | some tv =>
      obtain ⟨t, v⟩ := tv
      simp only [hx] at h
      obtain ⟨p, rfl⟩ := pAsg_inv hx
      exact chkA_ok g hC hk h
  | .setItem o i v, x, h => by
    rw [chkS] at h
    cases hx : qSet x with
    | none => simp [hx] at h
    | some tv =>
      obtain ⟨xo, xi, xv⟩ := tv
      simp only [hx, Bool.and_eq_true] at h
      obtain ⟨p, q, rfl, hv, hs⟩ := qSet_inv hx
      have u := g.units
      refine weakS (ps_asg (chkE_ok hC g h.2) (pg_sub (chkE_ok hC g h.1.1) (chkE_ok hC g h.1.2) (p_set (by omega)) ?_) (sole.trans (sw_no hv)) (st_no (.inl rfl))) fun D σ H q => lS_setItem hC q
      intro w
      cases xi <;> first | rfl | cases hs
  | .setFld _ _ _, x, h => by simp [chkS] at h
  | .augName i p e, x, h => by
    rw [chkS] at h
    cases hx : qAug c i p x with
    | none => simp [hx] at h
    | some v =>
      simp only [hx] at h
      obtain ⟨y, q, op, r, rfl, e1, e2⟩ := qAug_inv hx
      obtain ⟨n1, n2, n3, n4⟩ := tgName_ok g e2
      exact weakS (ps_aug n1 n2 n3 (chkE_ok hC g h) (iop_ok e1) n4) fun D σ H q => lS_aug hC q
  | .augItem o i p e, x, h => by
    rw [chkS] at h
    cases hx : qAugI p x with
    | none => simp [hx] at h
    | some tv =>
      obtain ⟨xo, xi, xv⟩ := tv
      simp only [hx, Bool.and_eq_true] at h
      obtain ⟨q, op, r, rfl, e1, e2⟩ := qAugI_inv hx
      have u := g.units
      refine weakS (ps_augS (chkE_ok hC g h.1.1) (chkE_ok hC g h.1.2) (p_get (by omega)) (chkE_ok hC g h.2) (iop_ok e1) (p_set (by omega)) ?_) fun D σ H q => lS_augItem hC q
      intro ov iv new
      cases xi <;> first | rfl | cases e2
  | .augFld _ _ _ _, x, h => by simp [chkS] at h
  | .expr e, x, h => by
    rw [chkS] at h
    cases hx : qExpr x with
    | none => simp [hx] at h
    | some v =>
      simp only [hx] at h
      obtain ⟨p, rfl, hv⟩ := qExpr_inv hx
      exact weakS (ps_expr (chkE_ok hC g h) (sw_no hv)) fun D σ H q => lS_expr hC q
  | .cond t a b, x, h => by
    rw [chkS] at h
    cases hx : qIf x with
    | none => simp [hx] at h
    | some tv =>
      obtain ⟨y, u, v⟩ := tv
      simp only [hx, Bool.and_eq_true] at h
      obtain ⟨p, rfl⟩ := qIf_inv hx
      exact weakS (ps_if (chkT_ok hC g h.1.1) (chkSs_ok h.1.2) (chkSs_ok h.2)) fun D σ H q => lS_cond hC q
  | .for_ tg it body, x, h => by
    rw [chkS] at h
    cases hx : qFor x with
    | none => simp [hx] at h
    | some tv =>
      obtain ⟨t, iter, b⟩ := tv
      simp only [hx, Bool.and_eq_true] at h
      obtain ⟨p, rfl, hv⟩ := qFor_inv hx
      obtain ⟨wi, lk, i1, _, i2⟩ := chkI_ok hC g (tg := t) h.1.1.1 h.1.1.2
      have base := ps_for (pos := p) hp g.calm i1 (chkG_ok g (allS c) h.1.2) (chkSs_ok h.2) (folded hv)
      have r := i2 tg (allS c) body
      cases lk with
      | false => exact weakS base r
      | true => exact weakS (ps_lock base) r
  | .while_ t body, x, h => by
    rw [chkS] at h
    cases hx : qWhile x with
    | none => simp [hx] at h
    | some tv =>
      obtain ⟨y, b⟩ := tv
      simp only [hx, Bool.and_eq_true] at h
      obtain ⟨p, rfl⟩ := qWhile_inv hx
      exact weakS (ps_while hp (chkT_ok hC g h.1) (chkSs_ok h.2)) fun D σ H q => lS_while hC q
  | .ret e, x, h => by
    rw [chkS] at h
    cases hx : qRet x with
    | none => simp [hx] at h
    | some v =>
      simp only [hx] at h
      obtain ⟨p, rfl⟩ := qRet_inv hx
      exact weakS (ps_ret (chkE_ok hC g h)) fun D σ H q => lS_ret hC q
  | .retN, x, h => by
    rw [chkS] at h
    obtain ⟨p, rfl⟩ := qRetN_inv h
    refine weakS ps_retN fun D σ H ⟨τ, G, H0, A, S, q⟩ => ?_
    rw [wS] at q
    exact q _ H0 H A (.refl _ _ _) .non
  | .brk, x, h => by
    rw [chkS] at h
    obtain ⟨p, rfl⟩ := qBrk_inv h
    refine weakS ps_break fun D σ H ⟨τ, G, H0, A, S, q⟩ => ?_
    rw [wS] at q
    exact upN_here A q S
  | .cont, x, h => by
    rw [chkS] at h
    obtain ⟨p, rfl⟩ := qCont_inv h
    refine weakS ps_continue fun D σ H ⟨τ, G, H0, A, S, q⟩ => ?_
    rw [wS] at q
    exact upN_here A q S
  | .pass, x, h => by
    rw [chkS] at h
    have fin : ∀ D σ H, liftS X.prog X.w X.K (wS C noX .pass) D σ H → tNext D σ H := fun D σ H ⟨τ, G, H0, A, S, q⟩ => by
      rw [wS] at q
      exact upN_here A q S
    rcases qPass_inv h with ⟨p, rfl⟩ | ⟨s, j, p, q, rfl⟩
    · exact weakS ps_pass fin
    · exact weakS ps_doc fin
theorem chkSs_ok : ∀ {ss : List S} {xs : List Stmt}, chkSs c ss xs = true → PSs X xs (liftS X.prog X.w X.K (wSs C noX ss))
  | [], [], _ => weakSs pss_nil fun D σ H ⟨τ, G, H0, A, S, q⟩ => by
    rw [wSs] at q
    exact upN_here A q S
  | [], _ :: _, h => by simp [chkSs] at h
  | _ :: _, [], h => by simp [chkSs] at h
  | s :: r, x :: xs, h => by
    rw [chkSs, Bool.and_eq_true] at h
    exact weakSs (pss_cons (chkS_ok h.1) (chkSs_ok h.2)) fun D σ H q => lSs_cons hC q
end
end
end EV

/-! EV20: a table of defs keeps its promises; a law. -/
namespace EV
open PySem PySem.Spec PyProof.Rows L2

structure Rw where
  x : Str
  args : Arguments
  body : List Stmt
  sc : Scope
  N : List Str
  fd : FDef
def Rw.ps (r : Rw) : List Str := r.args.args.map (·.arg)
def plainArgs (a : Arguments) : Bool := a.posonlyargs.isEmpty && a.vararg.isNone && a.kwonlyargs.isEmpty && a.kw_defaults.isEmpty && a.kwarg.isNone && a.defaults.isEmpty
theorem zip_look {α : Type} : ∀ {ps : List Str} {us : List α}, ps.Nodup → us.length = ps.length → ps.filterMap (fun n => ((ps.zip us).lookup n).map (n, ·)) = ps.zip us
  | [], us, _, _ => by simp
  | p :: ps, [], _, h => by simp at h
  | p :: ps, u :: us, hn, hl => by
    rw [List.nodup_cons] at hn
    have e : ps.filterMap (fun n => (((p :: ps).zip (u :: us)).lookup n).map (n, ·)) = ps.filterMap (fun n => ((ps.zip us).lookup n).map (n, ·)) := by
      have key : ∀ l : List Str, (∀ n ∈ l, n ∈ ps) → l.filterMap (fun n => (((p :: ps).zip (u :: us)).lookup n).map (n, ·)) = l.filterMap (fun n => ((ps.zip us).lookup n).map (n, ·)) := by
        intro l
        induction l with
        | nil => intro _; rfl
        | cons n l ih =>
          intro hm
          have : (n == p) = false := by
            rw [beq_eq_false_iff_ne]; intro z; subst z; exact hn.1 (hm n List.mem_cons_self)
          have e2 : ((p :: ps).zip (u :: us)).lookup n = (ps.zip us).lookup n := by simp [List.zip_cons_cons, List.lookup_cons, this]
          rw [List.filterMap_cons, List.filterMap_cons, e2, ih fun m h => hm m (List.mem_cons_of_mem _ h)]
      exact key ps fun _ h => h
    rw [List.filterMap_cons, e, zip_look hn.2 (by simpa using hl)]
    simp [List.lookup_cons]
theorem zip_has {α : Type} {n : Str} : ∀ {ps : List Str} {us : List α}, us.length = ps.length → n ∈ ps → ((ps.zip us).lookup n).isNone = false
  | [], _, _, h => by simp at h
  | p :: ps, [], hl, _ => by simp at hl
  | p :: ps, u :: us, hl, h => by
    rw [List.zip_cons_cons, List.lookup_cons]
    cases e : n == p with
    | true => rfl
    | false =>
      simp only
      refine zip_has (by simpa using hl) ?_
      rcases List.mem_cons.mp h with rfl | h
      · simp at e
      · exact h
theorem bind_plain {x qual : Str} {a : Arguments} {body : List Stmt} {scope : Scope} {kV doc pm : Value} {an : Option Addr} {cdv ct : Value} {us : List Value} (hp : plainArgs a = true) (hn : (a.args.map (·.arg)).Nodup) (hl : us.length = (a.args.map (·.arg)).length) :
    bindArgs (PySem.W.fnOf x qual a body scope .none kV doc pm an cdv ct) ⟨us, []⟩ = pure ((a.args.map (·.arg)).zip us) := by
  obtain ⟨po, ar, va, ko, kd, kw, df⟩ := a
  unfold plainArgs at hp
  simp only [Bool.and_eq_true, List.isEmpty_iff, Option.isNone_iff_eq_none] at hp
  obtain ⟨⟨⟨⟨⟨rfl, rfl⟩, rfl⟩, rfl⟩, rfl⟩, rfl⟩ := hp
  simp only at hn hl
  unfold bindArgs
  have e1 : seqItems? (PySem.W.fnOf x qual ⟨[], ar, none, [], [], none, []⟩ body scope .none kV doc pm an cdv ct).defaults = pure none := rfl
  have e0 : (PySem.W.fnOf x qual ⟨[], ar, none, [], [], none, []⟩ body scope .none kV doc pm an cdv ct).params = ⟨[], ar, none, [], [], none, []⟩ := rfl
  simp only [e1, e0, List.map_nil, List.nil_append, List.append_nil, List.forIn_nil, pure_bind, Option.getD_none, Option.isNone_none, Bool.and_true]
  have hgt : ¬ (us.length > (ar.map (·.arg)).length) := by omega
  have hm : ((ar.map (·.arg)).filter fun n => (((ar.map (·.arg)).zip us).lookup n).isNone) = [] := by
    rw [List.filter_eq_nil_iff]
    intro n hn'
    rw [zip_has hl hn']
    simp
  have hgt' : ¬ (decide (us.length > (ar.map (·.arg)).length) = true) := by simpa using hgt
  rw [if_neg hgt']
  simp only [List.drop_nil, List.length_nil, Nat.sub_zero, List.take_length, hm, List.isEmpty_nil, Bool.not_true, List.drop_length, List.zip_nil_right, List.forIn_nil, pure_bind, Bool.false_eq_true, if_false, zip_look hn hl]
def scopeB (N ps : List Str) (sc : Scope) : Bool := (match sc.kind with | .function => true | _ => false) && !sc.isCoroutine && !sc.isGenerator && decide N.Nodup && decide (N.take ps.length = ps) && (ps.all fun x => locB sc x || celB sc x) &&
  (sc.names.all fun y => match y.2 with | .free => false | _ => true)
theorem scopeB_ok {N ps : List Str} {sc : Scope} (h : scopeB N ps sc = true) : FnScope N ps sc := by
  unfold scopeB at h
  simp only [Bool.and_eq_true, Bool.not_eq_true', decide_eq_true_eq, List.all_eq_true, Bool.or_eq_true] at h
  obtain ⟨⟨⟨⟨⟨⟨h1, h2⟩, h3⟩, h4⟩, h5⟩, h6⟩, h7⟩ := h
  refine ⟨?_, h2, h3, h4, h5, fun x hx => (h6 x hx).imp locB_ok celB_ok, fun y hy e => ?_⟩
  · split at h1
    · assumption
    · cases h1
  · have := h7 y hy
    rw [e] at this
    cases this
def gsOf (rows : List Rw) (bl : List Str) : List (Str × Gk) := rows.map (fun r => (r.x, .fn)) ++ bl.map (fun x => (x, .blt))
def Rw.okB (gs : List (Str × Gk)) (r : Rw) : Bool := plainArgs r.args && scopeB r.N r.ps r.sc && decide (r.N.length = r.fd.ns) && decide (r.ps.length = r.fd.np) && chkSs ⟨r.N, r.sc, fun _ => true, gs⟩ r.fd.body r.body
def tabOf (rows : List Rw) : Str → Option FDef := fun x => (rows.find? fun r => r.x == x).map (·.fd)
def Rw.dd (r : Rw) : He.DefD := ⟨(r.x, none), r.x, r.x, r.args, r.body, r.sc, [], []⟩
def fnOf (rows : List Rw) : List He.DefD := rows.map Rw.dd
def faOf (rows : List Rw) (bl : List Str) : List He.Fa := rows.map (fun r => .glo r.x) ++ bl.map .free

section
variable {P : Program} {w : World} {K : PySem.W.Frag} {mg : Str → Option Value} {base : Heap} {gs : List (Str × Gk)} {Δ : Str → Option FDef}
/-- a def that stands behind the top, and was read -/
def RowOk (S : Rw → Prop) (K : PySem.W.Frag) (mg : Str → Option Value) (gs : List (Str × Gk)) (Δ : Str → Option FDef) (x : Str) : Prop := ∃ (r : Rw) (f : Addr) (fd : FuncData), S r ∧ r.x = x ∧ mg x = some (.ref f) ∧ FunD K r.x r.x r.args r.body r.sc [] [] f fd ∧ Δ x = some r.fd ∧ r.okB gs = true
theorem SR.start {K : PySem.W.Frag} {H : Hp} {G : GH} {ts : List T} {vs : List V} (r : RTs K H G ts vs) (n : Nat) : SR K H G (ts.map some ++ List.replicate n none) (vs.map some ++ List.replicate n none) := by
  induction ts generalizing vs with
  | nil =>
    cases r
    show SR K H G (List.replicate n none) (List.replicate n none)
    induction n with
    | zero => exact .nil
    | succ n ih => exact .non _ ih
  | cons t ts ih => cases r with | cons a b => exact .som a (ih b)
theorem exit_ok {G0 G : GH} {H00 Hs H0 H : Hp} {Q : VK} {t : T} {v : V} (q : exitW (upE P w K G0 H00 Hs Q) t G) (A : At P w K G H0 H) (s : Stp G0 H00 Hs G H0 H) (r : RT K H0 G t v) : Q v H := by
  obtain ⟨t', G', sb, fz, z⟩ := q
  obtain ⟨A', s'⟩ := A.sub_ sb
  exact z v H0 H A' (s.trans s') (RT.frz A.rel sb fz r)
theorem rows_ok {S : Rw → Prop} (hrow : ∀ x, gs.lookup x = some .fn → RowOk S K mg gs Δ x) (hblt : ∀ x, gs.lookup x = some .blt → mg x = none)
    (hcon : ∀ x t, gs.lookup x = some (.con t) → ∃ u v, mg x = some u ∧ RelV v u ∧ ∀ H G, RT K H G t v) :
    ∀ n x, gs.lookup x = some .fn → ∃ (r : Rw) (f : Addr) (fd : FuncData), S r ∧ r.x = x ∧ mg x = some (.ref f) ∧ FunD K r.x r.x r.args r.body r.sc [] [] f fd ∧ (plainArgs r.args = true ∧ r.ps.Nodup) ∧ FnOk P w K mg base cxF n f fd r.ps (spOf P w K (callW Δ n) x) := by
  intro n
  induction n with
  | zero =>
    intro x hx
    obtain ⟨r, f, fd, sr, rfl, h1, F, hd, hB⟩ := hrow x hx
    unfold Rw.okB at hB
    simp only [Bool.and_eq_true, decide_eq_true_eq] at hB
    obtain ⟨⟨⟨⟨b1, b2⟩, b3⟩, b4⟩, b5⟩ := hB
    have S := scopeB_ok b2
    have ndP : r.ps.Nodup := by rw [← S.pre]; exact S.nd.sublist (List.take_sublist _ _)
    refine ⟨r, f, fd, sr, rfl, h1, F, ⟨b1, ndP⟩, ⟨fun vs H Q E q => ?_, fun A outer s H args us vs Q E hr he hb hv q => ?_⟩⟩
    · obtain ⟨_, _, _, _, _, q⟩ := q; exact q.elim
    · obtain ⟨_, _, _, _, _, q⟩ := q; exact q.elim
  | succ n ih =>
    intro x hx
    obtain ⟨r, f, fd, sr, rfl, h1, F, hd, hB⟩ := hrow x hx
    unfold Rw.okB at hB
    simp only [Bool.and_eq_true, decide_eq_true_eq] at hB
    obtain ⟨⟨⟨⟨b1, b2⟩, b3⟩, b4⟩, b5⟩ := hB
    have S := scopeB_ok b2
    have ndP : r.ps.Nodup := by rw [← S.pre]; exact S.nd.sublist (List.take_sublist _ _)
    refine ⟨r, f, fd, sr, rfl, h1, F, ⟨b1, ndP⟩, F.ok S (fun vs H Q E q => ?_) fun cdv A outer s H vs Q E hr q => ?_⟩
    · obtain ⟨ts, G, H0, _, r', q⟩ := q
      rw [callW, hd] at q
      rw [← r'.length, q.1, b4]
    · obtain ⟨ts, G, H0, A0, r', q⟩ := q
      rw [callW, hd] at q
      obtain ⟨ql, q⟩ := q
      have g : Good (cxOf cxF P w K mg base r.N r.x r.sc f cdv A outer s H E).nox ⟨r.N, r.sc, fun _ => true, gs⟩ (callW Δ n) n :=
        ⟨rfl, rfl, rfl, S.nd, rfl, hr, hblt, hcon, fun y hy => by
          obtain ⟨r', f', fd', _, _, k1, F', ⟨k2, k3⟩, k4⟩ := ih y hy
          exact ⟨f', fd', r'.ps, k1, F'.kp, F'.bindsN fun kV doc pm an cdv ct us hl => bind_plain k2 k3 hl, k4⟩⟩
      refine ⟨liftS P w K (wSs (callW Δ n) noX r.fd.body), (chkSs_ok (callW_mono Δ n) g S.kind PassesOwn.never b5).nox, startS r.fd.ns ts, G, H0, A0, ?_, wSs_mono (callW_mono Δ n) _ _ _ (xle noX) ?_ q⟩
      · unfold startS L2.start
        rw [b3, r'.length]
        exact SR.start r' _
      · exact ⟨fun τ G' z σ' H0' H' A' s' S' => exit_ok z A' s' .non, fun t G' z v H0' H' A' s' r => exit_ok z A' s' r, fun _ _ z => z.elim, fun _ _ z => z.elim⟩
end
theorem lk_fn : ∀ {l : List Str} {bl : List Str} {x : Str}, ((l.map fun x => (x, Gk.fn)) ++ bl.map fun x => (x, Gk.blt)).lookup x = some .fn → x ∈ l
  | [], bl, x, h => by
    exfalso
    induction bl with
    | nil => simp at h
    | cons b bl ih =>
      simp only [List.map_nil, List.nil_append, List.map_cons, List.lookup_cons] at h ih
      split at h
      · cases h
      · exact ih h
  | a :: l, bl, x, h => by
    simp only [List.map_cons, List.cons_append, List.lookup_cons] at h
    cases e : x == a with
    | true => rw [beq_iff_eq.mp e]; exact List.mem_cons_self
    | false => rw [e] at h; exact List.mem_cons_of_mem _ (lk_fn h)
theorem lk_blt : ∀ {l : List Str} {bl : List Str} {x : Str}, ((l.map fun x => (x, Gk.fn)) ++ bl.map fun x => (x, Gk.blt)).lookup x = some .blt → x ∈ bl
  | [], [], x, h => by simp at h
  | [], b :: bl, x, h => by
    simp only [List.map_nil, List.nil_append, List.map_cons, List.lookup_cons] at h
    cases e : x == b with
    | true => rw [beq_iff_eq.mp e]; exact List.mem_cons_self
    | false => rw [e] at h; exact List.mem_cons_of_mem _ (lk_blt (l := []) (by simpa using h))
  | a :: l, bl, x, h => by
    simp only [List.map_cons, List.cons_append, List.lookup_cons] at h
    cases e : x == a with
    | true => rw [e] at h; cases h
    | false => rw [e] at h; exact lk_blt h
/-- what the head tells of a table -/
theorem table_ok {P : Program} {w : World} {K : PySem.W.Frag} {h : Heap} {mg : Str → Option Value} {rows : List Rw} {bl : List Str} (X : K.In h) (N : h.Ns mainGlobals mg) (c : He.SaysD (faOf rows bl) (fnOf rows) K)
    (hB : rows.all (Rw.okB (gsOf rows bl)) = true) (hn : (rows.map (·.x)).Nodup) (base : Heap) :
    ∀ n x, (gsOf rows bl).lookup x = some .fn → ∃ (r : Rw) (f : Addr) (fd : FuncData), r ∈ rows ∧ r.x = x ∧ mg x = some (.ref f) ∧ FunD K r.x r.x r.args r.body r.sc [] [] f fd ∧ (plainArgs r.args = true ∧ r.ps.Nodup) ∧ FnOk P w K mg base cxF n f fd r.ps (spOf P w K (callW (tabOf rows) n) x) := by
  have eg : gsOf rows bl = (((rows.map (·.x)).map fun x => (x, Gk.fn)) ++ bl.map fun x => (x, Gk.blt)) := by unfold gsOf; rw [List.map_map]; rfl
  refine rows_ok (S := fun r => r ∈ rows) (fun x hx => ?_) (fun x hx => ?_) (fun x t hx => ?_)
  · rw [eg] at hx
    obtain ⟨r, hr, rfl⟩ := List.mem_map.mp (lk_fn hx)
    obtain ⟨fd, F⟩ := c.defs (d := r.dd) (List.mem_map_of_mem hr)
    have e := He.glo_ok X N (c.facts (f := .glo r.x) (List.mem_append_left _ (List.mem_map.mpr ⟨r, hr, rfl⟩)))
    refine ⟨r, _, fd, hr, rfl, e, F, ?_, List.all_eq_true.mp hB r hr⟩
    unfold tabOf
    have : rows.find? (fun q => q.x == r.x) = some r := by
      clear hB c eg hx F e
      induction rows with
      | nil => simp at hr
      | cons a l ih =>
        rw [List.map_cons, List.nodup_cons] at hn
        rw [List.find?_cons]
        rcases List.mem_cons.mp hr with rfl | hr
        · simp
        · have : (a.x == r.x) = false := by
            rw [beq_eq_false_iff_ne]; intro z; exact hn.1 (by rw [z]; exact List.mem_map_of_mem hr)
          rw [this]
          exact ih hn.2 hr
    rw [this]; rfl
  · rw [eg] at hx
    exact He.free_ok X N (c.facts (f := .free x) (List.mem_append_right _ (List.mem_map_of_mem (lk_blt hx))))
  · exfalso
    rw [eg] at hx
    clear hB hn c eg
    generalize rows.map (·.x) = l at hx
    induction l with
    | nil =>
      induction bl with
      | nil => simp at hx
      | cons b bl ih =>
        simp only [List.map_nil, List.nil_append, List.map_cons, List.lookup_cons] at hx ih
        split at hx
        · cases hx
        · exact ih hx
    | cons a l ih =>
      simp only [List.map_cons, List.cons_append, List.lookup_cons] at hx ih
      split at hx
      · cases hx
      · exact ih hx
/-- the law's def at a script -/
theorem law_sp {P : Program} {w : World} {K : PySem.W.Frag} {C : Calls} (hC : CLe C C) {x : Str} {H : Hp} {a : Addr} {ns : List Int} (S : SqL K H a (ns.map V.int)) (q : C x [.scr ns] (fun _ => none) (fun t _ => t = .bl true) noX) :
    spOf P w K C x [.ref a] H (fun v _ => v = .bl true) fun _ _ _ => False := by
  refine ⟨[.scr ns], fun _ => none, H, ⟨fun _ _ h => h, fun _ _ h => by cases h⟩, .one (.scr ?_), hC x _ _ _ _ _ _ (fun t G e v H0' H' A' s' r => ?_) (xle noX) q⟩
  · rcases S with (h | ⟨o, h⟩) | h
    · exact .inl ⟨_, h, rfl, .inl rfl⟩
    · exact .inl ⟨_, h, rfl, .inr ⟨o, rfl⟩⟩
    · exact .inr (.inr h)
  · subst e; cases r; rfl
def isDef : Stmt → Bool
  | .FunctionDef .. => true
  | _ => false
def rwOf : Stmt × (List Str × FDef) → Option Rw
  | (.FunctionDef n a b _ _ _ sc _ _ _, (N, fd)) => some ⟨n, a, b, sc, N, fd⟩
  | _ => none
def rowsOf (body : List Stmt) (ds : List (List Str × FDef)) : List Rw := ((body.filter isDef).zip ds).filterMap rwOf
theorem row_unique : ∀ {rows : List Rw} {r r' : Rw}, (rows.map (·.x)).Nodup → r ∈ rows → r' ∈ rows → r.x = r'.x → r = r'
  | [], _, _, _, h, _, _ => by simp at h
  | a :: l, r, r', hn, h, h', e => by
    rw [List.map_cons, List.nodup_cons] at hn
    rcases List.mem_cons.mp h with h1 | h1
    · rcases List.mem_cons.mp h' with h2 | h2
      · rw [h1, h2]
      · exact absurd (List.mem_map.mpr ⟨r', h2, by rw [← e, h1]⟩) hn.1
    · rcases List.mem_cons.mp h' with h2 | h2
      · exact absurd (List.mem_map.mpr ⟨r, h1, by rw [e, h2]⟩) hn.1
      · exact row_unique hn.2 h1 h2 e
/-- what walk_ofE asks -/
theorem law_end {P : Program} {w : World} {K : PySem.W.Frag} {h : Heap} {mg : Str → Option Value} {rows : List Rw} {bl : List Str} {k n : Nat} {fa : Addr} (X : K.In h) (N : h.Ns mainGlobals mg) (c : He.SaysD (faOf rows bl) (fnOf rows) K)
    (hB : rows.all (Rw.okB (gsOf rows bl)) = true) (hn : (rows.map (·.x)).Nodup) (hmg : mg ("law" : Str) = some (.ref fa)) (hl : (rows.map (·.x)).contains ("law" : Str) = true)
    (hr : (rows.all fun r => !(r.x == ("law" : Str)) || (r.ps == [("script" : Str)])) = true)
    (q : ∀ ns : List Int, ns.length ≤ n → callW (tabOf rows) k "law" [.scr ns] (fun _ => none) (fun t _ => t = .bl true) noX) :
    ∃ (K : PySem.W.Frag) (fd : FuncData) (sp : Sp), K.In h ∧ (∀ (s : Shared) (u : Value), BindsTo s fd ⟨[u], []⟩ [("script", u)]) ∧
        (∀ (H : Hp) (a : Addr) (ns : List Int), ns.length ≤ n → Only H → SqL K H a (ns.map V.int) → sp [.ref a] H (fun v _ => v = .bl true) fun _ _ _ => False) ∧
        ∀ base : Heap, K.In base → base.Ns mainGlobals mg → FnOk P w K mg base cxF k fa fd ["script"] sp := by
  have hl' : (gsOf rows bl).lookup ("law" : Str) = some .fn := by
    have hm : ("law" : Str) ∈ rows.map (·.x) := by simpa using hl
    unfold gsOf
    clear hB hn c hr q hl
    induction rows with
    | nil => simp at hm
    | cons a l ih =>
      rw [List.map_cons, List.cons_append, List.lookup_cons]
      cases e : ("law" : Str) == a.x with
      | true => rfl
      | false =>
        rw [List.map_cons, List.mem_cons] at hm
        rcases hm with hm | hm
        · rw [hm] at e; simp at e
        · exact ih hm
  have key := fun base : Heap => table_ok (P := P) (w := w) X N c hB hn base k "law" hl'
  obtain ⟨r, f, fd, m, e1, e2, F, ⟨b1, b2⟩, _⟩ := key default
  have ps : ∀ r ∈ rows, r.x = "law" → r.ps = [("script" : Str)] := fun r m e1 => by
    have := List.all_eq_true.mp hr r m
    rw [e1] at this
    simpa using this
  refine ⟨K, fd, spOf P w K (callW (tabOf rows) k) "law", X, fun s u => ?_, fun H a ns hl _ S => law_sp (callW_mono _ k) S (q ns hl), fun base _ _ => ?_⟩
  · have b := FunD.bindsA (ps := r.ps) F (fun kV doc pm an cdv ct us hl => bind_plain b1 b2 hl) s [u] (by rw [ps r m e1]; rfl)
    rw [ps r m e1] at b
    exact b
  · obtain ⟨r', f', fd', m', e1', e2', F', _, ok⟩ := key base
    have ex : f' = fa := by rw [hmg] at e2'; cases e2'; rfl
    have ex2 : f = fa := by rw [hmg] at e2; cases e2; rfl
    subst ex ex2
    have er : r' = r := row_unique hn m' m (e1'.trans e1.symm)
    subst er
    have ef : fd' = fd := by
      obtain ⟨oc, od, _, _, _, _, _, _, _, osl, _, lk, _⟩ := F.ex
      obtain ⟨oc', od', _, _, _, _, _, _, _, osl', _, lk', _⟩ := F'.ex
      rw [lk] at lk'
      cases lk'
      rfl
    subst ef
    rw [ps _ m e1] at ok
    exact ok
end EV

/-! EV21: rules over the reading. -/
namespace EV
open PySem PySem.Spec PyProof.Rows L2

theorem callW_ok {Δ : Str → Option FDef} {n : Nat} {f : Str} {d : FDef} {ts : List T} {G : GH} {Q : QE} {R : XQ} (hd : Δ f = some d) (hl : ts.length = d.np)
    (q : wSs (callW Δ n) R d.body { nx := fun _ G' => exitW Q .non G', rt := exitW Q } (startS d.ns ts) G) : callW Δ (n + 1) f ts G Q R := by
  show (match Δ f with
    | some d => ts.length = d.np ∧ wSs (callW Δ n) R d.body { nx := fun _ G' => exitW Q .non G', rt := exitW Q } (startS d.ns ts) G
    | none => False)
  rw [hd]
  exact ⟨hl, q⟩
theorem exit_same {Q : QE} {t : T} {G : GH} (q : Q t G) : exitW Q t G := ⟨t, G, Sub.refl G, .same t, q⟩
theorem exit_drop {Q : QE} {t : T} {G G' : GH} (sb : Sub G' G) (q : Q t G') : exitW Q t G := ⟨t, G', sb, .same t, q⟩
theorem exit_frz {Q : QE} {a : Addr} {ts : List T} {G G' : GH} (h : G a = some (.lst ts)) (sb : Sub G' G) (h' : G' a = none) (q : Q (.lst ts) G') : exitW Q (.ref a) G := ⟨.lst ts, G', sb, .lst h h' (Frzs.same ts), q⟩
/-- the wish behind a turn: some state from which the rest goes on, known less -/
def Then (I : Sl → GH → Prop) : Sl → GH → Prop := fun τ G => ∃ τ' G', Wk τ G τ' G' ∧ I τ' G'
theorem Then.here {I : Sl → GH → Prop} {τ : Sl} {G : GH} (h : I τ G) : Then I τ G := ⟨τ, G, Wk.refl τ G, h⟩
theorem Then.slots {I : Sl → GH → Prop} {τ τ' : Sl} {G : GH} (w : Wks G G τ τ') (h : I τ' G) : Then I τ G := ⟨τ', G, ⟨Sub.refl G, w⟩, h⟩
section
variable {C : Calls} (hC : CLe C C) {R : XQ}
include hC
/-- a loop by an invariant over what is left -/
theorem for_inv {tg : Tg} {body : List S} {D : DE} {ok : GH → Prop} (I : List T → Sl → GH → Prop) (hok : ∀ r τ G, I r τ G → ok G)
    (hs : ∀ x r τ G, I (x :: r) τ G → Tg.wp tg x τ fun τ2 => wSs C R body { nx := Then (I r), rt := D.rt, bk := D.nx, ct := Then (I r) } τ2 G)
    (he : ∀ τ G, I [] τ G → D.nx τ G) : ∀ xs τ G, I xs τ G → forW ok (fun x D' τ1 G1 => Tg.wp tg x τ1 fun τ2 => wSs C R body D' τ2 G1) D xs τ G
  | [], τ, G, h => ⟨hok _ _ _ h, he _ _ h⟩
  | x :: r, τ, G, h => ⟨hok _ _ _ h, Tg.mono tg x τ (fun τ2 z => wSs_mono hC body τ2 G (xle R) (.of (fun τ' G' ⟨τ3, G3, k, z⟩ => ⟨τ3, G3, k, for_inv I hok hs he r τ3 G3 z⟩) (fun _ _ z => z) (fun _ _ z => z) (fun τ' G' ⟨τ3, G3, k, z⟩ => ⟨τ3, G3, k, for_inv I hok hs he r τ3 G3 z⟩)) z) (hs x r τ G h)⟩
/-- a loop by an invariant and a measure -/
theorem while_inv {c : E} {body : List S} {D : DE} (I : Nat → Sl → GH → Prop)
    (hs : ∀ n τ G, I n τ G → wE C R c τ G fun t G2 => match t with
      | .bl true => wSs C R body { nx := Then (fun τ' G' => ∃ m, m < n ∧ I m τ' G'), rt := D.rt, bk := D.nx, ct := Then (fun τ' G' => ∃ m, m < n ∧ I m τ' G') } τ G2
      | .bl false => D.nx τ G2
      | _ => False) : ∀ n τ G, I n τ G → wS C R (.while_ c body) D τ G := by
  have key : ∀ k n, n < k → ∀ τ G, I n τ G → whileW (fun W τ1 G1 => wE C R c τ1 G1 fun t G2 => match t with
      | .bl true => wSs C R body { nx := W, rt := D.rt, bk := D.nx, ct := W } τ1 G2
      | .bl false => D.nx τ1 G2
      | _ => False) k τ G := by
    intro k
    induction k with
    | zero => intro n hn; omega
    | succ k ih =>
      intro n hn τ G h
      refine wE_mono hC c τ G (xle R) (fun t G2 z => ?_) (hs n τ G h)
      split at z
      · refine wSs_mono hC body τ G2 (xle R) ?_ z
        have ag : ∀ τ' G', Then (fun τ' G' => ∃ m, m < n ∧ I m τ' G') τ' G' → againW (whileW (fun W τ1 G1 => wE C R c τ1 G1 fun t G2 => match t with
          | .bl true => wSs C R body { nx := W, rt := D.rt, bk := D.nx, ct := W } τ1 G2
          | .bl false => D.nx τ1 G2
          | _ => False) k) τ' G' := fun τ' G' ⟨τ3, G3, w, m, hm, hi⟩ => ⟨τ3, G3, w, ih m (by omega) τ3 G3 hi⟩
        exact .of ag (fun _ _ z => z) (fun _ _ z => z) ag
      · exact z
      · exact z
  intro n τ G h
  rw [wS]
  exact ⟨n + 1, key (n + 1) n (by omega) τ G h⟩
end
/-- a comprehension by an invariant: what is left, what has come -/
theorem comp_inv' {ok : GH → Prop} {turn : T → GH → (Option T → GH → Prop) → Prop} {Q : List T → GH → Prop} (I : List T → List T → GH → Prop) (hok : ∀ r acc G, I r acc G → ok G)
    (mono : ∀ x G k k', (∀ y G, k y G → k' y G) → turn x G k → turn x G k')
    (hs : ∀ x r acc G, I (x :: r) acc G → turn x G fun y G' => match y with
      | some y => acc.length < sizeLine ∧ I r (acc ++ [y]) G'
      | none => I r acc G')
    (he : ∀ acc G, I [] acc G → Q acc G) : ∀ xs acc G, I xs acc G → compW ok turn xs acc G Q
  | [], acc, G, h => ⟨hok _ _ _ h, he _ _ h⟩
  | x :: r, acc, G, h => ⟨hok _ _ _ h, mono x G _ _ (fun y G' z => by
      cases y with
      | some y => exact ⟨z.1, comp_inv' I hok mono hs he r _ G' z.2⟩
      | none => exact comp_inv' I hok mono hs he r _ G' z) (hs x r acc G h)⟩
theorem turn_mono {C : Calls} (hC : CLe C C) {e c : E} {tg : Tg} {vs : List Nat} {τ : Sl} : ∀ (x : T) (G : GH) (k k' : Option T → GH → Prop), (∀ y G, k y G → k' y G) →
    (Tg.wp tg x (wipeS τ vs) fun τ1 => wE C noX c τ1 G fun t G2 => match t with
      | .bl true => wE C noX e τ1 G2 fun y G3 => k (some y) G3
      | .bl false => k none G2
      | _ => False) → Tg.wp tg x (wipeS τ vs) fun τ1 => wE C noX c τ1 G fun t G2 => match t with
      | .bl true => wE C noX e τ1 G2 fun y G3 => k' (some y) G3
      | .bl false => k' none G2
      | _ => False := fun x G k k' hk q => Tg.mono tg x _ (fun τ1 q => wE_mono hC c τ1 G (xle noX) (fun t G2 z => by
    split at z
    · exact wE_mono hC e τ1 G2 (xle noX) (fun y G3 => hk _ _) z
    · exact hk _ _ z
    · exact z.elim) q) q
/-- a comprehension that changes nothing: each item gives what f tells -/
theorem comp_pure' {ok : GH → Prop} {turn : T → GH → (Option T → GH → Prop) → Prop} {Q : List T → GH → Prop} {G : GH} (f : T → Option T) (hok : ok G) :
    ∀ (xs acc : List T), (∀ x ∈ xs, ∀ k : Option T → GH → Prop, k (f x) G → turn x G k) → acc.length + xs.length ≤ sizeLine → Q (acc ++ xs.filterMap f) G → compW ok turn xs acc G Q
  | [], acc, _, _, q => ⟨hok, by simpa using q⟩
  | x :: r, acc, h, hl, q => ⟨hok, h x List.mem_cons_self _ (by
      rw [List.length_cons] at hl
      have h' : ∀ y ∈ r, ∀ k : Option T → GH → Prop, k (f y) G → turn y G k := fun y hy => h y (List.mem_cons_of_mem _ hy)
      cases e : f x with
      | some y => exact ⟨by omega, comp_pure' f hok r _ h' (by rw [List.length_append]; simp; omega) (by rw [List.filterMap_cons, e] at q; simpa using q)⟩
      | none => exact comp_pure' f hok r _ h' (by omega) (by rw [List.filterMap_cons, e] at q; exact q))⟩
theorem comp_inv {ok : GH → Prop} {turn : T → GH → (Option T → GH → Prop) → Prop} {Q : List T → GH → Prop} (I : List T → List T → GH → Prop) (hok : ∀ r acc G, I r acc G → ok G)
    (mono : ∀ x G k k', (∀ y G, k y G → k' y G) → turn x G k → turn x G k')
    (hs : ∀ x r acc G, I (x :: r) acc G → turn x G fun y G' => match y with
      | some y => acc.length < sizeLine ∧ I r (acc ++ [y]) G'
      | none => I r acc G')
    (he : ∀ acc G, I [] acc G → Q acc G) (xs acc : List T) (G : GH) (h : I xs acc G) : compW ok turn xs acc G (wcF none Q) := comp_inv' I hok mono hs he xs acc G h
theorem comp_pure {ok : GH → Prop} {turn : T → GH → (Option T → GH → Prop) → Prop} {Q : List T → GH → Prop} {G : GH} (f : T → Option T) (hok : ok G)
    (xs acc : List T) (h : ∀ x ∈ xs, ∀ k : Option T → GH → Prop, k (f x) G → turn x G k) (hl : acc.length + xs.length ≤ sizeLine) (q : Q (acc ++ xs.filterMap f) G) : compW ok turn xs acc G (wcF none Q) := comp_pure' f hok xs acc h hl q
/-- over a locked dict -/
theorem comp_pureL {ok : GH → Prop} {turn : T → GH → (Option T → GH → Prop) → Prop} {Q : List T → GH → Prop} {G : GH} {a : Addr} {ob : Obj} {kv : List (Key × V)} {kvs : List (T × T)} (f : T → Option T) (hok : ok G) (hg : G a = some (.lkd ob kv kvs))
    (xs acc : List T) (h : ∀ x ∈ xs, ∀ k : Option T → GH → Prop, k (f x) G → turn x G k) (hl : acc.length + xs.length ≤ sizeLine) (q : Q (acc ++ xs.filterMap f) (put G a (.dct kvs))) : compW ok turn xs acc G (wcF (some (a, ob, kv, kvs)) Q) := comp_pure' f hok xs acc h hl ⟨hg, q⟩
theorem sub_put {G : GH} {a : Addr} {o o' : O} (h : G a = some o') : ∀ b, b ≠ a → put G a o b = G b := fun b hb => put_ne hb

/-! ### plain data: equal just when one -/
mutual
theorem T.eqv_pl : ∀ a b : T, T.pl a = true → T.pl b = true → T.eqv a b = decide (a = b)
  | .non, b, _, hb => by cases b <;> simp_all [T.eqv, T.pl]
  | .int i, b, _, hb => by cases b <;> simp_all [T.eqv, T.pl]
  | .str x, b, _, hb => by cases b <;> simp_all [T.eqv, T.pl]
  | .tup xs, b, ha, hb => by
    cases b with
    | tup ys =>
      rw [T.eqv, T.eqvs_pl xs ys (by simpa [T.pl] using ha) (by simpa [T.pl] using hb)]
      simp
    | _ => simp_all [T.eqv, T.pl]
  | .bl _, _, ha, _ => by simp [T.pl] at ha
  | .lst _, _, ha, _ => by simp [T.pl] at ha
  | .dct _ _, _, ha, _ => by simp [T.pl] at ha
  | .ref _, _, ha, _ => by simp [T.pl] at ha
  | .scr _, _, ha, _ => by simp [T.pl] at ha
theorem T.eqvs_pl : ∀ a b : List T, T.pls a = true → T.pls b = true → T.eqvs a b = decide (a = b)
  | [], [], _, _ => by simp [T.eqvs]
  | [], _ :: _, _, _ => by simp [T.eqvs]
  | _ :: _, [], _, _ => by simp [T.eqvs]
  | x :: xs, y :: ys, ha, hb => by
    rw [T.pls, Bool.and_eq_true] at ha hb
    rw [T.eqvs, T.eqv_pl x y ha.1 hb.1, T.eqvs_pl xs ys ha.2 hb.2]
    by_cases e1 : x = y <;> by_cases e2 : xs = ys <;> simp [e1, e2]
end
theorem T.pls_all : ∀ {ts : List T}, T.pls ts = true ↔ ∀ t ∈ ts, T.pl t = true
  | [] => by simp [T.pls]
  | t :: ts => by rw [T.pls, Bool.and_eq_true, T.pls_all (ts := ts)]; simp
theorem T.dats_all : ∀ {ts : List T}, T.dats ts = true ↔ ∀ t ∈ ts, T.dat t = true
  | [] => by simp [T.dats]
  | t :: ts => by rw [T.dats, Bool.and_eq_true, T.dats_all (ts := ts)]; simp
theorem T.deps_le {n : Nat} : ∀ {ts : List T}, T.deps ts ≤ n ↔ ∀ t ∈ ts, T.dep t ≤ n
  | [] => by simp [T.deps]
  | t :: ts => by
    rw [T.deps, Nat.max_le, T.deps_le (ts := ts)]; simp
mutual
theorem T.pl_dat : ∀ t : T, T.pl t = true → T.dat t = true
  | .non, _ => rfl
  | .int _, _ => rfl
  | .str x, h => by rw [T.dat]; rw [T.pl] at h; exact h
  | .tup xs, h => by rw [T.dat]; rw [T.pl] at h; exact T.pls_dats xs h
  | .bl _, h => by simp [T.pl] at h
  | .lst _, h => by simp [T.pl] at h
  | .dct _ _, h => by simp [T.pl] at h
  | .ref _, h => by simp [T.pl] at h
  | .scr _, h => by simp [T.pl] at h
theorem T.pls_dats : ∀ ts : List T, T.pls ts = true → T.dats ts = true
  | [], _ => rfl
  | t :: ts, h => by
    rw [T.pls, Bool.and_eq_true] at h
    rw [T.dats, T.pl_dat t h.1, T.pls_dats ts h.2]; rfl
end
theorem mem_pl {x : T} {ts : List T} (hx : T.pl x = true) (ht : T.pls ts = true) : mem x ts = decide (x ∈ ts) := by
  unfold mem
  rw [T.pls_all] at ht
  rw [Bool.eq_iff_iff, List.any_eq_true, decide_eq_true_eq]
  constructor
  · rintro ⟨y, hy, e⟩
    rw [T.eqv_pl y x (ht y hy) hx, decide_eq_true_eq] at e
    rw [← e]; exact hy
  · intro h
    exact ⟨x, h, by rw [T.eqv_pl x x hx hx]; simp⟩

/-! ### sorted -/
theorem perm_sorted_eq : ∀ {us vs : List T}, us.Perm vs → us.Pairwise (fun x y => T.tlt y x = false) → vs.Pairwise (fun x y => T.tlt y x = false) → (∀ x ∈ us, ∀ y ∈ us, T.tlt x y = false → T.tlt y x = false → x = y) → us = vs
  | [], vs, hp, _, _, _ => (List.Perm.nil_eq hp)
  | u :: us, [], hp, _, _, _ => by have := hp.length_eq; simp at this
  | u :: us, v :: vs, hp, h1, h2, ha => by
    rw [List.pairwise_cons] at h1 h2
    have e : u = v := by
      by_cases e : u = v
      · exact e
      · have m1 : v ∈ us := by
          have : v ∈ u :: us := hp.mem_iff.mpr List.mem_cons_self
          rcases List.mem_cons.mp this with z | z
          · exact absurd z.symm e
          · exact z
        have m2 : u ∈ vs := by
          have : u ∈ v :: vs := hp.mem_iff.mp List.mem_cons_self
          rcases List.mem_cons.mp this with z | z
          · exact absurd z e
          · exact z
        exact ha u List.mem_cons_self v (List.mem_cons_of_mem _ m1) (h2.1 u m2) (h1.1 v m1)
    subst e
    rw [perm_sorted_eq (hp.cons_inv) h1.2 h2.2 fun x hx y hy => ha x (List.mem_cons_of_mem _ hx) y (List.mem_cons_of_mem _ hy)]
def srt (ts : List T) : List T := ts.mergeSort fun x y => !T.tlt y x
theorem srt_perm (ts : List T) : (srt ts).Perm ts := List.mergeSort_perm ts _
theorem srt_sorted (ts : List T) : (srt ts).Pairwise fun x y => T.tlt y x = false := by
  have h := List.pairwise_mergeSort (le := fun x y : T => !T.tlt y x) (fun a b c h1 h2 => by
    simp only [Bool.not_eq_true'] at h1 h2 ⊢
    exact ilt_negtrans _ _ _ h1 h2) (fun a b => by
    rw [Bool.or_eq_true, Bool.not_eq_true', Bool.not_eq_true']
    cases e : T.tlt b a with
    | false => exact .inl rfl
    | true => exact .inr (ilt_asymm _ _ e)) ts
  exact h.imp fun z => by simpa using z
theorem srt_mem {ts : List T} {x : T} : x ∈ srt ts ↔ x ∈ ts := (srt_perm ts).mem_iff
theorem srt_len (ts : List T) : (srt ts).length = ts.length := (srt_perm ts).length_eq
theorem sort_unique {us ts : List T} (hp : us.Perm ts) (hs : us.Pairwise fun x y => T.tlt y x = false) (pl : T.pls ts = true) : us = srt ts := by
  refine perm_sorted_eq (hp.trans (srt_perm ts).symm) hs (srt_sorted ts) fun x hx y hy h1 h2 => ?_
  rw [T.pls_all] at pl
  exact tlt_total (pl x (hp.mem_iff.mp hx)) (pl y (hp.mem_iff.mp hy)) h1 h2
theorem srt_set {us ts : List T} (h1 : us.Nodup) (h2 : ts.Nodup) (pl : T.pls ts = true) (h : ∀ x, x ∈ us ↔ x ∈ ts) : srt us = srt ts := by
  have hp : us.Perm ts := (List.perm_ext_iff_of_nodup h1 h2).mpr h
  exact sort_unique ((srt_perm us).trans hp) (srt_sorted us) pl
theorem srt_self {ts : List T} (hs : ts.Pairwise fun x y => T.tlt y x = false) (pl : T.pls ts = true) : srt ts = ts := (sort_unique (List.Perm.refl ts) hs pl).symm
theorem wp_sorted {t : T} {G : GH} {ts : List T} {Q : List T → GH → Prop} (e : seqOf G t = some ts) (hl : ts.length ≤ sizeLine) (pl : T.pls ts = true) (hd : T.deps ts ≤ 60) (so : sortOk ts = true) (cm : ∀ x ∈ ts, ∀ y ∈ ts, x = y ∨ T.cmp x y = true)
    (q : Q (srt ts) G) : LPrim.wp .sorted [t] G Q := ⟨ts, .inl e, hl, pl, hd, so, cm, fun us hp hs => by rw [sort_unique hp hs pl]; exact q⟩

/-! ### each thing once -/
def ddStep (acc : List T) (x : T) : List T := if x ∈ acc then acc else acc ++ [x]
def dd (l : List T) : List T := l.foldl ddStep []
theorem ddStep_mem {acc : List T} {x y : T} : y ∈ ddStep acc x ↔ y ∈ acc ∨ y = x := by
  unfold ddStep; split
  · constructor
    · exact .inl
    · rintro (h | rfl) <;> assumption
  · simp
theorem ddStep_nodup {acc : List T} {x : T} (h : acc.Nodup) : (ddStep acc x).Nodup := by
  unfold ddStep; split
  · exact h
  · rename_i hx
    rw [List.nodup_append]
    refine ⟨h, by simp, fun a ha b hb => ?_⟩
    simp only [List.mem_singleton] at hb
    subst hb
    exact fun z => hx (z ▸ ha)
theorem ddF_mem : ∀ {l acc : List T} {y : T}, y ∈ l.foldl ddStep acc ↔ y ∈ acc ∨ y ∈ l
  | [], acc, y => by simp
  | x :: l, acc, y => by
    rw [List.foldl_cons, ddF_mem, ddStep_mem, List.mem_cons]
    constructor
    · rintro ((h | h) | h)
      · exact .inl h
      · exact .inr (.inl h)
      · exact .inr (.inr h)
    · rintro (h | h | h)
      · exact .inl (.inl h)
      · exact .inl (.inr h)
      · exact .inr h
theorem ddF_nodup : ∀ {l acc : List T}, acc.Nodup → (l.foldl ddStep acc).Nodup
  | [], _, h => h
  | x :: l, acc, h => by rw [List.foldl_cons]; exact ddF_nodup (ddStep_nodup h)
theorem dd_mem {l : List T} {y : T} : y ∈ dd l ↔ y ∈ l := by unfold dd; rw [ddF_mem]; simp
theorem dd_nodup (l : List T) : (dd l).Nodup := ddF_nodup List.nodup_nil
theorem ddF_len : ∀ {l acc : List T}, (l.foldl ddStep acc).length ≤ acc.length + l.length
  | [], acc => by simp
  | x :: l, acc => by
    rw [List.foldl_cons]
    have h := ddF_len (l := l) (acc := ddStep acc x)
    have h2 : (ddStep acc x).length ≤ acc.length + 1 := by
      unfold ddStep; split
      · omega
      · simp
    simp only [List.length_cons]; omega
theorem dd_len (l : List T) : (dd l).length ≤ l.length := by have := ddF_len (l := l) (acc := []); simpa [dd] using this
/-! ### loops by places -/
section
variable {C : Calls} (hC : CLe C C) {R : XQ}
include hC
theorem for_at {tg : Tg} {body : List S} {D : DE} {ok : GH → Prop} (xs : List T) (I : Nat → Sl → GH → Prop) (hok : ∀ i τ G, I i τ G → ok G)
    (hs : ∀ i x τ G, xs[i]? = some x → I i τ G → Tg.wp tg x τ fun τ2 => wSs C R body { nx := Then (I (i + 1)), rt := D.rt, bk := D.nx, ct := Then (I (i + 1)) } τ2 G)
    (he : ∀ τ G, I xs.length τ G → D.nx τ G) (τ : Sl) (G : GH) (h : I 0 τ G) : forW ok (fun x D' τ1 G1 => Tg.wp tg x τ1 fun τ2 => wSs C R body D' τ2 G1) D xs τ G := by
  refine for_inv hC (fun r τ G => ∃ i, i ≤ xs.length ∧ r = xs.drop i ∧ I i τ G) (fun r τ G ⟨i, _, _, h⟩ => hok i τ G h) (fun x r τ G ⟨i, hi, e, h⟩ => ?_) (fun τ G ⟨i, hi, e, h⟩ => ?_) xs τ G ⟨0, Nat.zero_le _, rfl, h⟩
  · have hlt : i < xs.length := by
      by_cases z : i < xs.length
      · exact z
      · rw [List.drop_eq_nil_of_le (by omega)] at e; cases e
    rw [List.drop_eq_getElem_cons hlt] at e
    cases e
    refine Tg.mono tg _ τ (fun τ2 z => wSs_mono hC body τ2 G (xle R) (.of ?_ (fun _ _ z => z) (fun _ _ z => z) ?_) z) (hs i _ τ G (List.getElem?_eq_getElem hlt) h)
    · exact fun τ' G' ⟨τ3, G3, k, z⟩ => ⟨τ3, G3, k, i + 1, hlt, rfl, z⟩
    · exact fun τ' G' ⟨τ3, G3, k, z⟩ => ⟨τ3, G3, k, i + 1, hlt, rfl, z⟩
  · have : i = xs.length := by
      have := congrArg List.length e
      rw [List.length_drop] at this
      simp at this
      omega
    subst this
    exact he τ G h
end
/-! ### each operation, from its operands -/
section
variable {G : GH} {Q : QE} {i j : Int} {t u : T} {ts : List T} {kvs : List (T × T)}
theorem x_add (q : Q (.int (i + j)) G) : Prim.wp .add [.int i, .int j] G Q := q
theorem x_iadd (q : Q (.int (i + j)) G) : Prim.wp .iadd [.int i, .int j] G Q := q
theorem x_addT {a b : List T} (h : a.length + b.length ≤ sizeLine) (q : Q (.tup (a ++ b)) G) : Prim.wp .add [.tup a, .tup b] G Q := ⟨h, q⟩
theorem x_addL {a b : List T} (h : a.length + b.length ≤ sizeLine) (q : Q (.lst (a ++ b)) G) : Prim.wp .add [.lst a, .lst b] G Q := ⟨a, b, rfl, rfl, h, q⟩
theorem x_addS {a b : Str} (h : a.length + b.length ≤ sizeLine) (q : Q (.str (a ++ b)) G) : Prim.wp .add [.str a, .str b] G Q := ⟨h, q⟩
theorem x_sub (q : Q (.int (i - j)) G) : Prim.wp .sub [.int i, .int j] G Q := q
theorem x_mulL (h0 : -(2 ^ 64) < i) (h1 : i < 2 ^ 64) (q : Q (.int (i * j)) G) : Prim.wp .mul [.int i, .int j] G Q := ⟨.inl ⟨h0, h1⟩, q⟩
theorem x_mulR (h0 : -(2 ^ 64) < j) (h1 : j < 2 ^ 64) (q : Q (.int (i * j)) G) : Prim.wp .mul [.int i, .int j] G Q := ⟨.inr ⟨h0, h1⟩, q⟩
theorem x_mod (h : 0 < j) (q : Q (.int (i % j)) G) : Prim.wp .mod [.int i, .int j] G Q := ⟨h, q⟩
theorem x_fdiv (h : 0 < j) (h' : j < 1073741824) (q : Q (.int (i / j)) G) : Prim.wp .fdiv [.int i, .int j] G Q := ⟨⟨h, h'⟩, q⟩
theorem x_pow (h0 : 0 ≤ j) (h1 : j ≤ 1000000) (h2 : i.natAbs < 2 ^ 64) (q : Q (.int (i ^ j.toNat)) G) : Prim.wp .pow [.int i, .int j] G Q := ⟨⟨h0, h1, h2⟩, q⟩
theorem x_neg (q : Q (.int (-i)) G) : Prim.wp .neg [.int i] G Q := q
theorem x_abs (q : Q (.int (if i < 0 then -i else i)) G) : Prim.wp .abs [.int i] G Q := q
theorem x_int (q : Q (.int i) G) : Prim.wp .int [.int i] G Q := q
theorem x_lt (q : Q (.bl (decide (i < j))) G) : Prim.wp .lt [.int i, .int j] G Q := q
theorem x_le (q : Q (.bl (decide (i ≤ j))) G) : Prim.wp .le [.int i, .int j] G Q := q
theorem x_gt (q : Q (.bl (decide (j < i))) G) : Prim.wp .gt [.int i, .int j] G Q := q
theorem x_ge (q : Q (.bl (decide (j ≤ i))) G) : Prim.wp .ge [.int i, .int j] G Q := q
theorem x_lenS {x : Str} (h : x.length ≤ sizeLine) (q : Q (.int x.length) G) : Prim.wp .len [.str x] G Q := ⟨h, q⟩
theorem x_len (h : seqOf G t = some ts) (q : Q (.int ts.length) G) : Prim.wp .len [t] G Q := by
  cases t with
  | str x => cases h
  | _ => exact .inl ⟨ts, h, q⟩
theorem x_lenD (h : dctOf G t = some kvs) (q : Q (.int kvs.length) G) : Prim.wp .len [t] G Q := by
  cases t with
  | str x => cases h
  | _ => exact .inr ⟨kvs, h, q⟩
theorem x_idx {v : T} (h : seqOf G t = some ts) (e : atI ts i = some v) (q : Q v G) : Prim.wp .idx [t, .int i] G Q := by
  cases t with
  | str x => cases h
  | _ => exact .inl ⟨ts, i, v, h, rfl, e, q⟩
theorem x_idxD {v k : T} (h : dctOf G t = some kvs) (c : keyOk kvs k = true) (e : dget kvs k = some v) (q : Q v G) : Prim.wp .idx [t, k] G Q := by
  cases t with
  | str x => cases h
  | _ => cases k <;> exact .inr ⟨kvs, v, h, c, e, q⟩
theorem x_eq {a b : T} (h : eqOk (datOf G a) (datOf G b)) (q : Q (.bl (T.eqv (datOf G a) (datOf G b))) G) : Prim.wp .eq [a, b] G Q := ⟨h, q⟩
theorem x_ne {a b : T} (h : eqOk (datOf G a) (datOf G b)) (q : Q (.bl (!T.eqv (datOf G a) (datOf G b))) G) : Prim.wp .ne [a, b] G Q := ⟨h, q⟩
theorem x_eqI (q : Q (.bl (decide (i = j))) G) : Prim.wp .eq [.int i, .int j] G Q := ⟨⟨rfl, rfl, by simp [T.dep, datOf], by simp [T.dep, datOf]⟩, q⟩
theorem x_neI (q : Q (.bl (!decide (i = j))) G) : Prim.wp .ne [.int i, .int j] G Q := ⟨⟨rfl, rfl, by simp [T.dep, datOf], by simp [T.dep, datOf]⟩, q⟩
theorem x_in {x : T} (h : seqOf G t = some ts) (h1 : T.dat x = true) (h2 : T.dats ts = true) (h3 : T.dep x ≤ 64) (h4 : T.deps ts ≤ 63) (q : Q (.bl (mem x ts)) G) : Prim.wp .isin [x, t] G Q := by
  cases t with
  | str y => cases h
  | _ => exact .inl ⟨ts, h, h1, h2, h3, h4, q⟩
theorem x_ni {x : T} (h : seqOf G t = some ts) (h1 : T.dat x = true) (h2 : T.dats ts = true) (h3 : T.dep x ≤ 64) (h4 : T.deps ts ≤ 63) (q : Q (.bl (!mem x ts)) G) : Prim.wp .notin [x, t] G Q := by
  cases t with
  | str y => cases h
  | _ => exact .inl ⟨ts, h, h1, h2, h3, h4, q⟩
theorem x_inD {x : T} (h : dctOf G t = some kvs) (c : keyOk kvs x = true) (q : Q (.bl (dget kvs x).isSome) G) : Prim.wp .isin [x, t] G Q := by
  cases t with
  | str y => cases h
  | _ => exact .inr ⟨kvs, h, c, q⟩
theorem x_niD {x : T} (h : dctOf G t = some kvs) (c : keyOk kvs x = true) (q : Q (.bl (!(dget kvs x).isSome)) G) : Prim.wp .notin [x, t] G Q := by
  cases t with
  | str y => cases h
  | _ => exact .inr ⟨kvs, h, c, q⟩
theorem x_isnone (q : Q (.bl (decide (t = .non))) G) : Prim.wp .isnone [t] G Q := q
theorem x_isnoneT (q : Q (.bl true) G) : Prim.wp .isnone [.non] G Q := q
theorem x_isnoneF (h : t ≠ .non) (q : Q (.bl false) G) : Prim.wp .isnone [t] G Q := by
  refine x_isnone ?_
  rw [decide_eq_false h]; exact q
theorem x_notnone (q : Q (.bl (!decide (t = .non))) G) : Prim.wp .notnone [t] G Q := q
theorem x_isi {ty : String} {b : Bool} (h : isTyG G ty t = some b) (q : Q (.bl b) G) : Prim.wp (.isi ty) [t] G Q := ⟨b, h, q⟩
theorem x_tuple (h : seqOf G t = some ts) (q : Q (.tup ts) G) : Prim.wp .tuple [t] G Q := .inl ⟨ts, h, q⟩
theorem x_tupleD (h : dctOf G t = some kvs) (q : Q (.tup (kvs.map (·.1))) G) : Prim.wp .tuple [t] G Q := .inr ⟨kvs, h, q⟩
theorem x_append {a : Addr} {x : T} (h : G a = some (.lst ts)) (hl : ts.length < sizeLine) (q : Q .non (put G a (.lst (ts ++ [x])))) : Prim.wp .append [.ref a, x] G Q := ⟨ts, h, hl, q⟩
theorem x_index {x : T} {j : Nat} (h : lstOf G t = some ts) (h1 : T.dat x = true) (h2 : T.dats ts = true) (h3 : T.dep x ≤ 64) (h4 : T.deps ts ≤ 63) (e : (ts.findIdx? fun y => T.eqv y x) = some j) (q : Q (.int (j : Nat)) G) : Prim.wp .index [t, x] G Q := ⟨ts, j, h, h1, h2, h3, h4, e, q⟩
theorem x_setD {a : Addr} {k v : T} {K : GH → Prop} (h : G a = some (.dct kvs)) (c : keyOk kvs k = true) (hl : kvs.length < sizeLine) (q : K (put G a (.dct (dput kvs k v)))) : setW (.ref a) k v G K := by
  simp only [setW, h]; exact ⟨c, hl, q⟩
theorem ite_bl {b : Bool} {A B : Prop} (h : b = true → A) (h' : b = false → B) : (match T.bl b with | .bl true => A | .bl false => B | _ => False) := by
  cases b
  · exact h' rfl
  · exact h rfl
end
/-! ### statements, from behind -/
section
variable {C : Calls} {R : XQ} {D : DE} {τ : Sl} {G : GH} {r : List S} {e : E}
theorem y_nil (q : D.nx τ G) : wSs C R [] D τ G := by rw [wSs]; exact q
theorem y_asg {tg : Tg} (q : wE C R e τ G fun t G' => Tg.wp tg t τ fun τ' => wSs C R r D τ' G') : wSs C R (.asg tg e :: r) D τ G := by rw [wSs, wS]; exact q
theorem y_set {i : Nat} (q : wE C R e τ G fun t G' => wSs C R r D (τ.set i (some t)) G') : wSs C R (.asg (.name i) e :: r) D τ G := by rw [wSs, wS]; exact q
theorem y_ret (q : wE C R e τ G D.rt) : wSs C R (.ret e :: r) D τ G := by rw [wSs, wS]; exact q
theorem y_expr (q : wE C R e τ G fun _ G' => wSs C R r D τ G') : wSs C R (.expr e :: r) D τ G := by rw [wSs, wS]; exact q
theorem y_if {a b : List S} (q : wE C R e τ G fun t G' => match t with
    | .bl true => wSs C R a { nx := wSs C R r D, rt := D.rt, bk := D.bk, ct := D.ct } τ G'
    | .bl false => wSs C R b { nx := wSs C R r D, rt := D.rt, bk := D.bk, ct := D.ct } τ G'
    | _ => False) : wSs C R (.cond e a b :: r) D τ G := by rw [wSs, wS]; exact q
theorem y_for {tg : Tg} {it : I} {body : List S} (q : wI C R it τ G fun iv G' => forW iv.ok (fun x D' τ1 G1 => Tg.wp tg x τ1 fun τ2 => wSs C R body D' τ2 G1) (DE.wr iv.lk { nx := wSs C R r D, rt := D.rt, bk := D.bk, ct := D.ct }) iv.its τ G') :
    wSs C R (.for_ tg it body :: r) D τ G := by rw [wSs, wS]; exact q
theorem y_setItem {o i v : E} (q : wE C R v τ G fun x G1 => wE C R o τ G1 fun y G2 => wE C R i τ G2 fun z G3 => setW y z x G3 fun G4 => wSs C R r D τ G4) : wSs C R (.setItem o i v :: r) D τ G := by rw [wSs, wS]; exact q
theorem y_aug {i : Nat} {p : Prim} {x : T} (h : τ[i]? = some (some x)) (q : wE C R e τ G fun y G1 => p.wp [x, y] G1 fun z G2 => wSs C R r D (τ.set i (some z)) G2) : wSs C R (.augName i p e :: r) D τ G := by
  rw [wSs, wS, h]; exact q
theorem i_rng1 {a : E} {n : Int} {Q : ItV → GH → Prop} {G' : GH} (q : wE C R a τ G fun t G' => t = .int n ∧ (-(2 ^ 62) ≤ n ∧ n < 2 ^ 62) ∧ Q ⟨(List.range n.toNat).map fun k => T.int (k : Nat), fun _ => True, none⟩ G') (hC : CLe C C) : wI C R (.rng1 a) τ G Q := by
  rw [wI]
  exact wE_mono hC a τ G (xle R) (fun t G' ⟨e, z⟩ => by subst e; exact z) q
theorem i_rngP {a : E} (n : Int) {Q : ItV → GH → Prop} {G' : GH} (h : ∀ K : QE, K (.int n) G' → wE C R a τ G K) (b : -(2 ^ 62) ≤ n ∧ n < 2 ^ 62) (q : Q ⟨(List.range n.toNat).map fun k => T.int (k : Nat), fun _ => True, none⟩ G') : wI C R (.rng1 a) τ G Q := by
  rw [wI]
  exact h _ ⟨b, q⟩
/-- keys, values, items of a dict of ours (under a name) -/
theorem i_lk {it : I} {e : E} {f : List (T × T) → List T} {wi : TE → TI} (h : LkI it e f wi) {a : Addr} {kvs : List (T × T)} {Q : ItV → GH → Prop} (ga : G a = some (.dct kvs)) (ko : keysOk kvs = true)
    (he : ∀ o (K : QE), K (.ref a) (put G a o) → wE C R e τ (put G a o) K) (q : ∀ ob kv, Q ⟨f kvs, fun G' => G' a = some (.lkd ob kv kvs), some (a, ob, kv, kvs)⟩ (put G a (.lkd ob kv kvs))) : wI C R it τ G Q := by
  have z : lockW (fun G Q => wE C R e τ G Q) f G Q := ⟨a, kvs, ga, ko, fun ob kv => he _ _ ⟨rfl, put_same, q ob kv⟩⟩
  cases h <;> (rw [wI]; exact z)
theorem z_pure {Q : QE} (t : T) {G' : GH} (h : ∀ K : QE, K t G' → wE C R e τ G K) (q : Q t G') : wE C R e τ G Q := h _ q
theorem z_var {i : Nat} {t : T} {Q : QE} (h : τ[i]? = some (some t)) (q : Q t G) : wE C R (.var i) τ G Q := by rw [wE, h]; exact q
theorem z_call {f : Str} {es : List E} {Q : QE} (q : wEs C R es τ G fun ts G' => C f ts G' Q R) : wE C R (.call f es) τ G Q := by rw [wE]; exact q
theorem z_own0 {Q : QE} (q : ∀ p, G p = none → Q (.ref p) (put G p (.lst []))) : wE C R (.own (.disp [])) τ G Q := by
  rw [wE, wL, wEs]; exact ⟨Nat.zero_le _, q⟩
end
end EV

/-! EV22: the draws of the laws. -/
namespace EV
open PySem PySem.Spec PyProof.Rows L2

def c_next : FDef := ⟨2, 2, [
  .augItem (.var 0) (.cst (.str "at")) .iadd (.cst (.int 1)),
  .cond (.prim .gt [.prim .idx [.var 0, .cst (.str "at")], .prim .len [.prim .idx [.var 0, .cst (.str "draws")]]]) [
    .ret (.cst (.int 0))] [],
  .ret (.prim .mod [.prim .int [.prim .idx [.prim .idx [.var 0, .cst (.str "draws")], .prim .sub [.prim .idx [.var 0, .cst (.str "at")], .cst (.int 1)]]], .var 1])]⟩
def wD (ds : List Int) (k : Int) : O := .dct [(.str "draws", .lst (ds.map T.int)), (.str "at", .int k)]
theorem wD_ne : ¬ (("draws" : Str) = "at") := by decide +kernel
theorem wD_key1 {ds : List Int} {k : Int} : keyOk [(.str "draws", .lst (ds.map T.int)), (.str "at", .int k)] (.str "at") = true := by simp [keyOk, T.key?]
theorem wD_key2 {ds : List Int} {k : Int} : keyOk [(.str "draws", .lst (ds.map T.int)), (.str "at", .int k)] (.str "draws") = true := by simp [keyOk, T.key?]
theorem wD_at {ds : List Int} {k : Int} : dget [(.str "draws", .lst (ds.map T.int)), (.str "at", .int k)] (.str "at") = some (.int k) := by
  simp [dget, wD_ne]
theorem wD_dr {ds : List Int} {k : Int} : dget [(.str "draws", .lst (ds.map T.int)), (.str "at", .int k)] (.str "draws") = some (.lst (ds.map T.int)) := by
  simp [dget]
theorem wD_put {ds : List Int} {k j : Int} : dput [(.str "draws", .lst (ds.map T.int)), (.str "at", .int k)] (.str "at") (.int j) = [(.str "draws", .lst (ds.map T.int)), (.str "at", .int j)] := by
  unfold dput
  rw [wD_at]
  simp [wD_ne]
theorem next_ok {Δ : Str → Option FDef} {n : Nat} {p : Addr} {ds : List Int} {k m : Int} {G : GH} {Q : QE} {R : XQ} (hd : Δ "_law_next" = some c_next) (hg : G p = some (wD ds k)) (hk : 0 ≤ k) (hds : ∀ d ∈ ds, 0 ≤ d) (hm : 0 < m)
    (q : ∀ v, 0 ≤ v → v < m → Q (.int v) (put G p (wD ds (k + 1)))) : callW Δ (n + 1) "_law_next" [.ref p, .int m] G Q R := by
  refine callW_ok hd rfl ?_
  simp only [c_next, startS, wSs, wS, wE, wEs, List.map_cons, List.map_nil, List.length_cons, List.length_nil, Nat.sub_self, List.replicate_zero, List.append_nil, List.nil_append, List.getElem?_cons_zero, List.getElem?_cons_succ]
  have h1 : dctOf G (.ref p) = some [(.str "draws", .lst (ds.map T.int)), (.str "at", .int k)] := by simp only [dctOf, hg, wD]
  have h2 : dctOf (put G p (wD ds (k + 1))) (.ref p) = some [(.str "draws", .lst (ds.map T.int)), (.str "at", .int (k + 1))] := by simp only [dctOf, put_same, wD]
  refine ⟨⟨p, rfl⟩, x_idxD h1 wD_key1 wD_at (x_iadd (x_setD hg wD_key1 (by simp [sizeLine_eq]) ?_))⟩
  rw [wD_put]
  refine x_idxD h2 wD_key1 wD_at (x_idxD h2 wD_key2 wD_dr (x_len rfl (x_gt (ite_bl (fun h => ?_) (fun h => ?_)))))
  · exact exit_same (q 0 (Int.le_refl _) hm)
  · rw [decide_eq_false_iff_not] at h
    rw [List.length_map] at h
    have hlt : k.toNat < ds.length := by omega
    have ha : atI (ds.map T.int) (k + 1 - 1) = some (.int ds[k.toNat]) := by
      rw [show k + 1 - 1 = ((k.toNat : Nat) : Int) by omega]
      exact atI_nat (by simp [hlt])
    refine x_idxD h2 wD_key2 wD_dr (x_idxD h2 wD_key1 wD_at (x_sub (x_idx rfl ha (x_int (x_mod hm (exit_same (q _ ?_ ?_)))))))
    · exact Int.emod_nonneg _ (by omega)
    · exact Int.emod_lt_of_pos _ hm
def c_draws : FDef := ⟨2, 8, [
  .asg (.name 2) (.own (.disp [])),
  .asg (.name 3) (.cst (.int 7)),
  .for_ (.name 4) (.rng1 (.prim .len [.var 0])) [
    .asg (.name 5) (.prim .abs [.prim .int [.prim .idx [.var 0, .var 4]]]),
    .asg (.name 3) (.prim .mod [.prim .int [.prim .add [.prim .add [.prim .mul [.var 3, .cst (.int 48271)], .prim .mod [.var 5, .cst (.int 1000003)]], .var 4]], .cst (.int 65537)]),
    .asg (.name 6) (.cst (.int 0)),
    .cond (.prim .ge [.var 5, .prim .pow [.cst (.int 10), .cst (.int 18)]]) [
      .asg (.name 6) (.var 5)] [
      .expr (.meth .append (.var 2) [.prim .mod [.prim .int [.var 5], .cst (.int 997)]]),
      .expr (.meth .append (.var 2) [.prim .mod [.prim .mod [.prim .int [.prim .add [.prim .mul [.var 3, .cst (.int 69621)], .cst (.int 5)]], .cst (.int 65521)], .cst (.int 997)]])],
    .for_ (.name 7) (.rng1 (.cst (.int 60))) [
      .cond (.prim .gt [.var 6, .cst (.int 0)]) [
        .expr (.meth .append (.var 2) [.prim .mod [.prim .int [.var 6], .cst (.int 997)]]),
        .asg (.name 6) (.prim .fdiv [.var 6, .cst (.int 997)])] []]],
  .for_ (.name 4) (.rng1 (.var 1)) [
    .asg (.name 3) (.prim .mod [.prim .int [.prim .add [.prim .add [.prim .mul [.var 3, .cst (.int 16807)], .var 4], .cst (.int 1)]], .cst (.int 65537)]),
    .expr (.meth .append (.var 2) [.prim .mod [.prim .int [.var 3], .cst (.int 997)]])],
  .ret (.slcu (.var 2) (.var 1))]⟩
theorem app_ints {ds : List Int} {v : Int} : ds.map T.int ++ [T.int v] = (ds ++ [v]).map T.int := by simp
theorem mem_app {ds : List Int} {v : Int} (h : ∀ d ∈ ds, 0 ≤ d) (hv : 0 ≤ v) : ∀ d ∈ ds ++ [v], 0 ≤ d := by
  intro d hd
  rcases List.mem_append.mp hd with h1 | h1
  · exact h d h1
  · rw [List.mem_singleton] at h1; omega
/-- draws.append(value) -/
theorem app_ok {C : Calls} {R : XQ} {τ : Sl} {G : GH} {p : Addr} {ds : List Int} {e : E} {Q : QE} (hv : τ[2]? = some (some (.ref p))) (hl : ds.length < 100000)
    (q : wE C R e τ (put G p (.lst (ds.map T.int))) fun t G' => ∃ v : Int, t = .int v ∧ G' = put G p (.lst (ds.map T.int)) ∧ Q .non (put G p (.lst ((ds ++ [v]).map T.int)))) (hC : CLe C C) :
    wE C R (.meth .append (.var 2) [e]) τ (put G p (.lst (ds.map T.int))) Q := by
  rw [wE]
  refine z_var hv ⟨(show ∃ ts, lstOf _ _ = some ts from ⟨ds.map T.int, by simp [lstOf]⟩), ?_⟩
  rw [wEs]
  refine wE_mono hC e τ _ (xle R) (fun t G' ⟨v, e1, e2, z⟩ => ?_) q
  subst e1 e2
  rw [wEs]
  refine x_append put_same (by rw [List.length_map, sizeLine_eq]; omega) ?_
  rw [put_put, app_ints]
  exact z
/-- between the turns of the draws' loops -/
def dI (G : GH) (ns : List Int) (many : Int) (p : Addr) (b : Nat) : Sl → GH → Prop := fun τ G' => ∃ (ds : List Int) (mixed : Int), τ = [some (.scr ns), some (.int many), some (.ref p), some (.int mixed), none, none, none, none] ∧
  G' = put G p (.lst (ds.map T.int)) ∧ 0 ≤ mixed ∧ mixed < 65537 ∧ (∀ d ∈ ds, 0 ≤ d) ∧ ds.length ≤ b
def dR (G : GH) (ns : List Int) (many : Int) (p : Addr) (mixed cell : Int) (k b : Nat) : Sl → GH → Prop := fun τ G' => ∃ (ds : List Int) (rest : Int), τ = [some (.scr ns), some (.int many), some (.ref p), some (.int mixed), some (.int (k : Nat)), some (.int cell), some (.int rest), none] ∧
  G' = put G p (.lst (ds.map T.int)) ∧ 0 ≤ rest ∧ (∀ d ∈ ds, 0 ≤ d) ∧ ds.length ≤ b
theorem dr_inner {C : Calls} (hC : CLe C C) {R : XQ} {G : GH} {ns : List Int} {many : Int} {p : Addr} {mixed cell : Int} {k b : Nat} {D : DE} (hb : b < 90000) (m0 : 0 ≤ mixed) (m1 : mixed < 65537) (hD : ∀ τ G', Then (dI G ns many p (b + 60)) τ G' → D.nx τ G') (τ : Sl) (G' : GH) (h : dR G ns many p mixed cell k b τ G') :
    wSs C R [.for_ (.name 7) (.rng1 (.cst (.int 60))) [
      .cond (.prim .gt [.var 6, .cst (.int 0)]) [
        .expr (.meth .append (.var 2) [.prim .mod [.prim .int [.var 6], .cst (.int 997)]]),
        .asg (.name 6) (.prim .fdiv [.var 6, .cst (.int 997)])] []]] D τ G' := by
  refine y_for (i_rng1 (n := 60) (G' := G) ?_ hC)
  rw [wE]
  refine ⟨rfl, by omega, ?_⟩
  refine for_at hC (ok := fun _ => True) _ (fun i => dR G ns many p mixed cell k (b + i)) (fun _ _ _ _ => trivial) ?_ ?_ _ _ h
  · rintro i x τ G' hx ⟨ds, rest, rfl, rfl, r0, hds, hl⟩
    have hi : i < 60 := by
      have := (List.getElem?_eq_some_iff.mp hx).1
      simpa using this
    simp only [Tg.wp, List.set_cons_zero, List.set_cons_succ]
    refine y_if ?_
    simp only [wE, wEs, List.getElem?_cons_zero, List.getElem?_cons_succ]
    refine x_gt (ite_bl (fun _ => ?_) (fun _ => ?_))
    · refine y_expr (app_ok rfl (by omega) ?_ hC)
      simp only [wE, wEs, List.getElem?_cons_zero, List.getElem?_cons_succ]
      refine x_int ?_
      refine x_mod (by omega) ⟨_, rfl, rfl, y_set ?_⟩
      simp only [wE, wEs, List.getElem?_cons_zero, List.getElem?_cons_succ, List.set_cons_zero, List.set_cons_succ]
      refine x_fdiv (by omega) (by omega) (y_nil ?_)
      refine y_nil (C := C) (R := R) (Then.slots (τ' := [some (.scr ns), some (.int many), some (.ref p), some (.int mixed), some (.int (k : Nat)), some (.int cell), some (.int (rest / 997)), none]) (by repeat' constructor) ⟨ds ++ [rest % 997], rest / 997, rfl, rfl, Int.ediv_nonneg r0 (by omega), mem_app hds (Int.emod_nonneg _ (by omega)), by simp; omega⟩)
    · exact y_nil (C := C) (R := R) (y_nil (C := C) (R := R) (Then.slots (τ' := [some (.scr ns), some (.int many), some (.ref p), some (.int mixed), some (.int (k : Nat)), some (.int cell), some (.int rest), none]) (by repeat' constructor) ⟨ds, rest, rfl, rfl, r0, hds, by omega⟩))
  · rintro τ G' ⟨ds, rest, rfl, rfl, r0, hds, hl⟩
    refine y_nil (C := C) (R := R) (hD _ _ (Then.slots (τ' := [some (.scr ns), some (.int many), some (.ref p), some (.int mixed), none, none, none, none]) (by repeat' constructor) ⟨ds, mixed, rfl, rfl, m0, m1, hds, by simpa using hl⟩))
def cutL (ds : List Int) (many : Int) : List Int := (ds.drop (HT.sIx ds.length 0 none)).take (HT.sIx ds.length ds.length (some many) - HT.sIx ds.length 0 none)
theorem draws_ok {Δ : Str → Option FDef} {n : Nat} {ns : List Int} {many : Int} {G : GH} {Q : QE} {R : XQ} (hd : Δ "_law_draws" = some c_draws) (hn : ns.length ≤ 63) (hm0 : 0 ≤ many) (hm1 : many ≤ 20000)
    (q : ∀ ds : List Int, (∀ d ∈ ds, 0 ≤ d) → Q (.lst (ds.map T.int)) G) : callW Δ (n + 1) "_law_draws" [.scr ns, .int many] G Q R := by
  refine callW_ok hd rfl ?_
  have hC := callW_mono Δ n
  show wSs _ _ c_draws.body _ [some (.scr ns), some (.int many), none, none, none, none, none, none] G
  refine y_set (z_own0 fun p hp => y_set ?_)
  rw [wE]
  refine y_for (i_rng1 (n := ns.length) (G' := G) ?_ hC)
  simp only [wE, wEs, List.set_cons_zero, List.set_cons_succ, List.getElem?_cons_zero, List.getElem?_cons_succ]
  refine x_len rfl ⟨by simp, by omega, ?_⟩
  refine for_at hC (ok := fun _ => True) _ (fun i => dI G ns many p (62 * i)) (fun _ _ _ _ => trivial) ?_ ?_ _ _ ⟨[], 7, rfl, rfl, by omega, by omega, by simp, by simp⟩
  · rintro i x τ G' hx ⟨ds, mixed, rfl, rfl, m0, m1, hds, hl⟩
    simp only [List.getElem?_map, Option.map_eq_some_iff] at hx
    obtain ⟨j, hj, rfl⟩ := hx
    obtain ⟨hlt, ej⟩ := List.getElem?_eq_some_iff.mp hj
    rw [List.getElem_range] at ej
    subst ej
    rw [List.length_range] at hlt
    have hi : i < ns.length := by omega
    simp only [Tg.wp, List.set_cons_zero, List.set_cons_succ]
    refine y_set ?_
    simp only [wE, wEs, List.getElem?_cons_zero, List.getElem?_cons_succ]
    refine x_idx rfl (atI_nat (v := .int ns[i]) (by simp [hi])) ?_
    refine x_int ?_
    refine x_abs ?_
    generalize hcell : (if ns[i] < 0 then -ns[i] else ns[i]) = cell
    have hc0 : 0 ≤ cell := by rw [← hcell]; split <;> omega
    refine y_set ?_
    simp only [wE, wEs, List.getElem?_cons_zero, List.getElem?_cons_succ, List.set_cons_zero, List.set_cons_succ]
    refine x_mulL (by omega) (by omega) ?_
    refine x_mod (by omega) ?_
    refine x_add ?_
    refine x_add ?_
    refine x_int ?_
    refine x_mod (by omega) ?_
    generalize hmx : (mixed * 48271 + cell % 1000003 + (i : Int)) % 65537 = mixed'
    have hmx0 : 0 ≤ mixed' := by rw [← hmx]; exact Int.emod_nonneg _ (by omega)
    have hmx1 : mixed' < 65537 := by rw [← hmx]; exact Int.emod_lt_of_pos _ (by omega)
    refine y_set ?_
    rw [wE]
    refine y_if ?_
    simp only [wE, wEs, List.getElem?_cons_zero, List.getElem?_cons_succ, List.set_cons_zero, List.set_cons_succ]
    refine x_pow (by omega) (by omega) (by decide) ?_
    refine x_ge (ite_bl (fun _ => ?_) (fun _ => ?_))
    · refine y_set ?_
      simp only [wE, List.getElem?_cons_zero, List.getElem?_cons_succ, List.set_cons_zero, List.set_cons_succ]
      refine y_nil (C := callW Δ n) (R := R) (dr_inner (b := 62 * i) hC (by omega) hmx0 hmx1 (fun τ G' z => ?_) _ _ ⟨ds, cell, rfl, rfl, hc0, hds, by omega⟩)
      obtain ⟨τ', G2, w, ds', mx, e1, e2, z1, z2, z3, z4⟩ := z
      exact ⟨τ', G2, w, ds', mx, e1, e2, z1, z2, z3, by omega⟩
    · refine y_expr (app_ok rfl (by omega) ?_ hC)
      simp only [wE, wEs, List.getElem?_cons_zero, List.getElem?_cons_succ]
      refine x_int ?_
      refine x_mod (by omega) ⟨_, rfl, rfl, y_expr (app_ok rfl (by simp; omega) ?_ hC)⟩
      simp only [wE, wEs, List.getElem?_cons_zero, List.getElem?_cons_succ]
      refine x_mulL (by omega) (by omega) ?_
      refine x_add ?_
      refine x_int ?_
      refine x_mod (by omega) ?_
      refine x_mod (by omega) ⟨_, rfl, rfl, y_nil ?_⟩
      refine dr_inner (b := 62 * i + 2) hC (by omega) hmx0 hmx1 (fun τ G' z => ?_) _ _ ⟨_, 0, rfl, rfl, Int.le_refl _, mem_app (mem_app hds (Int.emod_nonneg _ (by omega))) (Int.emod_nonneg _ (by omega)), by simp; omega⟩
      obtain ⟨τ', G2, w, ds', mx, e1, e2, z1, z2, z3, z4⟩ := z
      exact ⟨τ', G2, w, ds', mx, e1, e2, z1, z2, z3, by omega⟩
  · rintro τ G' ⟨ds, mixed, rfl, rfl, m0, m1, hds, hl⟩
    refine y_for (i_rng1 (n := many) (G' := G) ?_ hC)
    simp only [wE, List.getElem?_cons_zero, List.getElem?_cons_succ]
    refine ⟨trivial, by omega, ?_⟩
    have hl2 : ds.length ≤ 4000 := by
      rw [List.length_map, List.length_range] at hl
      omega
    refine for_at hC (ok := fun _ => True) _ (fun i => dI G ns many p (4000 + i)) (fun _ _ _ _ => trivial) ?_ ?_ _ _ ⟨ds, mixed, rfl, rfl, m0, m1, hds, hl2⟩
    · rintro i x τ G' hx ⟨ds, mixed, rfl, rfl, m0, m1, hds, hl⟩
      simp only [List.getElem?_map, Option.map_eq_some_iff] at hx
      obtain ⟨j, hj, rfl⟩ := hx
      obtain ⟨hlt, ej⟩ := List.getElem?_eq_some_iff.mp hj
      rw [List.length_range] at hlt
      simp only [Tg.wp, List.set_cons_zero, List.set_cons_succ]
      refine y_set ?_
      simp only [wE, wEs, List.getElem?_cons_zero, List.getElem?_cons_succ]
      refine x_mulL (by omega) (by omega) ?_
      refine x_add ?_
      refine x_add ?_
      refine x_int ?_
      refine x_mod (by omega) ?_
      generalize hmx : (mixed * 16807 + (j : Int) + 1) % 65537 = mixed'
      have hmx0 : 0 ≤ mixed' := by rw [← hmx]; exact Int.emod_nonneg _ (by omega)
      have hmx1 : mixed' < 65537 := by rw [← hmx]; exact Int.emod_lt_of_pos _ (by omega)
      refine y_expr (app_ok rfl (by omega) ?_ hC)
      simp only [wE, wEs, List.getElem?_cons_zero, List.getElem?_cons_succ, List.set_cons_zero, List.set_cons_succ]
      refine x_int ?_
      refine x_mod (by omega) ⟨_, rfl, rfl, y_nil ?_⟩
      exact Then.slots (τ' := [some (.scr ns), some (.int many), some (.ref p), some (.int mixed'), none, none, none, none]) (by repeat' constructor) ⟨_, mixed', rfl, rfl, hmx0, hmx1, mem_app hds (Int.emod_nonneg _ (by omega)), by simp; omega⟩
    · rintro τ G' ⟨ds, mixed, rfl, rfl, m0, m1, hds, hl⟩
      refine y_ret ?_
      simp only [wE, List.getElem?_cons_zero, List.getElem?_cons_succ]
      refine ⟨many, rfl, ds.map T.int, by simp only [lstOf, put_same], ?_⟩
      have e : cutT (ds.map T.int) none (some many) = (cutL ds many).map T.int := by
        unfold cutT cutL
        rw [List.length_map, List.map_take, List.map_drop]
      rw [e]
      refine exit_drop (Sub.put hp) (q _ fun d hd' => hds d ?_)
      unfold cutL at hd'
      exact List.mem_of_mem_drop (List.mem_of_mem_take hd')
/-- the law's world: the draws, the place -/
abbrev GW (p : Addr) (ds : List Int) (k : Int) : GH := put (fun _ => none) p (wD ds k)
theorem next_w {Δ : Str → Option FDef} {n : Nat} {p : Addr} {ds : List Int} {k m : Int} {Q : QE} {R : XQ} (hd : Δ "_law_next" = some c_next) (hk : 0 ≤ k) (hds : ∀ d ∈ ds, 0 ≤ d) (hm : 0 < m)
    (q : ∀ v k', 0 ≤ k' → 0 ≤ v → v < m → Q (.int v) (GW p ds k')) : callW Δ (n + 1) "_law_next" [.ref p, .int m] (GW p ds k) Q R :=
  next_ok hd put_same hk hds hm fun v h0 h1 => by rw [put_put]; exact q v (k + 1) (by omega) h0 h1
def c_pick : FDef := ⟨2, 2, [
  .ret (.prim .idx [.var 1, .call "_law_next" [.var 0, .prim .len [.var 1]]])]⟩
theorem pick_w {Δ : Str → Option FDef} {n : Nat} {p : Addr} {ds : List Int} {k : Int} {ts : List T} {Q : QE} {R : XQ} (hd : Δ "_law_next" = some c_next) (hp : Δ "_law_pick" = some c_pick) (hk : 0 ≤ k) (hds : ∀ d ∈ ds, 0 ≤ d) (hm : ts ≠ [])
    (q : ∀ v k', 0 ≤ k' → v ∈ ts → Q v (GW p ds k')) : callW Δ (n + 2) "_law_pick" [.ref p, .lst ts] (GW p ds k) Q R := by
  refine callW_ok hp rfl ?_
  show wSs _ _ c_pick.body _ [some (.ref p), some (.lst ts)] _
  refine y_ret ?_
  simp only [wE, wEs, List.getElem?_cons_zero, List.getElem?_cons_succ]
  have hl : 0 < ts.length := List.length_pos_iff.mpr hm
  refine x_len rfl (next_w hd hk hds (by omega) fun v k' h0 h1 h2 => ?_)
  have hlt : v.toNat < ts.length := by omega
  have ha := atI_nat (xs := ts) (j := v.toNat) (v := ts[v.toNat]) (by simp [hlt])
  rw [Int.toNat_of_nonneg h1] at ha
  exact x_idx rfl ha (exit_same (q _ k' h0 (List.getElem_mem _)))
end EV

/-! EV23: things once, stores. -/
namespace EV
open PySem PySem.Spec PyProof.Rows L2

/-- tuples that can be put in order -/
structure Fit (ts : List T) : Prop where
  pl : ∀ x ∈ ts, T.pl x = true
  dep : ∀ x ∈ ts, T.dep x ≤ 8
  tup : ∀ x ∈ ts, ∃ us, x = .tup us
  cm : ∀ x ∈ ts, ∀ y ∈ ts, x = y ∨ T.cmp x y = true
  fk : ∃ c, (c = 3 ∨ c = 4 ∨ c = 5) ∧ ∀ x ∈ ts, firstK x = c
theorem Fit.sub {ts us : List T} (f : Fit ts) (h : ∀ x ∈ us, x ∈ ts) : Fit us :=
  ⟨fun x hx => f.pl x (h x hx), fun x hx => f.dep x (h x hx), fun x hx => f.tup x (h x hx), fun x hx y hy => f.cm x (h x hx) y (h y hy), let ⟨c, h1, h2⟩ := f.fk; ⟨c, h1, fun x hx => h2 x (h x hx)⟩⟩
theorem Fit.pls {ts : List T} (f : Fit ts) : T.pls ts = true := T.pls_all.mpr f.pl
theorem Fit.dats {ts : List T} (f : Fit ts) : T.dats ts = true := T.pls_dats _ f.pls
theorem Fit.deps {ts : List T} (f : Fit ts) : T.deps ts ≤ 8 := T.deps_le.mpr f.dep
theorem Fit.so {ts : List T} (f : Fit ts) : sortOk ts = true := by
  obtain ⟨c, hc, h⟩ := f.fk
  have e : ∀ d, d = c → ts.all (fun t => firstK t == d) = true := by
    intro d hd
    subst hd
    rw [List.all_eq_true]
    intro x hx
    rw [h x hx]; simp
  unfold sortOk
  rcases hc with rfl | rfl | rfl
  · rw [e 3 rfl]; simp
  · rw [e 4 rfl]; simp
  · rw [e 5 rfl]; simp
mutual
theorem T.pl_nk : ∀ t : T, T.pl t = true → (T.nk? t).isSome = true
  | .non, _ => rfl
  | .int _, _ => rfl
  | .str _, _ => rfl
  | .tup xs, h => by
    rw [T.pl] at h
    have := T.pls_nks xs h
    rw [T.nk?]
    cases e : T.nks? xs with
    | none => rw [e] at this; cases this
    | some k => rfl
  | .bl _, h => by simp [T.pl] at h
  | .lst _, h => by simp [T.pl] at h
  | .dct _ _, h => by simp [T.pl] at h
  | .ref _, h => by simp [T.pl] at h
  | .scr _, h => by simp [T.pl] at h
theorem T.pls_nks : ∀ ts : List T, T.pls ts = true → (T.nks? ts).isSome = true
  | [], _ => rfl
  | t :: ts, h => by
    rw [T.pls, Bool.and_eq_true] at h
    have h1 := T.pl_nk t h.1
    have h2 := T.pls_nks ts h.2
    rw [T.nks?]
    cases e : T.nk? t with
    | none => rw [e] at h1; cases h1
    | some k =>
      cases e2 : T.nks? ts with
      | none => rw [e2] at h2; cases h2
      | some ks => rfl
end
theorem Fit.key {ts acc : List T} {x v : T} (f : Fit ts) (hx : x ∈ ts) (ha : ∀ y ∈ acc, y ∈ ts) {g : T → T} : keyOk (acc.map fun t => (t, g t)) x = true := by
  obtain ⟨us, rfl⟩ := f.tup x hx
  unfold keyOk
  rw [Bool.or_eq_true]
  refine .inr ?_
  simp only [Bool.true_and, Bool.and_eq_true, decide_eq_true_eq, List.all_map, List.all_eq_true, Function.comp]
  refine ⟨⟨T.pl_nk _ (f.pl _ hx), f.dep _ hx⟩, fun y hy => ?_⟩
  obtain ⟨vs, rfl⟩ := f.tup y (ha y hy)
  rfl
theorem dget_map {g : T → T} {x : T} : ∀ acc : List T, dget (acc.map fun t => (t, g t)) x = if x ∈ acc then some (g x) else none
  | [] => by simp [dget]
  | a :: acc => by
    have ih := dget_map (g := g) (x := x) acc
    unfold dget at ih ⊢
    rw [List.map_cons, List.find?_cons]
    by_cases e : a = x
    · subst e; simp
    · have : decide (a = x) = false := by simpa using e
      simp only [this]
      rw [ih]
      have e' : ¬ x = a := fun z => e z.symm
      simp [e']
theorem dput_const {c x : T} {acc : List T} : dput (acc.map fun t => (t, c)) x c = (ddStep acc x).map fun t => (t, c) := by
  unfold dput ddStep
  rw [dget_map (g := fun _ => c)]
  by_cases h : x ∈ acc
  · simp only [h, if_true, Option.isSome_some]
    rw [List.map_map]
    apply List.map_congr_left
    intro t _
    simp only [Function.comp]
    split <;> rfl
  · simp [h]
def c_once : FDef := ⟨1, 3, [
  .asg (.name 1) (.dnew),
  .for_ (.name 2) (.val (.var 0)) [
    .setItem (.var 1) (.var 2) (.cst (.bl true))],
  .ret (.prim .tuple [.var 1])]⟩
theorem once_ok {Δ : Str → Option FDef} {n : Nat} {ts : List T} {G : GH} {Q : QE} {R : XQ} (hd : Δ "once" = some c_once) (f : Fit ts) (hl : ts.length ≤ 1000000) (q : Q (.tup (dd ts)) G) : callW Δ (n + 1) "once" [.tup ts] G Q R := by
  refine callW_ok hd rfl ?_
  have hC := callW_mono Δ n
  show wSs _ _ c_once.body _ [some (.tup ts), none, none] G
  refine y_set ?_
  rw [wE]
  intro p hp
  refine y_for ?_
  rw [wI]
  refine z_var rfl ?_
  refine for_inv hC (ok := fun _ => True) (fun r τ G' => ∃ acc : List T, τ = [some (.tup ts), some (.ref p), none] ∧ G' = put G p (.dct (acc.map fun t => (t, T.bl true))) ∧ r.foldl ddStep acc = dd ts ∧ (∀ x ∈ acc, x ∈ ts) ∧ (∀ x ∈ r, x ∈ ts) ∧ acc.length + r.length ≤ 1000000)
    (fun _ _ _ _ => trivial) ?_ ?_ ts _ _ ⟨[], rfl, rfl, rfl, by simp, fun x hx => hx, by simpa using hl⟩
  · rintro x r τ G' ⟨acc, rfl, rfl, e, h1, h2, h3⟩
    simp only [Tg.wp, List.set_cons_zero, List.set_cons_succ]
    refine y_setItem ?_
    simp only [wE, List.getElem?_cons_zero, List.getElem?_cons_succ]
    rw [List.length_cons] at h3
    refine x_setD put_same (f.key (v := x) (h2 x List.mem_cons_self) h1) (by rw [List.length_map, sizeLine_eq]; omega) (y_nil ?_)
    rw [put_put, dput_const]
    refine Then.slots (τ' := [some (.tup ts), some (.ref p), none]) (by repeat' constructor) ⟨ddStep acc x, rfl, rfl, e, fun y hy => ?_, fun y hy => h2 y (List.mem_cons_of_mem _ hy), ?_⟩
    · rcases ddStep_mem.mp hy with h | rfl
      · exact h1 y h
      · exact h2 y List.mem_cons_self
    · have : (ddStep acc x).length ≤ acc.length + 1 := by
        unfold ddStep; split
        · omega
        · simp
      omega
  · rintro τ G' ⟨acc, rfl, rfl, e, h1, h2, h3⟩
    refine y_ret ?_
    simp only [wE, wEs, List.getElem?_cons_zero, List.getElem?_cons_succ]
    have e' : acc = dd ts := e
    refine x_tupleD (kvs := acc.map fun t => (t, T.bl true)) (by simp only [dctOf, put_same]) (exit_drop (Sub.put hp) ?_)
    rw [List.map_map]
    show Q (.tup (acc.map id)) G
    rw [List.map_id, e']
    exact q
def c_as_store : FDef := ⟨1, 1, [
  .ret (.prim .tuple [.tmp (.prim .sorted [.call "once" [.var 0]])])]⟩
theorem as_store_ok {Δ : Str → Option FDef} {n : Nat} {ts : List T} {G : GH} {Q : QE} {R : XQ} (hd : Δ "once" = some c_once) (hs : Δ "as_store" = some c_as_store) (f : Fit ts) (hl : ts.length ≤ 1000000) (q : Q (.tup (srt (dd ts))) G) : callW Δ (n + 2) "as_store" [.tup ts] G Q R := by
  refine callW_ok hs rfl ?_
  show wSs _ _ c_as_store.body _ [some (.tup ts)] G
  refine y_ret ?_
  simp only [wE, wEs, wL, List.getElem?_cons_zero]
  have fd : Fit (dd ts) := f.sub fun x hx => dd_mem.mp hx
  refine once_ok hd f hl ?_
  refine wp_sorted rfl (by have := dd_len ts; rw [sizeLine_eq]; omega) fd.pls (by have := fd.deps; omega) fd.so fd.cm ?_
  exact x_tuple rfl (exit_same q)
end EV

/-! EV24: draws over any heap; heaps with some objects. -/
namespace EV
open PySem PySem.Spec PyProof.Rows L2

theorem put_comm {G : GH} {a b : Addr} {o u : O} (h : a ≠ b) : put (put G a o) b u = put (put G b u) a o := by
  funext c
  unfold put
  by_cases h1 : c = b
  · subst h1
    have : ¬ c = a := fun z => h z.symm
    simp [this]
  · by_cases h2 : c = a
    · subst h2; simp [h]
    · simp [h1, h2]
theorem put_upd2 {G : GH} {a b : Addr} {o o' u : O} (h : a ≠ b) : put (put (put G a o) b u) a o' = put (put G a o') b u := by
  rw [put_comm (Ne.symm h), put_put]
theorem sub_drop {G : GH} {a b : Addr} {o u : O} (h : G a = none) (hn : a ≠ b) : Sub (put G b u) (put (put G a o) b u) := by
  rw [put_comm hn]
  exact Sub.put (by rw [put_ne hn]; exact h)
theorem Then.sub {I : Sl → GH → Prop} {τ τ' : Sl} {G G' : GH} (sb : Sub G' G) (w : Wks G G' τ τ') (h : I τ' G') : Then I τ G := ⟨τ', G', ⟨sb, w⟩, h⟩
section
variable {Δ : Str → Option FDef} {n : Nat} {p : Addr} {ds : List Int} {k : Int} {G : GH} {Q : QE} {R : XQ}
theorem next_v {m : Int} (hd : Δ "_law_next" = some c_next) (hk : 0 ≤ k) (hds : ∀ d ∈ ds, 0 ≤ d) (hm : 0 < m)
    (q : ∀ v k', 0 ≤ k' → 0 ≤ v → v < m → Q (.int v) (put G p (wD ds k'))) : callW Δ (n + 1) "_law_next" [.ref p, .int m] (put G p (wD ds k)) Q R :=
  next_ok hd put_same hk hds hm fun v h0 h1 => by rw [put_put]; exact q v (k + 1) (by omega) h0 h1
theorem pick_v {ts : List T} (hd : Δ "_law_next" = some c_next) (hp : Δ "_law_pick" = some c_pick) (hk : 0 ≤ k) (hds : ∀ d ∈ ds, 0 ≤ d) (hm : ts ≠ [])
    (q : ∀ v k', 0 ≤ k' → v ∈ ts → Q v (put G p (wD ds k'))) : callW Δ (n + 2) "_law_pick" [.ref p, .lst ts] (put G p (wD ds k)) Q R := by
  refine callW_ok hp rfl ?_
  show wSs _ _ c_pick.body _ [some (.ref p), some (.lst ts)] _
  refine y_ret ?_
  simp only [wE, wEs, List.getElem?_cons_zero, List.getElem?_cons_succ]
  have hl : 0 < ts.length := List.length_pos_iff.mpr hm
  refine x_len rfl (next_v hd hk hds (by omega) fun v k' h0 h1 h2 => ?_)
  have hlt : v.toNat < ts.length := by omega
  have ha := atI_nat (xs := ts) (j := v.toNat) (v := ts[v.toNat]) (by simp [hlt])
  rw [Int.toNat_of_nonneg h1] at ha
  exact x_idx rfl ha (exit_same (q _ k' h0 (List.getElem_mem _)))
end
/-! ### each once, by a list -/
def c_lonce : FDef := ⟨1, 3, [
  .asg (.name 1) (.own (.disp [])),
  .for_ (.name 2) (.val (.var 0)) [
    .cond (.prim .notin [.var 2, .var 1]) [
      .expr (.meth .append (.var 1) [.var 2])] []],
  .ret (.var 1)]⟩
theorem lonce_ok {Δ : Str → Option FDef} {n : Nat} {ts : List T} {G : GH} {Q : QE} {R : XQ} (hd : Δ "_law_once" = some c_lonce) (pl : T.pls ts = true) (dp : T.deps ts ≤ 60) (hl : ts.length ≤ 1000000) (q : Q (.lst (dd ts)) G) : callW Δ (n + 1) "_law_once" [.lst ts] G Q R := by
  refine callW_ok hd rfl ?_
  have hC := callW_mono Δ n
  have pl' := T.pls_all.mp pl
  have dp' := T.deps_le.mp dp
  show wSs _ _ c_lonce.body _ [some (.lst ts), none, none] G
  refine y_set (z_own0 fun p hp => y_for ?_)
  rw [wI]
  refine z_var rfl ?_
  refine for_inv hC (ok := fun _ => True) (fun r τ G' => ∃ acc : List T, τ = [some (.lst ts), some (.ref p), none] ∧ G' = put G p (.lst acc) ∧ r.foldl ddStep acc = dd ts ∧ (∀ x ∈ acc, x ∈ ts) ∧ (∀ x ∈ r, x ∈ ts) ∧ acc.length + r.length ≤ 1000000)
    (fun _ _ _ _ => trivial) ?_ ?_ ts _ _ ⟨[], rfl, rfl, rfl, by simp, fun x hx => hx, by simpa using hl⟩
  · rintro x r τ G' ⟨acc, rfl, rfl, e, h1, h2, h3⟩
    simp only [Tg.wp, List.set_cons_zero, List.set_cons_succ]
    refine y_if ?_
    simp only [wE, wEs, List.getElem?_cons_zero, List.getElem?_cons_succ]
    rw [List.length_cons] at h3
    have fx := h2 x List.mem_cons_self
    have pa : T.pls acc = true := T.pls_all.mpr fun y hy => pl' y (h1 y hy)
    have da : T.deps acc ≤ 60 := T.deps_le.mpr fun y hy => dp' y (h1 y hy)
    refine x_ni (ts := acc) (by simp only [seqOf, put_same]) (T.pl_dat _ (pl' x fx)) (T.pls_dats _ pa) (by have := dp' x fx; omega) (by omega) ?_
    rw [mem_pl (pl' x fx) pa]
    refine ite_bl (fun h => ?_) (fun h => ?_)
    · simp only [Bool.not_eq_true', decide_eq_false_iff_not] at h
      refine y_expr ?_
      rw [wE]
      refine z_var rfl ⟨(show ∃ ts, lstOf _ _ = some ts from ⟨acc, by simp only [lstOf, put_same]⟩), ?_⟩
      simp only [wE, wEs, List.getElem?_cons_zero, List.getElem?_cons_succ]
      refine x_append put_same (by rw [sizeLine_eq]; omega) (y_nil (C := callW Δ n) (R := R) ?_)
      rw [put_put]
      refine y_nil (C := callW Δ n) (R := R) (Then.slots (τ' := [some (.lst ts), some (.ref p), none]) (by repeat' constructor) ⟨acc ++ [x], rfl, rfl, ?_, fun y hy => ?_, fun y hy => h2 y (List.mem_cons_of_mem _ hy), by simp; omega⟩)
      · rw [← e, List.foldl_cons]
        unfold ddStep
        rw [if_neg h]
      · rcases List.mem_append.mp hy with h' | h'
        · exact h1 y h'
        · rw [List.mem_singleton] at h'; subst h'; exact fx
    · simp only [Bool.not_eq_false', decide_eq_true_eq] at h
      refine y_nil (C := callW Δ n) (R := R) (y_nil (C := callW Δ n) (R := R) (Then.slots (τ' := [some (.lst ts), some (.ref p), none]) (by repeat' constructor) ⟨acc, rfl, rfl, ?_, h1, fun y hy => h2 y (List.mem_cons_of_mem _ hy), by omega⟩))
      rw [← e, List.foldl_cons]
      unfold ddStep
      rw [if_pos h]
  · rintro τ G' ⟨acc, rfl, rfl, e, h1, h2, h3⟩
    have e' : acc = dd ts := e
    subst e'
    refine y_ret ?_
    simp only [wE, List.getElem?_cons_zero, List.getElem?_cons_succ]
    exact exit_frz put_same (Sub.put hp) hp q
/-! ### lists of texts, of numbers -/
structure Flat (ts : List T) : Prop where
  pl : T.pls ts = true
  dp : T.deps ts = 0
  so : sortOk ts = true
  cm : ∀ x ∈ ts, ∀ y ∈ ts, x = y ∨ T.cmp x y = true
theorem flat_ints {ts : List T} (h : ∀ t ∈ ts, ∃ i, t = .int i) : Flat ts := by
  refine ⟨T.pls_all.mpr fun t ht => by obtain ⟨i, rfl⟩ := h t ht; rfl, Nat.le_zero.mp (T.deps_le.mpr fun t ht => by obtain ⟨i, rfl⟩ := h t ht; simp [T.dep]), ?_, fun x hx y hy => ?_⟩
  · unfold sortOk
    have : ts.all (fun t => firstK t == 1) = true := by
      rw [List.all_eq_true]; intro t ht; obtain ⟨i, rfl⟩ := h t ht; rfl
    rw [this]; simp
  · obtain ⟨i, rfl⟩ := h x hx
    obtain ⟨j, rfl⟩ := h y hy
    exact .inr rfl
theorem flat_strs {ts : List T} (h : ∀ t ∈ ts, ∃ x, strOk x = true ∧ t = .str x) : Flat ts := by
  refine ⟨T.pls_all.mpr fun t ht => by obtain ⟨i, hi, rfl⟩ := h t ht; exact hi, Nat.le_zero.mp (T.deps_le.mpr fun t ht => by obtain ⟨i, _, rfl⟩ := h t ht; simp [T.dep]), ?_, fun x hx y hy => ?_⟩
  · unfold sortOk
    have : ts.all (fun t => firstK t == 2) = true := by
      rw [List.all_eq_true]; intro t ht; obtain ⟨i, _, rfl⟩ := h t ht; rfl
    rw [this]; simp
  · obtain ⟨i, _, rfl⟩ := h x hx
    obtain ⟨j, _, rfl⟩ := h y hy
    exact .inr rfl
theorem wp_sortedF {t : T} {G : GH} {ts : List T} {Q : List T → GH → Prop} (e : seqOf G t = some ts) (hl : ts.length ≤ 1000000) (f : Flat ts) (q : Q (srt ts) G) : LPrim.wp .sorted [t] G Q :=
  wp_sorted e (by rw [sizeLine_eq]; omega) f.pl (by rw [f.dp]; omega) f.so f.cm q
theorem wp_sortedD {t : T} {G : GH} {kvs : List (T × T)} {Q : List T → GH → Prop} (e : dctOf G t = some kvs) (hl : kvs.length ≤ 1000000) (f : Flat (kvs.map (·.1))) (q : Q (srt (kvs.map (·.1))) G) : LPrim.wp .sorted [t] G Q :=
  ⟨_, .inr ⟨kvs, e, rfl⟩, by rw [List.length_map, sizeLine_eq]; omega, f.pl, by rw [f.dp]; omega, f.so, f.cm, fun us hp hs => by rw [sort_unique hp hs f.pl]; exact q⟩
end EV

/-! EV25: facts (a name, numbers), telling data alike. -/
namespace EV
open PySem PySem.Spec PyProof.Rows L2

def Fact (t : T) : Prop := ∃ (x : Str) (ns : List Int), (strOk x = true ∧ ns.length ≤ 10) ∧ t = .tup [.str x, .tup (ns.map T.int)]
theorem pls_ints : ∀ ns : List Int, T.pls (ns.map T.int) = true
  | [] => rfl
  | n :: ns => by rw [List.map_cons, T.pls, pls_ints ns]; rfl
theorem deps_ints : ∀ ns : List Int, T.deps (ns.map T.int) = 0
  | [] => rfl
  | n :: ns => by rw [List.map_cons, T.deps, deps_ints ns]; rfl
theorem cmps_ints : ∀ ns ms : List Int, T.cmps (ns.map T.int) (ms.map T.int) = true
  | [], _ => by simp [T.cmps]
  | _ :: _, [] => by simp [T.cmps]
  | n :: ns, m :: ms => by rw [List.map_cons, List.map_cons, T.cmps, cmps_ints ns ms]; simp [T.cmp]
theorem fact_fit {ts : List T} (h : ∀ t ∈ ts, Fact t) : Fit ts := by
  refine ⟨fun t ht => ?_, fun t ht => ?_, fun t ht => ?_, fun t ht u hu => ?_, 4, by simp, fun t ht => ?_⟩
  · obtain ⟨x, ns, hx, rfl⟩ := h t ht
    simp [T.pl, T.pls, pls_ints]
    simpa using hx.1
  · obtain ⟨x, ns, hx, rfl⟩ := h t ht
    simp [T.dep, T.deps, deps_ints]
  · obtain ⟨x, ns, hx, rfl⟩ := h t ht
    exact ⟨_, rfl⟩
  · obtain ⟨x, ns, hx, rfl⟩ := h t ht
    obtain ⟨y, ms, hy, rfl⟩ := h u hu
    exact .inr (by simp [T.cmp, T.cmps, cmps_ints])
  · obtain ⟨x, ns, hx, rfl⟩ := h t ht
    rfl
theorem eqOk_pl {a b : T} {G : GH} (ha : T.pl a = true) (hb : T.pl b = true) (da : T.dep a ≤ 64) (db : T.dep b ≤ 64) : datOf G a = a ∧ datOf G b = b ∧ eqOk (datOf G a) (datOf G b) := by
  have e1 : datOf G a = a := by cases a <;> first | rfl | (simp [T.pl] at ha)
  have e2 : datOf G b = b := by cases b <;> first | rfl | (simp [T.pl] at hb)
  rw [e1, e2]
  exact ⟨rfl, rfl, T.pl_dat a ha, T.pl_dat b hb, da, db⟩
theorem filterMap_none : ∀ l : List T, l.filterMap (fun _ => (none : Option T)) = []
  | [] => rfl
  | x :: l => by rw [List.filterMap_cons]; exact filterMap_none l
mutual
def sm : T → Bool
  | .tup xs => decide (xs.length ≤ 1000000) && sms xs
  | _ => true
def sms : List T → Bool
  | [] => true
  | x :: xs => sm x && sms xs
end
theorem sms_all : ∀ {ts : List T}, sms ts = true ↔ ∀ t ∈ ts, sm t = true
  | [] => by simp [sms]
  | t :: ts => by rw [sms, Bool.and_eq_true, sms_all (ts := ts)]; simp
theorem self_eq {t : T} {G : GH} {Q : QE} (hp : T.pl t = true) (hd : T.dep t ≤ 64) (q : Q (.bl true) G) : Prim.wp .eq [t, t] G Q := by
  obtain ⟨e1, _, e3⟩ := eqOk_pl (G := G) hp hp hd hd
  refine x_eq e3 ?_
  rw [e1, T.eqv_pl t t hp hp]
  simpa using q
def c_alike : FDef := ⟨2, 3, [
  .cond (.prim (.isi "tuple") [.var 1]) [
    .cond (.or (.not (.prim (.isi "tuple") [.var 0])) (.prim .ne [.prim .len [.var 0], .prim .len [.var 1]])) [
      .ret (.cst (.bl false))] [],
    .ret (.prim .eq [.tmp (.comp (.var 2) (.name 2) [2] (.rng1 (.prim .len [.var 1])) (.not (.call "_law_alike" [.prim .idx [.var 0, .var 2], .prim .idx [.var 1, .var 2]]))), .tmp (.disp [])])] [],
  .cond (.prim .isnone [.var 1]) [
    .ret (.prim .isnone [.var 0])] [],
  .cond (.prim (.isi "bool") [.var 1]) [
    .ret (.and (.prim (.isi "bool") [.var 0]) (.prim .eq [.var 0, .var 1]))] [],
  .cond (.prim (.isi "int") [.var 1]) [
    .ret (.and (.prim (.isi "int") [.var 0]) (.and (.not (.prim (.isi "bool") [.var 0])) (.prim .eq [.var 0, .var 1])))] [],
  .ret (.and (.prim (.isi "str") [.var 0]) (.prim .eq [.var 0, .var 1]))]⟩
theorem alike_ok {Δ : Str → Option FDef} (t_alike : Δ "_law_alike" = some c_alike) : ∀ (m : Nat) (t : T) (n : Nat) (G : GH) (Q : QE) (R : XQ), T.pl t = true → sm t = true → T.dep t ≤ m → m ≤ 60 → Q (.bl true) G → callW Δ (n + m + 1) "_law_alike" [t, t] G Q R := by
  intro m
  induction m with
  | zero =>
    intro t n G Q R hp hs hd hm q
    refine callW_ok t_alike rfl ?_
    show wSs _ _ c_alike.body _ [some t, some t, none] G
    cases t with
    | tup xs => simp [T.dep] at hd
    | non =>
      refine y_if ?_
      simp only [wE, wEs, List.getElem?_cons_zero, List.getElem?_cons_succ]
      refine x_isi (b := false) rfl ?_
      refine y_nil (C := callW Δ n) (R := R) (y_if ?_)
      simp only [wE, wEs, List.getElem?_cons_zero, List.getElem?_cons_succ]
      refine x_isnoneT ?_
      refine y_ret ?_
      simp only [wE, wEs, List.getElem?_cons_zero, List.getElem?_cons_succ]
      exact x_isnoneT (exit_same q)
    | int i =>
      refine y_if ?_
      simp only [wE, wEs, List.getElem?_cons_zero, List.getElem?_cons_succ]
      refine x_isi (b := false) rfl ?_
      refine y_nil (C := callW Δ n) (R := R) (y_if ?_)
      simp only [wE, wEs, List.getElem?_cons_zero, List.getElem?_cons_succ]
      refine x_isnoneF (by simp) ?_
      refine y_nil (C := callW Δ n) (R := R) (y_if ?_)
      simp only [wE, wEs, List.getElem?_cons_zero, List.getElem?_cons_succ]
      refine x_isi (b := false) rfl ?_
      refine y_nil (C := callW Δ n) (R := R) (y_if ?_)
      simp only [wE, wEs, List.getElem?_cons_zero, List.getElem?_cons_succ]
      refine x_isi (b := true) rfl ?_
      refine y_ret ?_
      simp only [wE, wEs, List.getElem?_cons_zero, List.getElem?_cons_succ]
      refine x_isi (b := true) rfl ?_
      refine x_isi (b := false) rfl ?_
      exact self_eq hp (by simp [T.dep]) (exit_same q)
    | str x =>
      refine y_if ?_
      simp only [wE, wEs, List.getElem?_cons_zero, List.getElem?_cons_succ]
      refine x_isi (b := false) rfl ?_
      refine y_nil (C := callW Δ n) (R := R) (y_if ?_)
      simp only [wE, wEs, List.getElem?_cons_zero, List.getElem?_cons_succ]
      refine x_isnoneF (by simp) ?_
      refine y_nil (C := callW Δ n) (R := R) (y_if ?_)
      simp only [wE, wEs, List.getElem?_cons_zero, List.getElem?_cons_succ]
      refine x_isi (b := false) rfl ?_
      refine y_nil (C := callW Δ n) (R := R) (y_if ?_)
      simp only [wE, wEs, List.getElem?_cons_zero, List.getElem?_cons_succ]
      refine x_isi (b := false) rfl ?_
      refine y_nil (C := callW Δ n) (R := R) (y_ret ?_)
      simp only [wE, wEs, List.getElem?_cons_zero, List.getElem?_cons_succ]
      refine x_isi (b := true) rfl ?_
      exact self_eq hp (by simp [T.dep]) (exit_same q)
    | _ => simp [T.pl] at hp
  | succ m ih =>
    intro t n G Q R hp hs hd hm q
    by_cases ht : T.dep t ≤ m
    · have := ih t (n + 1) G Q R hp hs ht (by omega) q
      rw [show n + (m + 1) + 1 = n + 1 + m + 1 by omega]
      exact this
    cases t with
    | tup xs =>
      rw [sm, Bool.and_eq_true, decide_eq_true_eq] at hs
      rw [T.pl] at hp
      have hp' := T.pls_all.mp hp
      have hs' := sms_all.mp hs.2
      have hd' : ∀ x ∈ xs, T.dep x ≤ m := T.deps_le.mp (by rw [T.dep] at hd; omega)
      refine callW_ok t_alike rfl ?_
      show wSs _ _ c_alike.body _ [some (.tup xs), some (.tup xs), none] G
      refine y_if ?_
      simp only [wE, wEs, List.getElem?_cons_zero, List.getElem?_cons_succ]
      refine x_isi (b := true) rfl ?_
      refine y_if ?_
      simp only [wE, wEs, List.getElem?_cons_zero, List.getElem?_cons_succ]
      refine x_isi (b := true) rfl ?_
      refine x_len rfl (x_len rfl (x_neI ?_))
      refine ite_bl (fun h => ?_) (fun _ => ?_)
      · simp at h
      refine y_nil (C := callW Δ (n + (m + 1))) (R := R) (y_ret ?_)
      rw [wE, wEs, wE, wL]
      refine i_rng1 (n := xs.length) (G' := G) ?_ (callW_mono Δ _)
      simp only [wE, wEs, List.getElem?_cons_zero, List.getElem?_cons_succ]
      refine x_len rfl ⟨rfl, by have := hs.1; omega, ?_⟩
      refine comp_pure (fun _ => none) trivial _ [] (fun x hx k' h => ?_) (by rw [sizeLine_eq]; simp; have := hs.1; omega) ?_
      · obtain ⟨j, hj, rfl⟩ := List.mem_map.mp hx
        have hlt : j < xs.length := by simpa using hj
        have hm := List.getElem_mem hlt
        simp only [Tg.wp, wipeS, wE, wEs, List.set_cons_zero, List.set_cons_succ, List.getElem?_cons_zero, List.getElem?_cons_succ]
        refine x_idx rfl (atI_nat (v := xs[j]) (by simp [hlt])) ?_
        refine x_idx rfl (atI_nat (v := xs[j]) (by simp [hlt])) ?_
        exact ih xs[j] n G _ noX (hp' _ hm) (hs' _ hm) (hd' _ hm) (by omega) h
      · rw [filterMap_none]
        simp only [wEs, wE, wL, List.append_nil]
        refine ⟨by simp, x_eq (a := .lst []) (b := .lst []) ⟨rfl, rfl, by simp [T.dep, T.deps, datOf], by simp [T.dep, T.deps, datOf]⟩ (exit_same ?_)⟩
        simpa [datOf, T.eqv, T.eqvs] using q
    | non => simp [T.dep] at ht
    | int i => simp [T.dep] at ht
    | str x => simp [T.dep] at ht
    | _ => simp [T.pl] at hp
theorem pl_st {ts : List T} (f : ∀ t ∈ ts, Fact t) : T.pl (.tup ts) = true := by rw [T.pl]; exact (fact_fit f).pls
theorem sms_ints : ∀ ns : List Int, sms (ns.map T.int) = true
  | [] => rfl
  | n :: ns => by rw [List.map_cons, sms, sms_ints ns]; rfl
theorem sm_st {ts : List T} (f : ∀ t ∈ ts, Fact t) (hl : ts.length ≤ 1000000) : sm (.tup ts) = true := by
  rw [sm, Bool.and_eq_true, decide_eq_true_eq]
  refine ⟨hl, sms_all.mpr fun t ht => ?_⟩
  obtain ⟨x, ns, ⟨_, h2⟩, rfl⟩ := f t ht
  simp [sm, sms, sms_ints]
  omega
theorem dep_st {ts : List T} (f : ∀ t ∈ ts, Fact t) : T.dep (.tup ts) ≤ 3 := by
  rw [T.dep]
  have : T.deps ts ≤ 2 := T.deps_le.mpr fun t ht => by
    obtain ⟨x, ns, _, rfl⟩ := f t ht
    simp [T.dep, T.deps, deps_ints]
  omega
theorem lonceR_ok {a : Addr} {Δ : Str → Option FDef} {n : Nat} {ts : List T} {G : GH} {Q : QE} {R : XQ} (ha : G a = some (.lst ts)) (hd : Δ "_law_once" = some c_lonce) (pl : T.pls ts = true) (dp : T.deps ts ≤ 60) (hl : ts.length ≤ 1000000) (q : Q (.lst (dd ts)) G) : callW Δ (n + 1) "_law_once" [.ref a] G Q R := by
  refine callW_ok hd rfl ?_
  have hC := callW_mono Δ n
  have pl' := T.pls_all.mp pl
  have dp' := T.deps_le.mp dp
  show wSs _ _ c_lonce.body _ [some (.ref a), none, none] G
  refine y_set (z_own0 fun p hp => y_for ?_)
  rw [wI]
  have hap : a ≠ p := fun z => by rw [z, hp] at ha; cases ha
  refine z_var rfl ⟨ts, by rw [put_ne hap]; exact ha, ?_⟩
  refine for_inv hC (ok := fun G2 => G2 a = some (.lst ts)) (fun r τ G' => ∃ acc : List T, τ = [some (.ref a), some (.ref p), none] ∧ G' = put G p (.lst acc) ∧ r.foldl ddStep acc = dd ts ∧ (∀ x ∈ acc, x ∈ ts) ∧ (∀ x ∈ r, x ∈ ts) ∧ acc.length + r.length ≤ 1000000)
    (fun r τ G' ⟨acc, _, e, _⟩ => by rw [e, put_ne hap]; exact ha) ?_ ?_ ts _ _ ⟨[], rfl, rfl, rfl, by simp, fun x hx => hx, by simpa using hl⟩
  · rintro x r τ G' ⟨acc, rfl, rfl, e, h1, h2, h3⟩
    simp only [Tg.wp, List.set_cons_zero, List.set_cons_succ]
    refine y_if ?_
    simp only [wE, wEs, List.getElem?_cons_zero, List.getElem?_cons_succ]
    rw [List.length_cons] at h3
    have fx := h2 x List.mem_cons_self
    have pa : T.pls acc = true := T.pls_all.mpr fun y hy => pl' y (h1 y hy)
    have da : T.deps acc ≤ 60 := T.deps_le.mpr fun y hy => dp' y (h1 y hy)
    refine x_ni (ts := acc) (by simp only [seqOf, put_same]) (T.pl_dat _ (pl' x fx)) (T.pls_dats _ pa) (by have := dp' x fx; omega) (by omega) ?_
    rw [mem_pl (pl' x fx) pa]
    refine ite_bl (fun h => ?_) (fun h => ?_)
    · simp only [Bool.not_eq_true', decide_eq_false_iff_not] at h
      refine y_expr ?_
      rw [wE]
      refine z_var rfl ⟨(show ∃ ts, lstOf _ _ = some ts from ⟨acc, by simp only [lstOf, put_same]⟩), ?_⟩
      simp only [wE, wEs, List.getElem?_cons_zero, List.getElem?_cons_succ]
      refine x_append put_same (by rw [sizeLine_eq]; omega) (y_nil (C := callW Δ n) (R := R) ?_)
      rw [put_put]
      refine y_nil (C := callW Δ n) (R := R) (Then.slots (τ' := [some (.ref a), some (.ref p), none]) (by repeat' constructor) ⟨acc ++ [x], rfl, rfl, ?_, fun y hy => ?_, fun y hy => h2 y (List.mem_cons_of_mem _ hy), by simp; omega⟩)
      · rw [← e, List.foldl_cons]
        unfold ddStep
        rw [if_neg h]
      · rcases List.mem_append.mp hy with h' | h'
        · exact h1 y h'
        · rw [List.mem_singleton] at h'; subst h'; exact fx
    · simp only [Bool.not_eq_false', decide_eq_true_eq] at h
      refine y_nil (C := callW Δ n) (R := R) (y_nil (C := callW Δ n) (R := R) (Then.slots (τ' := [some (.ref a), some (.ref p), none]) (by repeat' constructor) ⟨acc, rfl, rfl, ?_, h1, fun y hy => h2 y (List.mem_cons_of_mem _ hy), by omega⟩))
      rw [← e, List.foldl_cons]
      unfold ddStep
      rw [if_pos h]
  · rintro τ G' ⟨acc, rfl, rfl, e, h1, h2, h3⟩
    have e' : acc = dd ts := e
    subst e'
    refine y_ret ?_
    simp only [wE, List.getElem?_cons_zero, List.getElem?_cons_succ]
    exact exit_frz put_same (Sub.put hp) hp q
end EV

namespace K06
open PySem PySem.Spec PyProof.Rows L2 EV
abbrev P := PySem.Challenge.pw_sameanswer_k06_terms_and_things
def d_is_variable : FDef := ⟨1, 1, [
  .ret (.prim (.isi "str") [.var 0])]⟩
def d_sorted_terms : FDef := ⟨1, 3, [
  .asg (.name 2) (.tmp (.prim .sorted [.tmp (.comp (.var 1) (.name 1) [1] (.val (.var 0)) (.not (.call "is_variable" [.var 1])))])),
  .ret (.prim .add [.var 2, .tmp (.prim .sorted [.tmp (.comp (.var 1) (.name 1) [1] (.val (.var 0)) (.call "is_variable" [.var 1]))])])]⟩
def d_variables_of : FDef := ⟨1, 5, [
  .asg (.name 1) (.dnew),
  .for_ (.tup [.name 2, .name 3]) (.val (.var 0)) [
    .for_ (.name 4) (.val (.var 3)) [
      .cond (.call "is_variable" [.var 4]) [
        .setItem (.var 1) (.var 4) (.cst (.bl true))] []]],
  .ret (.prim .tuple [.tmp (.prim .sorted [.var 1])])]⟩
def d_numbers_of : FDef := ⟨1, 5, [
  .asg (.name 1) (.dnew),
  .for_ (.tup [.name 2, .name 3]) (.val (.var 0)) [
    .for_ (.name 4) (.val (.var 3)) [
      .cond (.not (.call "is_variable" [.var 4])) [
        .setItem (.var 1) (.var 4) (.cst (.bl true))] []]],
  .ret (.prim .tuple [.tmp (.prim .sorted [.var 1])])]⟩
def d_things_of : FDef := ⟨1, 1, [
  .ret (.call "numbers_of" [.var 0])]⟩
def d_replaced_terms : FDef := ⟨2, 3, [
  .ret (.prim .tuple [.tmp (.comp (.meth .get2 (.var 1) [.var 2, .var 2]) (.name 2) [2] (.val (.var 0)) (.cst (.bl true)))])]⟩
def d_replaced : FDef := ⟨2, 4, [
  .ret (.prim .tuple [.tmp (.comp (.tup [.var 2, .call "replaced_terms" [.var 3, .var 1]]) (.tup [.name 2, .name 3]) [2, 3] (.val (.var 0)) (.cst (.bl true)))])]⟩
def d_once : FDef := ⟨1, 3, [
  .asg (.name 1) (.dnew),
  .for_ (.name 2) (.val (.var 0)) [
    .setItem (.var 1) (.var 2) (.cst (.bl true))],
  .ret (.prim .tuple [.var 1])]⟩
def d_as_store : FDef := ⟨1, 1, [
  .ret (.prim .tuple [.tmp (.prim .sorted [.call "once" [.var 0]])])]⟩
def d_frozen : FDef := ⟨2, 4, [
  .asg (.name 2) (.dnew),
  .for_ (.name 3) (.val (.call "variables_of" [.var 0])) [
    .setItem (.var 2) (.var 3) (.prim .add [.var 1, .prim .len [.var 2]])],
  .ret (.tup [.call "as_store" [.call "replaced" [.var 0, .var 2]], .var 2])]⟩
def d__law_draws : FDef := ⟨2, 8, [
  .asg (.name 2) (.own (.disp [])),
  .asg (.name 3) (.cst (.int 7)),
  .for_ (.name 4) (.rng1 (.prim .len [.var 0])) [
    .asg (.name 5) (.prim .abs [.prim .int [.prim .idx [.var 0, .var 4]]]),
    .asg (.name 3) (.prim .mod [.prim .int [.prim .add [.prim .add [.prim .mul [.var 3, .cst (.int 48271)], .prim .mod [.var 5, .cst (.int 1000003)]], .var 4]], .cst (.int 65537)]),
    .asg (.name 6) (.cst (.int 0)),
    .cond (.prim .ge [.var 5, .prim .pow [.cst (.int 10), .cst (.int 18)]]) [
      .asg (.name 6) (.var 5)] [
      .expr (.meth .append (.var 2) [.prim .mod [.prim .int [.var 5], .cst (.int 997)]]),
      .expr (.meth .append (.var 2) [.prim .mod [.prim .mod [.prim .int [.prim .add [.prim .mul [.var 3, .cst (.int 69621)], .cst (.int 5)]], .cst (.int 65521)], .cst (.int 997)]])],
    .for_ (.name 7) (.rng1 (.cst (.int 60))) [
      .cond (.prim .gt [.var 6, .cst (.int 0)]) [
        .expr (.meth .append (.var 2) [.prim .mod [.prim .int [.var 6], .cst (.int 997)]]),
        .asg (.name 6) (.prim .fdiv [.var 6, .cst (.int 997)])] []]],
  .for_ (.name 4) (.rng1 (.var 1)) [
    .asg (.name 3) (.prim .mod [.prim .int [.prim .add [.prim .add [.prim .mul [.var 3, .cst (.int 16807)], .var 4], .cst (.int 1)]], .cst (.int 65537)]),
    .expr (.meth .append (.var 2) [.prim .mod [.prim .int [.var 3], .cst (.int 997)]])],
  .ret (.slcu (.var 2) (.var 1))]⟩
def d__law_next : FDef := ⟨2, 2, [
  .augItem (.var 0) (.cst (.str "at")) .iadd (.cst (.int 1)),
  .cond (.prim .gt [.prim .idx [.var 0, .cst (.str "at")], .prim .len [.prim .idx [.var 0, .cst (.str "draws")]]]) [
    .ret (.cst (.int 0))] [],
  .ret (.prim .mod [.prim .int [.prim .idx [.prim .idx [.var 0, .cst (.str "draws")], .prim .sub [.prim .idx [.var 0, .cst (.str "at")], .cst (.int 1)]]], .var 1])]⟩
def d__law_pick : FDef := ⟨2, 2, [
  .ret (.prim .idx [.var 1, .call "_law_next" [.var 0, .prim .len [.var 1]]])]⟩
def d__law_alike : FDef := ⟨2, 3, [
  .cond (.prim (.isi "tuple") [.var 1]) [
    .cond (.or (.not (.prim (.isi "tuple") [.var 0])) (.prim .ne [.prim .len [.var 0], .prim .len [.var 1]])) [
      .ret (.cst (.bl false))] [],
    .ret (.prim .eq [.tmp (.comp (.var 2) (.name 2) [2] (.rng1 (.prim .len [.var 1])) (.not (.call "_law_alike" [.prim .idx [.var 0, .var 2], .prim .idx [.var 1, .var 2]]))), .tmp (.disp [])])] [],
  .cond (.prim (.isi "list") [.var 1]) [
    .ret (.and (.prim (.isi "list") [.var 0]) (.call "_law_alike" [.prim .tuple [.var 0], .prim .tuple [.var 1]]))] [],
  .cond (.prim .isnone [.var 1]) [
    .ret (.prim .isnone [.var 0])] [],
  .cond (.prim (.isi "bool") [.var 1]) [
    .ret (.and (.prim (.isi "bool") [.var 0]) (.prim .eq [.var 0, .var 1]))] [],
  .cond (.prim (.isi "int") [.var 1]) [
    .ret (.and (.prim (.isi "int") [.var 0]) (.and (.not (.prim (.isi "bool") [.var 0])) (.prim .eq [.var 0, .var 1])))] [],
  .ret (.and (.prim (.isi "str") [.var 0]) (.prim .eq [.var 0, .var 1]))]⟩
def d__law_once : FDef := ⟨1, 3, [
  .asg (.name 1) (.own (.disp [])),
  .for_ (.name 2) (.val (.var 0)) [
    .cond (.prim .notin [.var 2, .var 1]) [
      .expr (.meth .append (.var 1) [.var 2])] []],
  .ret (.var 1)]⟩
def d__law_term : FDef := ⟨1, 1, [
  .ret (.call "_law_pick" [.var 0, .tmp (.disp [.cst (.str "x"), .cst (.str "y"), .cst (.str "z"), .cst (.str "u1"), .cst (.str "x_"), .cst (.str "same"), .cst (.int 0), .cst (.int 1), .cst (.int 7), .cst (.int 12)])])]⟩
def d__law_atoms : FDef := ⟨1, 5, [
  .asg (.name 1) (.own (.disp [])),
  .for_ (.name 2) (.rng1 (.call "_law_next" [.var 0, .cst (.int 6)])) [
    .asg (.name 3) (.call "_law_pick" [.var 0, .tmp (.disp [.cst (.str "n"), .cst (.str "p"), .cst (.str "q"), .cst (.str "r3")])]),
    .expr (.meth .append (.var 1) [.tup [.var 3, .prim .tuple [.tmp (.comp (.call "_law_term" [.var 0]) (.name 4) [4] (.rng1 (.meth .index (.tmp (.disp [.cst (.str "n"), .cst (.str "p"), .cst (.str "q"), .cst (.str "r3")])) [.var 3])) (.cst (.bl true)))]]])],
  .ret (.prim .tuple [.var 1])]⟩
def d__law_store : FDef := ⟨1, 5, [
  .asg (.name 1) (.own (.disp [])),
  .for_ (.tup [.name 2, .name 3]) (.val (.call "_law_atoms" [.var 0])) [
    .expr (.meth .append (.var 1) [.tup [.var 2, .prim .tuple [.tmp (.comp (.call "_law_pick" [.var 0, .tmp (.disp [.cst (.int 0), .cst (.int 1), .cst (.int 7), .cst (.int 12), .prim .neg [.cst (.int 1)], .prim .neg [.cst (.int 2)], .prim .neg [.cst (.int 9)]])]) (.name 4) [4] (.val (.var 3)) (.cst (.bl true)))]]])],
  .ret (.prim .tuple [.tmp (.prim .sorted [.call "_law_once" [.var 1]])])]⟩
def d__law_terms_of : FDef := ⟨1, 4, [
  .asg (.name 1) (.tmp (.disp [])),
  .for_ (.tup [.name 2, .name 3]) (.val (.var 0)) [
    .asg (.name 1) (.prim .add [.var 1, .tmp (.prim .list [.var 3])])],
  .ret (.var 1)]⟩
def d__law_strings : FDef := ⟨1, 2, [
  .ret (.tmp (.prim .sorted [.tmp (.comp (.prim .str [.var 1]) (.name 1) [1] (.val (.call "_law_once" [.var 0])) (.prim (.isi "str") [.var 1]))]))]⟩
def d__law_swapped : FDef := ⟨2, 5, [
  .ret (.prim .tuple [.tmp (.comp (.tup [.var 2, .prim .tuple [.tmp (.comp (.ite (.prim .isin [.var 4, .var 1]) (.prim .idx [.var 1, .var 4]) (.var 4)) (.name 4) [4] (.val (.var 3)) (.cst (.bl true)))]]) (.tup [.name 2, .name 3]) [2, 3] (.val (.var 0)) (.cst (.bl true)))])]⟩
def d__law_table : FDef := ⟨1, 3, [
  .asg (.name 1) (.dnew),
  .for_ (.name 2) (.rng1 (.call "_law_next" [.var 0, .cst (.int 4)])) [
    .setItem (.var 1) (.call "_law_pick" [.var 0, .tmp (.disp [.cst (.str "x"), .cst (.str "y"), .cst (.str "z"), .cst (.str "u1"), .cst (.str "nobody")])]) (.call "_law_term" [.var 0])],
  .ret (.var 1)]⟩
def d_law : FDef := ⟨1, 17, [
  .asg (.name 1) (.dict ["draws", "at"] [.call "_law_draws" [.var 0, .cst (.int 900)], .cst (.int 0)]),
  .for_ (.name 2) (.rng1 (.cst (.int 6))) [
    .asg (.name 3) (.call "_law_atoms" [.var 1]),
    .asg (.name 4) (.call "_law_strings" [.call "_law_terms_of" [.var 3]]),
    .cond (.not (.call "_law_alike" [.call "variables_of" [.var 3], .prim .tuple [.var 4]])) [
      .ret (.cst (.bl false))] [],
    .asg (.name 5) (.call "_law_store" [.var 1]),
    .asg (.name 7) (.tmp (.prim .sorted [.tmp (.comp (.prim .int [.var 6]) (.name 6) [6] (.val (.call "_law_once" [.call "_law_terms_of" [.var 5]])) (.cst (.bl true)))])),
    .cond (.not (.call "_law_alike" [.call "things_of" [.var 5], .prim .tuple [.var 7]])) [
      .ret (.cst (.bl false))] [],
    .asg (.name 8) (.call "_law_table" [.var 1]),
    .cond (.not (.call "_law_alike" [.call "replaced" [.var 3, .dcopy (.var 8)], .call "_law_swapped" [.var 3, .var 8]])) [
      .ret (.cst (.bl false))] [],
    .asg (.name 10) (.tmp (.comp (.call "_law_term" [.var 1]) (.name 9) [9] (.rng1 (.call "_law_next" [.var 1, .cst (.int 7)])) (.cst (.bl true)))),
    .asg (.name 12) (.prim .add [.tmp (.prim .sorted [.tmp (.comp (.prim .int [.var 11]) (.name 11) [11] (.val (.var 10)) (.prim (.isi "int") [.var 11]))]), .tmp (.prim .sorted [.tmp (.comp (.prim .str [.var 11]) (.name 11) [11] (.val (.var 10)) (.prim (.isi "str") [.var 11]))])]),
    .cond (.not (.call "_law_alike" [.call "sorted_terms" [.tmp (.prim .list [.var 10])], .var 12])) [
      .ret (.cst (.bl false))] [],
    .asg (.name 13) (.call "_law_pick" [.var 1, .tmp (.disp [.cst (.int 0), .cst (.int 13), .cst (.int 100)])]),
    .asg (.name 14) (.call "frozen" [.var 3, .var 13]),
    .cond (.or (.not (.prim (.isi "tuple") [.var 14])) (.or (.prim .ne [.prim .len [.var 14], .cst (.int 2)]) (.not (.prim (.isi "dict") [.prim .idx [.var 14, .cst (.int 1)]])))) [
      .ret (.cst (.bl false))] [],
    .asg (.name 12) (.dnew),
    .for_ (.name 9) (.rng1 (.prim .len [.var 4])) [
      .setItem (.var 12) (.prim .idx [.var 4, .var 9]) (.prim .add [.var 13, .var 9])],
    .cond (.not (.call "_law_alike" [.prim .tuple [.tmp (.prim .sorted [.tmp (.comp (.prim .str [.var 15]) (.name 15) [15] (.keys (.prim .idx [.var 14, .cst (.int 1)])) (.cst (.bl true)))])], .prim .tuple [.var 4]])) [
      .ret (.cst (.bl false))] [],
    .cond (.not (.call "_law_alike" [.prim .tuple [.tmp (.comp (.prim .idx [.prim .idx [.var 14, .cst (.int 1)], .var 16]) (.name 16) [16] (.val (.var 4)) (.cst (.bl true)))], .prim .tuple [.tmp (.comp (.prim .idx [.var 12, .var 16]) (.name 16) [16] (.val (.var 4)) (.cst (.bl true)))]])) [
      .ret (.cst (.bl false))] [],
    .cond (.not (.call "_law_alike" [.prim .idx [.var 14, .cst (.int 0)], .prim .tuple [.tmp (.prim .sorted [.call "_law_once" [.tmp (.prim .list [.call "_law_swapped" [.var 3, .var 12]])]])]])) [
      .ret (.cst (.bl false))] []],
  .ret (.cst (.bl true))]⟩
def ds : List (List Str × FDef) := [(["term"], d_is_variable),
  (["terms", "term", "numbers"], d_sorted_terms),
  (["atoms", "found", "_", "terms", "term"], d_variables_of),
  (["atoms", "found", "_", "terms", "term"], d_numbers_of),
  (["store"], d_things_of),
  (["terms", "table", "term"], d_replaced_terms),
  (["atoms", "table", "name", "terms"], d_replaced),
  (["things", "found", "thing"], d_once),
  (["facts"], d_as_store),
  (["atoms", "least", "table", "variable"], d_frozen),
  (["script", "many", "draws", "mixed", "k", "cell", "rest", "turn"], d__law_draws),
  (["w", "many"], d__law_next),
  (["w", "rows"], d__law_pick),
  (["told", "due", "k"], d__law_alike),
  (["rows", "found", "row"], d__law_once),
  (["w"], d__law_term),
  (["w", "found", "k", "name", "j"], d__law_atoms),
  (["w", "found", "name", "terms", "term"], d__law_store),
  (["atoms", "found", "name", "terms"], d__law_terms_of),
  (["terms", "term"], d__law_strings),
  (["atoms", "table", "name", "terms", "term"], d__law_swapped),
  (["w", "table", "k"], d__law_table),
  (["script", "w", "turn", "atoms", "names", "store", "thing", "things", "table", "k", "row", "term", "due", "least", "told", "key", "name"], d_law)]
def bl : List Str := ["abs", "bool", "dict", "int", "isinstance", "len", "list", "range", "sorted", "str", "tuple"]
def rows : List Rw := rowsOf P.main.body ds
theorem okB : rows.all (Rw.okB (gsOf rows bl)) = true := by kernel_rfl
theorem nodup : (rows.map (·.x)).Nodup := by decide +kernel
abbrev Δ := tabOf rows
theorem t_is_variable : Δ "is_variable" = some d_is_variable := by kernel_rfl
theorem t_sorted_terms : Δ "sorted_terms" = some d_sorted_terms := by kernel_rfl
theorem t_variables_of : Δ "variables_of" = some d_variables_of := by kernel_rfl
theorem t_numbers_of : Δ "numbers_of" = some d_numbers_of := by kernel_rfl
theorem t_things_of : Δ "things_of" = some d_things_of := by kernel_rfl
theorem t_replaced_terms : Δ "replaced_terms" = some d_replaced_terms := by kernel_rfl
theorem t_replaced : Δ "replaced" = some d_replaced := by kernel_rfl
theorem t_frozen : Δ "frozen" = some d_frozen := by kernel_rfl
theorem t__law_alike : Δ "_law_alike" = some d__law_alike := by kernel_rfl
theorem t__law_once : Δ "_law_once" = some d__law_once := by kernel_rfl
theorem t__law_term : Δ "_law_term" = some d__law_term := by kernel_rfl
theorem t__law_atoms : Δ "_law_atoms" = some d__law_atoms := by kernel_rfl
theorem t__law_store : Δ "_law_store" = some d__law_store := by kernel_rfl
theorem t__law_terms_of : Δ "_law_terms_of" = some d__law_terms_of := by kernel_rfl
theorem t__law_strings : Δ "_law_strings" = some d__law_strings := by kernel_rfl
theorem t__law_swapped : Δ "_law_swapped" = some d__law_swapped := by kernel_rfl
theorem t__law_table : Δ "_law_table" = some d__law_table := by kernel_rfl
theorem t_law : Δ "law" = some d_law := by kernel_rfl
theorem t_once : Δ "once" = some c_once := by kernel_rfl
theorem t_store : Δ "as_store" = some c_as_store := by kernel_rfl
theorem t_next : Δ "_law_next" = some c_next := by kernel_rfl
theorem t_pick : Δ "_law_pick" = some c_pick := by kernel_rfl
theorem t_draws : Δ "_law_draws" = some c_draws := by kernel_rfl
end K06

namespace K06
open PySem PySem.Spec PyProof.Rows L2 EV
theorem t_lonce : Δ "_law_once" = some c_lonce := t__law_once
/-! ### terms, atoms -/
def Tm (t : T) : Prop := (∃ x, strOk x = true ∧ t = .str x) ∨ ∃ i, t = .int i
def isS : T → Bool
  | .str _ => true
  | _ => false
def isI : T → Bool
  | .int _ => true
  | _ => false
theorem Tm.pl {t : T} (h : Tm t) : T.pl t = true := by
  rcases h with ⟨x, hx, rfl⟩ | ⟨i, rfl⟩
  · exact hx
  · rfl
theorem Tm.dp {t : T} (h : Tm t) : T.dep t = 0 := by rcases h with ⟨x, hx, rfl⟩ | ⟨i, rfl⟩ <;> simp [T.dep]
theorem Tm.i {t : T} (h : Tm t) : isI t = !isS t := by rcases h with ⟨x, hx, rfl⟩ | ⟨i, rfl⟩ <;> rfl
theorem Tm.key {t : T} (h : Tm t) : (T.key? t).isSome = true := by rcases h with ⟨x, hx, rfl⟩ | ⟨i, rfl⟩ <;> rfl
theorem tms_pl {ts : List T} (h : ∀ t ∈ ts, Tm t) : T.pls ts = true := T.pls_all.mpr fun t ht => (h t ht).pl
theorem tms_dp {ts : List T} (h : ∀ t ∈ ts, Tm t) : T.deps ts = 0 := Nat.le_zero.mp (T.deps_le.mpr fun t ht => by rw [(h t ht).dp]; exact Nat.le_refl _)
/-- an atom -/
structure Atm where
  x : Str
  ts : List T
def Atm.t (a : Atm) : T := .tup [.str a.x, .tup a.ts]
def Atm.Ok (a : Atm) : Prop := strOk a.x = true ∧ (∀ t ∈ a.ts, Tm t) ∧ a.ts.length ≤ 10
def trm (as : List Atm) : List T := as.flatMap (·.ts)
theorem trm_tm {as : List Atm} (h : ∀ a ∈ as, a.Ok) : ∀ t ∈ trm as, Tm t := fun t ht => by
  obtain ⟨a, ha, ht⟩ := List.mem_flatMap.mp ht
  exact (h a ha).2.1 t ht
theorem trm_len {as : List Atm} (h : ∀ a ∈ as, a.Ok) : (trm as).length ≤ 10 * as.length := by
  induction as with
  | nil => simp [trm]
  | cons a as ih =>
    have h1 := ih fun b hb => h b (List.mem_cons_of_mem _ hb)
    have h2 := (h a List.mem_cons_self).2.2
    simp only [trm, List.flatMap_cons, List.length_append, List.length_cons] at h1 ⊢
    omega
section
variable {n : Nat} {G : GH} {Q : QE} {R : XQ}
theorem isvar_ok {t : T} (h : Tm t) (q : Q (.bl (isS t)) G) : callW Δ (n + 1) "is_variable" [t] G Q R := by
  refine callW_ok t_is_variable rfl ?_
  show wSs _ _ d_is_variable.body _ [some t] G
  refine y_ret ?_
  simp only [wE, wEs, List.getElem?_cons_zero]
  rcases h with ⟨x, hx, rfl⟩ | ⟨i, rfl⟩
  · exact x_isi (b := true) rfl (exit_same q)
  · exact x_isi (b := false) rfl (exit_same q)
/-- found[term] = True over all terms -/
theorem put_keys {acc : List T} {x c : T} (ha : ∀ y ∈ acc, Tm y) (hx : Tm x) : keyOk (acc.map fun t => (t, c)) x = true := by
  unfold keyOk
  rw [hx.key]
  simp only [Bool.true_and, Bool.or_eq_true, List.all_map, List.all_eq_true]
  exact .inl fun y hy => (ha y hy).key
def vst (f : T → Bool) (acc : List T) (x : T) : List T := if f x = true then ddStep acc x else acc
theorem fold_filter (f : T → Bool) : ∀ (l acc : List T), l.foldl (vst f) acc = (l.filter f).foldl ddStep acc
  | [], acc => rfl
  | x :: l, acc => by
    rw [List.foldl_cons, List.filter_cons, fold_filter f l]
    unfold vst
    cases e : f x <;> simp
theorem vst_mem {f : T → Bool} {acc : List T} {x y : T} (h : y ∈ vst f acc x) : y ∈ acc ∨ (y = x ∧ f x = true) := by
  unfold vst at h
  split at h
  · rename_i e
    rcases ddStep_mem.mp h with h | h
    · exact .inl h
    · exact .inr ⟨h, e⟩
  · exact .inl h
theorem vst_len (f : T → Bool) (acc : List T) (x : T) : (vst f acc x).length ≤ acc.length + 1 := by
  unfold vst ddStep
  split
  · split <;> simp
  · omega
def vfd (cnd : E) : FDef := ⟨1, 5, [
  .asg (.name 1) (.dnew),
  .for_ (.tup [.name 2, .name 3]) (.val (.var 0)) [
    .for_ (.name 4) (.val (.var 3)) [
      .cond cnd [
        .setItem (.var 1) (.var 4) (.cst (.bl true))] []]],
  .ret (.prim .tuple [.tmp (.prim .sorted [.var 1])])]⟩
theorem vn_ok {nm : Str} {cnd : E} (f : T → Bool) (hd : Δ nm = some (vfd cnd)) (hc : ∀ (a b c d : Option T) (x : T) (G : GH) (K : QE), Tm x → K (.bl (f x)) G → wE (callW Δ n) R cnd [a, b, c, d, some x] G K)
    (hf : ∀ l : List T, (∀ t ∈ l, Tm t ∧ f t = true) → Flat l) {as : List Atm} (h : ∀ a ∈ as, a.Ok) (la : as.length ≤ 1000) (q : Q (.tup (srt (dd ((trm as).filter f)))) G) : callW Δ (n + 1) nm [.tup (as.map Atm.t)] G Q R := by
  refine callW_ok hd rfl ?_
  have hC := callW_mono Δ n
  show wSs _ _ (vfd cnd).body _ [some (.tup (as.map Atm.t)), none, none, none, none] G
  refine y_set ?_
  rw [wE]
  intro p hp
  refine y_for ?_
  rw [wI]
  refine z_var rfl ?_
  have lt := trm_len h
  refine for_inv hC (ok := fun _ => True) (fun r τ G' => ∃ (bs : List Atm) (acc : List T), r = bs.map Atm.t ∧ (∀ a ∈ bs, a.Ok) ∧ τ = [some (.tup (as.map Atm.t)), some (.ref p), none, none, none] ∧ G' = put G p (.dct (acc.map fun t => (t, T.bl true))) ∧
    (trm bs).foldl (vst f) acc = (trm as).foldl (vst f) [] ∧ (∀ y ∈ acc, Tm y ∧ f y = true) ∧ acc.length + (trm bs).length ≤ 10000) (fun _ _ _ _ => trivial) ?_ ?_ _ _ _ ⟨as, [], rfl, h, rfl, rfl, rfl, by simp, by simp; omega⟩
  · rintro x r τ G' ⟨bs, acc, e, hb, rfl, rfl, ef, hm, hl⟩
    cases bs with
    | nil => cases e
    | cons b bs =>
      rw [List.map_cons] at e
      cases e
      have hb1 := hb b List.mem_cons_self
      simp only [Atm.t, Tg.wp, Tg.wps, List.set_cons_zero, List.set_cons_succ]
      refine ⟨rfl, y_for ?_⟩
      rw [wI]
      refine z_var rfl ?_
      have et : trm (b :: bs) = b.ts ++ trm bs := by simp [trm]
      rw [et] at ef hl
      rw [List.foldl_append] at ef
      rw [List.length_append] at hl
      refine for_inv hC (ok := fun _ => True) (fun r τ G' => ∃ acc : List T, τ = [some (.tup (as.map Atm.t)), some (.ref p), some (.str b.x), some (.tup b.ts), none] ∧ G' = put G p (.dct (acc.map fun t => (t, T.bl true))) ∧
        (trm bs).foldl (vst f) (r.foldl (vst f) acc) = (trm as).foldl (vst f) [] ∧ (∀ y ∈ acc, Tm y ∧ f y = true) ∧ (∀ y ∈ r, Tm y) ∧ acc.length + (r.length + (trm bs).length) ≤ 10000) (fun _ _ _ _ => trivial) ?_ ?_ _ _ _ ⟨acc, rfl, rfl, ef, hm, hb1.2.1, hl⟩
      · rintro x r τ G' ⟨acc, rfl, rfl, ef, hm, hr, hl⟩
        have hx := hr x List.mem_cons_self
        rw [List.length_cons] at hl
        simp only [Tg.wp, List.set_cons_zero, List.set_cons_succ]
        refine y_if (hc _ _ _ _ x _ _ hx ?_)
        have fin : ∀ acc' : List T, acc' = vst f acc x → Then (fun τ G' => ∃ acc : List T, τ = [some (.tup (as.map Atm.t)), some (.ref p), some (.str b.x), some (.tup b.ts), none] ∧ G' = put G p (.dct (acc.map fun t => (t, T.bl true))) ∧
            (trm bs).foldl (vst f) (r.foldl (vst f) acc) = (trm as).foldl (vst f) [] ∧ (∀ y ∈ acc, Tm y ∧ f y = true) ∧ (∀ y ∈ r, Tm y) ∧ acc.length + (r.length + (trm bs).length) ≤ 10000)
            [some (.tup (as.map Atm.t)), some (.ref p), some (.str b.x), some (.tup b.ts), some x] (put G p (.dct (acc'.map fun t => (t, T.bl true)))) := by
          rintro acc' rfl
          refine Then.slots (τ' := [some (.tup (as.map Atm.t)), some (.ref p), some (.str b.x), some (.tup b.ts), none]) (by repeat' constructor) ⟨_, rfl, rfl, ef, fun y hy => ?_, fun y hy => hr y (List.mem_cons_of_mem _ hy), by have := vst_len f acc x; omega⟩
          rcases vst_mem hy with h | ⟨rfl, h⟩
          · exact hm y h
          · exact ⟨hx, h⟩
        cases ex : f x with
        | true =>
          refine y_setItem ?_
          simp only [wE, List.getElem?_cons_zero, List.getElem?_cons_succ]
          refine x_setD put_same (put_keys (fun y hy => (hm y hy).1) hx) (by rw [List.length_map, sizeLine_eq]; omega) (y_nil (C := callW Δ n) (R := R) ?_)
          rw [put_put, dput_const]
          exact y_nil (C := callW Δ n) (R := R) (fin _ (by unfold vst; rw [if_pos ex]))
        | false => exact y_nil (C := callW Δ n) (R := R) (y_nil (C := callW Δ n) (R := R) (fin _ (by unfold vst; rw [ex]; rfl)))
      · rintro τ G' ⟨acc, rfl, rfl, ef, hm, hr, hl⟩
        exact y_nil (C := callW Δ n) (R := R) (Then.slots (τ' := [some (.tup (as.map Atm.t)), some (.ref p), none, none, none]) (by repeat' constructor) ⟨bs, acc, rfl, fun a ha => hb a (List.mem_cons_of_mem _ ha), rfl, rfl, ef, hm, by simpa using hl⟩)
  · rintro τ G' ⟨bs, acc, e, hb, rfl, rfl, ef, hm, hl⟩
    cases bs with
    | cons b bs => cases e
    | nil =>
      have ea : acc = dd ((trm as).filter f) := by
        have : acc = (trm as).foldl (vst f) [] := ef
        rw [this, fold_filter]; rfl
      subst ea
      refine y_ret ?_
      simp only [wE, wEs, wL, List.getElem?_cons_zero, List.getElem?_cons_succ]
      have em : ((dd ((trm as).filter f)).map fun t => (t, T.bl true)).map (·.1) = dd ((trm as).filter f) := by rw [List.map_map]; exact List.map_id _
      refine wp_sortedD (kvs := (dd ((trm as).filter f)).map fun t => (t, T.bl true)) (by simp only [dctOf, put_same]) (by rw [List.length_map]; omega) (by rw [em]; exact hf _ hm) ?_
      rw [em]
      exact x_tuple rfl (exit_drop (Sub.put hp) q)
theorem variables_ok {as : List Atm} (h : ∀ a ∈ as, a.Ok) (la : as.length ≤ 1000) (q : Q (.tup (srt (dd ((trm as).filter isS)))) G) : callW Δ (n + 2) "variables_of" [.tup (as.map Atm.t)] G Q R := by
  refine vn_ok isS t_variables_of (fun a b c d x G K hx hK => ?_) (fun l hl => flat_strs fun t ht => ?_) h la q
  · refine z_call ?_
    simp only [wE, wEs, List.getElem?_cons_zero, List.getElem?_cons_succ]
    exact isvar_ok hx hK
  · obtain ⟨h1, h2⟩ := hl t ht
    rcases h1 with ⟨x, hx, rfl⟩ | ⟨i, rfl⟩
    · exact ⟨x, hx, rfl⟩
    · cases h2
theorem numbers_ok {as : List Atm} (h : ∀ a ∈ as, a.Ok) (la : as.length ≤ 1000) (q : Q (.tup (srt (dd ((trm as).filter fun t => !isS t)))) G) : callW Δ (n + 2) "numbers_of" [.tup (as.map Atm.t)] G Q R := by
  refine vn_ok (fun t => !isS t) t_numbers_of (fun a b c d x G K hx hK => ?_) (fun l hl => flat_ints fun t ht => ?_) h la q
  · rw [wE]
    refine z_call ?_
    simp only [wE, wEs, List.getElem?_cons_zero, List.getElem?_cons_succ]
    exact isvar_ok hx hK
  · obtain ⟨h1, h2⟩ := hl t ht
    rcases h1 with ⟨x, hx, rfl⟩ | ⟨i, rfl⟩
    · cases h2
    · exact ⟨i, rfl⟩
end
end K06

namespace K06
open PySem PySem.Spec PyProof.Rows L2 EV
theorem fm_map (f : T → T) : ∀ l : List T, l.filterMap (fun x => some (f x)) = l.map f
  | [] => rfl
  | x :: l => by rw [List.filterMap_cons, List.map_cons, fm_map f l]
theorem fm_filter (f : T → Bool) : ∀ l : List T, l.filterMap (fun x => if f x = true then some x else none) = l.filter f
  | [] => rfl
  | x :: l => by rw [List.filterMap_cons, List.filter_cons, fm_filter f l]; cases e : f x <;> simp
def lk (kvs : List (T × T)) (t : T) : T := (dget kvs t).getD t
def rep (kvs : List (T × T)) (a : Atm) : Atm := ⟨a.x, a.ts.map (lk kvs)⟩
theorem ko_key {kvs : List (T × T)} {t : T} (hk : keysOk kvs = true) (ht : Tm t) : keyOk kvs t = true := by
  unfold keyOk
  rw [ht.key]
  unfold keysOk at hk
  rw [hk]; rfl
section
variable {n : Nat} {G : GH} {Q : QE} {R : XQ} {d : Addr} {kvs : List (T × T)}
theorem rterms_ok {ts : List T} (hg : G d = some (.dct kvs)) (hk : keysOk kvs = true) (ht : ∀ t ∈ ts, Tm t) (hl : ts.length ≤ 1000) (q : Q (.tup (ts.map (lk kvs))) G) : callW Δ (n + 1) "replaced_terms" [.tup ts, .ref d] G Q R := by
  refine callW_ok t_replaced_terms rfl ?_
  show wSs _ _ d_replaced_terms.body _ [some (.tup ts), some (.ref d), none] G
  have hd : dctOf G (.ref d) = some kvs := by simp only [dctOf, hg]
  refine y_ret ?_
  rw [wE, wEs, wE, wL, wI]
  refine z_var rfl ?_
  refine comp_pure (fun x => some (lk kvs x)) trivial ts [] (fun x hx k h => ?_) (by rw [sizeLine_eq]; simp; omega) ?_
  · simp only [Tg.wp, wipeS, wE, wEs, List.set_cons_zero, List.set_cons_succ, List.getElem?_cons_zero, List.getElem?_cons_succ]
    exact ⟨⟨kvs, hd⟩, kvs, hd, ko_key hk (ht x hx), h⟩
  · rw [fm_map, List.nil_append, wEs]
    exact x_tuple rfl (exit_same q)
theorem replaced_ok {as : List Atm} (hg : G d = some (.dct kvs)) (hk : keysOk kvs = true) (h : ∀ a ∈ as, a.Ok) (la : as.length ≤ 1000) (q : Q (.tup ((as.map (rep kvs)).map Atm.t)) G) : callW Δ (n + 2) "replaced" [.tup (as.map Atm.t), .ref d] G Q R := by
  refine callW_ok t_replaced rfl ?_
  show wSs _ _ d_replaced.body _ [some (.tup (as.map Atm.t)), some (.ref d), none, none] G
  refine y_ret ?_
  rw [wE, wEs, wE, wL, wI]
  refine z_var rfl ?_
  refine comp_pure (fun x => match x with | .tup [a, .tup ts] => some (.tup [a, .tup (ts.map (lk kvs))]) | _ => none) trivial _ [] (fun x hx k h' => ?_) (by rw [sizeLine_eq]; simp; omega) ?_
  · obtain ⟨a, ha, rfl⟩ := List.mem_map.mp hx
    simp only [Atm.t, Tg.wp, Tg.wps, wipeS, List.set_cons_zero, List.set_cons_succ]
    refine ⟨rfl, ?_⟩
    simp only [wE, wEs, List.getElem?_cons_zero, List.getElem?_cons_succ]
    refine rterms_ok hg hk (h a ha).2.1 (by have := (h a ha).2.2; omega) ?_
    exact ⟨by simp [sizeLine_eq], h'⟩
  · have e : (as.map Atm.t).filterMap (fun x => match x with | .tup [a, .tup ts] => some (T.tup [a, .tup (ts.map (lk kvs))]) | _ => none) = (as.map (rep kvs)).map Atm.t := by
      clear h la q
      induction as with
      | nil => rfl
      | cons a as ih => rw [List.map_cons, List.filterMap_cons]; simp only [Atm.t]; rw [ih]; rfl
    rw [e, List.nil_append, wEs]
    exact x_tuple rfl (exit_same q)
theorem swapped_ok {as : List Atm} (hg : G d = some (.dct kvs)) (hk : keysOk kvs = true) (h : ∀ a ∈ as, a.Ok) (la : as.length ≤ 1000) (q : Q (.tup ((as.map (rep kvs)).map Atm.t)) G) : callW Δ (n + 1) "_law_swapped" [.tup (as.map Atm.t), .ref d] G Q R := by
  refine callW_ok t__law_swapped rfl ?_
  have hd : dctOf G (.ref d) = some kvs := by simp only [dctOf, hg]
  show wSs _ _ d__law_swapped.body _ [some (.tup (as.map Atm.t)), some (.ref d), none, none, none] G
  refine y_ret ?_
  rw [wE, wEs, wE, wL, wI]
  refine z_var rfl ?_
  refine comp_pure (fun x => match x with | .tup [a, .tup ts] => some (.tup [a, .tup (ts.map (lk kvs))]) | _ => none) trivial _ [] (fun x hx k h' => ?_) (by rw [sizeLine_eq]; simp; omega) ?_
  · obtain ⟨a, ha, rfl⟩ := List.mem_map.mp hx
    simp only [Atm.t, Tg.wp, Tg.wps, wipeS, List.set_cons_zero, List.set_cons_succ]
    refine ⟨rfl, ?_⟩
    rw [wE]
    show wE _ _ _ _ _ _
    rw [wE, wEs]
    refine z_var rfl ?_
    rw [wEs, wE, wEs, wE, wL, wI]
    refine z_var rfl ?_
    have ha2 := h a ha
    refine comp_pure (fun x => some (lk kvs x)) trivial a.ts [] (fun x hx k h => ?_) (by rw [sizeLine_eq]; have := ha2.2.2; simp; omega) ?_
    · simp only [Tg.wp, wipeS, wE, wEs, List.set_cons_zero, List.set_cons_succ, List.getElem?_cons_zero, List.getElem?_cons_succ]
      have ko := ko_key hk (ha2.2.1 x hx)
      refine x_inD hd ko (ite_bl (fun e => ?_) (fun e => ?_))
      · obtain ⟨v, hv⟩ := Option.isSome_iff_exists.mp e
        refine x_idxD hd ko hv ?_
        have : lk kvs x = v := by unfold lk; rw [hv]; rfl
        rw [this] at h
        exact h
      · have : lk kvs x = x := by
          unfold lk
          cases hv : dget kvs x with
          | none => rfl
          | some v => rw [hv] at e; cases e
        rw [this] at h
        exact h
    · rw [fm_map, List.nil_append, wEs]
      refine x_tuple rfl ?_
      rw [wEs]
      exact ⟨by simp [sizeLine_eq], h'⟩
  · have e : (as.map Atm.t).filterMap (fun x => match x with | .tup [a, .tup ts] => some (T.tup [a, .tup (ts.map (lk kvs))]) | _ => none) = (as.map (rep kvs)).map Atm.t := by
      clear h la q
      induction as with
      | nil => rfl
      | cons a as ih => rw [List.map_cons, List.filterMap_cons]; simp only [Atm.t]; rw [ih]; rfl
    rw [e, List.nil_append, wEs]
    exact x_tuple rfl (exit_same q)
theorem Tm_filter {ts : List T} {f : T → Bool} (h : ∀ t ∈ ts, Tm t) : ∀ t ∈ ts.filter f, Tm t := fun t ht => h t (List.mem_filter.mp ht).1
theorem flat_S {ts : List T} (h : ∀ t ∈ ts, Tm t) : Flat (ts.filter isS) := flat_strs fun t ht => by
  obtain ⟨h1, h2⟩ := List.mem_filter.mp ht
  rcases h t h1 with ⟨x, hx, rfl⟩ | ⟨i, rfl⟩
  · exact ⟨x, hx, rfl⟩
  · cases h2
theorem flat_I {ts : List T} (h : ∀ t ∈ ts, Tm t) : Flat (ts.filter fun t => !isS t) := flat_ints fun t ht => by
  obtain ⟨h1, h2⟩ := List.mem_filter.mp ht
  rcases h t h1 with ⟨x, hx, rfl⟩ | ⟨i, rfl⟩
  · cases h2
  · exact ⟨i, rfl⟩
theorem sterms_ok {ts : List T} (h : ∀ t ∈ ts, Tm t) (hl : ts.length ≤ 1000) (q : Q (.lst (srt (ts.filter fun t => !isS t) ++ srt (ts.filter isS))) G) : callW Δ (n + 2) "sorted_terms" [.lst ts] G Q R := by
  refine callW_ok t_sorted_terms rfl ?_
  show wSs _ _ d_sorted_terms.body _ [some (.lst ts), none, none] G
  have l1 : (ts.filter fun t => !isS t).length ≤ ts.length := List.length_filter_le _ _
  have l2 : (ts.filter isS).length ≤ ts.length := List.length_filter_le _ _
  refine y_set ?_
  rw [wE, wL, wEs, wE, wL, wI]
  refine z_var rfl ?_
  refine comp_pure (fun x => if (!isS x) = true then some x else none) trivial ts [] (fun x hx k h' => ?_) (by rw [sizeLine_eq]; simp; omega) ?_
  · simp only [Tg.wp, wipeS, wE, wEs, List.set_cons_zero, List.set_cons_succ, List.getElem?_cons_zero, List.getElem?_cons_succ]
    refine isvar_ok (h x hx) ?_
    cases e : isS x <;> (rw [e] at h'; exact h')
  rw [fm_filter (fun t => !isS t), List.nil_append, wEs]
  refine wp_sortedF rfl (by omega) (flat_I h) ?_
  refine y_ret ?_
  simp only [List.set_cons_zero, List.set_cons_succ]
  rw [wE, wEs]
  refine z_var rfl ?_
  rw [wEs, wE, wL, wEs, wE, wL, wI]
  refine z_var rfl ?_
  refine comp_pure (fun x => if isS x = true then some x else none) trivial ts [] (fun x hx k h' => ?_) (by rw [sizeLine_eq]; simp; omega) ?_
  · simp only [Tg.wp, wipeS, wE, wEs, List.set_cons_zero, List.set_cons_succ, List.getElem?_cons_zero, List.getElem?_cons_succ]
    refine isvar_ok (h x hx) ?_
    cases e : isS x <;> (rw [e] at h'; exact h')
  rw [fm_filter isS, List.nil_append, wEs]
  refine wp_sortedF rfl (by omega) (flat_S h) ?_
  rw [wEs]
  exact x_addL (by rw [srt_len, srt_len, sizeLine_eq]; omega) (exit_same q)
theorem termsof_ok {as : List Atm} (h : ∀ a ∈ as, a.Ok) (la : as.length ≤ 1000) (q : Q (.lst (trm as)) G) : callW Δ (n + 1) "_law_terms_of" [.tup (as.map Atm.t)] G Q R := by
  refine callW_ok t__law_terms_of rfl ?_
  have hC := callW_mono Δ n
  show wSs _ _ d__law_terms_of.body _ [some (.tup (as.map Atm.t)), none, none, none] G
  have lt := trm_len h
  refine y_set ?_
  rw [wE, wL, wEs]
  refine ⟨by simp, y_for ?_⟩
  rw [wI]
  refine z_var rfl ?_
  refine for_inv hC (ok := fun _ => True) (fun r τ G' => ∃ (bs : List Atm) (acc : List T), r = bs.map Atm.t ∧ (∀ a ∈ bs, a.Ok) ∧ τ = [some (.tup (as.map Atm.t)), some (.lst acc), none, none] ∧ G' = G ∧ acc ++ trm bs = trm as) (fun _ _ _ _ => trivial) ?_ ?_ _ _ _ ⟨as, [], rfl, h, rfl, rfl, rfl⟩
  · rintro x r τ G' ⟨bs, acc, e, hb, rfl, rfl, ea⟩
    cases bs with
    | nil => cases e
    | cons b bs =>
      rw [List.map_cons] at e
      cases e
      have et : trm (b :: bs) = b.ts ++ trm bs := by simp [trm]
      rw [et, ← List.append_assoc] at ea
      have l3 : (acc ++ b.ts).length ≤ (trm as).length := by rw [← ea]; simp
      rw [List.length_append] at l3
      simp only [Atm.t, Tg.wp, Tg.wps, List.set_cons_zero, List.set_cons_succ]
      refine ⟨rfl, y_set ?_⟩
      simp only [wE, wEs, wL, List.getElem?_cons_zero, List.getElem?_cons_succ]
      refine ⟨b.ts, .inl rfl, ?_⟩
      refine x_addL (by rw [sizeLine_eq]; omega) (y_nil (C := callW Δ n) (R := R) ?_)
      exact Then.slots (τ' := [some (.tup (as.map Atm.t)), some (.lst (acc ++ b.ts)), none, none]) (by repeat' constructor) ⟨bs, acc ++ b.ts, rfl, fun a ha => hb a (List.mem_cons_of_mem _ ha), rfl, rfl, ea⟩
  · rintro τ G' ⟨bs, acc, e, hb, rfl, rfl, ea⟩
    cases bs with
    | cons b bs => cases e
    | nil =>
      have e2 : acc = trm as := by simpa [trm] using ea
      subst e2
      refine y_ret ?_
      simp only [wE, List.getElem?_cons_zero, List.getElem?_cons_succ]
      exact exit_same q
theorem dd_tm {ts : List T} (h : ∀ t ∈ ts, Tm t) : ∀ t ∈ dd ts, Tm t := fun t ht => h t (dd_mem.mp ht)
theorem strings_ok {ts : List T} (h : ∀ t ∈ ts, Tm t) (hl : ts.length ≤ 100000) (q : Q (.lst (srt ((dd ts).filter isS))) G) : callW Δ (n + 2) "_law_strings" [.lst ts] G Q R := by
  refine callW_ok t__law_strings rfl ?_
  show wSs _ _ d__law_strings.body _ [some (.lst ts), none] G
  have hd := dd_tm h
  have ld := dd_len ts
  refine y_ret ?_
  rw [wE, wL, wEs, wE, wL, wI]
  refine z_call ?_
  rw [wEs]
  refine z_var rfl ?_
  rw [wEs]
  refine lonce_ok t_lonce (tms_pl h) (by rw [tms_dp h]; omega) (by omega) ?_
  refine comp_pure (fun x => if isS x = true then some x else none) trivial (dd ts) [] (fun x hx k h' => ?_) (by rw [sizeLine_eq]; simp; omega) ?_
  · simp only [Tg.wp, wipeS, wE, wEs, List.set_cons_zero, List.set_cons_succ, List.getElem?_cons_zero, List.getElem?_cons_succ]
    rcases hd x hx with ⟨y, hy, rfl⟩ | ⟨i, rfl⟩
    · exact x_isi (b := true) rfl h'
    · exact x_isi (b := false) rfl h'
  have l2 : ((dd ts).filter isS).length ≤ (dd ts).length := List.length_filter_le _ _
  rw [fm_filter isS, List.nil_append, wEs]
  refine wp_sortedF rfl (by omega) (flat_S hd) ?_
  exact exit_same q
/-! ### frozen -/
def fz : List T → Int → List (T × T)
  | [], _ => []
  | v :: vs, i => (v, .int i) :: fz vs (i + 1)
theorem fz_app : ∀ (vs : List T) (v : T) (i : Int), fz (vs ++ [v]) i = fz vs i ++ [(v, .int (i + vs.length))]
  | [], v, i => by simp [fz]
  | u :: vs, v, i => by
    simp only [List.cons_append, fz, fz_app vs v (i + 1), List.length_cons]
    rw [show i + 1 + (vs.length : Int) = i + ((vs.length + 1 : Nat) : Int) by omega]
theorem fz_len : ∀ (vs : List T) (i : Int), (fz vs i).length = vs.length
  | [], _ => rfl
  | v :: vs, i => by simp [fz, fz_len vs (i + 1)]
theorem fz_keys : ∀ (vs : List T) (i : Int), (fz vs i).map (·.1) = vs
  | [], _ => rfl
  | v :: vs, i => by simp [fz, fz_keys vs (i + 1)]
theorem fz_none {vs : List T} {v : T} (h : v ∉ vs) : ∀ i, dget (fz vs i) v = none := by
  induction vs with
  | nil => intro i; rfl
  | cons u vs ih =>
    intro i
    have h1 : ¬ u = v := fun z => h (z ▸ List.mem_cons_self)
    have h2 := ih (fun z => h (List.mem_cons_of_mem _ z)) (i + 1)
    unfold dget at h2 ⊢
    rw [fz, List.find?_cons]
    simp [h1]
    simpa using h2
theorem fz_some {vs : List T} {v : T} (h : v ∈ vs) : ∀ i, ∃ j : Int, dget (fz vs i) v = some (.int j) := by
  induction vs with
  | nil => simp at h
  | cons u vs ih =>
    intro i
    unfold dget
    rw [fz, List.find?_cons]
    by_cases e : u = v
    · exact ⟨i, by simp [e]⟩
    · obtain ⟨j, hj⟩ := ih (by rcases List.mem_cons.mp h with z | z; exact absurd z.symm e; exact z) (i + 1)
      unfold dget at hj
      exact ⟨j, by simp only [e, decide_false]; exact hj⟩
theorem fz_put {vs : List T} {v : T} {i : Int} (h : v ∉ vs) : dput (fz vs i) v (.int (i + vs.length)) = fz (vs ++ [v]) i := by
  unfold dput
  rw [fz_none h, fz_app]
  rfl
theorem fz_ko {vs : List T} (h : ∀ t ∈ vs, Tm t) : ∀ i, keysOk (fz vs i) = true := by
  induction vs with
  | nil => intro i; rfl
  | cons u vs ih =>
    intro i
    have := ih (fun t ht => h t (List.mem_cons_of_mem _ ht)) (i + 1)
    unfold keysOk at this ⊢
    rw [fz, List.all_cons, this, (h u List.mem_cons_self).key]; rfl
end
end K06

namespace K06
open PySem PySem.Spec PyProof.Rows L2 EV
theorem alike2_ok : ∀ (m : Nat) (t : T) (n : Nat) (G : GH) (Q : QE) (R : XQ), T.pl t = true → sm t = true → T.dep t ≤ m → m ≤ 60 → Q (.bl true) G → callW Δ (n + m + 1) "_law_alike" [t, t] G Q R := by
  intro m
  induction m with
  | zero =>
    intro t n G Q R hp hs hd hm q
    refine callW_ok t__law_alike rfl ?_
    show wSs _ _ d__law_alike.body _ [some t, some t, none] G
    cases t with
    | tup xs => simp [T.dep] at hd
    | non =>
      refine y_if ?_
      simp only [wE, wEs, List.getElem?_cons_zero, List.getElem?_cons_succ]
      refine x_isi (b := false) rfl ?_
      refine y_nil (C := callW Δ n) (R := R) (y_if ?_)
      simp only [wE, wEs, List.getElem?_cons_zero, List.getElem?_cons_succ]
      refine x_isi (b := false) rfl ?_
      refine y_nil (C := callW Δ n) (R := R) (y_if ?_)
      simp only [wE, wEs, List.getElem?_cons_zero, List.getElem?_cons_succ]
      refine x_isnoneT ?_
      refine y_ret ?_
      simp only [wE, wEs, List.getElem?_cons_zero, List.getElem?_cons_succ]
      exact x_isnoneT (exit_same q)
    | int i =>
      refine y_if ?_
      simp only [wE, wEs, List.getElem?_cons_zero, List.getElem?_cons_succ]
      refine x_isi (b := false) rfl ?_
      refine y_nil (C := callW Δ n) (R := R) (y_if ?_)
      simp only [wE, wEs, List.getElem?_cons_zero, List.getElem?_cons_succ]
      refine x_isi (b := false) rfl ?_
      refine y_nil (C := callW Δ n) (R := R) (y_if ?_)
      simp only [wE, wEs, List.getElem?_cons_zero, List.getElem?_cons_succ]
      refine x_isnoneF (by simp) ?_
      refine y_nil (C := callW Δ n) (R := R) (y_if ?_)
      simp only [wE, wEs, List.getElem?_cons_zero, List.getElem?_cons_succ]
      refine x_isi (b := false) rfl ?_
      refine y_nil (C := callW Δ n) (R := R) (y_if ?_)
      simp only [wE, wEs, List.getElem?_cons_zero, List.getElem?_cons_succ]
      refine x_isi (b := true) rfl ?_
      refine y_ret ?_
      simp only [wE, wEs, List.getElem?_cons_zero, List.getElem?_cons_succ]
      refine x_isi (b := true) rfl ?_
      refine x_isi (b := false) rfl ?_
      exact self_eq hp (by simp [T.dep]) (exit_same q)
    | str x =>
      refine y_if ?_
      simp only [wE, wEs, List.getElem?_cons_zero, List.getElem?_cons_succ]
      refine x_isi (b := false) rfl ?_
      refine y_nil (C := callW Δ n) (R := R) (y_if ?_)
      simp only [wE, wEs, List.getElem?_cons_zero, List.getElem?_cons_succ]
      refine x_isi (b := false) rfl ?_
      refine y_nil (C := callW Δ n) (R := R) (y_if ?_)
      simp only [wE, wEs, List.getElem?_cons_zero, List.getElem?_cons_succ]
      refine x_isnoneF (by simp) ?_
      refine y_nil (C := callW Δ n) (R := R) (y_if ?_)
      simp only [wE, wEs, List.getElem?_cons_zero, List.getElem?_cons_succ]
      refine x_isi (b := false) rfl ?_
      refine y_nil (C := callW Δ n) (R := R) (y_if ?_)
      simp only [wE, wEs, List.getElem?_cons_zero, List.getElem?_cons_succ]
      refine x_isi (b := false) rfl ?_
      refine y_nil (C := callW Δ n) (R := R) (y_ret ?_)
      simp only [wE, wEs, List.getElem?_cons_zero, List.getElem?_cons_succ]
      refine x_isi (b := true) rfl ?_
      exact self_eq hp (by simp [T.dep]) (exit_same q)
    | _ => simp [T.pl] at hp
  | succ m ih =>
    intro t n G Q R hp hs hd hm q
    by_cases ht : T.dep t ≤ m
    · have := ih t (n + 1) G Q R hp hs ht (by omega) q
      rw [show n + (m + 1) + 1 = n + 1 + m + 1 by omega]
      exact this
    cases t with
    | tup xs =>
      rw [sm, Bool.and_eq_true, decide_eq_true_eq] at hs
      rw [T.pl] at hp
      have hp' := T.pls_all.mp hp
      have hs' := sms_all.mp hs.2
      have hd' : ∀ x ∈ xs, T.dep x ≤ m := T.deps_le.mp (by rw [T.dep] at hd; omega)
      refine callW_ok t__law_alike rfl ?_
      show wSs _ _ d__law_alike.body _ [some (.tup xs), some (.tup xs), none] G
      refine y_if ?_
      simp only [wE, wEs, List.getElem?_cons_zero, List.getElem?_cons_succ]
      refine x_isi (b := true) rfl ?_
      refine y_if ?_
      simp only [wE, wEs, List.getElem?_cons_zero, List.getElem?_cons_succ]
      refine x_isi (b := true) rfl ?_
      refine x_len rfl (x_len rfl (x_neI ?_))
      refine ite_bl (fun h => ?_) (fun _ => ?_)
      · simp at h
      refine y_nil (C := callW Δ (n + (m + 1))) (R := R) (y_ret ?_)
      rw [wE, wEs, wE, wL]
      refine i_rng1 (n := xs.length) (G' := G) ?_ (callW_mono Δ _)
      simp only [wE, wEs, List.getElem?_cons_zero, List.getElem?_cons_succ]
      refine x_len rfl ⟨rfl, by have := hs.1; omega, ?_⟩
      refine comp_pure (fun _ => none) trivial _ [] (fun x hx k' h => ?_) (by rw [sizeLine_eq]; simp; have := hs.1; omega) ?_
      · obtain ⟨j, hj, rfl⟩ := List.mem_map.mp hx
        have hlt : j < xs.length := by simpa using hj
        have hm := List.getElem_mem hlt
        simp only [Tg.wp, wipeS, wE, wEs, List.set_cons_zero, List.set_cons_succ, List.getElem?_cons_zero, List.getElem?_cons_succ]
        refine x_idx rfl (atI_nat (v := xs[j]) (by simp [hlt])) ?_
        refine x_idx rfl (atI_nat (v := xs[j]) (by simp [hlt])) ?_
        exact ih xs[j] n G _ noX (hp' _ hm) (hs' _ hm) (hd' _ hm) (by omega) h
      · rw [filterMap_none]
        simp only [wEs, wE, wL, List.append_nil]
        refine ⟨by simp, x_eq (a := .lst []) (b := .lst []) ⟨rfl, rfl, by simp [T.dep, T.deps, datOf], by simp [T.dep, T.deps, datOf]⟩ (exit_same ?_)⟩
        simpa [datOf, T.eqv, T.eqvs] using q
    | non => simp [T.dep] at ht
    | int i => simp [T.dep] at ht
    | str x => simp [T.dep] at ht
    | _ => simp [T.pl] at hp

theorem alike2L_ok {m : Nat} {xs : List T} {n : Nat} {G : GH} {Q : QE} {R : XQ} (hp : T.pls xs = true) (hs : sm (.tup xs) = true) (hd : T.deps xs + 1 ≤ m) (hm : m ≤ 60) (q : Q (.bl true) G) : callW Δ (n + m + 2) "_law_alike" [.lst xs, .lst xs] G Q R := by
  refine callW_ok t__law_alike rfl ?_
  show wSs _ _ d__law_alike.body _ [some (.lst xs), some (.lst xs), none] G
  refine y_if ?_
  simp only [wE, wEs, List.getElem?_cons_zero, List.getElem?_cons_succ]
  refine x_isi (b := false) rfl ?_
  refine y_nil (C := callW Δ (n + m + 1)) (R := R) (y_if ?_)
  simp only [wE, wEs, List.getElem?_cons_zero, List.getElem?_cons_succ]
  refine x_isi (b := true) rfl ?_
  refine y_ret ?_
  simp only [wE, wEs, List.getElem?_cons_zero, List.getElem?_cons_succ]
  refine x_isi (b := true) rfl ?_
  refine x_tuple rfl (x_tuple rfl ?_)
  exact alike2_ok m (.tup xs) n G _ R (by rw [T.pl]; exact hp) hs (by rw [T.dep]; omega) hm (exit_same q)
/-! ### frozen -/
def vs_ (as : List Atm) : List T := srt (dd ((trm as).filter isS))
theorem vs_mem {as : List Atm} {t : T} : t ∈ vs_ as ↔ t ∈ trm as ∧ isS t = true := by
  unfold vs_; rw [srt_mem, dd_mem, List.mem_filter]
theorem vs_tm {as : List Atm} (h : ∀ a ∈ as, a.Ok) : ∀ t ∈ vs_ as, Tm t := fun t ht => trm_tm h t (vs_mem.mp ht).1
theorem vs_nd (as : List Atm) : (vs_ as).Nodup := (srt_perm _).nodup_iff.mpr (dd_nodup _)
theorem vs_len (as : List Atm) : (vs_ as).length ≤ (trm as).length := by
  unfold vs_; rw [srt_len]
  exact Nat.le_trans (dd_len _) (List.length_filter_le _ _)
theorem rep_fact {as : List Atm} (h : ∀ a ∈ as, a.Ok) (i : Int) : ∀ t ∈ (as.map (rep (fz (vs_ as) i))).map Atm.t, Fact t := by
  intro t ht
  obtain ⟨b, hb, rfl⟩ := List.mem_map.mp ht
  obtain ⟨a, ha, rfl⟩ := List.mem_map.mp hb
  obtain ⟨h1, h2, h3⟩ := h a ha
  have : ∀ u ∈ a.ts, ∃ j : Int, lk (fz (vs_ as) i) u = .int j := fun u hu => by
    unfold lk
    rcases h2 u hu with ⟨x, hx, rfl⟩ | ⟨j, rfl⟩
    · have hm : T.str x ∈ vs_ as := vs_mem.mpr ⟨List.mem_flatMap.mpr ⟨a, ha, hu⟩, rfl⟩
      obtain ⟨j, hj⟩ := fz_some hm i
      rw [hj]; exact ⟨j, rfl⟩
    · have hm : T.int j ∉ vs_ as := fun z => by have := (vs_mem.mp z).2; cases this
      rw [fz_none hm]; exact ⟨j, rfl⟩
  have key : ∀ us : List T, (∀ u ∈ us, u ∈ a.ts) → ∃ ns : List Int, ns.length = us.length ∧ us.map (lk (fz (vs_ as) i)) = ns.map T.int := by
    intro us
    induction us with
    | nil => exact fun _ => ⟨[], rfl, rfl⟩
    | cons u us ih =>
      intro hu
      obtain ⟨j, hj⟩ := this u (hu u List.mem_cons_self)
      obtain ⟨ns, e1, e2⟩ := ih fun v hv => hu v (List.mem_cons_of_mem _ hv)
      exact ⟨j :: ns, by simp [e1], by rw [List.map_cons, hj, e2]; rfl⟩
  obtain ⟨ns, e1, e2⟩ := key a.ts fun u hu => hu
  exact ⟨a.x, ns, ⟨h1, by omega⟩, by unfold Atm.t rep; simp only; rw [e2]⟩
section
variable {n : Nat} {G : GH} {Q : QE} {R : XQ}
theorem frozen_ok {as : List Atm} {i : Int} (h : ∀ a ∈ as, a.Ok) (la : as.length ≤ 1000)
    (q : ∀ p, G p = none → Q (.tup [.tup (srt (dd ((as.map (rep (fz (vs_ as) i))).map Atm.t))), .ref p]) (put G p (.dct (fz (vs_ as) i)))) : callW Δ (n + 3) "frozen" [.tup (as.map Atm.t), .int i] G Q R := by
  refine callW_ok t_frozen rfl ?_
  have hC := callW_mono Δ (n + 2)
  show wSs _ _ d_frozen.body _ [some (.tup (as.map Atm.t)), some (.int i), none, none] G
  refine y_set ?_
  rw [wE]
  intro p hp
  refine y_for ?_
  rw [wI]
  refine z_call ?_
  simp only [wE, wEs, List.set_cons_zero, List.set_cons_succ, List.getElem?_cons_zero, List.getElem?_cons_succ]
  refine variables_ok h la ?_
  have lt := trm_len h
  have lv := vs_len as
  have nd := vs_nd as
  have vt := vs_tm h
  refine for_at hC (ok := fun _ => True) (vs_ as) (fun j τ G' => τ = [some (.tup (as.map Atm.t)), some (.int i), some (.ref p), none] ∧ G' = put G p (.dct (fz ((vs_ as).take j) i))) (fun _ _ _ _ => trivial) ?_ ?_ _ _ ⟨rfl, rfl⟩
  · rintro j x τ G' hx ⟨rfl, rfl⟩
    obtain ⟨hlt, ex⟩ := List.getElem?_eq_some_iff.mp hx
    have hn : x ∉ (vs_ as).take j := by
      intro z
      obtain ⟨k, hk, e⟩ := List.mem_take_iff_getElem.mp z
      have := (List.getElem_inj (h₀ := by omega) (h₁ := hlt) nd).mp (e.trans ex.symm)
      omega
    have hxt : Tm x := vt x (List.mem_of_getElem? hx)
    have hk : keysOk (fz ((vs_ as).take j) i) = true := fz_ko (fun t ht => vt t (List.mem_of_mem_take ht)) i
    have ll : ((vs_ as).take j).length = j := by rw [List.length_take]; omega
    simp only [Tg.wp, List.set_cons_zero, List.set_cons_succ]
    refine y_setItem ?_
    simp only [wE, wEs, List.getElem?_cons_zero, List.getElem?_cons_succ]
    refine x_lenD (kvs := fz ((vs_ as).take j) i) (by simp only [dctOf, put_same]) (x_add (x_setD put_same (ko_key hk hxt) (by rw [fz_len, sizeLine_eq]; omega) (y_nil (C := callW Δ (n + 2)) (R := R) ?_)))
    rw [put_put, fz_len, fz_put hn]
    have et : (vs_ as).take j ++ [x] = (vs_ as).take (j + 1) := by rw [List.take_add_one, hx]; rfl
    rw [et]
    exact Then.slots (τ' := [some (.tup (as.map Atm.t)), some (.int i), some (.ref p), none]) (by repeat' constructor) ⟨rfl, rfl⟩
  · rintro τ G' ⟨rfl, rfl⟩
    rw [List.take_length]
    have ff := rep_fact h i
    refine y_ret ?_
    rw [wE, wEs]
    refine z_call ?_
    rw [wEs]
    refine z_call ?_
    simp only [wE, wEs, List.getElem?_cons_zero, List.getElem?_cons_succ]
    refine replaced_ok (kvs := fz (vs_ as) i) put_same (fz_ko vt i) h la ?_
    refine as_store_ok t_once t_store (fact_fit ff) (by simp; omega) ?_
    exact ⟨by simp [sizeLine_eq], exit_same (q p hp)⟩
end
end K06

namespace K06
open PySem PySem.Spec PyProof.Rows L2 EV
def tT : List T := [.str "x", .str "y", .str "z", .str "u1", .str "x_", .str "same", .int 0, .int 1, .int 7, .int 12]
theorem tT_tm : ∀ t ∈ tT, Tm t := by
  intro t ht
  simp only [tT, List.mem_cons, List.not_mem_nil, or_false] at ht
  rcases ht with rfl | rfl | rfl | rfl | rfl | rfl | rfl | rfl | rfl | rfl
  iterate 6 exact .inl ⟨_, by decide +kernel, rfl⟩
  iterate 4 exact .inr ⟨_, rfl⟩
def tN : List T := [.str "n", .str "p", .str "q", .str "r3"]
theorem name_ix {v : T} (h : v ∈ tN) : ∃ (x : Str) (j : Nat), v = .str x ∧ strOk x = true ∧ (tN.findIdx? fun y => T.eqv y v) = some j ∧ j ≤ 3 := by
  simp only [tN, List.mem_cons, List.not_mem_nil, or_false] at h
  rcases h with rfl | rfl | rfl | rfl
  · exact ⟨_, 0, rfl, by decide +kernel, by decide +kernel, by omega⟩
  · exact ⟨_, 1, rfl, by decide +kernel, by decide +kernel, by omega⟩
  · exact ⟨_, 2, rfl, by decide +kernel, by decide +kernel, by omega⟩
  · exact ⟨_, 3, rfl, by decide +kernel, by decide +kernel, by omega⟩
def tW : List T := [.int 0, .int 1, .int 7, .int 12, .int (-1), .int (-2), .int (-9)]
def tK : List T := [.str "x", .str "y", .str "z", .str "u1", .str "nobody"]
def tL : List T := [.int 0, .int 13, .int 100]
section
variable {n : Nat} {Q : QE} {R : XQ} {p : Addr} {ds : List Int} {k : Int} {G : GH}
theorem term_ok (hk : 0 ≤ k) (hds : ∀ d ∈ ds, 0 ≤ d) (q : ∀ v k', 0 ≤ k' → Tm v → Q v (put G p (wD ds k'))) : callW Δ (n + 3) "_law_term" [.ref p] (put G p (wD ds k)) Q R := by
  refine callW_ok t__law_term rfl ?_
  show wSs _ _ d__law_term.body _ [some (.ref p)] _
  refine y_ret (z_call ?_)
  simp only [wE, wEs, wL, List.getElem?_cons_zero]
  refine ⟨by simp [sizeLine_eq], ?_⟩
  exact pick_v (ts := tT) t_next t_pick hk hds (by simp [tT]) fun v k' h0 hv => exit_same (q v k' h0 (tT_tm v hv))
/-- so many terms -/
theorem terms_comp {C : Calls} {τ : Sl} {it : I} {j v : Nat} {Q : List T → GH → Prop} (hC : C = callW Δ (n + 3)) (hk : 0 ≤ k) (hds : ∀ d ∈ ds, 0 ≤ d) (hw : τ[j]? = some (some (.ref p))) (hj : j ≠ v)
    (hit : ∀ K : ItV → GH → Prop, (∀ its k', 0 ≤ k' → its.length ≤ 10 → K ⟨its, fun _ => True, none⟩ (put G p (wD ds k'))) → wI C R it τ (put G p (wD ds k)) K)
    (q : ∀ ts k', 0 ≤ k' → (∀ t ∈ ts, Tm t) → ts.length ≤ 10 → Q ts (put G p (wD ds k'))) : wL C R (.comp (.call "_law_term" [.var j]) (.name v) [v] it (.cst (.bl true))) τ (put G p (wD ds k)) Q := by
  subst hC
  rw [wL]
  refine hit _ fun its k1 h1 hl => ?_
  refine comp_inv (fun r acc G' => ∃ k', 0 ≤ k' ∧ G' = put G p (wD ds k') ∧ (∀ t ∈ acc, Tm t) ∧ acc.length + r.length ≤ 10) (fun _ _ _ _ => trivial) (fun x G k k' hk q => ?_) (fun x r acc G' ⟨k', hk', e, hf, hl⟩ => ?_) (fun acc G' ⟨k', hk', e, hf, hl⟩ => ?_) _ _ _ ⟨k1, h1, rfl, by simp, by simpa using hl⟩
  · exact turn_mono (callW_mono Δ _) (c := .cst (.bl true)) x G k k' hk q
  · subst e
    rw [List.length_cons] at hl
    have hw2 : ((wipeS τ [v]).set v (some x))[j]? = some (some (.ref p)) := by
      rw [List.getElem?_set_ne (Ne.symm hj)]; unfold wipeS wipeS; rw [List.getElem?_set_ne (Ne.symm hj)]; exact hw
    simp only [Tg.wp]
    rw [wE]
    refine z_call ?_
    rw [wEs]
    refine z_var hw2 ?_
    rw [wEs]
    refine term_ok hk' hds fun t k2 h2 ft => ⟨by rw [sizeLine_eq]; omega, k2, h2, rfl, fun u hu => ?_, by simp; omega⟩
    rcases List.mem_append.mp hu with h | h
    · exact hf u h
    · rw [List.mem_singleton] at h; subst h; exact ft
  · subst e
    exact q acc k' hk' hf (by simpa using hl)
theorem atoms_ok (hk : 0 ≤ k) (hds : ∀ d ∈ ds, 0 ≤ d) (q : ∀ (as : List Atm) (k' : Int), 0 ≤ k' → (∀ a ∈ as, a.Ok) → as.length ≤ 6 → Q (.tup (as.map Atm.t)) (put G p (wD ds k'))) : callW Δ (n + 4) "_law_atoms" [.ref p] (put G p (wD ds k)) Q R := by
  refine callW_ok t__law_atoms rfl ?_
  have hC := callW_mono Δ (n + 3)
  show wSs _ _ d__law_atoms.body _ [some (.ref p), none, none, none, none] _
  refine y_set (z_own0 fun f hf => ?_)
  have hfp : f ≠ p := fun z => by rw [z, put_same] at hf; cases hf
  have hf0 : G f = none := by rw [put_ne hfp] at hf; exact hf
  rw [put_comm (Ne.symm hfp)]
  refine y_for ?_
  rw [wI]
  refine z_call ?_
  simp only [wE, wEs, List.set_cons_zero, List.set_cons_succ, List.getElem?_cons_zero, List.getElem?_cons_succ]
  refine next_v (n := n + 2) t_next hk hds (by omega) fun m k1 h1 hm0 hm1 => ?_
  refine ⟨by omega, ?_⟩
  refine for_at hC (ok := fun _ => True) _ (fun i τ G' => ∃ (as : List Atm) (k' : Int), 0 ≤ k' ∧ (∀ a ∈ as, a.Ok) ∧ as.length = i ∧ τ = [some (.ref p), some (.ref f), none, none, none] ∧ G' = put (put G f (.lst (as.map Atm.t))) p (wD ds k')) (fun _ _ _ _ => trivial) ?_ ?_ _ _ ⟨[], k1, h1, by simp, rfl, rfl, rfl⟩
  · rintro i x τ G' hx ⟨as, k', hk', ha, ei, rfl, rfl⟩
    have hi : i < 6 := by
      have := (List.getElem?_eq_some_iff.mp hx).1
      simp at this; omega
    simp only [Tg.wp, List.set_cons_zero, List.set_cons_succ]
    refine y_set (z_call ?_)
    simp only [wE, wEs, wL, List.getElem?_cons_zero, List.getElem?_cons_succ]
    refine ⟨by simp [sizeLine_eq], ?_⟩
    refine pick_v (ts := tN) (n := n + 1) t_next t_pick hk' hds (by simp [tN]) fun v k2 h2 hv => ?_
    obtain ⟨y, j, rfl, hy, hj, hj3⟩ := name_ix hv
    simp only [List.set_cons_zero, List.set_cons_succ]
    refine y_expr ?_
    rw [wE]
    refine z_var rfl ⟨(show ∃ ts, lstOf _ _ = some ts from ⟨as.map Atm.t, by simp only [lstOf]; rw [put_ne hfp, put_same]⟩), ?_⟩
    rw [wEs, wE, wEs]
    refine z_var rfl ?_
    rw [wEs, wE, wEs, wE]
    refine terms_comp (n := n) (G := put G f (.lst (as.map Atm.t))) rfl h2 hds rfl (by decide) (fun K hK => ?_) fun ts k3 h3 ht hl => ?_
    · refine i_rngP ((j : Nat) : Int) (G' := put (put G f (.lst (as.map Atm.t))) p (wD ds k2)) (fun K hK => ?_) (by omega) (hK _ k2 h2 (by simp; omega))
      simp only [wE, wEs, wL, List.getElem?_cons_zero, List.getElem?_cons_succ]
      refine ⟨by simp [sizeLine_eq], (show ∃ ts, lstOf _ _ = some ts from ⟨tN, rfl⟩), ?_⟩
      exact x_index (ts := tN) rfl (show strOk y = true from hy) (by decide +kernel) (by simp [T.dep]) (by simp [tN, T.deps, T.dep]) hj hK
    · rw [wEs]
      refine x_tuple rfl ?_
      rw [wEs]
      refine ⟨by simp [sizeLine_eq], ?_⟩
      rw [wEs]
      refine x_append (ts := as.map Atm.t) (by rw [put_ne hfp, put_same]) (by rw [sizeLine_eq]; simp; omega) (y_nil (C := callW Δ (n + 3)) (R := R) ?_)
      rw [put_upd2 hfp]
      refine Then.slots (τ' := [some (.ref p), some (.ref f), none, none, none]) (by repeat' constructor) ⟨as ++ [⟨y, ts⟩], k3, h3, fun a h => ?_, by simp [ei], rfl, by simp [Atm.t]⟩
      rcases List.mem_append.mp h with h | h
      · exact ha a h
      · rw [List.mem_singleton] at h; subst h; exact ⟨hy, ht, hl⟩
  · rintro τ G' ⟨as, k', hk', ha, ei, rfl, rfl⟩
    refine y_ret ?_
    simp only [wE, wEs, List.getElem?_cons_zero, List.getElem?_cons_succ]
    refine x_tuple (ts := as.map Atm.t) (by simp only [seqOf]; rw [put_ne hfp, put_same]) (exit_drop ?_ (q as k' hk' ha ?_))
    · exact sub_drop hf0 hfp
    · simp at ei; omega
end
end K06

namespace K06
open PySem PySem.Spec PyProof.Rows L2 EV
theorem as_atms {P : Atm → Prop} : ∀ l : List T, (∀ t ∈ l, ∃ a, P a ∧ t = Atm.t a) → ∃ bs : List Atm, (∀ b ∈ bs, P b) ∧ l = bs.map Atm.t
  | [], _ => ⟨[], by simp, rfl⟩
  | t :: l, h => by
    obtain ⟨a, ha, rfl⟩ := h t List.mem_cons_self
    obtain ⟨bs, hb, rfl⟩ := as_atms l fun u hu => h u (List.mem_cons_of_mem _ hu)
    exact ⟨a :: bs, fun b hm => (List.mem_cons.mp hm).elim (fun e => e ▸ ha) (hb b), rfl⟩
theorem fact_atm {t : T} (h : Fact t) : ∃ a : Atm, (a.Ok ∧ ∀ u ∈ a.ts, ∃ i : Int, u = .int i) ∧ t = Atm.t a := by
  obtain ⟨x, ns, ⟨h1, h2⟩, rfl⟩ := h
  have hi : ∀ u ∈ ns.map T.int, ∃ i : Int, u = .int i := fun u hu => by obtain ⟨i, _, rfl⟩ := List.mem_map.mp hu; exact ⟨i, rfl⟩
  exact ⟨⟨x, ns.map T.int⟩, ⟨⟨h1, fun u hu => .inr (hi u hu), by simpa using h2⟩, hi⟩, rfl⟩
theorem keysOk_dput {kvs : List (T × T)} {a v : T} (h : keysOk kvs = true) (ha : (T.key? a).isSome = true) : keysOk (dput kvs a v) = true := by
  unfold keysOk at h ⊢
  unfold dput
  split
  · rw [List.all_eq_true] at h ⊢
    intro q hq
    obtain ⟨r, hr, rfl⟩ := List.mem_map.mp hq
    have := h r hr
    split
    · rename_i e; first | exact ha | (simp only; first | exact ha | exact this | (rw [e]; exact ha))
    · exact this
  · rw [List.all_append, h]; simpa using ha
theorem dput_tm {kvs : List (T × T)} {a v : T} (h : ∀ q ∈ kvs, Tm q.2) (hv : Tm v) : ∀ q ∈ dput kvs a v, Tm q.2 := by
  intro q hq
  unfold dput at hq
  split at hq
  · obtain ⟨r, hr, rfl⟩ := List.mem_map.mp hq
    split
    · exact hv
    · exact h r hr
  · rcases List.mem_append.mp hq with z | z
    · exact h q z
    · rw [List.mem_singleton] at z; subst z; exact hv
theorem lk_tm {kvs : List (T × T)} {t : T} (h : ∀ q ∈ kvs, Tm q.2) (ht : Tm t) : Tm (lk kvs t) := by
  unfold lk dget
  cases e : kvs.find? (fun p => decide (p.1 = t)) with
  | none => exact ht
  | some r => exact h r (List.mem_of_find?_eq_some e)
theorem rep_okA {kvs : List (T × T)} {as : List Atm} (h : ∀ q ∈ kvs, Tm q.2) (ha : ∀ a ∈ as, a.Ok) : ∀ a ∈ as.map (rep kvs), a.Ok := by
  intro b hb
  obtain ⟨a, h', rfl⟩ := List.mem_map.mp hb
  obtain ⟨h1, h2, h3⟩ := ha a h'
  refine ⟨h1, fun t ht => ?_, by simpa [rep] using h3⟩
  obtain ⟨u, hu, rfl⟩ := List.mem_map.mp ht
  exact lk_tm h (h2 u hu)
theorem dput_len (kvs : List (T × T)) (a v : T) : (dput kvs a v).length ≤ kvs.length + 1 := by
  unfold dput; split
  · rw [List.length_map]; omega
  · simp
section
variable {n : Nat} {Q : QE} {R : XQ} {p : Addr} {ds : List Int} {k : Int} {G : GH}
theorem store_ok (hk : 0 ≤ k) (hds : ∀ d ∈ ds, 0 ≤ d) (q : ∀ (as : List Atm) (k' : Int), 0 ≤ k' → (∀ a ∈ as, a.Ok ∧ ∀ u ∈ a.ts, ∃ i : Int, u = .int i) → as.length ≤ 6 → Q (.tup (as.map Atm.t)) (put G p (wD ds k'))) : callW Δ (n + 5) "_law_store" [.ref p] (put G p (wD ds k)) Q R := by
  refine callW_ok t__law_store rfl ?_
  have hC := callW_mono Δ (n + 4)
  show wSs _ _ d__law_store.body _ [some (.ref p), none, none, none, none] _
  refine y_set (z_own0 fun f hf => ?_)
  have hfp : f ≠ p := fun z => by rw [z, put_same] at hf; cases hf
  have hf0 : G f = none := by rw [put_ne hfp] at hf; exact hf
  rw [put_comm (Ne.symm hfp)]
  refine y_for ?_
  rw [wI]
  refine z_call ?_
  simp only [wE, wEs, List.set_cons_zero, List.set_cons_succ, List.getElem?_cons_zero, List.getElem?_cons_succ]
  refine atoms_ok (n := n) hk hds fun as k1 h1 ha hl => ?_
  refine for_inv hC (ok := fun _ => True) (fun r τ G' => ∃ (bs : List Atm) (acc : List T) (k' : Int), 0 ≤ k' ∧ r = bs.map Atm.t ∧ (∀ a ∈ bs, a.Ok) ∧ (∀ t ∈ acc, Fact t) ∧ acc.length + bs.length ≤ 6 ∧ τ = [some (.ref p), some (.ref f), none, none, none] ∧ G' = put (put G f (.lst acc)) p (wD ds k')) (fun _ _ _ _ => trivial) ?_ ?_ _ _ _ ⟨as, [], k1, h1, rfl, ha, by simp, by simpa using hl, rfl, rfl⟩
  · rintro x r τ G' ⟨bs, acc, k', hk', e, hb, hf, hl, rfl, rfl⟩
    cases bs with
    | nil => cases e
    | cons b bs =>
      rw [List.map_cons] at e
      cases e
      obtain ⟨b1, b2, b3⟩ := hb b List.mem_cons_self
      rw [List.length_cons] at hl
      simp only [Atm.t, Tg.wp, Tg.wps, List.set_cons_zero, List.set_cons_succ]
      refine ⟨rfl, y_expr ?_⟩
      rw [wE]
      refine z_var rfl ⟨(show ∃ ts, lstOf _ _ = some ts from ⟨acc, by simp only [lstOf]; rw [put_ne hfp, put_same]⟩), ?_⟩
      rw [wEs, wE, wEs]
      refine z_var rfl ?_
      rw [wEs, wE, wEs, wE, wL, wI]
      refine z_var rfl ?_
      refine comp_inv (fun r acc2 G' => ∃ k', 0 ≤ k' ∧ G' = put (put G f (.lst acc)) p (wD ds k') ∧ (∃ ms : List Int, acc2 = ms.map T.int) ∧ acc2.length + r.length ≤ 10) (fun _ _ _ _ => trivial) (fun x G k k' hk q => ?_) (fun x r acc2 G' ⟨k', hk', e, ⟨ms, em⟩, hl⟩ => ?_) (fun acc2 G' ⟨k', hk', e, ⟨ms, em⟩, hl⟩ => ?_) _ _ _ ⟨k', hk', rfl, ⟨[], rfl⟩, by simpa using b3⟩
      · exact turn_mono (callW_mono Δ _) (c := .cst (.bl true)) x G k k' hk q
      · subst e
        rw [List.length_cons] at hl
        simp only [Tg.wp, wipeS]
        rw [wE]
        refine z_call ?_
        simp only [wE, wEs, wL, List.set_cons_zero, List.set_cons_succ, List.getElem?_cons_zero, List.getElem?_cons_succ]
        refine ⟨by simp [sizeLine_eq], ?_⟩
        refine pick_v (ts := tW) (n := n + 2) t_next t_pick hk' hds (by simp [tW]) fun v k2 h2 hv => ?_
        have hv' : ∃ m : Int, v = .int m := by
          simp only [tW, List.mem_cons, List.not_mem_nil, or_false] at hv
          rcases hv with rfl | rfl | rfl | rfl | rfl | rfl | rfl <;> exact ⟨_, rfl⟩
        obtain ⟨m, rfl⟩ := hv'
        refine ⟨by rw [sizeLine_eq]; omega, k2, h2, rfl, ⟨ms ++ [m], by rw [em]; simp⟩, by simp; omega⟩
      · subst e em
        rw [wEs]
        refine x_tuple rfl ?_
        rw [wEs]
        refine ⟨by simp [sizeLine_eq], ?_⟩
        rw [wEs]
        refine x_append (ts := acc) (by rw [put_ne hfp, put_same]) (by rw [sizeLine_eq]; omega) (y_nil (C := callW Δ (n + 4)) (R := R) ?_)
        rw [put_upd2 hfp]
        refine Then.slots (τ' := [some (.ref p), some (.ref f), none, none, none]) (by repeat' constructor) ⟨bs, _, k', hk', rfl, fun a h => hb a (List.mem_cons_of_mem _ h), fun t h => ?_, by simp; omega, rfl, rfl⟩
        rcases List.mem_append.mp h with h | h
        · exact hf t h
        · rw [List.mem_singleton] at h; subst h; exact ⟨b.x, ms, ⟨b1, by simpa using hl⟩, rfl⟩
  · rintro τ G' ⟨bs, acc, k', hk', e, hb, hf, hl, rfl, rfl⟩
    refine y_ret ?_
    simp only [wE, wEs, wL, List.getElem?_cons_zero, List.getElem?_cons_succ]
    have ft := fact_fit hf
    have fd : Fit (dd acc) := ft.sub fun x hx => dd_mem.mp hx
    have ld := dd_len acc
    refine lonceR_ok (a := f) (n := n + 3) (by rw [put_ne hfp, put_same]) t_lonce ft.pls (by have := ft.deps; omega) (by omega) ?_
    refine wp_sorted (ts := dd acc) rfl (by rw [sizeLine_eq]; omega) fd.pls (by have := fd.deps; omega) fd.so fd.cm ?_
    refine x_tuple rfl (exit_drop (sub_drop hf0 hfp) ?_)
    obtain ⟨cs, hc, ec⟩ := as_atms (P := fun a => a.Ok ∧ ∀ u ∈ a.ts, ∃ i : Int, u = .int i) (srt (dd acc)) fun t ht => fact_atm (hf t (dd_mem.mp (srt_mem.mp ht)))
    rw [ec]
    refine q cs k' hk' hc ?_
    have := congrArg List.length ec
    rw [srt_len, List.length_map] at this
    omega
theorem table_ok' (hk : 0 ≤ k) (hds : ∀ d ∈ ds, 0 ≤ d) (q : ∀ (d : Addr) (kvs : List (T × T)) (k' : Int), 0 ≤ k' → d ≠ p → G d = none → keysOk kvs = true → (∀ q ∈ kvs, Tm q.2) → Q (.ref d) (put (put G d (.dct kvs)) p (wD ds k'))) : callW Δ (n + 4) "_law_table" [.ref p] (put G p (wD ds k)) Q R := by
  refine callW_ok t__law_table rfl ?_
  have hC := callW_mono Δ (n + 3)
  show wSs _ _ d__law_table.body _ [some (.ref p), none, none] _
  refine y_set ?_
  rw [wE]
  intro f hf
  have hfp : f ≠ p := fun z => by rw [z, put_same] at hf; cases hf
  have hf0 : G f = none := by rw [put_ne hfp] at hf; exact hf
  rw [put_comm (Ne.symm hfp)]
  refine y_for ?_
  rw [wI]
  refine z_call ?_
  simp only [wE, wEs, List.set_cons_zero, List.set_cons_succ, List.getElem?_cons_zero, List.getElem?_cons_succ]
  refine next_v (n := n + 2) t_next hk hds (by omega) fun m k1 h1 hm0 hm1 => ?_
  refine ⟨by omega, ?_⟩
  refine for_at hC (ok := fun _ => True) _ (fun i τ G' => ∃ (kvs : List (T × T)) (k' : Int), 0 ≤ k' ∧ keysOk kvs = true ∧ (∀ q ∈ kvs, Tm q.2) ∧ kvs.length ≤ i ∧ τ = [some (.ref p), some (.ref f), none] ∧ G' = put (put G f (.dct kvs)) p (wD ds k')) (fun _ _ _ _ => trivial) ?_ ?_ _ _ ⟨[], k1, h1, rfl, by simp, by simp, rfl, rfl⟩
  · rintro i x τ G' hx ⟨kvs, k', hk', ko, hq, hl, rfl, rfl⟩
    have hi : i < 4 := by
      have := (List.getElem?_eq_some_iff.mp hx).1
      simp at this; omega
    simp only [Tg.wp, List.set_cons_zero, List.set_cons_succ]
    refine y_setItem (z_call ?_)
    simp only [wE, wEs, wL, List.getElem?_cons_zero, List.getElem?_cons_succ]
    refine term_ok (n := n) hk' hds fun v k2 h2 hv => ?_
    refine ⟨by simp [sizeLine_eq], ?_⟩
    refine pick_v (ts := tK) (n := n + 1) t_next t_pick h2 hds (by simp [tK]) fun u k3 h3 hu => ?_
    have hu' : (T.key? u).isSome = true := by
      simp only [tK, List.mem_cons, List.not_mem_nil, or_false] at hu
      rcases hu with rfl | rfl | rfl | rfl | rfl <;> rfl
    have kk : keyOk kvs u = true := by
      have ko' := ko
      unfold keysOk at ko'
      unfold keyOk
      rw [hu', ko']; rfl
    refine x_setD (kvs := kvs) (by rw [put_ne hfp, put_same]) kk (by rw [sizeLine_eq]; omega) (y_nil (C := callW Δ (n + 3)) (R := R) ?_)
    rw [put_upd2 hfp]
    have dl := dput_len kvs u v
    exact Then.slots (τ' := [some (.ref p), some (.ref f), none]) (by repeat' constructor) ⟨_, k3, h3, keysOk_dput ko hu', dput_tm hq hv, by omega, rfl, rfl⟩
  · rintro τ G' ⟨kvs, k', hk', ko, hq, hl, rfl, rfl⟩
    refine y_ret ?_
    simp only [wE, List.getElem?_cons_zero, List.getElem?_cons_succ]
    exact exit_same (q f kvs k' hk' hfp hf0 ko hq)
end
end K06

namespace K06
open PySem PySem.Spec PyProof.Rows L2 EV
theorem names_eq {l : List T} (h : ∀ t ∈ l, Tm t) : srt ((dd l).filter isS) = srt (dd (l.filter isS)) :=
  srt_set ((dd_nodup l).filter _) (dd_nodup _) (tms_pl fun t ht => h t (List.mem_filter.mp (dd_mem.mp ht)).1) fun x => by
    rw [List.mem_filter, dd_mem, dd_mem, List.mem_filter]
theorem sm_tm {ts : List T} (h : ∀ t ∈ ts, Tm t) (hl : ts.length ≤ 1000000) : sm (.tup ts) = true := by
  rw [sm, Bool.and_eq_true, decide_eq_true_eq]
  refine ⟨hl, sms_all.mpr fun t ht => ?_⟩
  rcases h t ht with ⟨x, _, rfl⟩ | ⟨i, rfl⟩ <;> rfl
theorem fm_self {f : T → Option T} : ∀ l : List T, (∀ t ∈ l, f t = some t) → l.filterMap f = l
  | [], _ => rfl
  | x :: l, h => by rw [List.filterMap_cons, h x List.mem_cons_self, fm_self l fun t ht => h t (List.mem_cons_of_mem _ ht)]
theorem filter_all {f : T → Bool} {l : List T} (h : ∀ t ∈ l, f t = true) : l.filter f = l := List.filter_eq_self.mpr h
section
variable {n : Nat} {G : GH} {Q : QE} {R : XQ}
theorem alike_tm {ts : List T} (h : ∀ t ∈ ts, Tm t) (hl : ts.length ≤ 1000000) (q : Q (.bl true) G) : callW Δ (n + 5) "_law_alike" [.tup ts, .tup ts] G Q R :=
  alike2_ok 4 (.tup ts) n G Q R (by rw [T.pl]; exact tms_pl h) (sm_tm h hl) (by rw [T.dep, tms_dp h]; omega) (by omega) q
theorem alike_tmL {ts : List T} (h : ∀ t ∈ ts, Tm t) (hl : ts.length ≤ 1000000) (q : Q (.bl true) G) : callW Δ (n + 6) "_law_alike" [.lst ts, .lst ts] G Q R :=
  alike2L_ok (m := 4) (n := n) (tms_pl h) (sm_tm h hl) (by rw [tms_dp h]; omega) (by omega) q
theorem alike_fact {ts : List T} (h : ∀ t ∈ ts, Fact t) (hl : ts.length ≤ 1000000) (q : Q (.bl true) G) : callW Δ (n + 5) "_law_alike" [.tup ts, .tup ts] G Q R :=
  alike2_ok 4 (.tup ts) n G Q R (pl_st h) (sm_st h hl) (by have := dep_st h; omega) (by omega) q
theorem alike_atm {as : List Atm} (h : ∀ a ∈ as, a.Ok) (hl : as.length ≤ 1000000) (q : Q (.bl true) G) : callW Δ (n + 5) "_law_alike" [.tup (as.map Atm.t), .tup (as.map Atm.t)] G Q R := by
  refine alike2_ok 4 _ n G Q R ?_ ?_ ?_ (by omega) q
  · rw [T.pl]
    refine T.pls_all.mpr fun t ht => ?_
    obtain ⟨a, ha, rfl⟩ := List.mem_map.mp ht
    obtain ⟨h1, h2, h3⟩ := h a ha
    have : T.pls a.ts = true := T.pls_all.mpr fun t ht => (h2 t ht).pl
    simp [Atm.t, T.pl, T.pls, this, h1]
  · rw [sm, Bool.and_eq_true, decide_eq_true_eq]
    refine ⟨by simpa using hl, sms_all.mpr fun t ht => ?_⟩
    obtain ⟨a, ha, rfl⟩ := List.mem_map.mp ht
    obtain ⟨h1, h2, h3⟩ := h a ha
    have : sms a.ts = true := sms_all.mpr fun t ht => by rcases h2 t ht with ⟨x, _, rfl⟩ | ⟨i, rfl⟩ <;> rfl
    simp [Atm.t, sm, sms, this]
    omega
  · rw [T.dep]
    have : T.deps (as.map Atm.t) ≤ 2 := T.deps_le.mpr fun t ht => by
      obtain ⟨a, ha, rfl⟩ := List.mem_map.mp ht
      obtain ⟨h1, h2, h3⟩ := h a ha
      have : T.deps a.ts = 0 := Nat.le_zero.mp (T.deps_le.mpr fun t ht => by rw [(h2 t ht).dp]; exact Nat.le_refl _)
      simp [Atm.t, T.dep, T.deps, this]
    omega
/-- the strings, the numbers of a row -/
theorem int_comp {C : Calls} {τ : Sl} {j v : Nat} {ts : List T} {Q : List T → GH → Prop} (h : ∀ t ∈ ts, Tm t) (hl : ts.length ≤ 1000) (hj : τ[j]? = some (some (.lst ts))) (hv : v < τ.length) (q : Q (ts.filter fun t => !isS t) G) :
    wL C R (.comp (.prim .int [.var v]) (.name v) [v] (.val (.var j)) (.prim (.isi "int") [.var v])) τ G Q := by
  rw [wL, wI]
  refine z_var hj ?_
  refine comp_pure (fun x => if (!isS x) = true then some x else none) trivial ts [] (fun x hx k h' => ?_) (by rw [sizeLine_eq]; simp; omega) (by rw [List.nil_append, fm_filter (fun t => !isS t)]; exact q)
  have e1 : ((wipeS τ [v]).set v (some x))[v]? = some (some x) := by rw [List.getElem?_set_self]; unfold wipeS wipeS; simpa using hv
  simp only [Tg.wp, wE, wEs, e1]
  rcases h x hx with ⟨y, hy, rfl⟩ | ⟨i, rfl⟩
  · exact x_isi (b := false) rfl h'
  · exact x_isi (b := true) rfl (x_int h')
theorem str_comp {C : Calls} {τ : Sl} {j v : Nat} {ts : List T} {Q : List T → GH → Prop} (h : ∀ t ∈ ts, Tm t) (hl : ts.length ≤ 1000) (hj : τ[j]? = some (some (.lst ts))) (hv : v < τ.length) (q : Q (ts.filter isS) G) :
    wL C R (.comp (.prim .str [.var v]) (.name v) [v] (.val (.var j)) (.prim (.isi "str") [.var v])) τ G Q := by
  rw [wL, wI]
  refine z_var hj ?_
  refine comp_pure (fun x => if isS x = true then some x else none) trivial ts [] (fun x hx k h' => ?_) (by rw [sizeLine_eq]; simp; omega) (by rw [List.nil_append, fm_filter isS]; exact q)
  have e1 : ((wipeS τ [v]).set v (some x))[v]? = some (some x) := by rw [List.getElem?_set_self]; unfold wipeS wipeS; simpa using hv
  simp only [Tg.wp, wE, wEs, e1]
  rcases h x hx with ⟨y, hy, rfl⟩ | ⟨i, rfl⟩
  · exact x_isi (b := true) rfl h'
  · exact x_isi (b := false) rfl h'
end
theorem sub_one {G : GH} {p : Addr} {o : O} (h : G p = some o) : Sub (put (fun _ => none) p o) G := fun b u e => by
  by_cases z : b = p
  · subst z; rw [put_same] at e; cases e; exact h
  · rw [put_ne z] at e; cases e
theorem fz_app_tm {as : List Atm} {i : Int} : ∀ t ∈ (vs_ as).filterMap (dget (fz (vs_ as) i)), Tm t := fun t ht => by
  obtain ⟨v, hv, e⟩ := List.mem_filterMap.mp ht
  obtain ⟨j, hj⟩ := fz_some hv i
  rw [hj] at e; cases e
  exact .inr ⟨j, rfl⟩
end K06

namespace K06
open PySem PySem.Spec PyProof.Rows L2 EV
theorem x_neF {i j : Int} {G : GH} {Q : QE} (h : i = j) (q : Q (.bl false) G) : Prim.wp .ne [.int i, .int j] G Q := by
  refine x_neI ?_
  rw [decide_eq_true h]; exact q
theorem law_ok {ns : List Int} (hn : ns.length ≤ 63) : callW Δ 31 "law" [.scr ns] (fun _ => none) (fun t _ => t = .bl true) noX := by
  have hC := callW_mono Δ 30
  refine callW_ok t_law rfl ?_
  show wSs _ _ d_law.body _ [some (.scr ns), none, none, none, none, none, none, none, none, none, none, none, none, none, none, none, none] _
  refine y_set ?_
  rw [wE, wEs]
  refine z_call ?_
  simp only [wE, wEs, List.getElem?_cons_zero]
  refine draws_ok t_draws hn (by omega) (by omega) fun ds hds => ?_
  refine ⟨rfl, by decide, fun p hp => ?_⟩
  show wSs (callW Δ 30) noX _ _ [some (.scr ns), some (.ref p), none, none, none, none, none, none, none, none, none, none, none, none, none, none, none] (GW p ds 0)
  refine y_for (i_rngP 6 (G' := GW p ds 0) (fun K hK => by rw [wE]; exact hK) (by omega) ?_)
  refine for_at hC (ok := fun _ => True) _ (fun _ τ G' => ∃ k, 0 ≤ k ∧ τ = [some (.scr ns), some (.ref p), none, none, none, none, none, none, none, none, none, none, none, none, none, none, none] ∧ G' = GW p ds k) (fun _ _ _ _ => trivial) ?_ ?_ _ _ ⟨0, Int.le_refl _, rfl, rfl⟩
  · rintro i x τ G' hx ⟨k, hk, rfl, rfl⟩
    simp only [Tg.wp, List.set_cons_zero, List.set_cons_succ]
    refine y_set (z_call ?_)
    simp only [wE, wEs, List.getElem?_cons_zero, List.getElem?_cons_succ]
    refine atoms_ok (n := 26) hk hds fun as k1 h1 ha la => ?_
    simp only [List.set_cons_zero, List.set_cons_succ]
    have tt := trm_tm ha
    have lt := trm_len ha
    have vt := vs_tm ha
    have lv := vs_len as
    refine y_set (z_call ?_)
    simp only [wE, wEs, List.getElem?_cons_zero, List.getElem?_cons_succ]
    refine termsof_ok (n := 29) ha (by omega) ?_
    refine strings_ok (n := 28) tt (by omega) ?_
    rw [names_eq tt]
    show wSs (callW Δ 30) noX _ _ [some (.scr ns), some (.ref p), some x, some (.tup (as.map Atm.t)), some (.lst (vs_ as)), none, none, none, none, none, none, none, none, none, none, none, none] _
    refine y_if ?_
    simp only [wE, wEs, List.getElem?_cons_zero, List.getElem?_cons_succ]
    refine variables_ok (n := 28) ha (by omega) ?_
    refine x_tuple (ts := vs_ as) rfl ?_
    refine alike_tm (n := 25) (ts := vs_ as) vt (by omega) ?_
    refine y_nil (C := callW Δ 30) (R := noX) (y_set (z_call ?_))
    simp only [wE, wEs, List.getElem?_cons_zero, List.getElem?_cons_succ]
    refine store_ok (n := 25) h1 hds fun bs k2 h2 hb lb => ?_
    have hb1 : ∀ a ∈ bs, a.Ok := fun a h => (hb a h).1
    have tb := trm_tm hb1
    have ltb := trm_len hb1
    have ib : ∀ t ∈ trm bs, ∃ i : Int, t = .int i := fun t ht => by
      obtain ⟨a, h, hm⟩ := List.mem_flatMap.mp ht
      exact (hb a h).2 t hm
    have fb : (trm bs).filter (fun t => !isS t) = trm bs := filter_all fun t ht => by obtain ⟨i, rfl⟩ := ib t ht; rfl
    have ldb := dd_len (trm bs)
    simp only [List.set_cons_zero, List.set_cons_succ]
    refine y_set ?_
    rw [wE, wL, wEs, wE, wL, wI]
    refine z_call ?_
    rw [wEs]
    refine z_call ?_
    simp only [wE, wEs, List.getElem?_cons_zero, List.getElem?_cons_succ]
    refine termsof_ok (n := 29) hb1 (by omega) ?_
    refine lonce_ok (n := 29) t_lonce (tms_pl tb) (by rw [tms_dp tb]; omega) (by omega) ?_
    refine comp_pure (fun x => some x) trivial (dd (trm bs)) [] (fun y hy k h' => ?_) (by rw [sizeLine_eq]; simp; omega) ?_
    · simp only [Tg.wp, wipeS, wE, wEs, List.set_cons_zero, List.set_cons_succ, List.getElem?_cons_zero, List.getElem?_cons_succ]
      obtain ⟨i, rfl⟩ := ib y (dd_mem.mp hy)
      exact x_int h'
    rw [fm_self _ (fun _ _ => rfl), List.nil_append]
    refine wp_sortedF rfl (by omega) (flat_ints fun t ht => ib t (dd_mem.mp ht)) ?_
    simp only [List.set_cons_zero, List.set_cons_succ]
    have st : ∀ t ∈ srt (dd (trm bs)), Tm t := fun t ht => tb t (dd_mem.mp (srt_mem.mp ht))
    have ls : (srt (dd (trm bs))).length ≤ 1000 := by rw [srt_len]; omega
    refine y_if ?_
    simp only [wE, wEs, List.getElem?_cons_zero, List.getElem?_cons_succ]
    refine callW_ok t_things_of rfl (y_ret (z_call ?_))
    rw [wEs]
    refine z_var rfl ?_
    rw [wEs]
    refine numbers_ok (n := 27) hb1 (by omega) ?_
    rw [fb]
    refine exit_same ?_
    refine x_tuple rfl ?_
    refine alike_tm (n := 25) st (by omega) ?_
    refine y_nil (C := callW Δ 30) (R := noX) (y_set (z_call ?_))
    simp only [wE, wEs, List.getElem?_cons_zero, List.getElem?_cons_succ]
    refine table_ok' (n := 26) h2 hds fun d kvs k3 h3 hdp _ ko hq => ?_
    simp only [List.set_cons_zero, List.set_cons_succ]
    generalize hG1 : put (fun _ => none) d (.dct kvs) = G1
    have g1 : G1 d = some (.dct kvs) := by rw [← hG1, put_same]
    refine y_if ?_
    simp only [wE, wEs, List.getElem?_cons_zero, List.getElem?_cons_succ]
    refine ⟨kvs, by simp only [dctOf]; rw [put_ne hdp, g1], ko, fun d2 hd2 => ?_⟩
    have d2p : d2 ≠ p := fun z => by rw [z, put_same] at hd2; cases hd2
    have d2d : d ≠ d2 := fun z => by rw [← z, put_ne hdp, g1] at hd2; cases hd2
    rw [put_comm (Ne.symm d2p)]
    refine replaced_ok (n := 28) (kvs := kvs) (by rw [put_ne d2p, put_same]) ko ha (by omega) ?_
    refine swapped_ok (n := 29) (kvs := kvs) (by rw [put_ne hdp, put_ne d2d]; exact g1) ko ha (by omega) ?_
    refine alike_atm (n := 25) (rep_okA hq ha) (by simp; omega) ?_
    generalize hG2 : put G1 d2 (.dct kvs) = G2
    refine y_nil (C := callW Δ 30) (R := noX) (y_set ?_)
    rw [wE]
    refine terms_comp (n := 27) (G := G2) rfl h3 hds rfl (by decide) (fun K hK => ?_) fun ts k4 h4 hts lts => ?_
    · rw [wI]
      refine z_call ?_
      simp only [wE, wEs, List.getElem?_cons_zero, List.getElem?_cons_succ]
      refine next_v (n := 29) t_next h3 hds (by omega) fun m k4 h4 hm0 hm1 => ?_
      exact ⟨by omega, hK _ k4 h4 (by simp; omega)⟩
    simp only [List.set_cons_zero, List.set_cons_succ]
    have l1 : (ts.filter fun t => !isS t).length ≤ ts.length := List.length_filter_le _ _
    have l2 : (ts.filter isS).length ≤ ts.length := List.length_filter_le _ _
    refine y_set ?_
    rw [wE, wEs, wE, wL, wEs, wE]
    refine int_comp hts (by omega) rfl (by simp) ?_
    rw [wEs]
    refine wp_sortedF rfl (by omega) (flat_I hts) ?_
    rw [wEs, wE, wL, wEs, wE]
    refine str_comp hts (by omega) rfl (by simp) ?_
    rw [wEs]
    refine wp_sortedF rfl (by omega) (flat_S hts) ?_
    rw [wEs]
    refine x_addL (by rw [srt_len, srt_len, sizeLine_eq]; omega) ?_
    simp only [List.set_cons_zero, List.set_cons_succ]
    refine y_if ?_
    simp only [wE, wEs, wL, List.getElem?_cons_zero, List.getElem?_cons_succ]
    refine ⟨ts, .inl rfl, ?_⟩
    refine sterms_ok (n := 28) hts (by omega) ?_
    refine alike_tmL (n := 24) (fun t ht => ?_) (by rw [List.length_append, srt_len, srt_len]; omega) ?_
    · rcases List.mem_append.mp ht with z | z
      · exact hts t (List.mem_filter.mp (srt_mem.mp z)).1
      · exact hts t (List.mem_filter.mp (srt_mem.mp z)).1
    refine y_nil (C := callW Δ 30) (R := noX) (y_set (z_call ?_))
    simp only [wE, wEs, wL, List.getElem?_cons_zero, List.getElem?_cons_succ]
    refine ⟨by simp [sizeLine_eq], ?_⟩
    refine pick_v (ts := tL) (n := 28) t_next t_pick h4 hds (by simp [tL]) fun u k5 h5 hu => ?_
    have hu' : ∃ m : Int, u = .int m := by
      simp only [tL, List.mem_cons, List.not_mem_nil, or_false] at hu
      rcases hu with rfl | rfl | rfl <;> exact ⟨_, rfl⟩
    obtain ⟨m, rfl⟩ := hu'
    simp only [List.set_cons_zero, List.set_cons_succ]
    refine y_set (z_call ?_)
    simp only [wE, wEs, List.getElem?_cons_zero, List.getElem?_cons_succ]
    refine frozen_ok (n := 27) ha (by omega) fun d3 hd3 => ?_
    have d3p : d3 ≠ p := fun z => by rw [z, put_same] at hd3; cases hd3
    rw [put_comm (Ne.symm d3p)]
    have ff := rep_fact ha m
    have ko3 : keysOk (fz (vs_ as) m) = true := fz_ko vt m
    generalize hG3 : put G2 d3 (.dct (fz (vs_ as) m)) = G3
    have g3 : G3 d3 = some (.dct (fz (vs_ as) m)) := by rw [← hG3, put_same]
    simp only [List.set_cons_zero, List.set_cons_succ]
    refine y_if ?_
    simp only [wE, wEs, List.getElem?_cons_zero, List.getElem?_cons_succ]
    refine x_isi (b := true) rfl ?_
    refine x_len rfl (x_neF rfl ?_)
    refine x_idx rfl (atI_nat (j := 1) rfl) (x_isi (b := true) (by simp only [isTyG]; rw [put_ne d3p, g3]; rfl) ?_)
    refine y_nil (C := callW Δ 30) (R := noX) (y_set ?_)
    rw [wE]
    intro d4 hd4
    have d4p : d4 ≠ p := fun z => by rw [z, put_same] at hd4; cases hd4
    have d43 : d3 ≠ d4 := fun z => by rw [← z, put_ne d3p, g3] at hd4; cases hd4
    rw [put_comm (Ne.symm d4p)]
    simp only [List.set_cons_zero, List.set_cons_succ]
    refine y_for (i_rngP ((vs_ as).length : Int) (G' := put (put G3 d4 (.dct [])) p (wD ds k5)) (fun K hK => ?_) (by omega) ?_)
    · simp only [wE, wEs, List.getElem?_cons_zero, List.getElem?_cons_succ]
      exact x_len rfl hK
    refine for_at hC (ok := fun _ => True) _ (fun j τ G' => τ = [some (.scr ns), some (.ref p), some x, some (.tup (as.map Atm.t)), some (.lst (vs_ as)), some (.tup (bs.map Atm.t)), none, some (.lst (srt (dd (trm bs)))), some (.ref d), none, some (.lst ts), none, some (.ref d4), some (.int m), some (.tup [.tup (srt (dd ((as.map (rep (fz (vs_ as) m))).map Atm.t))), .ref d3]), none, none] ∧ G' = put (put G3 d4 (.dct (fz ((vs_ as).take j) m))) p (wD ds k5)) (fun _ _ _ _ => trivial) ?_ ?_ _ _ ⟨rfl, rfl⟩
    · rintro j y τ G' hy ⟨rfl, rfl⟩
      obtain ⟨hlt, ey⟩ := List.getElem?_eq_some_iff.mp hy
      rw [List.length_map, List.length_range] at hlt
      have hlt' : j < (vs_ as).length := by simpa using hlt
      have ey' : y = .int (j : Nat) := by rw [← ey]; simp
      subst ey'
      have hv : (vs_ as)[j]? = some (vs_ as)[j] := List.getElem?_eq_getElem hlt'
      have hn' : (vs_ as)[j] ∉ (vs_ as).take j := by
        intro z
        obtain ⟨k, hk, e⟩ := List.mem_take_iff_getElem.mp z
        have := (List.getElem_inj (h₀ := by omega) (h₁ := hlt') (vs_nd as)).mp e
        omega
      have hk' : keysOk (fz ((vs_ as).take j) m) = true := fz_ko (fun t ht => vt t (List.mem_of_mem_take ht)) m
      have ll : ((vs_ as).take j).length = j := by rw [List.length_take]; omega
      simp only [Tg.wp, List.set_cons_zero, List.set_cons_succ]
      refine y_setItem ?_
      simp only [wE, wEs, List.getElem?_cons_zero, List.getElem?_cons_succ]
      refine x_add ?_
      refine x_idx rfl (atI_nat (v := (vs_ as)[j]) hv) ?_
      refine x_setD (kvs := fz ((vs_ as).take j) m) (by rw [put_ne d4p, put_same]) (ko_key hk' (vt _ (List.getElem_mem _))) (by rw [fz_len, sizeLine_eq]; omega) (y_nil (C := callW Δ 30) (R := noX) ?_)
      rw [put_upd2 d4p]
      have ep : dput (fz ((vs_ as).take j) m) (vs_ as)[j] (.int (m + (j : Nat))) = fz ((vs_ as).take (j + 1)) m := by
        have := fz_put (i := m) hn'
        rw [ll] at this
        rw [this, List.take_add_one, hv]; rfl
      rw [ep]
      exact Then.slots (τ' := [some (.scr ns), some (.ref p), some x, some (.tup (as.map Atm.t)), some (.lst (vs_ as)), some (.tup (bs.map Atm.t)), none, some (.lst (srt (dd (trm bs)))), some (.ref d), none, some (.lst ts), none, some (.ref d4), some (.int m), some (.tup [.tup (srt (dd ((as.map (rep (fz (vs_ as) m))).map Atm.t))), .ref d3]), none, none]) (by repeat' constructor) ⟨rfl, rfl⟩
    · rintro τ G' ⟨rfl, rfl⟩
      rw [List.length_map, List.length_range]
      have et : (vs_ as).take ((vs_ as).length : Int).toNat = vs_ as := by simp
      rw [et]
      have sv : srt (vs_ as) = vs_ as := by unfold vs_; exact srt_self (srt_sorted _) (tms_pl fun t ht => vt t ht)
      have fv : Flat (vs_ as) := flat_strs fun t ht => by
        obtain ⟨h1, h2⟩ := vs_mem.mp ht
        rcases tt t h1 with ⟨z, hz, rfl⟩ | ⟨i, rfl⟩
        · exact ⟨z, hz, rfl⟩
        · cases h2
      have ip : ∀ (o : O) (τ : Sl) (C : Calls) (R : XQ) (G : GH) (K : QE), τ[14]? = some (some (.tup [.tup (srt (dd ((as.map (rep (fz (vs_ as) m))).map Atm.t))), .ref d3])) → K (.ref d3) G → wE C R (.prim .idx [.var 14, .cst (.int 1)]) τ G K := fun o τ C R G K h1 h2 => by
        simp only [wE, wEs, h1]
        exact x_idx rfl (atI_nat (j := 1) rfl) h2
      have g3' : put (put G3 d4 (.dct (fz (vs_ as) m))) p (wD ds k5) d3 = some (.dct (fz (vs_ as) m)) := by rw [put_ne d3p, put_ne d43, g3]
      refine y_if ?_
      rw [wE]
      refine z_call ?_
      rw [wEs, wE, wEs, wE, wL, wEs, wE, wL]
      refine i_lk (LkI.keys _) g3' ko3 (fun o K hK => ip o _ _ _ _ _ rfl hK) (fun ob kv => ?_)
      refine comp_pureL (fun x => some x) put_same put_same _ [] (fun y hy k h' => ?_) (by rw [sizeLine_eq, fz_keys]; simp; omega) ?_
      · rw [fz_keys] at hy
        simp only [Tg.wp, wipeS, wE, wEs, List.set_cons_zero, List.set_cons_succ, List.getElem?_cons_zero, List.getElem?_cons_succ]
        obtain ⟨h1, h2⟩ := vs_mem.mp hy
        rcases tt y h1 with ⟨z, hz, rfl⟩ | ⟨i, rfl⟩
        · exact h'
        · cases h2
      rw [fm_self _ (fun _ _ => rfl), List.nil_append, fz_keys, put_put]
      have pe : put (put (put G3 d4 (.dct (fz (vs_ as) m))) p (wD ds k5)) d3 (.dct (fz (vs_ as) m)) = put (put G3 d4 (.dct (fz (vs_ as) m))) p (wD ds k5) := by
        funext b
        by_cases z : b = d3
        · subst z; rw [put_same, g3']
        · rw [put_ne z]
      rw [pe, wEs]
      refine wp_sortedF rfl (show (vs_ as).length ≤ 1000000 by omega) fv ?_
      rw [sv, wEs]
      refine x_tuple rfl ?_
      simp only [wE, wEs, List.getElem?_cons_zero, List.getElem?_cons_succ]
      refine x_tuple (ts := vs_ as) rfl ?_
      refine alike_tm (n := 25) vt (by omega) ?_
      refine y_nil (C := callW Δ 30) (R := noX) (y_if ?_)
      rw [wE]
      refine z_call ?_
      rw [wEs, wE, wEs, wE, wL, wI]
      refine z_var rfl ?_
      refine comp_pure (dget (fz (vs_ as) m)) trivial (vs_ as) [] (fun y hy k h' => ?_) (by rw [sizeLine_eq]; simp; omega) ?_
      · obtain ⟨j, hj⟩ := fz_some hy m
        rw [hj] at h'
        simp only [Tg.wp, wipeS, wE, wEs, List.set_cons_zero, List.set_cons_succ, List.getElem?_cons_zero, List.getElem?_cons_succ]
        refine x_idx rfl (atI_nat (j := 1) rfl) ?_
        exact x_idxD (kvs := fz (vs_ as) m) (by simp only [dctOf, g3']) (ko_key ko3 (vt y hy)) hj h'
      rw [List.nil_append, wEs]
      refine x_tuple rfl ?_
      rw [wEs, wE, wEs, wE, wL, wI]
      refine z_var rfl ?_
      have g4' : put (put G3 d4 (.dct (fz (vs_ as) m))) p (wD ds k5) d4 = some (.dct (fz (vs_ as) m)) := by rw [put_ne d4p, put_same]
      refine comp_pure (dget (fz (vs_ as) m)) trivial (vs_ as) [] (fun y hy k h' => ?_) (by rw [sizeLine_eq]; simp; omega) ?_
      · obtain ⟨j, hj⟩ := fz_some hy m
        rw [hj] at h'
        simp only [Tg.wp, wipeS, wE, wEs, List.set_cons_zero, List.set_cons_succ, List.getElem?_cons_zero, List.getElem?_cons_succ]
        exact x_idxD (kvs := fz (vs_ as) m) (by simp only [dctOf, g4']) (ko_key ko3 (vt y hy)) hj h'
      rw [List.nil_append, wEs]
      refine x_tuple rfl ?_
      rw [wEs]
      refine alike_tm (n := 25) fz_app_tm (by have := List.length_filterMap_le (dget (fz (vs_ as) m)) (vs_ as); omega) ?_
      refine y_nil (C := callW Δ 30) (R := noX) (y_if ?_)
      simp only [wE, wEs, wL, List.getElem?_cons_zero, List.getElem?_cons_succ]
      refine x_idx rfl (atI_nat (j := 0) rfl) ?_
      refine swapped_ok (n := 29) (kvs := fz (vs_ as) m) g4' ko3 ha (by omega) ?_
      refine ⟨_, .inl rfl, ?_⟩
      have ft := fact_fit ff
      have fd : Fit (dd ((as.map (rep (fz (vs_ as) m))).map Atm.t)) := ft.sub fun x hx => dd_mem.mp hx
      have ld := dd_len ((as.map (rep (fz (vs_ as) m))).map Atm.t)
      rw [List.length_map, List.length_map] at ld
      refine lonce_ok (n := 29) t_lonce ft.pls (by have := ft.deps; omega) (by simp; omega) ?_
      refine wp_sorted (ts := dd ((as.map (rep (fz (vs_ as) m))).map Atm.t)) rfl (by rw [sizeLine_eq]; omega) fd.pls (by have := fd.deps; omega) fd.so fd.cm ?_
      refine x_tuple rfl ?_
      refine alike_fact (n := 25) (fun t ht => ff t (dd_mem.mp (srt_mem.mp ht))) (by rw [srt_len]; omega) ?_
      refine y_nil (C := callW Δ 30) (R := noX) (y_nil (C := callW Δ 30) (R := noX) ?_)
      exact Then.sub (τ' := [some (.scr ns), some (.ref p), none, none, none, none, none, none, none, none, none, none, none, none, none, none, none]) (sub_one put_same) (by repeat' constructor) ⟨k5, h5, rfl, rfl⟩
  · rintro τ G' ⟨k, hk, rfl, rfl⟩
    refine y_ret ?_
    rw [wE]
    exact exit_same rfl
end K06

namespace K06
open PySem PySem.Spec PyProof.Rows L2 EV
abbrev R : PySem.W.OpenRow := PySem.W.OpenLaw.row PySem.Challenge.rw_sameanswer_k06_terms_and_things
def fns : List He.DefD := fnOf rows
def fas : List He.Fa := faOf rows bl
abbrev hk : PySem.W.Hook := He.hookD 4 fas fns
def ob (s : PySem.W.SharedT) : He.AlD := He.obsDG 4 fas fns (HandSHeadRun.getT s)
theorem ob_eq (s : PySem.W.SharedT) : ob s = hk.obs s.abs := He.obsDG_eq (HandSHeadRun.getT_eq s)
def lawIx : Nat := P.main.body.length - 1
def names : List Str := (rows.map (·.x)).filter (· != "law")
theorem run (w : World) : HandSHeadRun.RunEq R (PySem.W.view R.prog [lawIx]) hk ob 4000 names w := by
  intro os
  kernel_rfl
end K06
open PySem PySem.W PySem.Calls PyProof.Rows
theorem PySem.Challenge.cw_sameanswer_k06_terms_and_things_holds : PySem.Challenge.rw_sameanswer_k06_terms_and_things.Holds := by
  w_on; o_law
  refine HandSHeadRun.head_any (r := OpenLaw.row PySem.Challenge.rw_sameanswer_k06_terms_and_things) (q := view (OpenLaw.row PySem.Challenge.rw_sameanswer_k06_terms_and_things).prog [K06.lawIx]) (H := K06.hk) (ob := K06.ob) (M := 4000) (loose := K06.names) (d := HandSHeadRun.topDef (OpenLaw.row PySem.Challenge.rw_sameanswer_k06_terms_and_things).prog K06.lawIx) (kwd := []) K06.ob_eq
    (by kernel_rfl) (fun s => by kernel_rfl) K06.run (by kernel_rfl) (by kernel_rfl) (by kernel_rfl) (by rfl) (by first | assumption | decide +kernel) (by decide +kernel) ⟨rfl, rfl, rfl, rfl, rfl, by decide +kernel⟩ ?hw ?hc
  case hw => w_witness2
  case hc =>
    refine L2.walk_ofE (l := PySem.Challenge.rw_sameanswer_k06_terms_and_things) (n := 63) (k := 31) (x := "script") (CX := EV.cxF) rfl (by decide) (by kernel_rfl) ⟨rfl, by decide, by decide⟩ ?F (fun _ _ _ _ z => z)
    intro w mg fa h Y G hmg0
    obtain ⟨K, KX, c⟩ := Y
    have hmg : mg ("law" : PySem.Str) = some (.ref fa) := by
      have e : (HandSHeadRun.topDef (OpenLaw.row PySem.Challenge.rw_sameanswer_k06_terms_and_things).prog K06.lawIx).name = ("law" : PySem.Str) := by kernel_rfl
      rw [← e]
      exact hmg0
    exact EV.law_end (rows := K06.rows) (bl := K06.bl) (k := 31) (n := 63) KX G c K06.okB K06.nodup hmg (by kernel_rfl) (by kernel_rfl) (fun ns hn => K06.law_ok hn)

